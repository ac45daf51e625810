import PyProof.Rows.All
import Wide.All
import OpenK.AllK
import Wide.FinOn
import PySem.Challenge.RW_og0279_01
set_option maxRecDepth 100000
set_option Elab.async false
set_option linter.unusedVariables false
set_option linter.all false
set_option maxHeartbeats 8000000
set_option compiler.extract_closed false
namespace Mine
open PySem PySem.W PySem.Calls PyProof.Rows

/-- abstract values -/
inductive Val where
  | none
  | bool (b : Bool)
  | int (i : Int)
  | str (x : Str)
  | bytes (b : Array UInt8)
  | tup (vs : List Val)
  | lst (vs : List Val)
  | obj (C : Addr) (ns : List Str) (vs : List Val)
  | rng (n : Int)
  | raw (v : Value)
  | unbound

noncomputable abbrev Im := Addr → Option Obj

noncomputable def KA (P : Params) : List DictEntry → List Str → Prop
  | [], [] => True
  | e :: es, x :: xs => (∃ t, e.key = .str x t) ∧ e.hash = PyData.keyHash P x ∧ KA P es xs
  | _, _ => False

noncomputable abbrev rngOf (n : Int) (t u w : Tok) : Obj := { cls := .type "range", data := .fields #[.int 0 t, .int n u, .int 1 w] }
noncomputable abbrev tupOf (its : Array Value) (n : Nat) : Obj := { cls := .type "tuple", data := .seq its n }
inductive SeqR (mo : Array Value → Nat → Obj) (I : Im) (v : Value) (R : List Value → Prop) : Prop
  | mk (a : Addr) (vs : List Value) (n : Nat) (e : v = .ref a) (ha : I a = some (mo (List.toArray vs) n)) (r : R vs)
inductive ObjR (P : Params) (C : Addr) (ns : List Str) (I : Im) (v : Value) (R : List Value → Prop) : Prop
  | mk (a d : Addr) (es : List DictEntry) (n : Nat) (e : v = .ref a) (ha : I a = some (instObj C d)) (hd : I d = some (dictOf es n)) (hk : KA P es ns) (r : R (es.map (·.val)))
inductive RngR (I : Im) (v : Value) (n : Int) : Prop
  | mk (a : Addr) (t u w : Tok) (e : v = .ref a) (ha : I a = some (rngOf n t u w))
mutual
noncomputable def VR (P : Params) (I : Im) : Value → Val → Prop
  | v, .none => v = .none
  | v, .bool b => v = .bool b
  | v, .int i => ∃ t, v = .int i t
  | v, .str x => ∃ t, v = .str x t
  | v, .bytes b => ∃ t, v = .bytes b t
  | v, .tup Vs => SeqR tupOf I v fun vs => VRs P I vs Vs
  | v, .lst Vs => SeqR listOf I v fun vs => VRs P I vs Vs
  | v, .obj C ns Vs => ObjR P C ns I v fun vs => VRs P I vs Vs
  | v, .rng n => RngR I v n
  | v, .raw w => v = w
  | _, .unbound => False
noncomputable def VRs (P : Params) (I : Im) : List Value → List Val → Prop
  | [], [] => True
  | v :: vs, V :: Vs => VR P I v V ∧ VRs P I vs Vs
  | _, _ => False
end

noncomputable def Im.Le (I J : Im) : Prop := ∀ a o, I a = some o → J a = some o
theorem Im.Le.refl (I : Im) : Im.Le I I := fun _ _ h => h
theorem Im.Le.trans {I J K : Im} (a : Im.Le I J) (b : Im.Le J K) : Im.Le I K := fun x o h => b x o (a x o h)

mutual
theorem VR.mono {P : Params} {I J : Im} (h : Im.Le I J) : ∀ {v : Value} {V : Val}, VR P I v V → VR P J v V
  | _, .none, x => x
  | _, .bool _, x => x
  | _, .int _, x => x
  | _, .str _, x => x
  | _, .bytes _, x => x
  | _, .tup _, x => x.casesOn fun a vs n e ha r => ⟨a, vs, n, e, h _ _ ha, VRs.mono h r⟩
  | _, .lst _, x => x.casesOn fun a vs n e ha r => ⟨a, vs, n, e, h _ _ ha, VRs.mono h r⟩
  | _, .obj _ _ _, x => x.casesOn fun a d es n e ha hd hk r => ⟨a, d, es, n, e, h _ _ ha, h _ _ hd, hk, VRs.mono h r⟩
  | _, .rng _, x => x.casesOn fun a t u w e ha => ⟨a, t, u, w, e, h _ _ ha⟩
  | _, .raw _, x => x
  | _, .unbound, x => x.elim
theorem VRs.mono {P : Params} {I J : Im} (h : Im.Le I J) : ∀ {vs : List Value} {Vs : List Val}, VRs P I vs Vs → VRs P J vs Vs
  | [], [], x => x
  | _ :: _, _ :: _, ⟨a, b⟩ => ⟨VR.mono h a, VRs.mono h b⟩
end

theorem VRs.length {P : Params} {I : Im} : ∀ {vs : List Value} {Vs : List Val}, VRs P I vs Vs → vs.length = Vs.length
  | [], [], _ => rfl
  | _ :: _, _ :: _, ⟨_, b⟩ => by simp [VRs.length b]
theorem VRs.get {P : Params} {I : Im} : ∀ {vs : List Value} {Vs : List Val} {k : Nat} {V : Val}, VRs P I vs Vs → Vs[k]? = some V → ∃ v, vs[k]? = some v ∧ VR P I v V
  | v :: _, _ :: _, 0, _, ⟨a, _⟩, h => by cases h; exact ⟨v, rfl, a⟩
  | _ :: _, _ :: _, k + 1, _, ⟨_, b⟩, h => by simpa using VRs.get (k := k) b (by simpa using h)
  | [], [], _, _, _, h => by simp at h
theorem VRs.append {P : Params} {I : Im} : ∀ {vs ws : List Value} {Vs Ws : List Val}, VRs P I vs Vs → VRs P I ws Ws → VRs P I (vs ++ ws) (Vs ++ Ws)
  | [], _, [], _, _, h => h
  | _ :: _, _, _ :: _, _, ⟨a, b⟩, h => ⟨a, VRs.append b h⟩
theorem VRs.take {P : Params} {I : Im} : ∀ {vs : List Value} {Vs : List Val} (k : Nat), VRs P I vs Vs → VRs P I (vs.take k) (Vs.take k)
  | [], [], k, _ => by simp [VRs]
  | _ :: _, _ :: _, 0, _ => by simp [VRs]
  | _ :: _, _ :: _, k + 1, ⟨a, b⟩ => by simp only [List.take_succ_cons]; exact ⟨a, VRs.take k b⟩
theorem VRs.nil_inv {P : Params} {I : Im} {vs : List Value} (h : VRs P I vs []) : vs = [] := by
  cases vs with
  | nil => rfl
  | cons v r => exact h.elim
theorem VRs.cons_inv {P : Params} {I : Im} {vs : List Value} {V : Val} {Vs : List Val} (h : VRs P I vs (V :: Vs)) : ∃ v r, vs = v :: r ∧ VR P I v V ∧ VRs P I r Vs := by
  cases vs with
  | nil => exact h.elim
  | cons v r => exact ⟨v, r, rfl, h.1, h.2⟩
theorem args1 {α : Type} {P : List α → Prop} (h : ∀ a, P [a]) : ∀ vs, vs.length = 1 → P vs := fun vs e => by obtain ⟨a, rfl⟩ := List.length_eq_one_iff.mp e; exact h a
theorem argsS {α : Type} {n : Nat} {P : List α → Prop} (h : ∀ a, ∀ vs, vs.length = n → P (a :: vs)) : ∀ vs, vs.length = n + 1 → P vs := fun vs e => by
  cases vs with
  | nil => cases e
  | cons a r => exact h a r (Nat.succ.inj e)
theorem args2 {α : Type} {P : List α → Prop} (h : ∀ a b, P [a, b]) : ∀ vs, vs.length = 2 → P vs := argsS fun a => args1 (P := fun vs => P (a :: vs)) (h a)
theorem args3 {α : Type} {P : List α → Prop} (h : ∀ a b c, P [a, b, c]) : ∀ vs, vs.length = 3 → P vs := argsS fun a => args2 (P := fun vs => P (a :: vs)) (h a)
theorem args4 {α : Type} {P : List α → Prop} (h : ∀ a b c d, P [a, b, c, d]) : ∀ vs, vs.length = 4 → P vs := argsS fun a => args3 (P := fun vs => P (a :: vs)) (h a)
theorem args5 {α : Type} {P : List α → Prop} (h : ∀ a b c d e, P [a, b, c, d, e]) : ∀ vs, vs.length = 5 → P vs := argsS fun a => args4 (P := fun vs => P (a :: vs)) (h a)
theorem KA.nil_inv {P : Params} {es : List DictEntry} (h : KA P es []) : es = [] := by
  cases es with
  | nil => rfl
  | cons e r => exact h.elim
theorem KA.cons_inv {P : Params} {es : List DictEntry} {x : Str} {xs : List Str} (h : KA P es (x :: xs)) : ∃ e r, es = e :: r ∧ (∃ t, e.key = .str x t) ∧ e.hash = PyData.keyHash P x ∧ KA P r xs := by
  cases es with
  | nil => exact h.elim
  | cons e r => exact ⟨e, r, rfl, h.1, h.2.1, h.2.2⟩
/-- mutable cells -/
inductive Cell where
  | list (vs : List Val)
  | inst (C d : Addr)
  | dict (ns : List Str) (vs : List Val)
  | nd (ks : List Int) (vs : List Val)
noncomputable def KI : List DictEntry → List Int → Prop
  | [], [] => True
  | e :: es, x :: xs => (∃ t, e.key = .int x t) ∧ e.hash = hashInt x ∧ KI es xs
  | _, _ => False

theorem KI.nil_inv {es : List DictEntry} (h : KI es []) : es = [] := by
  cases es with
  | nil => rfl
  | cons e r => exact h.elim
theorem KI.cons_inv {es : List DictEntry} {x : Int} {xs : List Int} (h : KI es (x :: xs)) : ∃ e r, es = e :: r ∧ (∃ t, e.key = .int x t) ∧ e.hash = hashInt x ∧ KI r xs := by
  cases es with
  | nil => exact h.elim
  | cons e r => exact ⟨e, r, rfl, h.1, h.2.1, h.2.2⟩
noncomputable abbrev Sto := Addr → Option Cell
noncomputable def Sto.set (σ : Sto) (a : Addr) (c : Cell) : Sto := fun b => if b = a then some c else σ b
noncomputable def Sto.del (σ : Sto) (a : Addr) : Sto := fun b => if b = a then none else σ b
@[simp] theorem Sto.set_self (σ : Sto) (a : Addr) (c : Cell) : σ.set a c a = some c := by simp [Sto.set]
theorem Sto.set_ne (σ : Sto) {a b : Addr} (c : Cell) (h : b ≠ a) : σ.set a c b = σ b := by simp [Sto.set, h]
@[simp] theorem Sto.del_self (σ : Sto) (a : Addr) : σ.del a a = none := by simp [Sto.del]
theorem Sto.del_ne (σ : Sto) {a b : Addr} (h : b ≠ a) : σ.del a b = σ b := by simp [Sto.del, h]
@[simp] theorem Sto.set_set (σ : Sto) (a : Addr) (c c' : Cell) : (σ.set a c).set a c' = σ.set a c' := by
  funext b; by_cases h : b = a <;> simp [Sto.set, h]
theorem Sto.set_comm (σ : Sto) {a b : Addr} (c d : Cell) (h : a ≠ b) : (σ.set a c).set b d = (σ.set b d).set a c := by
  funext x; by_cases h1 : x = a <;> by_cases h2 : x = b <;> simp [Sto.set, h1, h2]
  · exact absurd (h1.symm.trans h2) h
  · intro e; first | exact absurd e h | exact absurd e.symm h
  · intro e; first | exact absurd e h | exact absurd e.symm h
noncomputable def CR (P : Params) (I : Im) (o : Obj) : Cell → Prop
  | .list Vs => ∃ vs n, o = listOf (List.toArray vs) n ∧ VRs P I vs Vs
  | .inst C d => o = instObj C d
  | .dict ns Vs => ∃ es n, o = dictOf es n ∧ KA P es ns ∧ VRs P I (es.map (·.val)) Vs
  | .nd ks Vs => ∃ es n, o = dictOf es n ∧ KI es ks ∧ VRs P I (es.map (·.val)) Vs
theorem CR.mono {P : Params} {I J : Im} (h : Im.Le I J) {o : Obj} : ∀ {c : Cell}, CR P I o c → CR P J o c
  | .list _, ⟨vs, n, e, r⟩ => ⟨vs, n, e, r.mono h⟩
  | .inst _ _, e => e
  | .dict _ _, ⟨es, n, e, k, r⟩ => ⟨es, n, e, k, r.mono h⟩
  | .nd _ _, ⟨es, n, e, k, r⟩ => ⟨es, n, e, k, r.mono h⟩

/-- the world of the call -/
structure Cx where
  prog : Program
  w : World
  K : Frag
  h₀ : Heap
  os₀ : OsState
  mg : Str → Option Value
  mb : Str → Option Value
  kin : K.In h₀
  gns : h₀.Ns mainGlobals mg
  bns : h₀.Ns builtinsNs mb
  nolim : h₀.NoLimit

structure St (cx : Cx) (I : Im) (σ : Sto) (s : Shared) : Prop where
  sub : ∀ a o, I a = some o → s.heap.get? a = some o
  base : ∀ a o, cx.h₀.get? a = some o → I a = some o
  cell : ∀ a c, σ a = some c → ∃ o, s.heap.get? a = some o ∧ CR cx.w.params I o c
  apart : ∀ a c, σ a = some c → I a = none
  gens : s.gens = #[]
  os : s.os = cx.os₀

theorem St.keeps {cx : Cx} {I σ s} (x : St cx I σ s) : ∀ a o, cx.h₀.get? a = some o → s.heap.get? a = some o := fun a o h => x.sub a o (x.base a o h)
theorem St.kin {cx : Cx} {I σ s} (x : St cx I σ s) : cx.K.In s.heap := cx.kin.keeps x.keeps
theorem St.nolim {cx : Cx} {I σ s} (x : St cx I σ s) : s.heap.NoLimit := cx.nolim.keeps x.keeps
theorem St.gns {cx : Cx} {I σ s} (x : St cx I σ s) : s.heap.Ns mainGlobals cx.mg := cx.gns.keeps x.keeps
theorem St.bns {cx : Cx} {I σ s} (x : St cx I σ s) : s.heap.Ns builtinsNs cx.mb := cx.bns.keeps x.keeps
theorem St.toks {cx : Cx} {I σ s} (x : St cx I σ s) (t : Nat) : St cx I σ { s with toks := t } := ⟨x.sub, x.base, x.cell, x.apart, x.gens, x.os⟩
theorem St.lt {cx : Cx} {I σ s} (x : St cx I σ s) {a : Addr} {o : Obj} (h : I a = some o) : a < s.heap.objs.size := Heap.lt_size (x.sub a o h)
theorem St.ltσ {cx : Cx} {I σ s} (x : St cx I σ s) {a : Addr} {c : Cell} (h : σ a = some c) : a < s.heap.objs.size := let ⟨_, ho, _⟩ := x.cell a c h; Heap.lt_size ho

/-- how a run changes the world: all but X and the cells of σ stands as it stood -/
structure Tr (X : Addr → Prop) (I : Im) (σ : Sto) (s : Shared) (I' : Im) (σ' : Sto) (s' : Shared) : Prop where
  keep : ∀ b o, ¬ X b → σ b = none → s.heap.get? b = some o → s'.heap.get? b = some o
  le : Im.Le I I'
  newI : ∀ b o, I' b = some o → I b = some o ∨ s.heap.get? b = none ∨ σ b ≠ none
  newσ : ∀ b, σ' b ≠ none → σ b ≠ none ∨ s.heap.get? b = none
  live : ∀ b, s'.heap.get? b = none → s.heap.get? b = none

theorem Tr.refl (X : Addr → Prop) (I : Im) (σ : Sto) (s : Shared) : Tr X I σ s I σ s :=
  ⟨fun _ _ _ _ h => h, Im.Le.refl I, fun _ _ h => .inl h, fun _ h => .inl h, fun _ h => h⟩
theorem Tr.toks {X : Addr → Prop} {I σ s I' σ' s'} (x : Tr X I σ s I' σ' s') (t : Nat) : Tr X I σ s I' σ' { s' with toks := t } := ⟨x.keep, x.le, x.newI, x.newσ, x.live⟩
theorem Tr.trans {X : Addr → Prop} {I σ s I₁ σ₁ s₁ I₂ σ₂ s₂} (x : Tr X I σ s I₁ σ₁ s₁) (y : Tr X I₁ σ₁ s₁ I₂ σ₂ s₂) : Tr X I σ s I₂ σ₂ s₂ := by
  refine ⟨fun b o hx hs h => ?_, x.le.trans y.le, fun b o h => ?_, fun b h => ?_, fun b h => x.live b (y.live b h)⟩
  · refine y.keep b o hx ?_ (x.keep b o hx hs h)
    by_cases q : σ₁ b = none
    · exact q
    · rcases x.newσ b q with z | z
      · exact absurd hs z
      · rw [z] at h; cases h
  · rcases y.newI b o h with q | q | q
    · exact x.newI b o q
    · exact .inr (.inl (x.live b q))
    · rcases x.newσ b q with z | z
      · exact .inr (.inr z)
      · exact .inr (.inl z)
  · rcases y.newσ b h with q | q
    · exact x.newσ b q
    · exact .inr (x.live b q)
theorem Tr.weaken {X Y : Addr → Prop} {I σ s I' σ' s'} (x : Tr X I σ s I' σ' s') (h : ∀ b o, s.heap.get? b = some o → X b → Y b) : Tr Y I σ s I' σ' s' :=
  ⟨fun b o hy hs hb => x.keep b o (fun q => hy (h b o hb q)) hs hb, x.le, x.newI, x.newσ, x.live⟩

noncomputable def Own0 : Addr → Prop := fun _ => False

structure Room (A : Around) (k : Nat) : Prop where
  hand : A.handled = none
  depth : A.depth + 2 * k + 2 < 1000
  units : A.units + 8 * k + 70 < 9900
theorem Room.mono {A : Around} {k l : Nat} (x : Room A k) (h : l ≤ k) : Room A l := ⟨x.hand, by have := x.depth; omega, by have := x.units; omega⟩
theorem Room.deeper {A : Around} {k : Nat} (x : Room A (k + 1)) (e : Env) : Room (A.deeper e) k :=
  ⟨x.hand, by have := x.depth; simp only [Around.deeper]; omega, by have := x.units; simp only [Around.deeper]; omega⟩
theorem Room.line {A : Around} {k : Nat} (x : Room A k) : A.units + 64 < cLine := by have := x.units; unfold cLine; omega
theorem Room.lim {A : Around} {k : Nat} (x : Room A k) : A.depth < recursionLimit := by have := x.depth; unfold recursionLimit; omega

/-- what an expression's run ends in -/
inductive Post (cx : Cx) (I : Im) (σ : Sto) (s : Shared) (Q : Val → Sto → Prop) (v : Value) (s' : Shared) : Prop
  | mk (I' : Im) (σ' : Sto) (V : Val) (t : Tr Own0 I σ s I' σ' s') (st : St cx I' σ' s') (r : VR cx.w.params I' v V) (q : Q V σ')
noncomputable def Bot : Value → Shared → Prop := fun _ _ => False

theorem Post.from {cx : Cx} {I σ s I₁ σ₁ s₁ Q v s'} (t : Tr Own0 I σ s I₁ σ₁ s₁) (p : Post cx I₁ σ₁ s₁ Q v s') : Post cx I σ s Q v s' :=
  let ⟨I', σ', V, t', st, vr, q⟩ := p; ⟨I', σ', V, t.trans t', st, vr, q⟩
theorem Post.now {cx : Cx} {I σ s Q v} {V : Val} (st : St cx I σ s) (vr : VR cx.w.params I v V) (q : Q V σ) : Post cx I σ s Q v s := ⟨I, σ, V, Tr.refl .., st, vr, q⟩
theorem Post.tok {cx : Cx} {I σ s Q v} {V : Val} (st : St cx I σ s) (vr : VR cx.w.params I v V) (q : Q V σ) (t : Nat) : Post cx I σ s Q v { s with toks := t } := ⟨I, σ, V, (Tr.refl ..).toks t, st.toks t, vr, q⟩

structure Loc where
  v : List (Str × Val)
  c : List (Str × Val)
  k : List Str
noncomputable def names (m : List (Str × Val)) : List Str := m.map (·.1)

/-- the value that a name stands for -/
noncomputable def Stands (cx : Cx) (env : Env) (mm : Str → Option Value) (h : Heap) (x : Str) (v : Value) : Prop :=
  match env.kindOf x with
  | some .local => mm x = some v
  | some .cell | some .free => ∃ c, env.cells.lookup x = some c ∧ h.IsCell c (some v) ∧ (x == ("__classdict__" : Str)) = false
  | some .globalImplicit => cx.mg x = some v ∨ (cx.mg x = none ∧ cx.mb x = some v)
  | _ => False

structure FrR (cx : Cx) (I : Im) (σ : Sto) (m : Loc) (env : Env) (s : Shared) : Prop where
  kind : env.scope.kind = .function
  glob : env.globals = mainGlobals
  blt : env.builtins = builtinsNs
  nodup : (names m.v ++ names m.c).Nodup
  debug : ∀ x V, (x, V) ∈ m.v ∨ (x, V) ∈ m.c → (x == ("__debug__" : Str)) = false
  cells : ∀ x c, env.cells.lookup x = some c → ∃ v, s.heap.IsCell c v
  capart : ∀ x y c, env.cells.lookup x = some c → env.cells.lookup y = some c → x = y
  ownI : I env.locals = none ∧ ∀ x c, env.cells.lookup x = some c → I c = none
  ownS : σ env.locals = none ∧ ∀ x c, env.cells.lookup x = some c → σ c = none
  lc : ∀ x c, env.cells.lookup x = some c → c ≠ env.locals
  kinds : ∀ x ∈ names m.v, env.kindOf x = some .local ∨ (env.kindOf x = some .cell ∧ (∃ c, env.cells.lookup x = some c) ∧ (x == ("__classdict__" : Str)) = false)
  caps : ∀ x ∈ m.k, env.kindOf x = some .cell ∨ env.kindOf x = some .free
  vals : ∃ mm, s.heap.Ns env.locals mm ∧ ∀ x V, (x, V) ∈ m.v ∨ (x, V) ∈ m.c → V = .unbound ∨ ∃ v, VR cx.w.params I v V ∧ Stands cx env mm s.heap x v

/-- the addresses that a frame's own statements may change -/
noncomputable def Own (ns : List Str) (env : Env) : Addr → Prop := fun b => b = env.locals ∨ ∃ x ∈ ns, env.cells.lookup x = some b ∧ env.kindOf x = some .cell

theorem FrR.step {cx : Cx} {I σ m env s I' σ' s'} {X : Addr → Prop} (f : FrR cx I σ m env s) (t : Tr X I σ s I' σ' s') (hX : ∀ b, X b → b ≠ env.locals ∧ ∀ x, env.cells.lookup x ≠ some b) : FrR cx I' σ' m env s' := by
  have hL : ¬ s.heap.get? env.locals = none := by obtain ⟨mm, ⟨o, es, ep, ho, _⟩, _⟩ := f.vals; rw [ho]; exact fun h => nomatch h
  have hC : ∀ x c, env.cells.lookup x = some c → ¬ s.heap.get? c = none := fun x c h => by obtain ⟨v, o, ho, _⟩ := f.cells x c h; rw [ho]; exact fun h => nomatch h
  have nL : ¬ X env.locals := fun h => (hX _ h).1 rfl
  have nC : ∀ x c, env.cells.lookup x = some c → ¬ X c := fun x c h q => (hX _ q).2 x h
  have cellK : ∀ c v, (∃ x, env.cells.lookup x = some c) → s.heap.IsCell c v → s'.heap.IsCell c v := by
    rintro c v ⟨x, hx⟩ ⟨o, ho, hd⟩
    exact ⟨o, t.keep c o (nC x c hx) (f.ownS.2 x c hx) ho, hd⟩
  refine ⟨f.kind, f.glob, f.blt, f.nodup, f.debug, fun x c h => ?_, f.capart, ⟨?_, fun x c h => ?_⟩, ⟨?_, fun x c h => ?_⟩, f.lc, f.kinds, f.caps, ?_⟩
  · obtain ⟨v, hv⟩ := f.cells x c h
    exact ⟨v, cellK c v ⟨x, h⟩ hv⟩
  · cases q : I' env.locals with
    | none => rfl
    | some o =>
      rcases t.newI _ _ q with z | z | z
      · rw [f.ownI.1] at z; cases z
      · exact absurd z hL
      · exact absurd f.ownS.1 z
  · cases q : I' c with
    | none => rfl
    | some o =>
      rcases t.newI _ _ q with z | z | z
      · rw [f.ownI.2 x c h] at z; cases z
      · exact absurd z (hC x c h)
      · exact absurd (f.ownS.2 x c h) z
  · by_cases q : σ' env.locals = none
    · exact q
    · rcases t.newσ _ q with z | z
      · exact absurd f.ownS.1 z
      · exact absurd z hL
  · by_cases q : σ' c = none
    · exact q
    · rcases t.newσ _ q with z | z
      · exact absurd (f.ownS.2 x c h) z
      · exact absurd z (hC x c h)
  · obtain ⟨mm, ⟨o, es, ep, ho, r⟩, hv⟩ := f.vals
    refine ⟨mm, ⟨o, es, ep, t.keep _ _ nL f.ownS.1 ho, r⟩, fun x V hx => ?_⟩
    rcases hv x V hx with h | ⟨v, h1, h2⟩
    · exact .inl h
    · refine .inr ⟨v, h1.mono t.le, ?_⟩
      unfold Stands at h2 ⊢
      generalize env.kindOf x = kk at h2 ⊢
      rcases kk with _ | kk
      · exact h2
      · cases kk <;> first | exact h2 | exact (let ⟨c, h3, h4, h5⟩ := h2; ⟨c, h3, cellK c _ ⟨x, h3⟩ h4, h5⟩)
theorem FrR.step0 {cx : Cx} {I σ m env s I' σ' s'} (f : FrR cx I σ m env s) (t : Tr Own0 I σ s I' σ' s') : FrR cx I' σ' m env s' := f.step t fun _ h => h.elim

inductive Upd : List (Str × Val) → Str → Val → List (Str × Val) → Prop
  | here {x : Str} {W V : Val} {m : List (Str × Val)} : Upd ((x, W) :: m) x V ((x, V) :: m)
  | there {p : Str × Val} {m m' : List (Str × Val)} {x : Str} {V : Val} : Upd m x V m' → Upd (p :: m) x V (p :: m')
theorem Upd.n0 {x : Str} {W V : Val} {m : List (Str × Val)} : Upd ((x, W) :: m) x V ((x, V) :: m) := .here
theorem Upd.n1 {a0 : Str × Val} {x : Str} {W V : Val} {m : List (Str × Val)} : Upd (a0 :: (x, W) :: m) x V (a0 :: (x, V) :: m) := .there .n0
theorem Upd.n2 {a0 a1 : Str × Val} {x : Str} {W V : Val} {m : List (Str × Val)} : Upd (a0 :: a1 :: (x, W) :: m) x V (a0 :: a1 :: (x, V) :: m) := .there .n1
theorem Upd.n3 {a0 a1 a2 : Str × Val} {x : Str} {W V : Val} {m : List (Str × Val)} : Upd (a0 :: a1 :: a2 :: (x, W) :: m) x V (a0 :: a1 :: a2 :: (x, V) :: m) := .there .n2
theorem Upd.n4 {a0 a1 a2 a3 : Str × Val} {x : Str} {W V : Val} {m : List (Str × Val)} : Upd (a0 :: a1 :: a2 :: a3 :: (x, W) :: m) x V (a0 :: a1 :: a2 :: a3 :: (x, V) :: m) := .there .n3
theorem Upd.n5 {a0 a1 a2 a3 a4 : Str × Val} {x : Str} {W V : Val} {m : List (Str × Val)} : Upd (a0 :: a1 :: a2 :: a3 :: a4 :: (x, W) :: m) x V (a0 :: a1 :: a2 :: a3 :: a4 :: (x, V) :: m) := .there .n4
theorem Upd.n6 {a0 a1 a2 a3 a4 a5 : Str × Val} {x : Str} {W V : Val} {m : List (Str × Val)} : Upd (a0 :: a1 :: a2 :: a3 :: a4 :: a5 :: (x, W) :: m) x V (a0 :: a1 :: a2 :: a3 :: a4 :: a5 :: (x, V) :: m) := .there .n5
theorem Upd.n7 {a0 a1 a2 a3 a4 a5 a6 : Str × Val} {x : Str} {W V : Val} {m : List (Str × Val)} : Upd (a0 :: a1 :: a2 :: a3 :: a4 :: a5 :: a6 :: (x, W) :: m) x V (a0 :: a1 :: a2 :: a3 :: a4 :: a5 :: a6 :: (x, V) :: m) := .there .n6
theorem Upd.n8 {a0 a1 a2 a3 a4 a5 a6 a7 : Str × Val} {x : Str} {W V : Val} {m : List (Str × Val)} : Upd (a0 :: a1 :: a2 :: a3 :: a4 :: a5 :: a6 :: a7 :: (x, W) :: m) x V (a0 :: a1 :: a2 :: a3 :: a4 :: a5 :: a6 :: a7 :: (x, V) :: m) := .there .n7
theorem Upd.n9 {a0 a1 a2 a3 a4 a5 a6 a7 a8 : Str × Val} {x : Str} {W V : Val} {m : List (Str × Val)} : Upd (a0 :: a1 :: a2 :: a3 :: a4 :: a5 :: a6 :: a7 :: a8 :: (x, W) :: m) x V (a0 :: a1 :: a2 :: a3 :: a4 :: a5 :: a6 :: a7 :: a8 :: (x, V) :: m) := .there .n8
theorem Upd.n10 {a0 a1 a2 a3 a4 a5 a6 a7 a8 a9 : Str × Val} {x : Str} {W V : Val} {m : List (Str × Val)} : Upd (a0 :: a1 :: a2 :: a3 :: a4 :: a5 :: a6 :: a7 :: a8 :: a9 :: (x, W) :: m) x V (a0 :: a1 :: a2 :: a3 :: a4 :: a5 :: a6 :: a7 :: a8 :: a9 :: (x, V) :: m) := .there .n9
theorem Upd.n11 {a0 a1 a2 a3 a4 a5 a6 a7 a8 a9 a10 : Str × Val} {x : Str} {W V : Val} {m : List (Str × Val)} : Upd (a0 :: a1 :: a2 :: a3 :: a4 :: a5 :: a6 :: a7 :: a8 :: a9 :: a10 :: (x, W) :: m) x V (a0 :: a1 :: a2 :: a3 :: a4 :: a5 :: a6 :: a7 :: a8 :: a9 :: a10 :: (x, V) :: m) := .there .n10
theorem Upd.n12 {a0 a1 a2 a3 a4 a5 a6 a7 a8 a9 a10 a11 : Str × Val} {x : Str} {W V : Val} {m : List (Str × Val)} : Upd (a0 :: a1 :: a2 :: a3 :: a4 :: a5 :: a6 :: a7 :: a8 :: a9 :: a10 :: a11 :: (x, W) :: m) x V (a0 :: a1 :: a2 :: a3 :: a4 :: a5 :: a6 :: a7 :: a8 :: a9 :: a10 :: a11 :: (x, V) :: m) := .there .n11
theorem Upd.n13 {a0 a1 a2 a3 a4 a5 a6 a7 a8 a9 a10 a11 a12 : Str × Val} {x : Str} {W V : Val} {m : List (Str × Val)} : Upd (a0 :: a1 :: a2 :: a3 :: a4 :: a5 :: a6 :: a7 :: a8 :: a9 :: a10 :: a11 :: a12 :: (x, W) :: m) x V (a0 :: a1 :: a2 :: a3 :: a4 :: a5 :: a6 :: a7 :: a8 :: a9 :: a10 :: a11 :: a12 :: (x, V) :: m) := .there .n12
theorem Upd.n14 {a0 a1 a2 a3 a4 a5 a6 a7 a8 a9 a10 a11 a12 a13 : Str × Val} {x : Str} {W V : Val} {m : List (Str × Val)} : Upd (a0 :: a1 :: a2 :: a3 :: a4 :: a5 :: a6 :: a7 :: a8 :: a9 :: a10 :: a11 :: a12 :: a13 :: (x, W) :: m) x V (a0 :: a1 :: a2 :: a3 :: a4 :: a5 :: a6 :: a7 :: a8 :: a9 :: a10 :: a11 :: a12 :: a13 :: (x, V) :: m) := .there .n13
theorem Upd.n15 {a0 a1 a2 a3 a4 a5 a6 a7 a8 a9 a10 a11 a12 a13 a14 : Str × Val} {x : Str} {W V : Val} {m : List (Str × Val)} : Upd (a0 :: a1 :: a2 :: a3 :: a4 :: a5 :: a6 :: a7 :: a8 :: a9 :: a10 :: a11 :: a12 :: a13 :: a14 :: (x, W) :: m) x V (a0 :: a1 :: a2 :: a3 :: a4 :: a5 :: a6 :: a7 :: a8 :: a9 :: a10 :: a11 :: a12 :: a13 :: a14 :: (x, V) :: m) := .there .n14
theorem Upd.names {m m' : List (Str × Val)} {x : Str} {V : Val} (u : Upd m x V m') : names m' = names m := by
  induction u with
  | here => rfl
  | there _ ih => simp only [Mine.names, List.map_cons] at ih ⊢; rw [ih]
theorem Upd.mem {m m' : List (Str × Val)} {x : Str} {V : Val} (u : Upd m x V m') : x ∈ Mine.names m := by
  induction u with
  | here => exact .head _
  | there _ ih => exact .tail _ ih
theorem mem_names {m : List (Str × Val)} {x : Str} {V : Val} (h : (x, V) ∈ m) : x ∈ Mine.names m := List.mem_map.mpr ⟨_, h, rfl⟩
theorem Upd.cases {m m' : List (Str × Val)} {x : Str} {V : Val} (u : Upd m x V m') (nd : (Mine.names m).Nodup) : ∀ y W, (y, W) ∈ m' → (y = x ∧ W = V) ∨ (y ≠ x ∧ (y, W) ∈ m) := by
  induction u with
  | @here x W₀ V₀ m =>
    intro y W h
    rcases List.mem_cons.mp h with h | h
    · cases h; exact .inl ⟨rfl, rfl⟩
    · refine .inr ⟨fun e => ?_, .tail _ h⟩
      have hy : x ∉ Mine.names m := (List.nodup_cons.mp nd).1
      exact hy (e ▸ mem_names h)
  | @there p m m' x V u ih =>
    intro y W h
    have hp : p.1 ∉ Mine.names m := (List.nodup_cons.mp nd).1
    rcases List.mem_cons.mp h with h | h
    · refine .inr ⟨fun e => ?_, h ▸ .head _⟩
      have e' : p.1 = x := by rw [← h]; exact e
      rw [e'] at hp
      exact hp u.mem
    · rcases ih (List.nodup_cons.mp nd).2 y W h with q | ⟨q, r⟩
      · exact .inl q
      · exact .inr ⟨q, .tail _ r⟩
theorem sub_back {n a : Nat} (h : a < n) : n - a = (n - (a + 1)) + 1 := (Nat.sub_add_cancel (Nat.sub_pos_of_lt h)).symm
theorem min_pred {a n : Nat} (h : 1 ≤ n) : min (a : Int) ((n : Int) - 1) = ((min a (n - 1) : Nat) : Int) := by omega
theorem min_pred_lt {a n : Nat} (h : 1 ≤ n) : min a (n - 1) < n := Nat.lt_of_le_of_lt (Nat.min_le_right ..) (Nat.sub_lt h (by decide))
theorem sub_dec {n a : Nat} (h : a < n) : n - (a + 1) < n - a := Nat.sub_lt_sub_left h (Nat.lt_succ_self a)
theorem mid_lo {lo hi mid : Nat} (h : (lo : Int) < hi) (e : ((lo : Int) + hi) / 2 = mid) : lo ≤ mid := by omega
theorem mid_hi {lo hi mid : Nat} (h : (lo : Int) < hi) (e : ((lo : Int) + hi) / 2 = mid) : mid < hi := by omega
theorem low_dec {lo hi mid : Nat} (h1 : lo ≤ mid) (h2 : mid < hi) : hi - (mid + 1) < hi - lo := Nat.sub_lt_sub_left (Nat.lt_of_le_of_lt h1 h2) (Nat.lt_succ_of_le h1)
theorem high_dec {lo hi mid : Nat} (h1 : lo ≤ mid) (h2 : mid < hi) : mid - lo < hi - lo := Nat.sub_lt_sub_right h1 h2
theorem half_nat (lo hi : Nat) : ((lo : Int) + (hi : Int)) / 2 = (((lo + hi) / 2 : Nat) : Int) := rfl
theorem four {r : Int} (h0 : 0 ≤ r) (h : r < 4) : r = 0 ∨ r = 1 ∨ r = 2 ∨ r = 3 := by
  match r, h0, h with
  | .ofNat 0, _, _ => exact .inl rfl
  | .ofNat 1, _, _ => exact .inr (.inl rfl)
  | .ofNat 2, _, _ => exact .inr (.inr (.inl rfl))
  | .ofNat 3, _, _ => exact .inr (.inr (.inr rfl))
  | .ofNat (n + 4), _, h => exact absurd (Int.ofNat_lt.mp h) (Nat.not_lt.mpr (Nat.le_add_left 4 n))
theorem pred_nat (j : Nat) : ((j : Int) - 1).toNat = j - 1 := Int.toNat_sub j 1
theorem max_nat {z : Int} : max z 0 = (z.toNat : Int) := by omega

noncomputable def Im.put (I : Im) (a : Addr) (o : Obj) : Im := fun b => if b = a then some o else I b
@[simp] theorem Im.put_self (I : Im) (a : Addr) (o : Obj) : I.put a o a = some o := by simp [Im.put]
theorem Im.put_ne (I : Im) {a b : Addr} (o : Obj) (h : b ≠ a) : I.put a o b = I b := by simp [Im.put, h]
theorem Im.le_put {I : Im} {a : Addr} {o : Obj} (h : I a = none) : Im.Le I (I.put a o) := fun b p hb => by
  by_cases e : b = a
  · subst e; rw [h] at hb; cases hb
  · rw [Im.put_ne _ _ e]; exact hb

section
variable {cx : Cx} {I : Im} {σ : Sto} {s : Shared}

theorem St.freshI (S : St cx I σ s) : I s.heap.objs.size = none := by
  cases q : I s.heap.objs.size with
  | none => rfl
  | some o => exact absurd (S.lt q) (Nat.lt_irrefl _)
theorem St.freshS (S : St cx I σ s) : σ s.heap.objs.size = none := by
  cases q : σ s.heap.objs.size with
  | none => rfl
  | some o => exact absurd (S.ltσ q) (Nat.lt_irrefl _)

theorem get_size (h : Heap) : h.get? h.objs.size = none := by
  cases q : h.get? h.objs.size with
  | none => rfl
  | some o => exact absurd (Heap.lt_size q) (Nat.lt_irrefl _)
theorem push_live {h : Heap} {o : Obj} (b : Addr) (q : (h.push o).get? b = none) : h.get? b = none := by
  cases e : h.get? b with
  | none => rfl
  | some p => rw [Heap.get?_push_of_some o e] at q; cases q
theorem keeps_live {h h' : Heap} (k : ∀ b o, h.get? b = some o → h'.get? b = some o) (b : Addr) (q : h'.get? b = none) : h.get? b = none := by
  cases e : h.get? b with
  | none => rfl
  | some p => rw [k b p e] at q; cases q
theorem St.pushI (S : St cx I σ s) (o : Obj) (hf : o.isFreed = false := by rfl) : St cx (I.put s.heap.objs.size o) σ { s with heap := s.heap.push o } := by
  refine ⟨fun a p h => ?_, fun a p h => ?_, fun a c h => ?_, fun a c h => ?_, S.gens, S.os⟩
  · by_cases e : a = s.heap.objs.size
    · subst e; rw [Im.put_self] at h; cases h; exact Heap.get?_push_size _ hf
    · rw [Im.put_ne _ _ e] at h; exact Heap.get?_push_of_some _ (S.sub a p h)
  · exact Im.le_put S.freshI a p (S.base a p h)
  · obtain ⟨p, hp, hc⟩ := S.cell a c h
    exact ⟨p, Heap.get?_push_of_some _ hp, hc.mono (Im.le_put S.freshI)⟩
  · by_cases e : a = s.heap.objs.size
    · subst e; rw [S.freshS] at h; cases h
    · rw [Im.put_ne _ _ e]; exact S.apart a c h
theorem Tr.pushI (S : St cx I σ s) (o : Obj) (X : Addr → Prop) : Tr X I σ s (I.put s.heap.objs.size o) σ { s with heap := s.heap.push o } :=
  ⟨fun _ _ _ _ h => Heap.get?_push_of_some _ h, Im.le_put S.freshI, fun b p h => by
    by_cases e : b = s.heap.objs.size
    · exact .inr (.inl (e ▸ get_size _))
    · rw [Im.put_ne _ _ e] at h; exact .inl h, fun _ h => .inl h, push_live⟩

theorem St.pushS (S : St cx I σ s) (o : Obj) (c : Cell) (hc : CR cx.w.params I o c) (hf : o.isFreed = false := by rfl) : St cx I (σ.set s.heap.objs.size c) { s with heap := s.heap.push o } := by
  refine ⟨fun a p h => Heap.get?_push_of_some _ (S.sub a p h), S.base, fun a d h => ?_, fun a d h => ?_, S.gens, S.os⟩
  · by_cases e : a = s.heap.objs.size
    · subst e; rw [Sto.set_self] at h; cases h; exact ⟨o, Heap.get?_push_size _ hf, hc⟩
    · rw [Sto.set_ne _ _ e] at h
      obtain ⟨p, hp, r⟩ := S.cell a d h
      exact ⟨p, Heap.get?_push_of_some _ hp, r⟩
  · by_cases e : a = s.heap.objs.size
    · subst e; exact S.freshI
    · rw [Sto.set_ne _ _ e] at h; exact S.apart a d h
theorem Tr.pushS (S : St cx I σ s) (o : Obj) (c : Cell) (X : Addr → Prop) : Tr X I σ s I (σ.set s.heap.objs.size c) { s with heap := s.heap.push o } :=
  ⟨fun _ _ _ _ h => Heap.get?_push_of_some _ h, Im.Le.refl _, fun _ _ h => .inl h, fun b h => by
    by_cases e : b = s.heap.objs.size
    · exact .inr (e ▸ get_size _)
    · rw [Sto.set_ne _ _ e] at h; exact .inl h, push_live⟩

/-- a hidden object: it stands on the heap, no fact of ours bears it -/
theorem St.pushH (S : St cx I σ s) (o : Obj) : St cx I σ { s with heap := s.heap.push o } :=
  ⟨fun a p h => Heap.get?_push_of_some _ (S.sub a p h), S.base, fun a d h => let ⟨p, hp, r⟩ := S.cell a d h; ⟨p, Heap.get?_push_of_some _ hp, r⟩, S.apart, S.gens, S.os⟩
theorem Tr.pushH (o : Obj) (X : Addr → Prop) : Tr X I σ s I σ { s with heap := s.heap.push o } :=
  ⟨fun _ _ _ _ h => Heap.get?_push_of_some _ h, Im.Le.refl _, fun _ _ h => .inl h, fun _ h => .inl h, push_live⟩
theorem St.grow (S : St cx I σ s) {h' : Heap} (k : ∀ b o, s.heap.get? b = some o → h'.get? b = some o) (t : Nat) : St cx I σ { s with heap := h', toks := t } :=
  ⟨fun a p h => k _ _ (S.sub a p h), S.base, fun a d h => let ⟨p, hp, r⟩ := S.cell a d h; ⟨p, k _ _ hp, r⟩, S.apart, S.gens, S.os⟩
theorem Tr.grow {h' : Heap} (k : ∀ b o, s.heap.get? b = some o → h'.get? b = some o) (t : Nat) (X : Addr → Prop) : Tr X I σ s I σ { s with heap := h', toks := t } :=
  ⟨fun _ _ _ _ h => k _ _ h, Im.Le.refl _, fun _ _ h => .inl h, fun _ h => .inl h, keeps_live k⟩

/-- a cell changes -/
theorem St.upd (S : St cx I σ s) {a : Addr} {c c' : Cell} (h : σ a = some c) {h' : Heap} {o' : Obj} (hs : Heap.SameBut a s.heap h') (ho : h'.get? a = some o') (hc : CR cx.w.params I o' c') : St cx I (σ.set a c') { s with heap := h' } := by
  refine ⟨fun b p hb => ?_, S.base, fun b d hb => ?_, fun b d hb => ?_, S.gens, S.os⟩
  · by_cases e : b = a
    · subst e; rw [S.apart _ _ h] at hb; cases hb
    · exact (hs.2 b e).trans (S.sub b p hb)
  · by_cases e : b = a
    · subst e; rw [Sto.set_self] at hb; cases hb; exact ⟨o', ho, hc⟩
    · rw [Sto.set_ne _ _ e] at hb
      obtain ⟨p, hp, r⟩ := S.cell b d hb
      exact ⟨p, (hs.2 b e).trans hp, r⟩
  · by_cases e : b = a
    · subst e; exact S.apart _ _ h
    · rw [Sto.set_ne _ _ e] at hb; exact S.apart b d hb
theorem Tr.upd {a : Addr} {c c' : Cell} (h : σ a = some c) {h' : Heap} {o' : Obj} (hs : Heap.SameBut a s.heap h') (ho : h'.get? a = some o') (X : Addr → Prop) : Tr X I σ s I (σ.set a c') { s with heap := h' } :=
  ⟨fun b o _ hb ho => (hs.2 b fun e => by subst e; rw [h] at hb; cases hb).trans ho, Im.Le.refl _, fun _ _ h => .inl h, fun b hb => by
    by_cases e : b = a
    · subst e; rw [h]; exact .inl (by simp)
    · rw [Sto.set_ne _ _ e] at hb; exact .inl hb, fun b q => by
    by_cases e : b = a
    · subst e; rw [ho] at q; cases q
    · exact (hs.2 b e).symm.trans q⟩

end

section
variable (cx : Cx) (k : Nat)
noncomputable abbrev Md := model cx.prog cx.w
noncomputable def WpE (m : Loc) (σ : Sto) (e : Expr) (Q : Val → Sto → Prop) : Prop :=
  ∀ A env I s, Room A k → St cx I σ s → FrR cx I σ m env s → wpAny (Md cx) A (eval e env) (Post cx I σ s Q) Bot s
inductive PostB (I : Im) (σ : Sto) (s : Shared) (Q : Bool → Sto → Prop) (b : Bool) (s' : Shared) : Prop
  | mk (I' : Im) (σ' : Sto) (t : Tr Own0 I σ s I' σ' s') (st : St cx I' σ' s') (q : Q b σ')
noncomputable def WpT (m : Loc) (σ : Sto) (e : Expr) (Q : Bool → Sto → Prop) : Prop :=
  ∀ A env I s, Room A k → St cx I σ s → FrR cx I σ m env s → wpAny (Md cx) A (isTrue e env (eval e env)) (PostB cx I σ s Q) Bot s
noncomputable def WpAll (op : BoolOp) (m : Loc) (σ : Sto) (es : List Expr) (Q : Bool → Sto → Prop) : Prop :=
  ∀ A env I s, Room A k → St cx I σ s → FrR cx I σ m env s → wpAny (Md cx) A (allTrue op es env) (PostB cx I σ s Q) Bot s
inductive PostL (I : Im) (σ : Sto) (s : Shared) (Q : List Val → Sto → Prop) (vs : List Value) (s' : Shared) : Prop
  | mk (I' : Im) (σ' : Sto) (Vs : List Val) (t : Tr Own0 I σ s I' σ' s') (st : St cx I' σ' s') (r : VRs cx.w.params I' vs Vs) (q : Q Vs σ')
noncomputable def WpL (m : Loc) (σ : Sto) (es : List Expr) (Q : List Val → Sto → Prop) : Prop :=
  ∀ A env I s pos, Room A k → St cx I σ s → FrR cx I σ m env s → wpAny (Md cx) A (spliced (backTo pos (starEach es env))) (PostL cx I σ s Q) Bot s
noncomputable def Wp1 (f : Value → Sem Value) (V : Val) (σ : Sto) (Q : Val → Sto → Prop) : Prop :=
  ∀ A I s v, Room A k → St cx I σ s → VR cx.w.params I v V → wpAny (Md cx) A (f v) (Post cx I σ s Q) Bot s
noncomputable def Wp2 (f : Value → Value → Sem Value) (V U : Val) (σ : Sto) (Q : Val → Sto → Prop) : Prop :=
  ∀ A I s v u, Room A k → St cx I σ s → VR cx.w.params I v V → VR cx.w.params I u U → wpAny (Md cx) A (f v u) (Post cx I σ s Q) Bot s
noncomputable def WpCall (f : Val) (args : List Val) (σ : Sto) (Q : Val → Sto → Prop) : Prop :=
  ∀ A I s fv vs, Room A k → St cx I σ s → VR cx.w.params I fv f → VRs cx.w.params I vs args → wpAny (Md cx) A (call fv vs) (Post cx I σ s Q) Bot s
end

section
variable {cx : Cx} {k : Nat} {m : Loc} {σ : Sto} {Q : Val → Sto → Prop}

theorem PostB.from {I σ s I₁ σ₁ s₁ b s'} {Q : Bool → Sto → Prop} (t : Tr Own0 I σ s I₁ σ₁ s₁) (p : PostB cx I₁ σ₁ s₁ Q b s') : PostB cx I σ s Q b s' :=
  let ⟨I', σ', t', st, q⟩ := p; ⟨I', σ', t.trans t', st, q⟩
theorem wfrom {α : Type} {A : Around} {t : Sem α} {P P' : α → Shared → Prop} {s : Shared} (h : wpAny (Md cx) A t P Bot s) (f : ∀ a s', P a s' → P' a s') : wpAny (Md cx) A t P' Bot s :=
  wpAny_mono h f fun _ _ x => x

theorem wv {A : Around} {t : Sem Value} {I : Im} {σ : Sto} {s s₀ : Shared} {Q : Val → Sto → Prop} {P' : Value → Shared → Prop} (h : wpAny (Md cx) A t (Post cx I σ s Q) Bot s₀)
    (f : ∀ v s₁ I₁ σ₁ V, Tr Own0 I σ s I₁ σ₁ s₁ → St cx I₁ σ₁ s₁ → VR cx.w.params I₁ v V → Q V σ₁ → P' v s₁) : wpAny (Md cx) A t P' Bot s₀ :=
  wfrom h fun v s₁ p => by obtain ⟨I₁, σ₁, V, t, S, r, q⟩ := p; exact f v s₁ I₁ σ₁ V t S r q
theorem wl {A : Around} {t : Sem (List Value)} {I : Im} {σ : Sto} {s s₀ : Shared} {Q : List Val → Sto → Prop} {P' : List Value → Shared → Prop} (h : wpAny (Md cx) A t (PostL cx I σ s Q) Bot s₀)
    (f : ∀ v s₁ I₁ σ₁ V, Tr Own0 I σ s I₁ σ₁ s₁ → St cx I₁ σ₁ s₁ → VRs cx.w.params I₁ v V → Q V σ₁ → P' v s₁) : wpAny (Md cx) A t P' Bot s₀ :=
  wfrom h fun v s₁ p => by obtain ⟨I₁, σ₁, V, t, S, r, q⟩ := p; exact f v s₁ I₁ σ₁ V t S r q
theorem wb {A : Around} {t : Sem Bool} {I : Im} {σ : Sto} {s s₀ : Shared} {Q : Bool → Sto → Prop} {P' : Bool → Shared → Prop} (h : wpAny (Md cx) A t (PostB cx I σ s Q) Bot s₀)
    (f : ∀ v s₁ I₁ σ₁, Tr Own0 I σ s I₁ σ₁ s₁ → St cx I₁ σ₁ s₁ → Q v σ₁ → P' v s₁) : wpAny (Md cx) A t P' Bot s₀ :=
  wfrom h fun v s₁ p => by obtain ⟨I₁, σ₁, t, S, q⟩ := p; exact f v s₁ I₁ σ₁ t S q
theorem wrel {M : Model} {A : Around} {E : Value → Shared → Prop} {vs keep : List Value} {Q : Unit → Shared → Prop} {s : Shared} (h : Q () s) : wpAny M A (release vs keep) Q E s := fun Γ p hΓ => by
  rw [Sem.wp_release]; exact h
theorem WpE.mono {e : Expr} {Q' : Val → Sto → Prop} (h : WpE cx k m σ e Q) (f : ∀ V τ, Q V τ → Q' V τ) : WpE cx k m σ e Q' := fun A env I s R S F =>
  wv (h A env I s R S F) fun _ _ I' σ' V t st vr q => ⟨I', σ', V, t, st, vr, f _ _ q⟩
theorem WpCall.mono {f : Val} {args : List Val} {Q' : Val → Sto → Prop} (h : WpCall cx k f args σ Q) (g : ∀ V τ, Q V τ → Q' V τ) : WpCall cx k f args σ Q' := fun A I s fv vs R S hf ha =>
  wv (h A I s fv vs R S hf ha) fun _ _ I' σ' V t st vr q => ⟨I', σ', V, t, st, vr, g _ _ q⟩
theorem vr_int {P : Params} {I : Im} {i : Int} {t : Tok} : VR P I (.int i t) (.int i) := ⟨t, rfl⟩
theorem vr_str {P : Params} {I : Im} {i : Str} {t : Tok} : VR P I (.str i t) (.str i) := ⟨t, rfl⟩
theorem vr_bytes {P : Params} {I : Im} {i : Array UInt8} {t : Tok} : VR P I (.bytes i t) (.bytes i) := ⟨t, rfl⟩
theorem vr_bool {P : Params} {I : Im} {b : Bool} : VR P I (.bool b) (.bool b) := rfl
theorem vr_none {P : Params} {I : Im} : VR P I .none .none := rfl
theorem vr_raw {P : Params} {I : Im} {v : Value} : VR P I v (.raw v) := rfl
theorem un_int {P : Params} {I : Im} {v : Value} {i : Int} (h : VR P I v (.int i)) : ∃ t, v = .int i t := h
theorem un_str {P : Params} {I : Im} {v : Value} {i : Str} (h : VR P I v (.str i)) : ∃ t, v = .str i t := h
theorem un_bytes {P : Params} {I : Im} {v : Value} {i : Array UInt8} (h : VR P I v (.bytes i)) : ∃ t, v = .bytes i t := h
theorem un_bool {P : Params} {I : Im} {v : Value} {i : Bool} (h : VR P I v (.bool i)) : v = .bool i := h
theorem un_none {P : Params} {I : Im} {v : Value} (h : VR P I v .none) : v = .none := h
theorem un_raw {P : Params} {I : Im} {v w : Value} (h : VR P I v (.raw w)) : v = w := h
theorem un_tup {P : Params} {I : Im} {v : Value} {Vs : List Val} (h : VR P I v (.tup Vs)) : SeqR tupOf I v fun vs => VRs P I vs Vs := h
theorem un_lst {P : Params} {I : Im} {v : Value} {Vs : List Val} (h : VR P I v (.lst Vs)) : SeqR listOf I v fun vs => VRs P I vs Vs := h
theorem un_obj {P : Params} {I : Im} {v : Value} {C : Addr} {ns : List Str} {Vs : List Val} (h : VR P I v (.obj C ns Vs)) : ObjR P C ns I v fun vs => VRs P I vs Vs := h
theorem un_rng {P : Params} {I : Im} {v : Value} {n : Int} (h : VR P I v (.rng n)) : RngR I v n := h
theorem vr_rng {P : Params} {I : Im} {a : Addr} {n : Int} {t u w : Tok} (h : I a = some (rngOf n t u w)) : VR P I (.ref a) (.rng n) := ⟨a, t, u, w, rfl, h⟩
theorem vr_tup {P : Params} {I : Im} {a : Addr} {vs : List Value} {n : Nat} {Vs : List Val} (ho : I a = some (tupOf (List.toArray vs) n)) (r : VRs P I vs Vs) : VR P I (.ref a) (.tup Vs) := ⟨a, vs, n, rfl, ho, r⟩
theorem vr_lst {P : Params} {I : Im} {a : Addr} {vs : List Value} {n : Nat} {Vs : List Val} (ho : I a = some (listOf (List.toArray vs) n)) (r : VRs P I vs Vs) : VR P I (.ref a) (.lst Vs) := ⟨a, vs, n, rfl, ho, r⟩
theorem vr_obj {P : Params} {I : Im} {a d C : Addr} {es : List DictEntry} {n : Nat} {ns : List Str} {Vs : List Val} (ho : I a = some (instObj C d)) (hd : I d = some (dictOf es n)) (k : KA P es ns) (r : VRs P I (es.map (·.val)) Vs) : VR P I (.ref a) (.obj C ns Vs) := ⟨a, d, es, n, rfl, ho, hd, k, r⟩

section
variable (cx : Cx) (k : Nat) (m : Loc)
@[reducible] noncomputable def kB2 (op : Operator) (V : Val) (Q : Val → Sto → Prop) : Val → Sto → Prop := fun U σ => Wp2 cx k (binaryOp op) V U σ Q
@[reducible] noncomputable def kB1 (r : Expr) (op : Operator) (Q : Val → Sto → Prop) : Val → Sto → Prop := fun V σ => WpE cx k m σ r (kB2 cx k op V Q)
@[reducible] noncomputable def kU (op : UnaryOp) (Q : Val → Sto → Prop) : Val → Sto → Prop := fun V σ => Wp1 cx k (unaryOp op) V σ Q
@[reducible] noncomputable def kC2 (op : CmpOp) (V : Val) (Q : Val → Sto → Prop) : Val → Sto → Prop := fun U σ => Wp2 cx k (compareOp op) V U σ Q
@[reducible] noncomputable def kC1 (r : Expr) (op : CmpOp) (Q : Val → Sto → Prop) : Val → Sto → Prop := fun V σ => WpE cx k m σ r (kC2 cx k op V Q)
@[reducible] noncomputable def kV (Q : Bool → Sto → Prop) : Val → Sto → Prop := fun V σ => ∃ b, V = .bool b ∧ Q b σ
@[reducible] noncomputable def kH3 (U : Val) (o : CmpOp) (Q : Bool → Sto → Prop) : Val → Sto → Prop := fun W σ => Wp2 cx k (compareOp o) U W σ (kV Q)
@[reducible] noncomputable def kH2 (U : Val) (r : Expr) (o : CmpOp) (Q : Bool → Sto → Prop) : Val → Sto → Prop := fun W σ => ∃ b, W = .bool b ∧ if b then WpE cx k m σ r (kH3 cx k U o Q) else Q false σ
@[reducible] noncomputable def kH1 (V : Val) (r : Expr) (o o' : CmpOp) (Q : Bool → Sto → Prop) : Val → Sto → Prop := fun U σ => Wp2 cx k (compareOp o) V U σ (kH2 cx k m U r o' Q)
@[reducible] noncomputable def kH0 (r r' : Expr) (o o' : CmpOp) (Q : Bool → Sto → Prop) : Val → Sto → Prop := fun V σ => WpE cx k m σ r (kH1 cx k m V r' o o' Q)
@[reducible] noncomputable def kN (Q : Bool → Sto → Prop) : Bool → Sto → Prop := fun b σ => Q (!b) σ
@[reducible] noncomputable def kAnd (es : List Expr) (Q : Bool → Sto → Prop) : Bool → Sto → Prop := fun b σ => if b then WpAll cx k .And m σ es Q else Q false σ
@[reducible] noncomputable def kOr (es : List Expr) (Q : Bool → Sto → Prop) : Bool → Sto → Prop := fun b σ => if b then Q true σ else WpAll cx k .Or m σ es Q
@[reducible] noncomputable def kIE (a b : Expr) (Q : Val → Sto → Prop) : Bool → Sto → Prop := fun t σ => if t then WpE cx k m σ a Q else WpE cx k m σ b Q
@[reducible] noncomputable def kT (Q : Val → Sto → Prop) : List Val → Sto → Prop := fun Vs σ => Vs.length ≤ 1000 ∧ Q (.tup Vs) σ
@[reducible] noncomputable def kL2 (V : Val) (Q : List Val → Sto → Prop) : List Val → Sto → Prop := fun Vs σ => Q (V :: Vs) σ
@[reducible] noncomputable def kL1 (es : List Expr) (Q : List Val → Sto → Prop) : Val → Sto → Prop := fun V σ => WpL cx k m σ es (kL2 V Q)
@[reducible] noncomputable def kLs (Q : Val → Sto → Prop) : List Val → Sto → Prop := fun Vs σ => Vs.length ≤ 1000 ∧ Q (.lst Vs) σ
@[reducible] noncomputable def kLm (Q : Val → Sto → Prop) : List Val → Sto → Prop := fun Vs σ => Vs.length ≤ 1000 ∧ ∀ a, σ a = none → Q (.raw (.ref a)) (σ.set a (.list Vs))
@[reducible] noncomputable def kAt (attr : Str) (Q : Val → Sto → Prop) : Val → Sto → Prop := fun V σ => Wp1 cx k (fun v => getAttr v attr true) V σ Q
end
theorem wpe_nameG {x : Str} {pos : Pos} {V : Val} (hm : (x, V) ∈ m.v ∨ (x, V) ∈ m.c) (hu : V ≠ .unbound) (q : Q V σ) : WpE cx k m σ (.Name x pos) Q := by
  intro A env I s R S F
  have hd := F.debug x V hm
  obtain ⟨mm, hn, hv⟩ := F.vals
  rcases hv x V hm with h | ⟨v, vr, st⟩
  · exact absurd h hu
  · have p : Post cx I σ s Q v s := Post.now S vr q
    unfold Stands at st
    cases hk : env.kindOf x with
    | none => rw [hk] at st; exact st.elim
    | some kd =>
      rw [hk] at st
      cases kd with
      | «local» => exact wpAny_Name (wpAny_loadName_local F.kind hk hn st p) hd
      | cell => obtain ⟨c, h1, h2, h3⟩ := st; exact wpAny_Name (wpAny_loadName_cell F.kind hk h1 h2 p) hd
      | free => obtain ⟨c, h1, h2, h3⟩ := st; exact wpAny_Name (wpAny_loadName_free F.kind hk h1 h2 p h3) hd
      | globalImplicit =>
        refine Name_function_global F.kind hk ?_ hd
        have hg : s.heap.Ns env.globals cx.mg := by rw [F.glob]; exact S.gns
        have hb : s.heap.Ns env.builtins cx.mb := by rw [F.blt]; exact S.bns
        rcases st with h | ⟨h1, h2⟩
        · exact loadGlobal_global hg h p
        · exact loadGlobal_builtin hg h1 hb h2 p
      | _ => exact st.elim
noncomputable def bnd : Val → Bool
  | .unbound => false
  | _ => true
theorem bnd_ne {V : Val} (h : bnd V = true) : V ≠ .unbound := fun e => by subst e; cases h
theorem wpe_loc {v c : List (Str × Val)} {kk : List Str} {x : Str} {pos : Pos} {V : Val} (hm : (x, V) ∈ v) (hu : bnd V = true) (q : Q V σ) : WpE cx k ⟨v, c, kk⟩ σ (.Name x pos) Q := wpe_nameG (.inl hm) (bnd_ne hu) q
theorem wpe_glo {v c : List (Str × Val)} {kk : List Str} {x : Str} {pos : Pos} {V : Val} (hm : (x, V) ∈ c) (hu : bnd V = true) (q : Q V σ) : WpE cx k ⟨v, c, kk⟩ σ (.Name x pos) Q := wpe_nameG (.inr hm) (bnd_ne hu) q
theorem wpe_int {i : Int} {kk : Nat} {pos : Pos} (q : Q (.int i) σ) : WpE cx k m σ (.Constant (.int i) kk pos) Q := fun _ _ _ _ _ S _ => wpAny_Constant_int (Post.tok S vr_int q _)
theorem wpe_str {x : Str} {kk : Nat} {pos : Pos} (q : Q (.str x) σ) : WpE cx k m σ (.Constant (.str x) kk pos) Q := fun _ _ _ _ _ S _ => Constant_str (Post.tok S vr_str q _)
theorem wpe_bytes {b : List UInt8} {kk : Nat} {pos : Pos} (q : Q (.bytes b.toArray) σ) : WpE cx k m σ (.Constant (.bytes b) kk pos) Q := fun _ _ _ _ _ S _ =>
  wpAny_mkTextBytes (Post.tok S vr_bytes q _)
theorem wpe_none {kk : Nat} {pos : Pos} (q : Q .none σ) : WpE cx k m σ (.Constant .none kk pos) Q := fun _ _ _ _ _ S _ => wpAny_pure (Post.now S vr_none q)
theorem wpe_bool {b : Bool} {kk : Nat} {pos : Pos} (q : Q (.bool b) σ) : WpE cx k m σ (.Constant (.bool b) kk pos) Q := fun _ _ _ _ _ S _ => wpAny_pure (Post.now S vr_bool q)

theorem wpe_binop {l r : Expr} {op : Operator} {pos : Pos} (h : WpE cx k m σ l (kB1 cx k m r op Q)) : WpE cx k m σ (.BinOp l op r pos) Q := fun A env I s R S F =>
  wpAny_BinOp (wv (h A env I s R S F) fun v s₁ I₁ σ₁ V t₁ S₁ v₁ q₁ => wv (q₁ A env I₁ s₁ R S₁ (F.step0 t₁)) fun u s₂ I₂ σ₂ U t₂ S₂ v₂ q₂ =>
    wfrom (q₂ A I₂ s₂ v u R S₂ (v₁.mono t₂.le) v₂) fun _ _ p => p.from (t₁.trans t₂))
theorem wpe_unary {x : Expr} {op : UnaryOp} {pos : Pos} (h : WpE cx k m σ x (kU cx k op Q)) : WpE cx k m σ (.UnaryOp op x pos) Q := fun A env I s R S F =>
  wpAny_UnaryOp (wv (h A env I s R S F) fun v s₁ I₁ σ₁ V t₁ S₁ v₁ q₁ => wfrom (q₁ A I₁ s₁ v R S₁ v₁) fun _ _ p => p.from t₁)
theorem wpe_cmp {l r : Expr} {op : CmpOp} {pos : Pos} (h : WpE cx k m σ l (kC1 cx k m r op Q)) (hr : behindInMarks op r = false := by rfl) : WpE cx k m σ (.Compare l [op] [r] pos) Q := fun A env I s R S F =>
  wpAny_Compare1 (wv (h A env I s R S F) fun v s₁ I₁ σ₁ V t₁ S₁ v₁ q₁ => wv (q₁ A env I₁ s₁ R S₁ (F.step0 t₁)) fun u s₂ I₂ σ₂ U t₂ S₂ v₂ q₂ =>
    wfrom (q₂ A I₂ s₂ v u R S₂ (v₁.mono t₂.le) v₂) fun _ _ p => p.from (t₁.trans t₂)) hr
theorem wpt_cmp {l r : Expr} {op : CmpOp} {pos : Pos} {Q : Bool → Sto → Prop} (h : WpE cx k m σ l (kC1 cx k m r op (kV Q))) (hr : behindInMarks op r = false := by rfl) :
    WpT cx k m σ (.Compare l [op] [r] pos) Q := fun A env I s R S F =>
  wpAny_isTrue_Compare1 (wv (h A env I s R S F) fun v s₁ I₁ σ₁ V t₁ S₁ v₁ q₁ => wv (q₁ A env I₁ s₁ R S₁ (F.step0 t₁)) fun u s₂ I₂ σ₂ U t₂ S₂ v₂ q₂ =>
    wv (q₂ A I₂ s₂ v u R S₂ (v₁.mono t₂.le) v₂) fun c s₃ I₃ σ₃ W t₃ S₃ v₃ ⟨b, e, q₃⟩ => by
      subst e; cases un_bool v₃
      exact wpAny_truthy_bool ⟨I₃, σ₃, t₁.trans (t₂.trans t₃), S₃, q₃⟩) hr
/-- a chain of two -/
theorem wpt_chain {l r₁ r₂ : Expr} {o₁ o₂ : CmpOp} {pos : Pos} {Q : Bool → Sto → Prop}
    (h : WpE cx k m σ l (kH0 cx k m r₁ r₂ o₁ o₂ Q))
    (hm : lastMarks [o₁, o₂] [r₁, r₂] = false := by rfl) :
    WpT cx k m σ (.Compare l [o₁, o₂] [r₁, r₂] pos) Q := fun A env I s R S F => by
  refine isTrue_chain (wv (h A env I s R S F) fun v s₁ I₁ σ₁ V t₁ S₁ v₁ q₁ => ?_) hm
  show wpAny _ _ (do
    let rv ← holding [v] (eval r₁ env)
    standAt pos
    let c ← holding [v, rv] (compareOp o₁ v rv)
    release [v, rv] [c]
    if ← holding [c, rv] (truthy c) then testChain pos rv [o₂] [eval r₂ env] else pure false) _ _ _
  refine wpAny_bind (wpAny_holding (wv (q₁ A env I₁ s₁ R S₁ (F.step0 t₁)) fun u s₂ I₂ σ₂ U t₂ S₂ v₂ q₂ => wpAny_bind (wpAny_standAt (wpAny_bind (wpAny_holding
    (wv (q₂ A I₂ s₂ v u R S₂ (v₁.mono t₂.le) v₂) fun c s₃ I₃ σ₃ W t₃ S₃ v₃ ⟨b, e, q₃⟩ => wpAny_bind ?_))))))
  subst e; cases un_bool v₃
  refine wrel ?_
  refine wpAny_bind (wpAny_holding (wpAny_truthy_bool ?_))
  cases b with
  | false => exact wpAny_pure ⟨I₃, σ₃, t₁.trans (t₂.trans t₃), S₃, q₃⟩
  | true =>
    have F₃ := ((F.step0 t₁).step0 t₂).step0 t₃
    show wpAny _ _ (do
      let rv ← holding [u] (eval r₂ env)
      standAt pos
      let c ← operate [u, rv] (compareOp o₂ u rv)
      holding [c] (truthy c)) _ _ _
    refine wpAny_bind (wpAny_holding (wv (q₃ A env I₃ s₃ R S₃ F₃) fun x s₄ I₄ σ₄ T t₄ S₄ v₄ q₄ => wpAny_bind (wpAny_standAt (wpAny_bind (wpAny_operating
      (wv (q₄ A I₄ s₄ u x R S₄ (v₂.mono (t₃.le.trans t₄.le)) v₄) fun c s₅ I₅ σ₅ W' t₅ S₅ v₅ ⟨b', e', q₅⟩ => wpAny_holding ?_))))))
    subst e'; cases un_bool v₅
    exact wpAny_truthy_bool ⟨I₅, σ₅, t₁.trans (t₂.trans (t₃.trans (t₄.trans t₅))), S₅, q₅⟩

theorem wpt_not {x : Expr} {pos : Pos} {Q : Bool → Sto → Prop} (h : WpT cx k m σ x (kN Q)) : WpT cx k m σ (.UnaryOp .Not x pos) Q := fun A env I s R S F =>
  wpAny_isTrue_Not (wfrom (h A env I s R S F) fun _ _ p => by cases p; exact ⟨_, _, ‹_›, ‹_›, ‹_›⟩)
theorem wpt_bool {op : BoolOp} {es : List Expr} {pos : Pos} {Q : Bool → Sto → Prop} (h : WpAll cx k op m σ es Q) : WpT cx k m σ (.BoolOp op es pos) Q := fun A env I s R S F => wpAny_isTrue_BoolOp (h A env I s R S F)
theorem all_nil_and {Q : Bool → Sto → Prop} (q : Q true σ) : WpAll cx k .And m σ [] Q := fun _ _ _ _ _ S _ => wpAny_pure ⟨_, _, Tr.refl .., S, q⟩
theorem all_nil_or {Q : Bool → Sto → Prop} (q : Q false σ) : WpAll cx k .Or m σ [] Q := fun _ _ _ _ _ S _ => wpAny_pure ⟨_, _, Tr.refl .., S, q⟩
theorem all_and {x : Expr} {es : List Expr} {Q : Bool → Sto → Prop} (h : WpT cx k m σ x (kAnd cx k m es Q)) : WpAll cx k .And m σ (x :: es) Q := fun A env I s R S F =>
  wpAny_allTrue_And_cons (wb (h A env I s R S F) fun b s₁ I₁ σ₁ t₁ S₁ q₁ => by
    cases b with
    | false => exact ⟨I₁, σ₁, t₁, S₁, q₁⟩
    | true => exact wfrom (q₁ A env I₁ s₁ R S₁ (F.step0 t₁)) fun _ _ p => p.from t₁)
theorem all_or {x : Expr} {es : List Expr} {Q : Bool → Sto → Prop} (h : WpT cx k m σ x (kOr cx k m es Q)) : WpAll cx k .Or m σ (x :: es) Q := fun A env I s R S F =>
  wpAny_allTrue_Or_cons (wb (h A env I s R S F) fun b s₁ I₁ σ₁ t₁ S₁ q₁ => by
    cases b with
    | true => exact ⟨I₁, σ₁, t₁, S₁, q₁⟩
    | false => exact wfrom (q₁ A env I₁ s₁ R S₁ (F.step0 t₁)) fun _ _ p => p.from t₁)
noncomputable def plainTest : Expr → Bool
  | .UnaryOp .Not _ _ | .BoolOp .. | .IfExp .. | .Compare .. => false
  | _ => true
theorem wpt_val {e : Expr} {Q : Bool → Sto → Prop} (h : WpE cx k m σ e (kV Q)) (he : plainTest e = true := by rfl) : WpT cx k m σ e Q := fun A env I s R S F => by
  have e' : ∀ whole, isTrue e env whole = (do let v ← whole; standAt e.pos; holding [v] (truthy v)) := by
    intro whole
    cases e <;> first | rfl | (cases he; done) | skip
    · rename_i op x p; cases op <;> first | rfl | (cases he; done)
  refine wpAny_isTrue_value (wv (h A env I s R S F) fun v s₁ I₁ σ₁ V t₁ S₁ v₁ ⟨b, hb, q₁⟩ => ?_) (e' _)
  subst hb; cases un_bool v₁
  exact wpAny_truthy_bool ⟨I₁, σ₁, t₁, S₁, q₁⟩
theorem wpe_ifexp {test body orelse : Expr} {pos : Pos} (h : WpT cx k m σ test (kIE cx k m body orelse Q)) : WpE cx k m σ (.IfExp test body orelse pos) Q := fun A env I s R S F =>
  wpAny_IfExp (wb (h A env I s R S F) fun b s₁ I₁ σ₁ t₁ S₁ q₁ => by
    cases b with
    | true => exact wfrom (q₁ A env I₁ s₁ R S₁ (F.step0 t₁)) fun _ _ p => p.from t₁
    | false => exact wfrom (q₁ A env I₁ s₁ R S₁ (F.step0 t₁)) fun _ _ p => p.from t₁)

noncomputable def WpBO (cx : Cx) (k : Nat) (op : BoolOp) (m : Loc) (σ : Sto) (es : List Expr) (Q : Val → Sto → Prop) : Prop :=
  ∀ A env I s pos, Room A k → St cx I σ s → FrR cx I σ m env s → wpAny (Md cx) A (boolOp pos op (evalEach es env)) (Post cx I σ s Q) Bot s
@[reducible] noncomputable def kBO (cx : Cx) (k : Nat) (m : Loc) (es : List Expr) (Q : Val → Sto → Prop) : Val → Sto → Prop := fun V σ => ∃ b, V = .bool b ∧ if b then WpBO cx k .And m σ es Q else Q (.bool false) σ
theorem wpe_boolop {op : BoolOp} {es : List Expr} {pos : Pos} (h : WpBO cx k op m σ es Q) : WpE cx k m σ (.BoolOp op es pos) Q := fun A env I s R S F => h A env I s pos R S F
theorem bo_one {op : BoolOp} {e : Expr} (h : WpE cx k m σ e Q) : WpBO cx k op m σ [e] Q := fun A env I s _ R S F => h A env I s R S F
theorem bo_and {e e' : Expr} {es : List Expr} (h : WpE cx k m σ e (kBO cx k m (e' :: es) Q)) : WpBO cx k .And m σ (e :: e' :: es) Q := fun A env I s pos R S F => by
  show wpAny _ _ (do
    let v ← eval e env
    standAt pos
    let t ← holding [v] (truthy v)
    match BoolOp.And, t with
    | .And, false | .Or, true => pure v
    | _, _ => boolOp pos .And (evalEach (e' :: es) env)) _ _ _
  refine wpAny_bind (wv (h A env I s R S F) fun v s₁ I₁ σ₁ V t₁ S₁ v₁ ⟨b, hb, q₁⟩ => wpAny_bind (wpAny_standAt (wpAny_bind (wpAny_holding ?_))))
  subst hb; cases un_bool v₁
  refine wpAny_truthy_bool ?_
  cases b with
  | false => exact wpAny_pure ⟨I₁, σ₁, _, t₁, S₁, vr_bool, q₁⟩
  | true => exact wfrom (q₁ A env I₁ s₁ pos R S₁ (F.step0 t₁)) fun _ _ p => p.from t₁

noncomputable def isStar : Expr → Bool
  | .Starred .. => true
  | _ => false
theorem star_cons {e : Expr} {es : List Expr} {env : Env} (h : isStar e = false) : starEach (e :: es) env = (false, eval e env) :: starEach es env := by
  cases e <;> first | rfl | (cases h; done)
theorem wpl_nil {Q : List Val → Sto → Prop} (q : Q [] σ) : WpL cx k m σ [] Q := fun _ _ _ _ _ _ S _ => spliced_nil ⟨_, _, [], Tr.refl .., S, trivial, q⟩
theorem wpl_cons {e : Expr} {es : List Expr} {Q : List Val → Sto → Prop} (h : WpE cx k m σ e (kL1 cx k m es Q)) (he : isStar e = false := by rfl) : WpL cx k m σ (e :: es) Q := fun A env I s pos R S F => by
  rw [star_cons he]
  refine spliced_cons (wv (h A env I s R S F) fun v s₁ I₁ σ₁ V t₁ S₁ v₁ q₁ => wl (q₁ A env I₁ s₁ pos R S₁ (F.step0 t₁)) fun vs s₂ I₂ σ₂ Vs t₂ S₂ v₂ q₂ => ?_)
  exact ⟨I₂, σ₂, V :: Vs, t₁.trans t₂, S₂, ⟨v₁.mono t₂.le, v₂⟩, q₂⟩
theorem wpe_tuple {es : List Expr} {kk : Nat} {pos : Pos} (h : WpL cx k m σ es (kT Q)) : WpE cx k m σ (.Tuple es kk pos) Q := fun A env I s R S F =>
  Tuple_ (wl (h A env I s pos R S F) fun vs s₁ I₁ σ₁ Vs t₁ S₁ v₁ ⟨hl, q₁⟩ => wpAny_newTuple
    ⟨_, σ₁, .tup Vs, t₁.trans (Tr.pushI S₁ _ _), S₁.pushI _, vr_tup (Im.put_self ..) (v₁.mono (Im.le_put S₁.freshI)), q₁⟩ (by have := v₁.length; rw [sizeLine_eq]; omega))
theorem wpe_list {es : List Expr} {pos : Pos} (h : WpL cx k m σ es (kLs Q)) : WpE cx k m σ (.List es pos) Q := fun A env I s R S F =>
  List_ (wl (h A env I s pos R S F) fun vs s₁ I₁ σ₁ Vs t₁ S₁ v₁ ⟨hl, q₁⟩ => wpAny_newList
    ⟨_, σ₁, .lst Vs, t₁.trans (Tr.pushI S₁ _ _), S₁.pushI _, vr_lst (Im.put_self ..) (v₁.mono (Im.le_put S₁.freshI)), q₁⟩ (by have := v₁.length; rw [sizeLine_eq]; omega))
/-- a list that is to change -/
theorem wpe_listm {es : List Expr} {pos : Pos} (h : WpL cx k m σ es (kLm Q)) : WpE cx k m σ (.List es pos) Q := fun A env I s R S F =>
  List_ (wl (h A env I s pos R S F) fun vs s₁ I₁ σ₁ Vs t₁ S₁ v₁ ⟨hl, q₁⟩ => wpAny_newList
    ⟨I₁, σ₁.set s₁.heap.objs.size (.list Vs), .raw (.ref s₁.heap.objs.size), t₁.trans (Tr.pushS S₁ _ _ _), S₁.pushS _ _ ⟨vs, 0, rfl, v₁⟩, vr_raw, q₁ _ S₁.freshS⟩ (by have := v₁.length; rw [sizeLine_eq]; omega))

theorem wpe_attr {value : Expr} {attr : Str} {pos : Pos} (h : WpE cx k m σ value (kAt cx k attr Q)) (hb : ∀ env, attributeBase value attr env (eval value env) = eval value env := by intro env; rfl) :
    WpE cx k m σ (.Attribute value attr pos) Q := fun A env I s R S F => by
  refine Attribute_any_ (wv (h A env I s R S F) fun v s₁ I₁ σ₁ V t₁ S₁ v₁ q₁ => wfrom (q₁ A I₁ s₁ v R S₁ v₁) fun _ _ p => p.from t₁) ?_
  show (do let o ← attributeBase value attr env (eval value env); standAt pos.atName; let r ← holding [o] (getAttr o attr true); letTemporaryGo value o r; pure r) = _
  rw [hb]
noncomputable def WpSub (cx : Cx) (k : Nat) (slice : Expr) (V U : Val) (σ : Sto) (Q : Val → Sto → Prop) : Prop :=
  ∀ A I s v u value, Room A k → St cx I σ s → VR cx.w.params I v V → VR cx.w.params I u U → wpAny (Md cx) A (subscriptTail value slice v u) (Post cx I σ s Q) Bot s
@[reducible] noncomputable def kS2 (cx : Cx) (k : Nat) (sl : Expr) (V : Val) (Q : Val → Sto → Prop) : Val → Sto → Prop := fun U σ => WpSub cx k sl V U σ Q
@[reducible] noncomputable def kS1 (cx : Cx) (k : Nat) (m : Loc) (sl : Expr) (Q : Val → Sto → Prop) : Val → Sto → Prop := fun V σ => WpE cx k m σ sl (kS2 cx k sl V Q)
theorem wpe_sub {value slice : Expr} {pos : Pos} (h : WpE cx k m σ value (kS1 cx k m slice Q)) : WpE cx k m σ (.Subscript value slice pos) Q := fun A env I s R S F => by
  refine Subscript_ (wv (h A env I s R S F) fun v s₁ I₁ σ₁ V t₁ S₁ v₁ q₁ => wv (q₁ A env I₁ s₁ R S₁ (F.step0 t₁)) fun u s₂ I₂ σ₂ U t₂ S₂ v₂ q₂ => ?_)
  exact wfrom (q₂ A I₂ s₂ v u value R S₂ (v₁.mono t₂.le) v₂) fun _ _ p => p.from (t₁.trans t₂)
end

section
variable {cx : Cx} {k : Nat} {σ : Sto} {Q : Val → Sto → Prop}
theorem p_add {i j : Int} (q : Q (.int (i + j)) σ) : Wp2 cx k (binaryOp .Add) (.int i) (.int j) σ Q := fun A I s v u R S hv hu => by
  obtain ⟨t, rfl⟩ := un_int hv; obtain ⟨t', rfl⟩ := un_int hu
  exact PySem.P.add_int (Post.tok S vr_int q _)
theorem p_iadd {i j : Int} (q : Q (.int (i + j)) σ) : Wp2 cx k (inplaceOp .Add) (.int i) (.int j) σ Q := fun A I s v u R S hv hu => by
  obtain ⟨t, rfl⟩ := un_int hv; obtain ⟨t', rfl⟩ := un_int hu
  exact PySem.P.iadd_int (Post.tok S vr_int q _)
theorem p_isub {i j : Int} (q : Q (.int (i - j)) σ) : Wp2 cx k (inplaceOp .Sub) (.int i) (.int j) σ Q := fun A I s v u R S hv hu => by
  obtain ⟨t, rfl⟩ := un_int hv; obtain ⟨t', rfl⟩ := un_int hu
  exact PySem.P.isub_int (Post.tok S vr_int q _)
theorem p_sub {i j : Int} (q : Q (.int (i - j)) σ) : Wp2 cx k (binaryOp .Sub) (.int i) (.int j) σ Q := fun A I s v u R S hv hu => by
  obtain ⟨t, rfl⟩ := un_int hv; obtain ⟨t', rfl⟩ := un_int hu
  exact PySem.P.sub_int (Post.tok S vr_int q _)
theorem p_mul {i j : Int} (q : Q (.int (i * j)) σ) (hj : -(2 ^ 62) ≤ j ∧ j ≤ 2 ^ 62 := by decide) : Wp2 cx k (binaryOp .Mult) (.int i) (.int j) σ Q := fun A I s v u R S hv hu => by
  obtain ⟨t, rfl⟩ := un_int hv; obtain ⟨t', rfl⟩ := un_int hu
  exact PySem.P.mul_int (Post.tok S vr_int q _) (IntMulOk.of_right (intBits_le_64 (by omega) (by omega)))
theorem p_fdiv {i j : Int} (q : Q (.int (i / j)) σ) (hj : 0 < j ∧ j < 1073741824 := by decide) : Wp2 cx k (binaryOp .FloorDiv) (.int i) (.int j) σ Q := fun A I s v u R S hv hu => by
  obtain ⟨t, rfl⟩ := un_int hv; obtain ⟨t', rfl⟩ := un_int hu
  refine floordiv_int (by omega) ?_ (.inl (PyProof.noPylong_small (by omega)))
  rw [Int.fdiv_eq_ediv_of_nonneg _ (by omega)]
  exact Post.tok S vr_int q _
theorem p_mod {i j : Int} (q : Q (.int (i % j)) σ) (hj : 0 < j) : Wp2 cx k (binaryOp .Mod) (.int i) (.int j) σ Q := fun A I s v u R S hv hu => by
  obtain ⟨t, rfl⟩ := un_int hv; obtain ⟨t', rfl⟩ := un_int hu
  refine mod_int' (by omega) ?_
  rw [Int.fmod_eq_emod_of_nonneg _ (by omega)]
  exact Post.tok S vr_int q _
theorem p_neg {i : Int} (q : Q (.int (-i)) σ) : Wp1 cx k (unaryOp .USub) (.int i) σ Q := fun A I s v R S hv => by
  obtain ⟨t, rfl⟩ := un_int hv
  exact PySem.P.neg_int (Post.tok S vr_int q _)
theorem p_eq {i j : Int} (q : Q (.bool (decide (i = j))) σ) : Wp2 cx k (compareOp .Eq) (.int i) (.int j) σ Q := fun A I s v u R S hv hu => by
  obtain ⟨t, rfl⟩ := un_int hv; obtain ⟨t', rfl⟩ := un_int hu
  exact PySem.P.eq_int (by rw [show (i == j) = decide (i = j) from rfl]; exact Post.now S vr_bool q)
theorem p_ne {i j : Int} (q : Q (.bool (!decide (i = j))) σ) : Wp2 cx k (compareOp .NotEq) (.int i) (.int j) σ Q := fun A I s v u R S hv hu => by
  obtain ⟨t, rfl⟩ := un_int hv; obtain ⟨t', rfl⟩ := un_int hu
  exact PySem.P.ne_int (by rw [show (i != j) = !decide (i = j) from rfl]; exact Post.now S vr_bool q)
theorem p_lt {i j : Int} (q : Q (.bool (decide (i < j))) σ) : Wp2 cx k (compareOp .Lt) (.int i) (.int j) σ Q := fun A I s v u R S hv hu => by
  obtain ⟨t, rfl⟩ := un_int hv; obtain ⟨t', rfl⟩ := un_int hu
  exact PySem.P.lt_int (Post.now S vr_bool q)
theorem p_le {i j : Int} (q : Q (.bool (decide (i ≤ j))) σ) : Wp2 cx k (compareOp .LtE) (.int i) (.int j) σ Q := fun A I s v u R S hv hu => by
  obtain ⟨t, rfl⟩ := un_int hv; obtain ⟨t', rfl⟩ := un_int hu
  exact PySem.P.le_int (Post.now S vr_bool q)
theorem p_gt {i j : Int} (q : Q (.bool (decide (j < i))) σ) : Wp2 cx k (compareOp .Gt) (.int i) (.int j) σ Q := fun A I s v u R S hv hu => by
  obtain ⟨t, rfl⟩ := un_int hv; obtain ⟨t', rfl⟩ := un_int hu
  exact PySem.P.gt_int (Post.now S vr_bool q)
theorem p_eqs {x y : Str} (q : Q (.bool (decide (x = y))) σ) : Wp2 cx k (compareOp .Eq) (.str x) (.str y) σ Q := fun A I s v u R S hv hu => by
  obtain ⟨t, rfl⟩ := un_str hv; obtain ⟨t', rfl⟩ := un_str hu
  refine PySem.P.eq_str ?_
  have e : (x.cps.toList == y.cps.toList) = decide (x = y) := by
    obtain ⟨⟨x⟩⟩ := x; obtain ⟨⟨y⟩⟩ := y
    rw [Bool.eq_iff_iff]; simp
  rw [e]; exact Post.now S vr_bool q
theorem p_nes {x y : Str} (q : Q (.bool (!decide (x = y))) σ) : Wp2 cx k (compareOp .NotEq) (.str x) (.str y) σ Q := fun A I s v u R S hv hu => by
  obtain ⟨t, rfl⟩ := un_str hv; obtain ⟨t', rfl⟩ := un_str hu
  refine PySem.P.ne_str ?_
  have e : (x.cps.toList != y.cps.toList) = !decide (x = y) := by
    obtain ⟨⟨x⟩⟩ := x; obtain ⟨⟨y⟩⟩ := y
    rw [Bool.eq_iff_iff]; simp
  rw [e]; exact Post.now S vr_bool q

theorem p_addb {b c : Array UInt8} (q : Q (.bytes (b ++ c)) σ) (hz : b.size + c.size ≤ 1000 := by decide) : Wp2 cx k (binaryOp .Add) (.bytes b) (.bytes c) σ Q := fun A I s v u R S hv hu => by
  obtain ⟨t, rfl⟩ := un_bytes hv; obtain ⟨t', rfl⟩ := un_bytes hu
  exact KBy.add_bytes (by omega) fun t' n => Post.tok S vr_bytes q _
theorem gives_bytes_in (b : Array UInt8) (t : Tok) (i : Int) (u : Tok) (h0 : 0 ≤ i) (h1 : i < 256) : Gives (Builtin.«bytes.__contains__» ⟨[.bytes b t, .int i u], []⟩) (.val (.bool (b.contains i.toNat.toUInt8))) :=
  .of_wp fun M A E s Q h => by
    have hb : ∀ id : String, Builtin.Bytes.buffer? id (.bytes b t) = pure (some b) := fun id => KBy.buffer_eq
    have hi : (asIndex (.int i u)).attempt = pure (.ok i) := rfl
    show wpAny _ _ (Builtin.Bytes.containsIn "bytes.__contains__" (.bytes b t) (.int i u) >>= fun r => ret (.bool r)) _ _ _
    unfold Builtin.Bytes.containsIn
    rw [hi, hb]
    have hn : ¬ ((decide (i < 0) || decide (i ≥ 256)) = true) := by simp; omega
    refine wpAny_bind ?_
    show wpAny _ _ (if (decide (i < 0) || decide (i ≥ 256)) = true then _ else _) _ _ _
    rw [if_neg hn]
    exact wpAny_pure (wpAny_pure ⟨_, rfl, h⟩)
theorem p_inb {b : Array UInt8} {i : Int} (q : Q (.bool (b.contains i.toNat.toUInt8)) σ) (h0 : 0 ≤ i) (h1 : i < 256) : Wp2 cx k (compareOp .In) (.int i) (.bytes b) σ Q := fun A I s v u R S hv hu => by
  obtain ⟨t, rfl⟩ := un_int hv; obtain ⟨t', rfl⟩ := un_bytes hu
  exact in_gives (typeIs_bytes s b t') FB.slot_bytes_contains FB.entry_bytes_contains (FB.args_bytes_contains_2 _ _) (gives_bytes_in b t' i t h0 h1) (Post.now S vr_bool q)
theorem sub_by (sl : Expr) (h : ∀ o i, subscripted sl false o i = operate [o, i] (getItem o i)) {b : Array UInt8} {i : Int} (h0 : 0 ≤ i) (h1 : i < b.size) (hz : b.size ≤ 1000) (q : Q (.int ((b.toList.getD i.toNat 0).toNat : Int)) σ) : WpSub cx k sl (.bytes b) (.int i) σ Q :=
  fun A I s v u value R S hv hu => by
    obtain ⟨t, rfl⟩ := un_bytes hv; obtain ⟨t', rfl⟩ := un_int hu
    obtain ⟨l⟩ := b
    have h1 : i < (l.length : Int) := h1
    have hz : l.length ≤ 1000 := hz
    exact tail_any (typeIs_bytes s _ t) FB.slot_bytes_getitem.lookup (getItem_bytes (by omega) h0 h1 (Post.tok S vr_int q _)) (h _ _)

theorem p_is_none_none (q : Q (.bool true) σ) : Wp2 cx k (compareOp .Is) .none .none σ Q := fun A I s v u R S hv hu => by
  cases un_none hv; cases un_none hu
  exact wpAny_is_self (by rfl) (Post.now S vr_bool q)

mutual
noncomputable def vd : PyData → Val
  | .none => .none
  | .bool b => .bool b
  | .int i => .int i
  | .str x => .str x
  | .list xs => .lst (vds xs)
  | .tuple xs => .tup (vds xs)
  | .dict _ => .unbound
noncomputable def vds : List PyData → List Val
  | [] => []
  | x :: xs => vd x :: vds xs
end
mutual
theorem reads_vd {P : Params} {I : Im} {h : Heap} (sub : ∀ a o, I a = some o → h.get? a = some o) : ∀ (d : PyData) {v : Value}, VR P I v (vd d) → ∃ as, PySem.Reads h v d as
  | .none, _, x => by rw [vd] at x; cases un_none x; exact ⟨_, .none⟩
  | .bool b, _, x => by rw [vd] at x; cases un_bool x; exact ⟨_, .bool b⟩
  | .int i, _, x => by rw [vd] at x; obtain ⟨t, rfl⟩ := un_int x; exact ⟨_, .int i t⟩
  | .str y, _, x => by rw [vd] at x; obtain ⟨t, rfl⟩ := un_str x; exact ⟨_, .str y t⟩
  | .list xs, _, x => by
    rw [vd] at x
    obtain ⟨a, vs, n, rfl, ha, r⟩ := un_lst x
    obtain ⟨as, q⟩ := reads_vds sub xs r
    exact ⟨_, .list (sub _ _ ha) rfl rfl (by simpa using q)⟩
  | .tuple xs, _, x => by
    rw [vd] at x
    obtain ⟨a, vs, n, rfl, ha, r⟩ := un_tup x
    obtain ⟨as, q⟩ := reads_vds sub xs r
    exact ⟨_, .tuple (sub _ _ ha) rfl rfl (by simpa using q)⟩
  | .dict _, _, x => by rw [vd] at x; unfold VR at x; exact x.elim
theorem reads_vds {P : Params} {I : Im} {h : Heap} (sub : ∀ a o, I a = some o → h.get? a = some o) : ∀ (ds : List PyData) {vs : List Value}, VRs P I vs (vds ds) → ∃ as, PySem.ReadsAll h vs ds as
  | [], [], _ => ⟨_, .nil⟩
  | [], _ :: _, x => by rw [vds] at x; exact x.elim
  | d :: ds, [], x => by rw [vds] at x; exact x.elim
  | d :: ds, v :: vs, x => by
    rw [vds] at x
    obtain ⟨as, p⟩ := reads_vd sub d x.1
    obtain ⟨bs, q⟩ := reads_vds sub ds x.2
    exact ⟨_, .cons p q⟩
end
/-- what V stands for as plain data -/
noncomputable def Dt (σ : Sto) (V : Val) (d : PyData) : Prop := V = vd d ∨ ∃ a ds, V = .raw (.ref a) ∧ σ a = some (.list (vds ds)) ∧ d = .list ds
theorem Dt.reads {I : Im} {s : Shared} {V : Val} {d : PyData} {v : Value} (S : St cx I σ s) (h : Dt σ V d) (hv : VR cx.w.params I v V) : ∃ as, PySem.Reads s.heap v d as := by
  rcases h with rfl | ⟨a, ds, rfl, ha, rfl⟩
  · exact reads_vd S.sub d hv
  · cases un_raw hv
    obtain ⟨o, ho, vs, n, rfl, r⟩ := S.cell a _ ha
    obtain ⟨as, q⟩ := reads_vds S.sub ds r
    exact ⟨_, .list ho rfl rfl (by simpa using q)⟩
theorem p_eqd {V U : Val} {d e : PyData} (hV : Dt σ V d) (hU : Dt σ U e) (sd : SeqAt.shaped d = true) (se : SeqAt.shaped e = true) (q : Q (.bool (PyData.eqv d e)) σ) : Wp2 cx k (compareOp .Eq) V U σ Q := fun A I s v u R S hv hu => by
  obtain ⟨as, ra⟩ := hV.reads S hv
  obtain ⟨bs, rb⟩ := hU.reads S hu
  exact eq_dataH ra rb sd se R.line (Post.now S vr_bool q)
theorem p_ned {V U : Val} {d e : PyData} (hV : Dt σ V d) (hU : Dt σ U e) (sd : SeqAt.shaped d = true) (se : SeqAt.shaped e = true) (q : Q (.bool (!PyData.eqv d e)) σ) : Wp2 cx k (compareOp .NotEq) V U σ Q := fun A I s v u R S hv hu => by
  obtain ⟨as, ra⟩ := hV.reads S hv
  obtain ⟨bs, rb⟩ := hU.reads S hu
  exact ne_dataH ra rb sd se R.line (Post.now S vr_bool q)
theorem any_ints (i : Int) : ∀ l : List Int, ((l.map PyData.int).any fun y => PyData.eqv y (.int i)) = decide (i ∈ l)
  | [] => by simp
  | x :: l => by
    have e : PyData.eqv (.int x) (.int i) = (x == i) := rfl
    rw [List.map_cons, List.any_cons, any_ints i l, e]
    by_cases hx : x = i
    · subst hx; simp
    · have h1 : (x == i) = false := beq_eq_false_iff_ne.mpr hx
      have h2 : i ≠ x := fun h => hx h.symm
      simp [h1, h2]
theorem vds_ints : ∀ l : List Int, vds (l.map PyData.int) = l.map Val.int
  | [] => rfl
  | x :: l => by rw [List.map_cons, vds, vds_ints l]; rfl
theorem canLay_ints : ∀ l : List Int, PyData.canLayAll0 (l.map PyData.int) = true
  | [] => rfl
  | x :: l => by rw [List.map_cons, PyData.canLayAll0, canLay_ints l]; rfl
theorem depth_ints : ∀ l : List Int, PyData.depthAll (l.map PyData.int) ≤ 1
  | [] => by simp [PyData.depthAll]
  | x :: l => by rw [List.map_cons, PyData.depthAll]; have := depth_ints l; simp [PyData.depth]; omega
theorem p_in {i : Int} {l : List Int} (q : Q (.bool (decide (i ∈ l))) σ) : Wp2 cx k (compareOp .In) (.int i) (.tup (l.map .int)) σ Q := fun A I s v u R S hv hu => by
  obtain ⟨t, rfl⟩ := un_int hv
  obtain ⟨as, ra⟩ := reads_vd S.sub (.tuple (l.map .int)) (by rw [vd, vds_ints]; exact hu)
  refine SeqAt.in_tuple_reads ra (.int i t) (canLay_ints l) rfl ?_ (by rw [any_ints]; exact Post.now S vr_bool q)
  have := R.line; have := depth_ints l; omega
theorem p_notin {i : Int} {l : List Int} (q : Q (.bool (!decide (i ∈ l))) σ) : Wp2 cx k (compareOp .NotIn) (.int i) (.tup (l.map .int)) σ Q := fun A I s v u R S hv hu => by
  obtain ⟨t, rfl⟩ := un_int hv
  obtain ⟨as, ra⟩ := reads_vd S.sub (.tuple (l.map .int)) (by rw [vd, vds_ints]; exact hu)
  refine SeqAt.notIn_tuple_reads ra (.int i t) (canLay_ints l) rfl ?_ (by rw [any_ints]; exact Post.now S vr_bool q)
  have := R.line; have := depth_ints l; omega

/-- V is a list or a tuple that holds Vs -/
noncomputable def Sq (σ : Sto) (V : Val) (Vs : List Val) : Prop := V = .lst Vs ∨ V = .tup Vs ∨ ∃ a, V = .raw (.ref a) ∧ σ a = some (.list Vs)
theorem Sq.lst {Vs : List Val} : Sq σ (.lst Vs) Vs := .inl rfl
theorem Sq.tup {Vs : List Val} : Sq σ (.tup Vs) Vs := .inr (.inl rfl)
theorem Sq.mut {Vs : List Val} {a : Addr} (h : σ a = some (.list Vs)) : Sq σ (.raw (.ref a)) Vs := .inr (.inr ⟨a, rfl, h⟩)
theorem Sq.open {I : Im} {s : Shared} {V : Val} {Vs : List Val} {v : Value} (S : St cx I σ s) (h : Sq σ V Vs) (hv : VR cx.w.params I v V) :
    ∃ a vs n, v = .ref a ∧ (s.heap.get? a = some (listOf (List.toArray vs) n) ∨ s.heap.get? a = some (tupOf (List.toArray vs) n)) ∧ VRs cx.w.params I vs Vs := by
  rcases h with rfl | rfl | ⟨a, rfl, ha⟩
  · obtain ⟨a, vs, n, rfl, h1, r⟩ := un_lst hv; exact ⟨a, vs, n, rfl, .inl (S.sub _ _ h1), r⟩
  · obtain ⟨a, vs, n, rfl, h1, r⟩ := un_tup hv; exact ⟨a, vs, n, rfl, .inr (S.sub _ _ h1), r⟩
  · cases un_raw hv
    obtain ⟨o, ho, vs, n, rfl, r⟩ := S.cell a _ ha
    exact ⟨a, vs, n, rfl, .inl ho, r⟩
noncomputable def plainSl (sl : Expr) : Prop := ∀ o i, subscripted sl false o i = operate [o, i] (getItem o i)
theorem sub_at {sl : Expr} {V W : Val} {Vs : List Val} {i : Int} (hs : Sq σ V Vs) (h0 : 0 ≤ i) (h1 : i < 2 ^ 62) (hw : Vs[i.toNat]? = some W) (q : Q W σ) (h : plainSl sl := by intro _ _; rfl) : WpSub cx k sl V (.int i) σ Q :=
  fun A I s v u value R S hv hu => by
    obtain ⟨t', rfl⟩ := un_int hu
    obtain ⟨a, vs, n, rfl, ha, r⟩ := hs.open S hv
    obtain ⟨w, hw', rw'⟩ := r.get hw
    have p : Post cx I σ s Q w s := Post.now S rw' q
    have hlt : i.toNat < vs.length := (List.getElem?_eq_some_iff.mp hw').1
    rcases ha with ha | ha
    · have hl : s.heap.IsList a (List.toArray vs) := ⟨_, ha, rfl, n, rfl⟩
      exact tail_any hl.typeIs slot_list_getitem.lookup (wpAny_getItem_list hl h0 (by omega) (by simpa using hw') p) (h _ _)
    · have ht : IsTup s.heap a (List.toArray vs) := ⟨_, ha, rfl, n, rfl⟩
      refine item_tupleT (j := i.toNat) ht (by omega) (by omega) ?_ hw' p (h _ _)
      unfold seqIndex?
      rw [if_neg (by omega : ¬ i < 0), if_pos (by simp; omega)]
theorem sub_last {sl : Expr} {V W : Val} {Vs : List Val} (hs : Sq σ V (Vs ++ [W])) (hl : Vs.length < 1000000) (q : Q W σ) (h : plainSl sl := by intro _ _; rfl) : WpSub cx k sl V (.int (-1)) σ Q :=
  fun A I s v u value R S hv hu => by
    obtain ⟨t', rfl⟩ := un_int hu
    obtain ⟨a, vs, n, rfl, ha, r⟩ := hs.open S hv
    have hlen := r.length
    rw [List.length_append, List.length_singleton] at hlen
    obtain ⟨w, hw', rw'⟩ := r.get (k := Vs.length) (V := W) (by simp)
    have p : Post cx I σ s Q w s := Post.now S rw' q
    have e : ((-1 : Int) + (vs.length : Int)).toNat = Vs.length := by omega
    rcases ha with ha | ha
    · have hl' : s.heap.IsList a (List.toArray vs) := ⟨_, ha, rfl, n, rfl⟩
      exact tail_any hl'.typeIs slot_list_getitem.lookup (wpAny_getItem_list_neg hl' (by decide) (by simp; omega) (by decide) (by simp only [List.size_toArray, e]; simpa using hw') p) (h _ _)
    · have ht : IsTup s.heap a (List.toArray vs) := ⟨_, ha, rfl, n, rfl⟩
      refine item_tupleT (j := Vs.length) ht (by decide) (by decide) ?_ hw' p (h _ _)
      unfold seqIndex?
      rw [if_pos (by decide : (-1 : Int) < 0), if_pos (by simp; omega), e]

theorem p_addl {V U : Val} {Vs Us : List Val} (hV : Sq σ V Vs) (hU : Sq σ U Us) (tV : ∀ Ws, V ≠ .tup Ws) (tU : ∀ Ws, U ≠ .tup Ws) (hz : Vs.length + Us.length ≤ 1000) (q : Q (.lst (Vs ++ Us)) σ) : Wp2 cx k (binaryOp .Add) V U σ Q := fun A I s v u R S hv hu => by
  have go : ∀ {V : Val} {Vs : List Val} {v : Value}, Sq σ V Vs → (∀ Ws, V ≠ .tup Ws) → VR cx.w.params I v V → ∃ a vs n, v = .ref a ∧ s.heap.get? a = some (listOf (List.toArray vs) n) ∧ VRs cx.w.params I vs Vs := by
    intro V Vs v h nt hv
    rcases h with rfl | rfl | ⟨a, rfl, ha⟩
    · obtain ⟨a, vs, n, rfl, h1, r⟩ := un_lst hv; exact ⟨a, vs, n, rfl, S.sub _ _ h1, r⟩
    · exact absurd rfl (nt _)
    · cases un_raw hv
      obtain ⟨o, ho, vs, n, rfl, r⟩ := S.cell a _ ha
      exact ⟨a, vs, n, rfl, ho, r⟩
  obtain ⟨a, vs, n, rfl, ha, r⟩ := go hV tV hv
  obtain ⟨b, us, n', rfl, hb, r'⟩ := go hU tU hu
  have e : (List.toArray vs) ++ (List.toArray us) = List.toArray (vs ++ us) := by simp
  have l1 := r.length
  have l2 := r'.length
  refine PySem.P.add_list ha hb ?_ (by rw [sizeLine_eq, List.size_toArray, List.size_toArray]; omega)
  rw [e]
  exact ⟨_, σ, _, Tr.pushI S _ _, S.pushI _, vr_lst (Im.put_self ..) ((r.append r').mono (Im.le_put S.freshI)), q⟩
theorem VRs.rep {P : Params} {I : Im} {v : Value} {V : Val} (h : VR P I v V) : ∀ n : Nat, VRs P I (List.replicate n v) (List.replicate n V)
  | 0 => trivial
  | n + 1 => ⟨h, VRs.rep h n⟩
theorem rep_flat {α : Type} (x : α) : ∀ n : Nat, (List.replicate n [x]).flatten = List.replicate n x
  | 0 => rfl
  | n + 1 => by rw [List.replicate_succ, List.flatten_cons, rep_flat x n]; rfl
theorem p_mull {W : Val} {i : Int} (h0 : 0 ≤ i) (h1 : i ≤ 1000) (q : Q (.lst (List.replicate i.toNat W)) σ) : Wp2 cx k (binaryOp .Mult) (.lst [W]) (.int i) σ Q := fun A I s v u R S hv hu => by
  obtain ⟨t, rfl⟩ := un_int hu
  obtain ⟨a, vs, n, rfl, ha, r⟩ := un_lst hv
  obtain ⟨w, rfl⟩ : ∃ w, vs = [w] := by
    exact List.length_eq_one_iff.mp r.length
  have ho := S.sub _ _ ha
  refine wpAny_binaryOp_repeat_ref (T := "list") (U := "int") (by decide) ⟨_, ho, rfl⟩ (fun s' => typeIs_int s' i t) noFill_list_mul F.fills_int_mul F.slot_int_rmul repeat_list F.slot_int_index.lookup
    (call_meets F.slot_int_rmul (typeIs_int s i t) F.entry_int_rmul (F.args_int_rmul_2 _ _) (lm_int_rmul_list_any i t a (List.toArray [w]) n none #[])
      ⟨ho, rfl, ⟨_, ho, rfl⟩, call_meets F.slot_list_mul ⟨_, ho, rfl⟩ F.entry_list_mul (F.args_list_mul_2 _ _)
        (lm_list_mul_any a (List.toArray [w]) n none #[] i t (by simp [Builtin.List.listFitsIndex]; omega) (by simp; omega) (by simp [Builtin.List.listTooLong, sizeLine]; omega))
        ⟨ho, ?_⟩⟩)
  rw [listMul_foldl_if, rep_flat]
  exact ⟨_, σ, _, Tr.pushI S _ _, S.pushI _, vr_lst (Im.put_self ..) ((VRs.rep r.1 _).mono (Im.le_put S.freshI)), q⟩
end
open AutoSeq1 (wpAny_loadPart')
section
variable {prog : Program} {w : World} {A : Around} {E : Value → Shared → Prop} {Q : Value → Shared → Prop} {hp : Heap} {g : Array GenState} {d : Drawn} {tk : Nat} {os : OsState}
theorem lt2_body (a b : Addr) (n n2 : Nat) (x1 x2 y1 y2 : Int) (t1 t2 u1 u2 : Tok) 
    (ha : hp.get? a = some (tupOf #[.int x1 t1, .int x2 t2] n)) (hb : hp.get? b = some (tupOf #[.int y1 u1, .int y2 u2] n2)) (q : Q (.bool (decide (x1 < y1 ∨ (x1 = y1 ∧ x2 < y2)))) ⟨hp, g, d, tk, os⟩) :
    wpAny (model prog w) A (Builtin.«tuple.__lt__» ⟨[.ref a, .ref b], []⟩) (fun fin s' => ∃ v, fin = .done (.ret v) ∧ Q v s') E ⟨hp, g, d, tk, os⟩ := by
  have f2 := AutoSeq1.sub_tuple_tuple
  wp_walk using wpAny_loadPart' ha, wpAny_loadPart' hb, wpAny_eqBool_int
  by_cases h1 : x1 = y1
  · subst h1
    simp only [beq_self_eq_true, Bool.not_true, Bool.false_eq_true, if_false]
    wp_walk using wpAny_loadPart' ha, wpAny_loadPart' hb, wpAny_eqBool_int
    by_cases h2 : x2 = y2
    · subst h2
      simp only [beq_self_eq_true, Bool.not_true, Bool.false_eq_true, if_false]
      wp_walk
      refine ⟨_, rfl, ?_⟩
      show Q (Value.bool false) _
      simpa using q
    · have e : (x2 == y2) = false := beq_eq_false_iff_ne.mpr h2
      simp only [e, Bool.not_false, if_true]
      refine wpAny_bind (wpAny_rule (wpAny_bind (PySem.P.lt_int (wpAny_bind (wpAny_pure (wpAny_pure ?_))))))
      wp_walk
      refine ⟨_, rfl, ?_⟩
      simpa using q
  · have e : (x1 == y1) = false := beq_eq_false_iff_ne.mpr h1
    simp only [e, Bool.not_false, if_true]
    refine wpAny_bind (wpAny_rule (wpAny_bind (PySem.P.lt_int (wpAny_bind (wpAny_pure (wpAny_pure ?_))))))
    wp_walk
    refine ⟨_, rfl, ?_⟩
    simpa [h1] using q
theorem ge2_body (a b : Addr) (n n2 : Nat) (x1 x2 y1 y2 : Int) (t1 t2 u1 u2 : Tok) 
    (ha : hp.get? a = some (tupOf #[.int x1 t1, .int x2 t2] n)) (hb : hp.get? b = some (tupOf #[.int y1 u1, .int y2 u2] n2)) (q : Q (.bool (!decide (x1 < y1 ∨ (x1 = y1 ∧ x2 < y2)))) ⟨hp, g, d, tk, os⟩) :
    wpAny (model prog w) A (Builtin.«tuple.__ge__» ⟨[.ref a, .ref b], []⟩) (fun fin s' => ∃ v, fin = .done (.ret v) ∧ Q v s') E ⟨hp, g, d, tk, os⟩ := by
  have f2 := AutoSeq1.sub_tuple_tuple
  wp_walk using wpAny_loadPart' ha, wpAny_loadPart' hb, wpAny_eqBool_int
  by_cases h1 : x1 = y1
  · subst h1
    simp only [beq_self_eq_true, Bool.not_true, Bool.false_eq_true, if_false]
    wp_walk using wpAny_loadPart' ha, wpAny_loadPart' hb, wpAny_eqBool_int
    by_cases h2 : x2 = y2
    · subst h2
      simp only [beq_self_eq_true, Bool.not_true, Bool.false_eq_true, if_false]
      wp_walk
      refine ⟨_, rfl, ?_⟩
      show Q (Value.bool true) _
      simpa using q
    · have e : (x2 == y2) = false := beq_eq_false_iff_ne.mpr h2
      simp only [e, Bool.not_false, if_true]
      refine wpAny_bind (wpAny_rule (wpAny_bind (PySem.P.ge_int (wpAny_bind (wpAny_pure (wpAny_pure ?_))))))
      wp_walk
      refine ⟨_, rfl, ?_⟩
      rw [show decide (x2 ≥ y2) = !decide (x1 < x1 ∨ (x1 = x1 ∧ x2 < y2)) from by by_cases z : x2 < y2 <;> simp [z] <;> omega]; exact q
  · have e : (x1 == y1) = false := beq_eq_false_iff_ne.mpr h1
    simp only [e, Bool.not_false, if_true]
    refine wpAny_bind (wpAny_rule (wpAny_bind (PySem.P.ge_int (wpAny_bind (wpAny_pure (wpAny_pure ?_))))))
    wp_walk
    refine ⟨_, rfl, ?_⟩
    rw [show decide (x1 ≥ y1) = !decide (x1 < y1 ∨ (x1 = y1 ∧ x2 < y2)) from by by_cases z : x1 < y1 <;> simp [z, h1] <;> omega]; exact q
theorem slot_bytes_find : Slot "bytes" "find" "bytes.find" :=
  .of (owner := "bytes") (n := "find") (by rw [typeLookup_type, builtinLookup_eq_fast]; kernel_rfl) (by decide +kernel) (by decide +kernel) (by decide +kernel)
    (by first | exact .inl (by decide +kernel) | exact .inr (by decide +kernel)) (by rw [isSubtype_type]; kernel_rfl)
theorem type_bytes_find : typeOf (.builtin "bytes.find") = pure (.type "method_descriptor") := by show builtinType _ = _; rw [builtinType_eq_fast]; kernel_rfl
theorem entry_bytes_find : entryFor table "bytes.find" = some Builtin.«bytes.find» := entryFor_of_tree (by kernel_rfl)
theorem args_bytes_find_2 (a b : Value) : argsOk "bytes.find" ⟨[a, b], []⟩ := by unfold argsOk; kernel_rfl
theorem int_nobuf : typeLookup (.type "int") "__buffer__" = pure none := by rw [typeLookup_type, builtinLookup_eq_fast]; kernel_rfl
theorem int_buf {id : String} {i : Int} {u : Tok} : Builtin.Bytes.buffer? id (.int i u) = pure none := by
  have e : specialOf (.int i u) "__buffer__" = pure none := by
    have e : specialOf (.int i u) "__buffer__" = typeLookup (.type "int") "__buffer__" := rfl
    rw [e, int_nobuf]
  unfold Builtin.Bytes.buffer?
  rw [e]
  rfl
theorem int_idx {i : Int} {u : Tok} : specialOf (.int i u) "__index__" = pure (some (.builtin "int.__index__")) := by
    have e : specialOf (.int i u) "__index__" = typeLookup (.type "int") "__index__" := rfl
    rw [e, AutoSeq1.idx_int]
noncomputable def findAt (b : Array UInt8) (i : Int) : Int := match Builtin.Bytes.find? b #[i.toNat.toUInt8] 0 b.size with
  | some j => j
  | none => -1
theorem search_find (b : Array UInt8) (t u : Tok) (i : Int) (h0 : 0 ≤ i) (h1 : i < 256) (hb : 1 ≤ b.size) :
    Builtin.Bytes.searchArgs .bytes "find" ⟨[.bytes b t, .int i u], []⟩ = pure (b, #[i.toNat.toUInt8], some (0, b.size)) := by
  have hn : ¬ ((decide (i < 0) || decide (i ≥ 256)) = true) := by simp; omega
  have e1 : ∀ id, selfAndSome id "find" 1 3 ⟨[.bytes b t, .int i u], []⟩ = pure (.bytes b t, [.int i u]) := fun _ => rfl
  have e2 : Builtin.Bytes.indexHeld [.bytes b t] (.int i u) = pure i := rfl
  have e3 : Builtin.Bytes.payload (.bytes b t) = pure b := rfl
  have e4 : Builtin.Bytes.bound? none = pure none := rfl
  unfold Builtin.Bytes.searchArgs
  simp only [e1, pure_bind, List.getElem?_cons_succ, List.getElem?_nil, e4, List.headD_cons, int_buf, int_idx, Option.isNone_some, Bool.false_eq_true, if_false, e2, e3]
  rw [if_neg hn]
  have w : Builtin.Bytes.window b.size none none = (0, (b.size : Int)) := by
    unfold Builtin.Bytes.window
    simp
    omega
  simp only [w]
  rw [if_neg (by show ¬ ((b.size : Int) - 0 < ((#[i.toNat.toUInt8] : Array UInt8).size : Int)); simp; omega)]
  rfl
theorem gives_bytes_find (b : Array UInt8) (t u : Tok) (i : Int) (h0 : 0 ≤ i) (h1 : i < 256) (hb : 1 ≤ b.size) : Gives (Builtin.«bytes.find» ⟨[.bytes b t, .int i u], []⟩) (.int (findAt b i)) :=
  .of_wp fun M A E s Q h => by
    unfold Builtin.«bytes.find» Builtin.Bytes.searchM
    simp only [search_find b t u i h0 h1 hb, pure_bind, Option.bind_some, Bool.false_eq_true, if_false]
    unfold findAt at h
    split
    · rename_i j hj
      rw [hj] at h
      exact wpAny_bind (wpAny_mkInt (wpAny_pure ⟨_, rfl, h⟩))
    · rename_i hj
      rw [hj] at h
      exact wpAny_bind (wpAny_rule (wpAny_bind (wpAny_mkInt (wpAny_pure ⟨_, rfl, h⟩))))
end
section
variable {cx : Cx} {k : Nat} {σ : Sto} {Q : Val → Sto → Prop}
noncomputable def pl (p : Int × Int) : Val := .tup [.int p.1, .int p.2]
noncomputable def ltP (p q : Int × Int) : Bool := decide (p.1 < q.1 ∨ (p.1 = q.1 ∧ p.2 < q.2))
theorem un_pl {P : Params} {I : Im} {v : Value} {p : Int × Int} (h : VR P I v (pl p)) : ∃ a n t u, v = .ref a ∧ I a = some (tupOf #[.int p.1 t, .int p.2 u] n) := by
  obtain ⟨a, vs, n, rfl, ha, r⟩ := un_tup h
  obtain ⟨x, vs, rfl, h1, r⟩ := r.cons_inv
  obtain ⟨y, vs, rfl, h2, r⟩ := r.cons_inv
  obtain rfl := r.nil_inv
  obtain ⟨t, rfl⟩ := un_int h1
  obtain ⟨u, rfl⟩ := un_int h2
  exact ⟨a, n, t, u, rfl, ha⟩
theorem p_ltp {p q : Int × Int} (hq : Q (.bool (ltP p q)) σ) : Wp2 cx k (compareOp .Lt) (pl p) (pl q) σ Q := fun A I s v u R S hv hu => by
  obtain ⟨a, n, t1, t2, rfl, ha⟩ := un_pl hv
  obtain ⟨b, n', u1, u2, rfl, hb⟩ := un_pl hu
  have hT : s.TypeIs (.ref a) "tuple" := ⟨_, S.sub _ _ ha, rfl⟩
  have hT' : s.TypeIs (.ref b) "tuple" := ⟨_, S.sub _ _ hb, rfl⟩
  have hu' : A.units < cLine := by have := R.line; omega
  show wpAny _ _ (richCompare .Lt (.ref a) (.ref b)) _ _ _
  refine wpAny_richCompare_same_room (op := .Lt) hT hT' F.slot_tuple_lt ?_ hu'
  refine wpAny_call_entry F.slot_tuple_lt hT F.entry_tuple_lt ?_ (F.args_tuple_lt_2 _ _)
  obtain ⟨hp, g, d, tk, os⟩ := s
  have ha' := S.sub _ _ ha
  have hb' := S.sub _ _ hb
  have hp' := Post.now S vr_bool hq
  exact lt2_body (Q := fun v s' => v ≠ .notImplemented ∧ Post cx I σ _ Q v s') a b n n' p.1 p.2 q.1 q.2 t1 t2 u1 u2 ha' hb' (And.intro (by simp) hp')
theorem p_gep {p q : Int × Int} (hq : Q (.bool (!ltP p q)) σ) : Wp2 cx k (compareOp .GtE) (pl p) (pl q) σ Q := fun A I s v u R S hv hu => by
  obtain ⟨a, n, t1, t2, rfl, ha⟩ := un_pl hv
  obtain ⟨b, n', u1, u2, rfl, hb⟩ := un_pl hu
  have hT : s.TypeIs (.ref a) "tuple" := ⟨_, S.sub _ _ ha, rfl⟩
  have hT' : s.TypeIs (.ref b) "tuple" := ⟨_, S.sub _ _ hb, rfl⟩
  have hu' : A.units < cLine := by have := R.line; omega
  show wpAny _ _ (richCompare .GtE (.ref a) (.ref b)) _ _ _
  refine wpAny_richCompare_same_room (op := .GtE) hT hT' F.slot_tuple_ge ?_ hu'
  refine wpAny_call_entry F.slot_tuple_ge hT F.entry_tuple_ge ?_ (F.args_tuple_ge_2 _ _)
  obtain ⟨hp, g, d, tk, os⟩ := s
  have ha' := S.sub _ _ ha
  have hb' := S.sub _ _ hb
  have hp' := Post.now S vr_bool hq
  exact ge2_body (Q := fun v s' => v ≠ .notImplemented ∧ Post cx I σ _ Q v s') a b n n' p.1 p.2 q.1 q.2 t1 t2 u1 u2 ha' hb' (And.intro (by simp) hp')

theorem Post.grow {I : Im} {s : Shared} {v : Value} {V : Val} (S : St cx I σ s) {h' : Heap} (kp : ∀ b o, s.heap.get? b = some o → h'.get? b = some o) (t : Nat) (vr : VR cx.w.params I v V) (q : Q V σ) : Post cx I σ s Q v { s with heap := h', toks := t } :=
  ⟨I, σ, V, Tr.grow kp t _, S.grow kp t, vr, q⟩
theorem one_arg {P : Params} {I : Im} {vs : List Value} {V : Val} (h : VRs P I vs [V]) : ∃ v, vs = [v] ∧ VR P I v V := by
  obtain ⟨v, vs, rfl, h1, r⟩ := h.cons_inv
  obtain rfl := r.nil_inv
  exact ⟨v, rfl, h1⟩
theorem two_args {P : Params} {I : Im} {vs : List Value} {V U : Val} (h : VRs P I vs [V, U]) : ∃ v u, vs = [v, u] ∧ VR P I v V ∧ VR P I u U := by
  obtain ⟨v, vs, rfl, h1, r⟩ := h.cons_inv
  obtain ⟨u, rfl, h2⟩ := one_arg r
  exact ⟨v, u, rfl, h1, h2⟩
noncomputable def SqL (σ : Sto) (V : Val) (Vs : List Val) : Prop := V = .lst Vs ∨ ∃ a, V = .raw (.ref a) ∧ σ a = some (.list Vs)
theorem SqL.lst {Vs : List Val} : SqL σ (.lst Vs) Vs := .inl rfl
theorem SqL.mut {Vs : List Val} {a : Addr} (h : σ a = some (.list Vs)) : SqL σ (.raw (.ref a)) Vs := .inr ⟨a, rfl, h⟩
theorem SqL.open {I : Im} {s : Shared} {V : Val} {Vs : List Val} {v : Value} (S : St cx I σ s) (h : SqL σ V Vs) (hv : VR cx.w.params I v V) :
    ∃ a vs n, v = .ref a ∧ s.heap.get? a = some (listOf (List.toArray vs) n) ∧ VRs cx.w.params I vs Vs := by
  rcases h with rfl | ⟨a, rfl, ha⟩
  · obtain ⟨a, vs, n, rfl, h1, r⟩ := un_lst hv; exact ⟨a, vs, n, rfl, S.sub _ _ h1, r⟩
  · cases un_raw hv
    obtain ⟨o, ho, vs, n, rfl, r⟩ := S.cell a _ ha
    exact ⟨a, vs, n, rfl, ho, r⟩
theorem c_len {V : Val} {Vs : List Val} (hV : SqL σ V Vs) (hz : Vs.length < 1000000) (q : Q (.int Vs.length) σ) : WpCall cx k (.raw (.builtin "len")) [V] σ Q := fun A I s fv vs R S hf ha => by
  cases un_raw hf
  obtain ⟨v, rfl, hv⟩ := one_arg ha
  obtain ⟨a, xs, n, rfl, ho, r⟩ := hV.open S hv
  have hl : s.heap.IsList a (List.toArray xs) := ⟨_, ho, rfl, n, rfl⟩
  have e := r.length
  refine call_len_list hl (by simp; omega) ?_
  rw [List.size_toArray, e]
  exact Post.tok S vr_int q _
theorem c_min {i j : Int} (q : Q (.int (min i j)) σ) : WpCall cx k (.raw (.builtin "min")) [.int i, .int j] σ Q := fun A I s fv vs R S hf ha => by
  cases un_raw hf
  obtain ⟨v, u, rfl, hv, hu⟩ := two_args ha
  obtain ⟨t, rfl⟩ := un_int hv; obtain ⟨t', rfl⟩ := un_int hu
  refine min_two_ints R.hand fun h' tk kp => ?_
  by_cases z : j < i
  · rw [if_pos z]; exact Post.grow S kp tk vr_int (by rw [Int.min_def, if_neg (by omega)] at q; exact q)
  · rw [if_neg z]; exact Post.grow S kp tk vr_int (by rw [Int.min_def, if_pos (by omega)] at q; exact q)
theorem c_max {i j : Int} (q : Q (.int (max i j)) σ) : WpCall cx k (.raw (.builtin "max")) [.int i, .int j] σ Q := fun A I s fv vs R S hf ha => by
  cases un_raw hf
  obtain ⟨v, u, rfl, hv, hu⟩ := two_args ha
  obtain ⟨t, rfl⟩ := un_int hv; obtain ⟨t', rfl⟩ := un_int hu
  refine max_two_ints R.hand fun h' tk kp => ?_
  by_cases z : j > i
  · rw [if_pos z]; exact Post.grow S kp tk vr_int (by rw [Int.max_def, if_pos (by omega)] at q; exact q)
  · rw [if_neg z]; exact Post.grow S kp tk vr_int (by rw [Int.max_def] at q; split at q <;> first | exact q | (have : j = i := by omega); subst this; exact q)
theorem c_int {i : Int} (q : Q (.int i) σ) : WpCall cx k (.raw (.type "int")) [.int i] σ Q := fun A I s fv vs R S hf ha => by
  cases un_raw hf
  obtain ⟨v, rfl, hv⟩ := one_arg ha
  obtain ⟨t, rfl⟩ := un_int hv
  exact call_int_int (Post.now S vr_int q)
theorem c_intb {b : Bool} (q : Q (.int (if b then 1 else 0)) σ) : WpCall cx k (.raw (.type "int")) [.bool b] σ Q := fun A I s fv vs R S hf ha => by
  cases un_raw hf
  obtain ⟨v, rfl, hv⟩ := one_arg ha
  cases un_bool hv
  exact call_int_bool (Post.tok S vr_int q _)
theorem c_tuple {Vs : List Val} (q : Q (.tup Vs) σ) : WpCall cx k (.raw (.type "tuple")) [.tup Vs] σ Q := fun A I s fv vs R S hf ha => by
  cases un_raw hf
  obtain ⟨v, rfl, hv⟩ := one_arg ha
  obtain ⟨a, xs, n, rfl, ho, r⟩ := un_tup hv
  exact call_tuple_same ⟨_, S.sub _ _ ho, rfl, n, rfl⟩ (Post.now S (vr_tup ho r) q)
theorem c_list {Vs : List Val} (hz : Vs.length ≤ 1000) (q : Q (.lst Vs) σ) : WpCall cx k (.raw (.type "list")) [.lst Vs] σ Q := fun A I s fv vs R S hf ha => by
  cases un_raw hf
  obtain ⟨v, rfl, hv⟩ := one_arg ha
  obtain ⟨a, xs, n, rfl, ho, r⟩ := un_lst hv
  have e := r.length
  refine call_list_seq (T := "list") (items := List.toArray xs) (n := n) a (.inl rfl) (S.sub _ _ ho) rfl rfl (fun h' c' kp hn => ?_) (by rw [List.size_toArray, sizeLine_eq]; omega)
  have kp' : ∀ b o, s.heap.get? b = some o → h'.get? b = some o := kp
  refine ⟨I.put s.heap.objs.size (listOf (List.toArray xs) c'), σ, .lst Vs, ?_, ?_, vr_lst (Im.put_self ..) (r.mono (Im.le_put S.freshI)), q⟩
  · refine ⟨fun b o _ _ h => kp' b o h, Im.le_put S.freshI, fun b o h => ?_, fun b h => .inl h, keeps_live kp'⟩
    by_cases e : b = s.heap.objs.size
    · exact .inr (.inl (e ▸ get_size _))
    · rw [Im.put_ne _ _ e] at h; exact .inl h
  · refine ⟨fun b o h => ?_, fun b o h => Im.le_put S.freshI b o (S.base b o h), fun b c h => ?_, fun b c h => ?_, S.gens, S.os⟩
    · by_cases e : b = s.heap.objs.size
      · subst e; rw [Im.put_self] at h; cases h; exact hn
      · rw [Im.put_ne _ _ e] at h; exact kp' _ _ (S.sub b o h)
    · obtain ⟨p, hp, hc⟩ := S.cell b c h
      exact ⟨p, kp' _ _ hp, hc.mono (Im.le_put S.freshI)⟩
    · by_cases e : b = s.heap.objs.size
      · subst e; rw [S.freshS] at h; cases h
      · rw [Im.put_ne _ _ e]; exact S.apart b c h
theorem c_range {n : Int} (q : Q (.rng n) σ) : WpCall cx k (.raw (.type "range")) [.int n] σ Q := fun A I s fv vs R S hf ha => by
  cases un_raw hf
  obtain ⟨v, rfl, hv⟩ := one_arg ha
  obtain ⟨t, rfl⟩ := un_int hv
  refine call_range_1 ?_
  exact ⟨_, σ, _, (Tr.pushI S (rngOf n s.toks t (s.toks + 1)) _).toks _, (S.pushI (rngOf n s.toks t (s.toks + 1))).toks _, vr_rng (Im.put_self ..), q⟩
end

inductive Fl where
  | next | brk | cont
  | ret (V : Val)
noncomputable def FlR (P : Params) (I : Im) : Flow → Fl → Prop
  | .next, .next => True
  | .brk, .brk => True
  | .cont, .cont => True
  | .ret v, .ret V => VR P I v V
  | _, _ => False

section
variable (cx : Cx) (k : Nat)
inductive PostS (ns : List Str) (env : Env) (I : Im) (σ : Sto) (s : Shared) (Q : Fl → Loc → Sto → Prop) (f : Flow) (s' : Shared) : Prop
  | mk (I' : Im) (σ' : Sto) (F : Fl) (m' : Loc) (t : Tr (Own ns env) I σ s I' σ' s') (st : St cx I' σ' s') (fl : FlR cx.w.params I' f F) (fr : FrR cx I' σ' m' env s') (hn : names m'.v = ns) (q : Q F m' σ')
noncomputable def WpS (m : Loc) (σ : Sto) (st : Stmt) (Q : Fl → Loc → Sto → Prop) : Prop :=
  ∀ A env I s, Room A k → St cx I σ s → FrR cx I σ m env s → wpAny (Md cx) A (exec st env) (PostS cx (names m.v) env I σ s Q) Bot s
noncomputable def WpSs (m : Loc) (σ : Sto) (ss : List Stmt) (Q : Fl → Loc → Sto → Prop) : Prop :=
  ∀ A env I s, Room A k → St cx I σ s → FrR cx I σ m env s → wpAny (Md cx) A (execs ss env) (PostS cx (names m.v) env I σ s Q) Bot s
end

section
variable {cx : Cx} {k : Nat} {m : Loc} {σ : Sto}
theorem PostS.from {ns : List Str} {env : Env} {I σ s I₁ σ₁ s₁ f s'} {Q : Fl → Loc → Sto → Prop} (t : Tr (Own ns env) I σ s I₁ σ₁ s₁) (p : PostS cx ns env I₁ σ₁ s₁ Q f s') : PostS cx ns env I σ s Q f s' :=
  let ⟨I', σ', F, m', t', st, fl, fr, hn, q⟩ := p; ⟨I', σ', F, m', t.trans t', st, fl, fr, hn, q⟩
theorem Tr.of0 {X : Addr → Prop} {I σ s I' σ' s'} (t : Tr Own0 I σ s I' σ' s') : Tr X I σ s I' σ' s' := t.weaken fun _ _ _ h => h.elim

theorem ws {A : Around} {t : Sem Flow} {ns : List Str} {env : Env} {I : Im} {σ : Sto} {s s₀ : Shared} {Q : Fl → Loc → Sto → Prop} {P' : Flow → Shared → Prop} (h : wpAny (Md cx) A t (PostS cx ns env I σ s Q) Bot s₀)
    (f : ∀ v s₁ I₁ σ₁ F m₁, Tr (Own ns env) I σ s I₁ σ₁ s₁ → St cx I₁ σ₁ s₁ → FlR cx.w.params I₁ v F → FrR cx I₁ σ₁ m₁ env s₁ → names m₁.v = ns → Q F m₁ σ₁ → P' v s₁) : wpAny (Md cx) A t P' Bot s₀ :=
  wfrom h fun v s₁ p => by obtain ⟨I₁, σ₁, F, m₁, t, S, fl, fr, hn, q⟩ := p; exact f v s₁ I₁ σ₁ F m₁ t S fl fr hn q
theorem own_change {I : Im} {s : Shared} (S : St cx I σ s) {a : Addr} (hI : I a = none) (hσ : σ a = none) {h' : Heap} (hs : Heap.SameBut a s.heap h') {o : Obj} (ho : h'.get? a = some o) (t : Nat) :
    St cx I σ { s with heap := h', toks := t } ∧ Tr (fun b => b = a) I σ s I σ { s with heap := h', toks := t } := by
  refine ⟨⟨fun b p h => ?_, S.base, fun b c h => ?_, S.apart, S.gens, S.os⟩, fun b p hx _ h => (hs.2 b hx).trans h, Im.Le.refl _, fun _ _ h => .inl h, fun _ h => .inl h, fun b q => ?_⟩
  · by_cases e : b = a
    · subst e; rw [hI] at h; cases h
    · exact (hs.2 b e).trans (S.sub b p h)
  · by_cases e : b = a
    · subst e; rw [hσ] at h; cases h
    · obtain ⟨p, hp, r⟩ := S.cell b c h
      exact ⟨p, (hs.2 b e).trans hp, r⟩
  · by_cases e : b = a
    · subst e; rw [ho] at q; cases q
    · exact (hs.2 b e).symm.trans q
theorem store_local {A : Around} {env : Env} {I : Im} {s : Shared} {x : Str} {v : Value} {V : Val} {v' : List (Str × Val)} (S : St cx I σ s) (F : FrR cx I σ m env s) (u : Upd m.v x V v') (vr : VR cx.w.params I v V) (hl : env.kindOf x = some .local) :
    wpAny (Md cx) A (storeName env x v) (fun _ s' => Tr (fun b => b = env.locals) I σ s I σ s' ∧ St cx I σ s' ∧ FrR cx I σ ⟨v', m.c, m.k⟩ env s') Bot s := by
  obtain ⟨mm, hn, hv⟩ := F.vals
  refine wpAny_storeName_local hl hn (fun h' hn' hs' => ?_) (by rw [F.kind]; rfl)
  obtain ⟨o, es, ep, ho, r⟩ := id hn'
  obtain ⟨S', T'⟩ := own_change S F.ownI.1 F.ownS.1 hs' ho (s.toks + 1)
  have hcell : ∀ c v, c ≠ env.locals → s.heap.IsCell c v → h'.IsCell c v := fun c v hc ⟨p, hp, hd⟩ => ⟨p, (hs'.2 c hc).trans hp, hd⟩
  refine ⟨T', S', F.kind, F.glob, F.blt, ?_, fun y W h => ?_, fun y c h => ?_, F.capart, F.ownI, F.ownS, F.lc, fun y h => ?_, F.caps, _, hn', fun y W h => ?_⟩
  · show (names v' ++ names m.c).Nodup
    rw [u.names]; exact F.nodup
  · rcases h with h | h
    · have hy : y ∈ names m.v := u.names ▸ mem_names h
      obtain ⟨p, hp, e⟩ := List.mem_map.mp hy
      cases p; cases e; exact F.debug _ _ (.inl hp)
    · exact F.debug y W (.inr h)
  · obtain ⟨w, hw⟩ := F.cells y c h
    exact ⟨w, hcell c w (F.lc y c h) hw⟩
  · exact F.kinds y (by have : y ∈ names v' := h; rw [u.names] at this; exact this)
  · have old : y ≠ x → (y, W) ∈ m.v ∨ (y, W) ∈ m.c → W = .unbound ∨ ∃ v_1, VR cx.w.params I v_1 W ∧ Stands cx env (fun z => if z = x then some v else mm z) h' y v_1 := by
      intro hne hm
      rcases hv y W hm with e | ⟨z, h1, h2⟩
      · exact .inl e
      · refine .inr ⟨z, h1, ?_⟩
        unfold Stands at h2 ⊢
        cases hk : env.kindOf y with
        | none => rw [hk] at h2; exact h2.elim
        | some kk =>
          rw [hk] at h2
          cases kk <;> first
            | exact h2.elim
            | exact (show (if y = x then some v else mm y) = some z by rw [if_neg hne]; exact h2)
            | exact (let ⟨c, a1, a2, a3⟩ := h2; ⟨c, a1, hcell c _ (F.lc y c a1) a2, a3⟩)
            | exact h2
    rcases h with h | h
    · rcases u.cases (List.nodup_append.mp F.nodup).1 y W h with ⟨rfl, rfl⟩ | ⟨hne, hm⟩
      · refine .inr ⟨v, vr, ?_⟩
        unfold Stands
        rw [hl]
        simp
      · exact old hne (.inl hm)
    · by_cases hne : y = x
      · subst hne
        exact absurd rfl ((List.nodup_append.mp F.nodup).2.2 y u.mem y (mem_names h))
      · exact old hne (.inr h)
theorem store_ok {A : Around} {env : Env} {I : Im} {s : Shared} {x : Str} {v : Value} {V : Val} {v' : List (Str × Val)} (S : St cx I σ s) (F : FrR cx I σ m env s) (u : Upd m.v x V v') (vr : VR cx.w.params I v V) :
    wpAny (Md cx) A (storeName env x v) (fun _ s' => Tr (Own (names m.v) env) I σ s I σ s' ∧ St cx I σ s' ∧ FrR cx I σ ⟨v', m.c, m.k⟩ env s') Bot s := by
  rcases F.kinds x u.mem with hl | ⟨hl, ⟨c, hc⟩, hcd⟩
  · exact wfrom (store_local S F u vr hl) fun _ _ ⟨t, r⟩ => ⟨t.weaken fun b _ _ e => .inl e, r⟩
  · obtain ⟨mm, hn, hv⟩ := F.vals
    obtain ⟨w, hw⟩ := F.cells x c hc
    refine wpAny_storeName_cell F.kind hl hc hw fun h' hc' hs' => ?_
    obtain ⟨o, ho, hd⟩ := id hc'
    obtain ⟨S', T'⟩ := own_change S (F.ownI.2 x c hc) (F.ownS.2 x c hc) hs' ho s.toks
    have hL : env.locals ≠ c := fun e => F.lc x c hc e.symm
    have hcell : ∀ d v, d ≠ c → s.heap.IsCell d v → h'.IsCell d v := fun d v hd' ⟨p, hp, q⟩ => ⟨p, (hs'.2 d hd').trans hp, q⟩
    refine ⟨T'.weaken fun b _ _ e => .inr ⟨x, u.mem, e ▸ hc, hl⟩, S', F.kind, F.glob, F.blt, ?_, fun y W h => ?_, fun y d h => ?_, F.capart, F.ownI, F.ownS, F.lc, fun y h => ?_, F.caps, mm, hn.sameBut hs' hL, fun y W h => ?_⟩
    · show (names v' ++ names m.c).Nodup
      rw [u.names]; exact F.nodup
    · rcases h with h | h
      · have hy : y ∈ names m.v := u.names ▸ mem_names h
        obtain ⟨p, hp, e⟩ := List.mem_map.mp hy
        cases p; cases e; exact F.debug _ _ (.inl hp)
      · exact F.debug y W (.inr h)
    · by_cases e : d = c
      · subst e; exact ⟨_, hc'⟩
      · obtain ⟨w, hw⟩ := F.cells y d h
        exact ⟨w, hcell d w e hw⟩
    · exact F.kinds y (by have : y ∈ names v' := h; rw [u.names] at this; exact this)
    · have old : y ≠ x → (y, W) ∈ m.v ∨ (y, W) ∈ m.c → W = .unbound ∨ ∃ v_1, VR cx.w.params I v_1 W ∧ Stands cx env mm h' y v_1 := by
        intro hne hm
        rcases hv y W hm with e | ⟨z, h1, h2⟩
        · exact .inl e
        · refine .inr ⟨z, h1, ?_⟩
          unfold Stands at h2 ⊢
          cases hk : env.kindOf y with
          | none => rw [hk] at h2; exact h2.elim
          | some kk =>
            rw [hk] at h2
            cases kk <;> first
              | exact h2.elim
              | exact (let ⟨d, a1, a2, a3⟩ := h2; ⟨d, a1, hcell d _ (fun e => hne (F.capart y x c (e ▸ a1) hc)) a2, a3⟩)
              | exact h2
      rcases h with h | h
      · rcases u.cases (List.nodup_append.mp F.nodup).1 y W h with ⟨rfl, rfl⟩ | ⟨hne, hm⟩
        · refine .inr ⟨v, vr, ?_⟩
          unfold Stands
          rw [hl]
          exact ⟨c, hc, hc', hcd⟩
        · exact old hne (.inl hm)
      · by_cases hne : y = x
        · subst hne
          exact absurd rfl ((List.nodup_append.mp F.nodup).2.2 y u.mem y (mem_names h))
        · exact old hne (.inr h)

variable {Q : Fl → Loc → Sto → Prop}
@[reducible] noncomputable def kRet (m : Loc) (Q : Fl → Loc → Sto → Prop) : Val → Sto → Prop := fun V σ => Q (.ret V) m σ
@[reducible] noncomputable def kEx (m : Loc) (Q : Fl → Loc → Sto → Prop) : Val → Sto → Prop := fun V σ => V = .none ∧ Q .next m σ
@[reducible] noncomputable def kIf (cx : Cx) (k : Nat) (m : Loc) (a b : List Stmt) (Q : Fl → Loc → Sto → Prop) : Bool → Sto → Prop := fun t σ => if t then WpSs cx k m σ a Q else WpSs cx k m σ b Q
@[reducible] noncomputable def kAs (v c : List (Str × Val)) (kk : List Str) (x : Str) (Q : Fl → Loc → Sto → Prop) : Val → Sto → Prop := fun V σ => ∃ v', Upd v x V v' ∧ Q .next ⟨v', c, kk⟩ σ
@[reducible] noncomputable def kAu (cx : Cx) (k : Nat) (v c : List (Str × Val)) (kk : List Str) (op : Operator) (x : Str) (W : Val) (Q : Fl → Loc → Sto → Prop) : Val → Sto → Prop := fun V σ => Wp2 cx k (inplaceOp op) W V σ (kAs v c kk x Q)
/-- what stands behind a statement, shut -/
structure Kn (cx : Cx) (k : Nat) (ss : List Stmt) (Q K : Fl → Loc → Sto → Prop) : Prop where
  nx : ∀ m σ, WpSs cx k m σ ss Q → K .next m σ
  re : ∀ V m σ, Q (.ret V) m σ → K (.ret V) m σ
  br : ∀ m σ, Q .brk m σ → K .brk m σ
  co : ∀ m σ, Q .cont m σ → K .cont m σ
theorem wps_nil (q : Q .next m σ) : WpSs cx k m σ [] Q := fun A env I s R S F => wpAny_execs_nil ⟨I, σ, .next, m, Tr.refl .., S, trivial, F, rfl, q⟩
theorem wps_cons {st : Stmt} {ss : List Stmt} (h : WpS cx k m σ st fun F m' σ' => match F with | .next => WpSs cx k m' σ' ss Q | F => Q F m' σ') : WpSs cx k m σ (st :: ss) Q := fun A env I s R S F =>
  wpAny_execs_cons (ws (h A env I s R S F) fun f s₁ I₁ σ₁ G m₁ t₁ S₁ fl F₁ hn q => by
    cases f <;> cases G <;> first
      | exact fl.elim
      | exact wfrom (q A env I₁ s₁ R S₁ F₁) fun _ _ p => by rw [hn] at p; exact p.from t₁
      | exact ⟨I₁, σ₁, _, m₁, t₁, S₁, fl, F₁, hn, q⟩)
theorem wps_consK {st : Stmt} {ss : List Stmt} (h : ∀ K, Kn cx k ss Q K → WpS cx k m σ st K) : WpSs cx k m σ (st :: ss) Q :=
  wps_cons (h _ ⟨fun _ _ h => h, fun _ _ _ h => h, fun _ _ h => h, fun _ _ h => h⟩)
theorem wps_ret {e : Expr} {pos : Pos} (h : WpE cx k m σ e (kRet m Q)) : WpS cx k m σ (.Return (some e) pos) Q := fun A env I s R S F =>
  wpAny_Return_some (wv (h A env I s R S F) fun v s₁ I₁ σ₁ V t₁ S₁ v₁ q => ⟨I₁, σ₁, .ret V, m, t₁.of0, S₁, v₁, F.step0 t₁, rfl, q⟩)
theorem wps_expr {e : Expr} {pos : Pos} (h : WpE cx k m σ e (kEx m Q)) (hs : swapsWith e none pos.line = fun _ => pure false := by rfl) : WpS cx k m σ (.Expr e pos) Q := fun A env I s R S F => by
  refine wpAny_Expr (wv (h A env I s R S F) fun v s₁ I₁ σ₁ V t₁ S₁ v₁ ⟨e, q⟩ => ?_) (by unfold interactive; rw [F.kind]; rfl) (congrFun hs env)
  subst e; cases un_none v₁
  exact ⟨I₁, σ₁, .next, m, t₁.of0, S₁, trivial, F.step0 t₁, rfl, q⟩
theorem wps_if {test : Expr} {body orelse : List Stmt} {pos : Pos} (h : WpT cx k m σ test (kIf cx k m body orelse Q)) : WpS cx k m σ (.If test body orelse pos) Q := fun A env I s R S F =>
  wpAny_If (wb (h A env I s R S F) fun b s₁ I₁ σ₁ t₁ S₁ q => by
    cases b with
    | true => exact wfrom (q A env I₁ s₁ R S₁ (F.step0 t₁)) fun _ _ p => p.from t₁.of0
    | false => exact wfrom (q A env I₁ s₁ R S₁ (F.step0 t₁)) fun _ _ p => p.from t₁.of0)
theorem wps_assign {v c : List (Str × Val)} {kk : List Str} {x : Str} {p' : Pos} {value : Expr} {pos : Pos} (h : WpE cx k ⟨v, c, kk⟩ σ value (kAs v c kk x Q)) (hs : swapsWith value (some (.Name x p')) pos.line = fun _ => pure false := by rfl) : WpS cx k ⟨v, c, kk⟩ σ (.Assign [.Name x p'] value pos) Q := fun A env I s R S F =>
  wpAny_Assign_Name (wv (h A env I s R S F) fun v s₁ I₁ σ₁ V t₁ S₁ v₁ ⟨v', u, q⟩ => wfrom (store_ok S₁ (F.step0 t₁) u v₁) fun _ s₂ ⟨t₂, S₂, F₂⟩ => ⟨I₁, σ₁, .next, _, t₁.of0.trans t₂, S₂, trivial, F₂, u.names, q⟩) (congrFun hs env)
theorem loadName_ok {A : Around} {env : Env} {I : Im} {s : Shared} {x : Str} {V : Val} (S : St cx I σ s) (F : FrR cx I σ m env s) (hm : (x, V) ∈ m.v) (hu : V ≠ .unbound) : wpAny (Md cx) A (loadName env x) (fun v s' => s' = s ∧ VR cx.w.params I v V) Bot s := by
  obtain ⟨mm, hn, hv⟩ := F.vals
  rcases hv x V (.inl hm) with h | ⟨v, vr, st⟩
  · exact absurd h hu
  · unfold Stands at st
    rcases F.kinds x (mem_names hm) with hk | ⟨hk, _⟩ <;> rw [hk] at st
    · exact wpAny_loadName_local F.kind hk hn st ⟨rfl, vr⟩
    · obtain ⟨c, h1, h2, h3⟩ := st
      exact wpAny_loadName_cell F.kind hk h1 h2 ⟨rfl, vr⟩
theorem wps_aug {v c : List (Str × Val)} {kk : List Str} {x : Str} {p' : Pos} {op : Operator} {value : Expr} {pos : Pos} {W : Val} (hm : (x, W) ∈ v) (hu : bnd W = true) (h : WpE cx k ⟨v, c, kk⟩ σ value (kAu cx k v c kk op x W Q)) : WpS cx k ⟨v, c, kk⟩ σ (.AugAssign (.Name x p') op value pos) Q := fun A env I s R S F =>
  wpAny_AugAssign_Name (wfrom (loadName_ok S F hm (bnd_ne hu)) fun old s₀ ⟨e, hw⟩ => by
    subst e
    refine wv (h A env I _ R S F) fun v s₁ I₁ σ₁ V t₁ S₁ v₁ q => wv (q A I₁ s₁ old v R S₁ (hw.mono t₁.le) v₁) fun u s₂ I₂ σ₂ U t₂ S₂ v₂ ⟨v', up, q'⟩ => ?_
    exact wfrom (store_ok S₂ ((F.step0 t₁).step0 t₂) up v₂) fun _ s₃ ⟨t₃, S₃, F₃⟩ => ⟨I₂, σ₂, .next, _, (t₁.trans t₂).of0.trans t₃, S₃, trivial, F₃, up.names, q'⟩)
end

inductive FnIs (cx : Cx) (f : Addr) (name qual : Str) (params : Arguments) (body : List Stmt) (scope : Scope) (dV : Value) : Prop
  | mk (kV doc pm an cdv ct oc od osl) (ho : cx.h₀.get? f = some ⟨oc, od, .func (fnOf name qual params body scope dV kV doc pm an cdv ct), osl⟩) (hc : cx.h₀.CodeRec cdv qual)

noncomputable def GV (cx : Cx) (x : Str) (V : Val) : Prop := ∃ v, VR cx.w.params cx.h₀.get? v V ∧ (cx.mg x = some v ∨ (cx.mg x = none ∧ cx.mb x = some v))
noncomputable def GVs (cx : Cx) : List (Str × Val) → Prop
  | [] => True
  | p :: r => GV cx p.1 p.2 ∧ GVs cx r
theorem GVs.all {cx : Cx} : ∀ {l : List (Str × Val)}, GVs cx l → ∀ p ∈ l, GV cx p.1 p.2
  | _ :: _, ⟨h, _⟩, _, .head _ => h
  | _ :: _, ⟨_, r⟩, _, .tail _ m => r.all _ m

theorem bindL_notin {kd : Str → Option NameKind} {x : Str} : ∀ {b : List (Str × Value)} {m : Str → Option Value}, x ∉ b.map (·.1) → bindL kd b m x = m x
  | [], _, _ => rfl
  | (n, v) :: r, m, h => by
    have hn : x ≠ n := fun e => h (by simp [e])
    have hr : x ∉ r.map (·.1) := fun e => h (by simp at e ⊢; exact .inr e)
    unfold bindL
    rw [bindL_notin hr]
    split
    · show (if x = n then some v else m x) = m x
      rw [if_neg hn]
    · rfl
theorem bindL_mem {kd : Str → Option NameKind} {x : Str} {v : Value} (hk : kd x = some .local) : ∀ {b : List (Str × Value)} {m : Str → Option Value}, (x, v) ∈ b → (b.map (·.1)).Nodup → bindL kd b m x = some v
  | (n, w) :: r, m, h, nd => by
    obtain ⟨h1, h2⟩ := List.nodup_cons.mp nd
    unfold bindL
    rcases List.mem_cons.mp h with h | h
    · cases h
      rw [bindL_notin h1, if_pos hk]
      simp
    · exact bindL_mem hk h h2
theorem bindC_notin {kd : Str → Option NameKind} {x : Str} : ∀ {b : List (Str × Value)} {m : Str → Option Value}, x ∉ b.map (·.1) → bindC kd b m x = m x
  | [], _, _ => rfl
  | (n, v) :: r, m, h => by
    have hn : x ≠ n := fun e => h (by simp [e])
    have hr : x ∉ r.map (·.1) := fun e => h (by simp at e ⊢; exact .inr e)
    unfold bindC
    rw [bindC_notin hr]
    split
    · rfl
    · show (if x = n then some v else m x) = m x
      rw [if_neg hn]
theorem bindC_mem {kd : Str → Option NameKind} {x : Str} {v : Value} (hk : kd x = some .cell) : ∀ {b : List (Str × Value)} {m : Str → Option Value}, (x, v) ∈ b → (b.map (·.1)).Nodup → bindC kd b m x = some v
  | (n, w) :: r, m, h, nd => by
    obtain ⟨h1, h2⟩ := List.nodup_cons.mp nd
    unfold bindC
    rcases List.mem_cons.mp h with h | h
    · cases h
      rw [bindC_notin h1, if_neg (by rw [hk]; decide)]
      simp
    · exact bindC_mem hk h h2
theorem cellsFrom_acc {x : Str} : ∀ (l : List (Str × NameKind)) (n : Nat) (acc : List (Str × Addr)), (acc.lookup x).isSome = true → ((cellsFrom n l acc).lookup x).isSome = true
  | [], _, _, h => h
  | (y, kd) :: r, n, acc, h => by
    unfold cellsFrom
    split
    · refine cellsFrom_acc r _ _ ?_
      rw [List.lookup_cons]
      cases x == y <;> first | exact h | rfl
    · exact cellsFrom_acc r _ _ h
theorem cellsFrom_some {x : Str} : ∀ (l : List (Str × NameKind)) (n : Nat) (acc : List (Str × Addr)), l.lookup x = some .cell → ((cellsFrom n l acc).lookup x).isSome = true
  | (y, kd) :: r, n, acc, h => by
    rw [List.lookup_cons] at h
    unfold cellsFrom
    cases hb : x == y with
    | true =>
      rw [hb] at h
      cases h
      rw [if_pos (by rfl)]
      refine cellsFrom_acc r _ _ ?_
      rw [List.lookup_cons, hb]; rfl
    | false =>
      rw [hb] at h
      split
      · exact cellsFrom_some r _ _ h
      · exact cellsFrom_some r _ _ h

noncomputable def localOrCell (k : Option NameKind) : Bool := k == some .local || k == some .cell
noncomputable def okScope (ns : List (Str × NameKind)) (ps us cs ks : List Str) : Bool :=
  ks.all (fun x => ns.lookup x == some .cell) && decide (ps ++ us ++ cs).Nodup && (ps ++ us).all (fun x => localOrCell (ns.lookup x)) && cs.all (fun x => ns.lookup x == some .globalImplicit) && (ps ++ us ++ cs).all fun x => !(x == ("__debug__" : Str)) && !(x == ("__classdict__" : Str))

section
variable {cx : Cx} {k : Nat} {σ : Sto} {Q : Val → Sto → Prop}
theorem FrR.unb {names_ : List Str} {x : Str} {V : Val} (h : (x, V) ∈ names_.map fun y => (y, Val.unbound)) : x ∈ names_ ∧ V = .unbound := by
  obtain ⟨y, hy, e⟩ := List.mem_map.mp h
  cases e; exact ⟨hy, rfl⟩
theorem zip_names {α : Type} : ∀ {ps : List Str} {vs : List α}, vs.length = ps.length → (ps.zip vs).map (·.1) = ps
  | [], _, _ => by simp
  | p :: ps, v :: vs, h => by simp at h; simp [zip_names h]
theorem zip_vr {P : Params} {I : Im} : ∀ {ps : List Str} {vs : List Value} {Vs : List Val} {x : Str} {V : Val}, VRs P I vs Vs → (x, V) ∈ ps.zip Vs → ∃ v, (x, v) ∈ ps.zip vs ∧ VR P I v V
  | p :: ps, v :: vs, W :: Vs, x, V, ⟨h, r⟩, hm => by
    rw [List.zip_cons_cons] at hm
    rcases List.mem_cons.mp hm with hm | hm
    · cases hm; exact ⟨v, by rw [List.zip_cons_cons]; exact .head _, h⟩
    · obtain ⟨w, h1, h2⟩ := zip_vr r hm
      exact ⟨w, by rw [List.zip_cons_cons]; exact .tail _ h1, h2⟩
  | [], _, _, _, _, _, hm => by simp at hm
  | _ :: _, [], [], _, _, _, hm => by simp at hm

/-- as WpCall, for the call's own code -/
noncomputable def WpCode (cx : Cx) (k : Nat) (f : Val) (args : List Val) (σ : Sto) (Q : Val → Sto → Prop) : Prop :=
  ∀ A I s fv vs, Room A k → St cx I σ s → VR cx.w.params I fv f → VRs cx.w.params I vs args → codeAny (Md cx) A (.call fv ⟨vs, []⟩) (fun r s' => match r with | .ok (.ret v) => Post cx I σ s Q v s' | .ok _ => False | .error e => Bot e s') s
theorem WpCode.call {f : Val} {args : List Val} (h : WpCode cx k f args σ Q) : WpCall cx k f args σ Q := fun A I s fv vs R S hf hv => wpAny_call (h A I s fv vs R S hf hv)
theorem enterB {f : Addr} {name qual : Str} {params : Arguments} {body : List Stmt} {scope : Scope} {dV : Value} (hf : FnIs cx f name qual params body scope dV) {args : List Val} (ps us : List Str) (gs : List (Str × Val)) (ks : List Str) {Bs : List Val}
    (hlen : Bs.length = ps.length)
    (hb : ∀ (I : Im) (s : Shared) (vs : List Value), St cx I σ s → VRs cx.w.params I vs args → ∃ bs, VRs cx.w.params I bs Bs ∧ ∀ kV doc pm an cdv ct, BindsTo s (fnOf name qual params body scope dV kV doc pm an cdv ct) ⟨vs, []⟩ (ps.zip bs))
    (ok : okScope scope.names ps us (names gs) ks = true) (hg : GVs cx gs)
    (h : WpSs cx k ⟨ps.zip Bs ++ us.map (fun x => (x, .unbound)), gs, ks⟩ σ body fun F _ σ' => match F with | .ret V => Q V σ' | .next => Q .none σ' | _ => False)
    (hco : scope.isCoroutine = false := by rfl) (hgen : scope.isGenerator = false := by rfl) (hkd : scope.kind = .function := by rfl) :
    WpCode cx (k + 1) (.raw (.ref f)) args σ Q := by
  intro A I s fv vs R S hfv hvs
  cases un_raw hfv
  obtain ⟨bs, hbs, hbind⟩ := hb I s vs S hvs
  obtain ⟨kV, doc, pm, an, cdv, ct, oc, od, osl, ho, hcd⟩ := hf
  have hbl : bs.length = ps.length := hbs.length.trans hlen
  unfold okScope at ok
  simp only [Bool.and_eq_true, decide_eq_true_eq, List.all_eq_true, Bool.not_eq_true'] at ok
  obtain ⟨⟨⟨⟨k0, nd⟩, k1⟩, k2⟩, k3⟩ := ok
  have ndp : ps.Nodup := (List.nodup_append.mp (List.nodup_append.mp nd).1).1
  have loc : ∀ x, x ∈ ps ∨ x ∈ us → scope.names.lookup x = some .local ∨ scope.names.lookup x = some .cell := fun x hx => by
    have := k1 x (by rw [List.mem_append]; exact hx)
    simpa [localOrCell] using this
  have hkind : ∀ x ∈ ps.zip bs, scope.names.lookup x.1 = some .local ∨ (scope.names.lookup x.1 = some .cell ∧ ((cellsFrom (s.heap.objs.size + 1) scope.names []).lookup x.1).isSome = true) := fun x hx => by
    have hx1 : x.1 ∈ ps := by rw [← zip_names hbl]; exact List.mem_map.mpr ⟨x, hx, rfl⟩
    rcases loc x.1 (.inl hx1) with q | q
    · exact .inl q
    · exact .inr ⟨q, cellsFrom_some _ _ _ q⟩
  refine codeAny_call_function (fd := fnOf name qual params body scope dV kV doc pm an cdv ct) (R.mono (Nat.le_succ k)).lim (S.keeps _ _ ho) rfl hco hgen rfl (hcd.keeps S.keeps) (hbind kV doc pm an cdv ct _ _ _ _ ?_)
  refine wpAny_newFunctionEnv_cells hkd hkind fun env he s₁ x => ?_
  refine ⟨S.nolim.keeps x.toInCall.keep, codeAny_func ?_⟩
  obtain ⟨⟨⟨h₁, tk, e₁⟩, hns, hkeep, hfresh⟩, hcell, hap, habove⟩ := x
  have scopeE : env.scope = scope := by rw [he]; rfl
  have kE : ∀ y, env.kindOf y = scope.names.lookup y := fun y => by unfold Env.kindOf; rw [scopeE]
  subst e₁
  have S₁ : St cx I σ { s with heap := h₁, toks := tk } := S.grow hkeep tk
  have T₁ : Tr (Own (ps ++ us) env) I σ s I σ { s with heap := h₁, toks := tk } := Tr.grow hkeep tk _
  have newL : s.heap.get? env.locals = none := by
    cases q : s.heap.get? env.locals with
    | none => rfl
    | some o => exact absurd (Heap.lt_size q) (Nat.not_lt.mpr hfresh)
  have newC : ∀ y c, env.cells.lookup y = some c → s.heap.get? c = none := fun y c hc => by
    cases q : s.heap.get? c with
    | none => rfl
    | some o => exact absurd (Nat.lt_trans (Nat.lt_of_le_of_lt hfresh (habove y c (mem_of_lookup hc))) (Heap.lt_size q)) (Nat.lt_irrefl _)
  have offI : ∀ a, s.heap.get? a = none → I a = none := fun a ha => by
    cases q : I a with
    | none => rfl
    | some o => rw [S.sub a o q] at ha; cases ha
  have offS : ∀ a, s.heap.get? a = none → σ a = none := fun a ha => by
    cases q : σ a with
    | none => rfl
    | some c => obtain ⟨o, ho, _⟩ := S.cell a c q; rw [ho] at ha; cases ha
  have nm : names (ps.zip Bs ++ us.map (fun x => (x, Val.unbound))) = ps ++ us := by
    unfold names
    rw [List.map_append, zip_names hlen, List.map_map]
    congr 1
    exact (List.map_congr_left fun _ _ => rfl).trans (List.map_id _)
  have F : FrR cx I σ ⟨ps.zip Bs ++ us.map (fun x => (x, .unbound)), gs, ks⟩ env { s with heap := h₁, toks := tk } := by
    refine ⟨by rw [scopeE]; exact hkd, by rw [he]; rfl, by rw [he]; rfl, ?_, ?_, ?_, ?_, ⟨offI _ newL, fun y c hc => offI _ (newC y c hc)⟩, ⟨offS _ newL, fun y c hc => offS _ (newC y c hc)⟩, fun y c hc e => ?_, ?_, fun y hy => .inl (by rw [kE]; exact beq_iff_eq.mp (k0 y hy)), _, hns, ?_⟩
    · show (names (ps.zip Bs ++ us.map (fun x => (x, Val.unbound))) ++ names gs).Nodup
      rw [nm]; exact nd
    · rintro y V (hy | hy)
      · refine (k3 y ?_).1
        rw [List.mem_append]
        exact .inl (nm ▸ mem_names hy)
      · refine (k3 y ?_).1
        rw [List.mem_append]
        exact .inr (mem_names hy)
    · exact fun y c hc => ⟨_, hcell y c hc⟩
    · exact fun y z c h1 h2 => name_of_addr hap (mem_of_lookup h1) (mem_of_lookup h2)
    · have := habove y c (mem_of_lookup hc); rw [e] at this; exact Nat.lt_irrefl _ this
    · intro y hy
      rw [nm, List.mem_append] at hy
      rw [kE]
      rcases loc y hy with q | q
      · exact .inl q
      · refine .inr ⟨q, ?_, ?_⟩
        · have e' : env.cells = cellsFrom (s.heap.objs.size + 1) scope.names [] := by rw [he]; rfl
          rw [e']
          exact Option.isSome_iff_exists.mp (cellsFrom_some _ _ _ q)
        · refine (k3 y ?_).2
          rw [List.mem_append, List.mem_append]
          exact .inl hy
    · rintro y V (hy | hy)
      · rcases List.mem_append.mp hy with hy | hy
        · obtain ⟨v, h1, h2⟩ := zip_vr hbs hy
          refine .inr ⟨v, h2, ?_⟩
          have hyp : y ∈ ps := by rw [← zip_names hlen]; exact List.mem_map.mpr ⟨_, hy, rfl⟩
          have ndz : ((ps.zip bs).map (·.1)).Nodup := by rw [zip_names hbl]; exact ndp
          unfold Stands
          rcases loc y (.inl hyp) with q | q
          · rw [kE, q]
            exact bindL_mem (by rw [kE]; exact q) h1 ndz
          · rw [kE, q]
            obtain ⟨c, hc⟩ : ∃ c, env.cells.lookup y = some c := by
              have e' : env.cells = cellsFrom (s.heap.objs.size + 1) scope.names [] := by rw [he]; rfl
              rw [e']
              exact Option.isSome_iff_exists.mp (cellsFrom_some _ _ _ q)
            refine ⟨c, hc, ?_, ?_⟩
            · have := hcell y c hc
              rw [bindC_mem (by rw [kE]; exact q) h1 ndz] at this
              exact this
            · refine (k3 y ?_).2
              rw [List.mem_append, List.mem_append]
              exact .inl (.inl hyp)
        · exact .inl (FrR.unb hy).2
      · obtain ⟨v, h1, h2⟩ := hg.all _ hy
        refine .inr ⟨v, h1.mono S.base, ?_⟩
        unfold Stands
        rw [kE, beq_iff_eq.mp (k2 y (mem_names hy))]
        exact h2
  refine wpAny_mono (h (A.deeper env) env I _ (R.deeper env) S₁ F) (fun fl s' p => ?_) fun _ _ z => z.elim
  obtain ⟨I', σ', G, m', t', S', fl', F', hnm, q⟩ := p
  rw [nm] at t'
  have t0 : Tr Own0 I σ s I' σ' s' := (T₁.trans t').weaken fun b o hb => by
    rintro (e | ⟨y, _, hy, _⟩)
    · subst e; rw [newL] at hb; cases hb
    · rw [newC y b hy] at hb; cases hb
  cases G <;> cases fl <;> first
    | exact fl'.elim
    | exact q.elim
    | exact ⟨I', σ', _, t0, S', fl', q⟩
    | exact ⟨I', σ', .none, t0, S', vr_none, q⟩

/-- without defaults -/
theorem enter {f : Addr} {name qual : Str} {params : Arguments} {body : List Stmt} {scope : Scope} {dV : Value} (hf : FnIs cx f name qual params body scope dV) {args : List Val} (ps us : List Str) (gs : List (Str × Val)) (ks : List Str)
    (hlen : args.length = ps.length)
    (hb : ∀ (vs : List Value), vs.length = args.length → ∀ kV doc pm an cdv ct, bindArgs (fnOf name qual params body scope dV kV doc pm an cdv ct) ⟨vs, []⟩ = pure (ps.zip vs))
    (ok : okScope scope.names ps us (names gs) ks = true) (hg : GVs cx gs)
    (h : WpSs cx k ⟨ps.zip args ++ us.map (fun x => (x, .unbound)), gs, ks⟩ σ body fun F _ σ' => match F with | .ret V => Q V σ' | .next => Q .none σ' | _ => False)
    (hco : scope.isCoroutine = false := by rfl) (hgen : scope.isGenerator = false := by rfl) (hkd : scope.kind = .function := by rfl) :
    WpCode cx (k + 1) (.raw (.ref f)) args σ Q :=
  enterB hf ps us gs ks hlen (fun I s vs S hv => ⟨vs, hv, fun kV doc pm an cdv ct => BindsTo.of_eq (hb vs hv.length kV doc pm an cdv ct)⟩) ok hg h hco hgen hkd
end

section
variable {cx : Cx} {k : Nat} {m : Loc} {σ : Sto} {Q : Val → Sto → Prop}
noncomputable def Kp (cx : Cx) (f : Val) : Prop := ∀ (I : Im) (v : Value), VR cx.w.params I v f → ∀ h, (∀ b o, cx.h₀.get? b = some o → h.get? b = some o) → ∃ kk, (kk = Keeper.frame ∨ kk = Keeper.machine ∨ kk = Keeper.boundFrame) ∧ Looks (Md cx) h (keeperOf v) kk
theorem kp_builtin {i : String} : Kp cx (.raw (.builtin i)) := fun I v hv h _ => by cases un_raw hv; exact ⟨_, .inr (.inl rfl), Looks.of_pure rfl⟩
theorem kp_type {i : String} : Kp cx (.raw (.type i)) := fun I v hv h _ => by cases un_raw hv; exact ⟨_, .inr (.inl rfl), Looks.of_pure rfl⟩
theorem kp_fn {f : Addr} {name qual : Str} {params : Arguments} {body : List Stmt} {scope : Scope} {dV : Value} (hf : FnIs cx f name qual params body scope dV) : Kp cx (.raw (.ref f)) := fun I v hv h hk => by
  cases un_raw hv
  obtain ⟨kV, doc, pm, an, cdv, ct, oc, od, osl, ho, _⟩ := hf
  exact ⟨_, .inl rfl, (Looks.ld (part := none) (hk _ _ ho)).andThen .now⟩
theorem kp_K {f : Addr} (h : keepIn cx.K (.ref f) = true) : Kp cx (.raw (.ref f)) := fun I v hv g hk => by
  cases un_raw hv
  obtain ⟨kk, a, b⟩ := looks_keep (M := Md cx) h (cx.kin.keeps hk)
  exact ⟨kk, a.elim .inl (fun e => .inr (.inl e)), b⟩
@[reducible] noncomputable def kCa (cx : Cx) (k : Nat) (f : Val) (Q : Val → Sto → Prop) : List Val → Sto → Prop := fun Vs σ => WpCall cx k f Vs σ Q
@[reducible] noncomputable def kM3 (cx : Cx) (k : Nat) (f : Val) (fs : List Val) (Q : Val → Sto → Prop) : List Val → Sto → Prop := fun Vs σ => WpCall cx k f (fs ++ Vs) σ Q
theorem noStar : ∀ {args : List Expr} {env : Env} {pos : Pos}, (args.all fun e => !isStar e) = true → (backTo pos (starEach args env)).any (·.1) = false
  | [], _, _, _ => rfl
  | e :: es, env, pos, h => by
    simp only [List.all_cons, Bool.and_eq_true, Bool.not_eq_true'] at h
    rw [star_cons h.1]
    exact noStar h.2
@[reducible] noncomputable def KpN (cx : Cx) (x : Str) (f : Val) : Prop := Kp cx f
noncomputable def KpNs (cx : Cx) : List (Str × Val) → Prop
  | [] => True
  | p :: r => KpN cx p.1 p.2 ∧ KpNs cx r
theorem KpNs.all {cx : Cx} : ∀ {l : List (Str × Val)}, KpNs cx l → ∀ p ∈ l, KpN cx p.1 p.2
  | [], _, _, h => nomatch h
  | _ :: _, h, _, .head _ => h.1
  | _ :: _, h, _, .tail _ m => h.2.all _ m
theorem callWith_ok {A : Around} {env : Env} {I : Im} {s : Shared} {pos : Pos} {f : Value} {fV : Val} {first : List Value} {fVs : List Val} {args : List Expr} (R : Room A k) (S : St cx I σ s) (F : FrR cx I σ m env s) (hf : VR cx.w.params I f fV) (hfs : VRs cx.w.params I first fVs) (kp : Kp cx fV)
    (ha : (args.all fun e => !isStar e) = true) (h : WpL cx k m σ args (kM3 cx k fV fVs Q)) : wpAny (Md cx) A (callWith pos f first (backTo pos (starEach args env)) []) (Post cx I σ s Q) Bot s := by
  have fin := wfrom (h A env I s pos R S F) (P' := fun vs s₁ => (∀ b o, cx.h₀.get? b = some o → s₁.heap.get? b = some o) ∧ wpAny (Md cx) A (call f (first ++ vs) []) (Post cx I σ s Q) Bot s₁) fun vs s₁ ⟨I₁, σ₁, Vs, t₁, S₁, v₁, q⟩ =>
    ⟨S₁.keeps, wfrom (q A I₁ s₁ f (first ++ vs) R S₁ (hf.mono t₁.le) ((hfs.mono t₁.le).append v₁)) fun _ _ p => p.from t₁⟩
  refine callWith_of (P := fun h => ∀ b o, cx.h₀.get? b = some o → h.get? b = some o) (by rw [noStar ha]; rfl) (fun g hg => kp I f hf g hg) ?_
  cases args with
  | nil =>
    refine evalArgs_nil3 ?_
    have fin' : wpAny (Md cx) A (pure []) _ Bot s := fin
    refine ⟨S.keeps, ?_⟩
    exact fun Γ p hΓ => (fin' Γ p hΓ).2 Γ p hΓ
  | cons e es =>
    simp only [List.all_cons, Bool.and_eq_true, Bool.not_eq_true'] at ha
    have e1 : backTo pos (starEach (e :: es) env) = (false, eval e env) :: backTo pos (starEach es env) := by rw [star_cons ha.1]; rfl
    rw [e1] at fin ⊢
    exact evalArgs_plain fin

theorem wpe_call {v c : List (Str × Val)} {kk : List Str} {id : Str} {p pos : Pos} {args : List Expr} {fV : Val} (hm : (id, fV) ∈ c) (hu : bnd fV = true) (kp : KpN cx id fV) (h : WpL cx k ⟨v, c, kk⟩ σ args (kCa cx k fV Q)) (ha : (args.all fun e => !isStar e) = true := by rfl) :
    WpE cx k ⟨v, c, kk⟩ σ (.Call (.Name id p) args [] pos) Q := fun A env I s R S F => by
  refine wpAny_Call_Name_kw ?_
  have hn : WpE cx k ⟨v, c, kk⟩ σ (.Name id p) fun V τ => V = fV ∧ τ = σ := wpe_glo hm hu ⟨rfl, rfl⟩
  refine wv (hn A env I s R S F) fun f s₁ I₁ σ₁ V t₁ S₁ v₁ ⟨e1, e2⟩ => ?_
  subst e1 e2
  refine wfrom (callWith_ok (fVs := []) (first := []) R S₁ (F.step0 t₁) v₁ trivial kp ha h) fun _ _ p => p.from t₁

/-- what a method's name on V yields -/
inductive PostM (cx : Cx) (I : Im) (σ : Sto) (s : Shared) (Q : Val → List Val → Sto → Prop) (r : Value × List Value) (s' : Shared) : Prop
  | mk (I' : Im) (σ' : Sto) (fV : Val) (fVs : List Val) (t : Tr Own0 I σ s I' σ' s') (st : St cx I' σ' s') (r1 : VR cx.w.params I' r.1 fV) (r2 : VRs cx.w.params I' r.2 fVs) (q : Q fV fVs σ')
noncomputable def WpMeth (cx : Cx) (k : Nat) (name : Str) (V : Val) (σ : Sto) (Q : Val → List Val → Sto → Prop) : Prop :=
  ∀ A I s v pl, Room A k → St cx I σ s → VR cx.w.params I v V → wpAny (Md cx) A (getMethod v name pl) (PostM cx I σ s Q) Bot s
@[reducible] noncomputable def kM2 (cx : Cx) (k : Nat) (m : Loc) (args : List Expr) (Q : Val → Sto → Prop) : Val → List Val → Sto → Prop := fun f fs σ => Kp cx f ∧ WpL cx k m σ args (kM3 cx k f fs Q)
@[reducible] noncomputable def kM1 (cx : Cx) (k : Nat) (m : Loc) (name : Str) (args : List Expr) (Q : Val → Sto → Prop) : Val → Sto → Prop := fun V σ => WpMeth cx k name V σ (kM2 cx k m args Q)
theorem few_ok {args : List Expr} {env : Env} {pos : Pos} {n : Nat} (ha : (args.all fun e => !isStar e) = true) (hn : n < 30) : methodCallForm n (backTo pos (starEach args env)) [] = true := by
  have e : ∀ {args : List Expr}, (args.all fun e => !isStar e) = true → (backTo pos (starEach args env)).all (fun x => !x.1) = true := by
    intro args h
    have := noStar (env := env) (pos := pos) h
    rw [List.all_eq_true]
    intro x hx
    rw [List.any_eq_false] at this
    simpa using this x hx
  unfold methodCallForm
  rw [e ha]
  simp [hn]
theorem wpe_meth {o : Expr} {name : Str} {apos pos : Pos} {args : List Expr} (h : WpE cx k m σ o (kM1 cx k m name args Q))
    (ha : (args.all fun e => !isStar e) = true := by rfl) (hn : args.length < 30 := by decide) (hl : (apos.endLine == pos.line) = true := by rfl)
    (hb : ∀ env, attributeBase o name env (eval o env) = eval o env := by intro env; rfl) :
    WpE cx k m σ (.Call (.Attribute o name apos) args [] pos) Q := fun A env I s R S F => by
  show wpAny _ _ (do
    let ov ← attributeBase o name env (eval o env)
    standAt apos.atName
    methodCall o name apos pos env ov (args.length + 0) (backTo pos (starEach args env)) []) _ _ _
  rw [hb]
  refine wpAny_bind (wv (h A env I s R S F) fun v s₁ I₁ σ₁ V t₁ S₁ v₁ q₁ => wpAny_bind (wpAny_standAt ?_))
  unfold methodCall calleeOf methodCallPos
  rw [few_ok ha (by omega)]
  refine wpAny_bind (wpAny_holding (wfrom (q₁ A I₁ s₁ v _ R S₁ v₁) fun r s₂ ⟨I₂, σ₂, fV, fVs, t₂, S₂, v₂, w₂, kp, q₂⟩ => ?_))
  simp only [Bool.not_true, Bool.false_or, hl, if_true]
  refine wpAny_bind (wpAny_pure ?_)
  exact wfrom (callWith_ok R S₂ ((F.step0 t₁).step0 t₂) v₂ w₂ kp ha q₂) fun _ _ p => p.from (t₁.trans t₂)
end

/-- as Tr; of the addresses in H nothing is known at the end -/
structure TrD (X H : Addr → Prop) (I : Im) (σ : Sto) (s : Shared) (I' : Im) (σ' : Sto) (s' : Shared) : Prop where
  keep : ∀ b o, ¬ X b → σ b = none → s.heap.get? b = some o → s'.heap.get? b = some o
  le : Im.Le I I'
  newI : ∀ b o, I' b = some o → I b = some o ∨ s.heap.get? b = none ∨ σ b ≠ none
  newσ : ∀ b, σ' b ≠ none → σ b ≠ none ∨ s.heap.get? b = none
  live : ∀ b, ¬ H b → s'.heap.get? b = none → s.heap.get? b = none
section
variable {X Y H G : Addr → Prop} {I I₁ I₂ : Im} {σ σ₁ σ₂ : Sto} {s s₁ s₂ : Shared}
theorem Tr.transD (x : Tr X I σ s I₁ σ₁ s₁) (y : TrD X H I₁ σ₁ s₁ I₂ σ₂ s₂) : TrD X H I σ s I₂ σ₂ s₂ := by
  refine ⟨fun b o hx hs h => ?_, x.le.trans y.le, fun b o h => ?_, fun b h => ?_, fun b hb h => x.live b (y.live b hb h)⟩
  · refine y.keep b o hx ?_ (x.keep b o hx hs h)
    by_cases q : σ₁ b = none
    · exact q
    · rcases x.newσ b q with z | z
      · exact absurd hs z
      · rw [z] at h; cases h
  · rcases y.newI b o h with q | q | q
    · exact x.newI b o q
    · exact .inr (.inl (x.live b q))
    · rcases x.newσ b q with z | z
      · exact .inr (.inr z)
      · exact .inr (.inl z)
  · rcases y.newσ b h with q | q
    · exact x.newσ b q
    · exact .inr (x.live b q)
theorem TrD.close (x : TrD X H I σ s I₁ σ₁ s₁) (hX : ∀ b o, s.heap.get? b = some o → X b → Y b) (hH : ∀ b, H b → s.heap.get? b = none) : Tr Y I σ s I₁ σ₁ s₁ :=
  ⟨fun b o hy hs hb => x.keep b o (fun q => hy (hX b o hb q)) hs hb, x.le, x.newI, x.newσ, fun b hb => by
    by_cases h : H b
    · exact hH b h
    · exact x.live b h hb⟩
theorem TrD.mono (x : TrD X H I σ s I₁ σ₁ s₁) (hX : ∀ b o, s.heap.get? b = some o → X b → Y b) (hH : ∀ b, H b → G b) : TrD Y G I σ s I₁ σ₁ s₁ :=
  ⟨fun b o hy hs hb => x.keep b o (fun q => hy (hX b o hb q)) hs hb, x.le, x.newI, x.newσ, fun b hb => x.live b fun h => hb (hH b h)⟩
end

/-- the run of an iterator: X, what it owns; T, its states -/
inductive PostN (cx : Cx) (X : Addr → Prop) (T : Im → Heap → List Val → Prop) (I : Im) (σ : Sto) (s : Shared) (w : Value) (v : Val) (l : List Val) (s' : Shared) : Prop
  | mk (I' : Im) (t : Tr X I σ s I' σ s') (st : St cx I' σ s') (r : VR cx.w.params I' w v) (q : T I' s'.heap l)
structure Itr (cx : Cx) (tt : Bool) (it : Value) (X : Addr → Prop) (H : Sto → Prop) (T : Im → Heap → List Val → Prop) : Prop where
  frame : ∀ {I h l I' h'}, T I h l → Im.Le I I' → (∀ b o, X b → h.get? b = some o → h'.get? b = some o) → T I' h' l
  live : ∀ {I h l}, T I h l → ∀ b, X b → ∃ o, h.get? b = some o
  next : ∀ {A : Around} {I : Im} {σ : Sto} {s : Shared} {v : Val} {l : List Val} {target : Expr}, A.handled = none → (tt = true → ∃ es n p, target = .Tuple es n p) → St cx I σ s → H σ → T I s.heap (v :: l) → (∀ b, X b → I b = none ∧ σ b = none) →
    wpAny (Md cx) A (pyNext it) (fun r s₁ => ∃ w, r = some w ∧ wpAny (Md cx) A (letOwnedTupleGo target it w) (fun _ s' => PostN cx X T I σ s w v l s') Bot s₁) Bot s
  done : ∀ {A : Around} {I : Im} {σ : Sto} {s : Shared}, A.handled = none → St cx I σ s → H σ → T I s.heap [] → (∀ b, X b → I b = none ∧ σ b = none) →
    wpAny (Md cx) A (pyNext it) (fun r s' => r = none ∧ TrD X X I σ s I σ s' ∧ St cx I σ s') Bot s
  self : ∀ {A : Around} {I : Im} {s : Shared} {l : List Val}, T I s.heap l → wpAny (Md cx) A (pyIter it) (fun v s' => v = it ∧ s' = s) Bot s
inductive ItR (cx : Cx) (tt : Bool) (it : Value) (X : Addr → Prop) (H : Sto → Prop) (I : Im) (h : Heap) (l : List Val) : Prop
  | mk (T : Im → Heap → List Val → Prop) (r : Itr cx tt it X H T) (q : T I h l)
noncomputable def HT : Sto → Prop := fun _ => True

section
variable {cx : Cx} {k : Nat} {σ : Sto}
noncomputable def goers : List String := ["enumerate", "zip", "dict_itemiterator", "dict_reverseitemiterator", "odict_iterator", "itertools.zip_longest", "itertools.pairwise"]
theorem go_other {M : Model} {A : Around} {E : Value → Shared → Prop} {s : Shared} {target : Expr} {it : Addr} {o : Obj} {T : String} {w : Value} {Q : Unit → Shared → Prop} (ho : s.heap.get? it = some o) (hc : o.cls = .type T) (hT : goers.contains T = false) (h : Q () s) :
    wpAny M A (letOwnedTupleGo target (.ref it) w) Q E s := by
  have body : wpAny M A (do
      let (.ref r, .ref a) := (Value.ref it, w) | return
      let o ← load r
      match o.cls, o.data with
      | .type n, .fields vs =>
        if goers.contains n && vs[0]? == some (rawInt a) then
          rule "for.unpacks-the-owned-tuple"
          updateField r 0 .none
      | _, _ => pure ()) Q E s := by
    cases w <;> first | exact wpAny_pure h | skip
    refine wpAny_bind (wpAny_load ho ?_)
    rw [hc]
    cases hd : o.data <;> first | exact wpAny_pure h | skip
    simp only [hT, Bool.false_and, Bool.false_eq_true, if_false]
    exact wpAny_pure h
  unfold letOwnedTupleGo
  cases target <;> first | exact wpAny_pure h | exact body

theorem ext_done {I : Im} {s : Shared} {it : Addr} {h' : Heap} (S : St cx I σ s) (hI : I it = none) (hσ : σ it = none) (he : Heap.ExtBut it s.heap h') : TrD (· = it) (· = it) I σ s I σ { s with heap := h' } ∧ St cx I σ { s with heap := h' } := by
  refine ⟨⟨fun b o hx _ h => he b o hx h, Im.Le.refl _, fun _ _ h => .inl h, fun _ h => .inl h, fun b hb h => ?_⟩, fun a o h => ?_, S.base, fun a c h => ?_, S.apart, S.gens, S.os⟩
  · cases q : s.heap.get? b with
    | none => rfl
    | some o => have := he b o hb q; rw [show (Shared.heap { s with heap := h' }).get? b = none from h] at this; cases this
  · exact he a o (fun e => by subst e; rw [hI] at h; cases h) (S.sub a o h)
  · obtain ⟨p, hp, r⟩ := S.cell a c h
    exact ⟨p, he a p (fun e => by subst e; rw [hσ] at h; cases h) hp, r⟩

theorem itr_list {it a : Addr} (hne : a ≠ it) (vs : List Value) (n : Nat) : Itr cx false (.ref it) (· = it) HT fun I h l => ∃ i, h.IsListIter it a i ∧ I a = some (listOf (List.toArray vs) n) ∧ VRs cx.w.params I (vs.drop i) l where
  frame := fun ⟨i, ⟨o, ho, hc, hd⟩, hI, hv⟩ hle hk => ⟨i, ⟨o, hk it o rfl ho, hc, hd⟩, hle _ _ hI, hv.mono hle⟩
  live := fun ⟨i, ⟨o, ho, _⟩, _, _⟩ b hb => ⟨o, by rw [hb]; exact ho⟩
  next := by
    intro A I σ s v l target hA _ S _ ⟨i, hit, hI, hv⟩ hX
    have hl : s.heap.IsList a (List.toArray vs) := ⟨_, S.sub _ _ hI, rfl, n, rfl⟩
    have hlt : i < vs.length := by
      have := hv.length
      rw [List.length_drop, List.length_cons] at this
      omega
    have e : vs.drop i = vs[i] :: vs.drop (i + 1) := List.drop_eq_getElem_cons hlt
    rw [e] at hv
    refine wpAny_pyNext_list_item hit hl (x := vs[i]) (by simp [hlt]) fun h' hit' hs' => ⟨_, rfl, ?_⟩
    obtain ⟨o, ho, hc, hd⟩ := id hit'
    refine go_other ho hc (by decide) ?_
    obtain ⟨S', T'⟩ := own_change S (hX it rfl).1 (hX it rfl).2 hs' ho s.toks
    exact ⟨I, T', S', hv.1, i + 1, hit', hI, hv.2⟩
  done := by
    intro A I σ s hA S _ ⟨i, hit, hI, hv⟩ hX
    have hl : s.heap.IsList a (List.toArray vs) := ⟨_, S.sub _ _ hI, rfl, n, rfl⟩
    have hge : vs.length ≤ i := by
      have := hv.length
      rw [List.length_drop, List.length_nil] at this
      omega
    refine wpAny_pyNext_list_end hA hit hl (by simp [hge]) fun h' he => ⟨rfl, ext_done S (hX it rfl).1 (hX it rfl).2 he⟩
  self := fun ⟨i, hit, _⟩ => wpAny_pyIter_listiter hit ⟨rfl, rfl⟩

theorem itr_tuple {it a : Addr} (hne : a ≠ it) (vs : List Value) (n : Nat) : Itr cx false (.ref it) (· = it) HT fun I h l => ∃ i, h.IsTupleIter it a i ∧ I a = some (tupOf (List.toArray vs) n) ∧ VRs cx.w.params I (vs.drop i) l where
  frame := fun ⟨i, ⟨o, ho, hc, hd⟩, hI, hv⟩ hle hk => ⟨i, ⟨o, hk it o rfl ho, hc, hd⟩, hle _ _ hI, hv.mono hle⟩
  live := fun ⟨i, ⟨o, ho, _⟩, _, _⟩ b hb => ⟨o, by rw [hb]; exact ho⟩
  next := by
    intro A I σ s v l target hA _ S _ ⟨i, hit, hI, hv⟩ hX
    have hl : s.heap.IsTuple a (List.toArray vs) := ⟨_, S.sub _ _ hI, rfl, n, rfl⟩
    have hlt : i < vs.length := by
      have := hv.length
      rw [List.length_drop, List.length_cons] at this
      omega
    have e : vs.drop i = vs[i] :: vs.drop (i + 1) := List.drop_eq_getElem_cons hlt
    rw [e] at hv
    refine wpAny_pyNext_tuple_item hit hl (x := vs[i]) (by simp [hlt]) fun h' hit' hs' => ⟨_, rfl, ?_⟩
    obtain ⟨o, ho, hc, hd⟩ := id hit'
    refine go_other ho hc (by decide) ?_
    obtain ⟨S', T'⟩ := own_change S (hX it rfl).1 (hX it rfl).2 hs' ho s.toks
    exact ⟨I, T', S', hv.1, i + 1, hit', hI, hv.2⟩
  done := by
    intro A I σ s hA S _ ⟨i, hit, hI, hv⟩ hX
    have hl : s.heap.IsTuple a (List.toArray vs) := ⟨_, S.sub _ _ hI, rfl, n, rfl⟩
    have hge : vs.length ≤ i := by
      have := hv.length
      rw [List.length_drop, List.length_nil] at this
      omega
    refine wpAny_pyNext_tuple_end hA hit hl (by simp [hge]) fun h' he => ⟨rfl, ext_done S (hX it rfl).1 (hX it rfl).2 he⟩
  self := fun ⟨i, hit, _⟩ => wpAny_pyIter_tupleiter hit ⟨rfl, rfl⟩

/-- a list that stands as a cell -/
theorem itr_mut {it a : Addr} {Vs : List Val} : Itr cx false (.ref it) (· = it) (fun σ => σ a = some (.list Vs)) fun I h l => ∃ i, h.IsListIter it a i ∧ l = Vs.drop i where
  frame := fun ⟨i, ⟨o, ho, hc, hd⟩, e⟩ hle hk => ⟨i, ⟨o, hk it o rfl ho, hc, hd⟩, e⟩
  live := fun ⟨i, ⟨o, ho, _⟩, _⟩ b hb => ⟨o, by rw [hb]; exact ho⟩
  next := by
    intro A I σ s v l target hA _ S hσ ⟨i, hit, e⟩ hX
    obtain ⟨oa, hoa, vs, n, rfl, r⟩ := S.cell a _ hσ
    have hl : s.heap.IsList a (List.toArray vs) := ⟨_, hoa, rfl, n, rfl⟩
    have rl := r.length
    have hlt : i < Vs.length := by
      have := congrArg List.length e
      rw [List.length_drop, List.length_cons] at this
      omega
    have hne : a ≠ it := fun q => by
      rw [q] at hoa
      obtain ⟨o, ho, hc, _⟩ := hit
      rw [ho] at hoa; cases hoa
      injection hc with e; exact absurd e (by decide)
    obtain ⟨w, hw, vw⟩ := r.get (k := i) (V := v) (by
      have : (Vs.drop i)[0]? = some v := by rw [← e]; rfl
      simpa using this)
    refine wpAny_pyNext_list_item hit hl (x := w) (by simpa using hw) fun h' hit' hs' => ⟨_, rfl, ?_⟩
    obtain ⟨o, ho, hc, hd⟩ := id hit'
    refine go_other ho hc (by decide) ?_
    obtain ⟨S', T'⟩ := own_change S (hX it rfl).1 (hX it rfl).2 hs' ho s.toks
    refine ⟨I, T', S', vw, i + 1, hit', ?_⟩
    have := congrArg List.tail e
    rw [List.tail_cons, List.tail_drop] at this
    exact this
  done := by
    intro A I σ s hA S hσ ⟨i, hit, e⟩ hX
    obtain ⟨oa, hoa, vs, n, rfl, r⟩ := S.cell a _ hσ
    have hl : s.heap.IsList a (List.toArray vs) := ⟨_, hoa, rfl, n, rfl⟩
    have hge : vs.length ≤ i := by
      have := congrArg List.length e
      rw [List.length_drop, List.length_nil] at this
      have := r.length
      omega
    refine wpAny_pyNext_list_end hA hit hl (by simp [hge]) fun h' he => ⟨rfl, ext_done S (hX it rfl).1 (hX it rfl).2 he⟩
  self := fun ⟨i, hit, _⟩ => wpAny_pyIter_listiter hit ⟨rfl, rfl⟩

/-- the upFrom from i, n of them -/
noncomputable def upFrom (i : Int) : Nat → List Val
  | 0 => []
  | n + 1 => .int i :: upFrom (i + 1) n
theorem itr_range {it : Addr} : Itr cx false (.ref it) (· = it) HT fun I h l => ∃ (i : Int) (n : Nat), IsRangeIter h it i n 1 ∧ l = upFrom i n where
  frame := fun ⟨i, n, ho, e⟩ hle hk => ⟨i, n, hk it _ rfl ho, e⟩
  live := fun ⟨i, n, ho, e⟩ b hb => ⟨_, hb ▸ ho⟩
  next := by
    intro A I σ s v l target hA _ S _ ⟨i, n, hit, e⟩ hX
    cases n with
    | zero => cases e
    | succ n =>
      cases e
      refine wpAny_pyNext_range_item hit (by omega) fun h' hit' hs' => ⟨_, rfl, ?_⟩
      have hit'' : IsRangeIter h' it (i + 1) n 1 := by
        have e : ((n + 1 : Nat) : Int) - 1 = (n : Int) := by omega
        rw [e] at hit'; exact hit'
      refine go_other (o := { cls := .type "range_iterator", dict := none, data := .fields #[rawInt (i + 1), rawInt n, rawInt 1], slots := #[] }) hit'' rfl (by decide) ?_
      obtain ⟨S', T'⟩ := own_change S (hX it rfl).1 (hX it rfl).2 hs' hit' (s.toks + 1)
      exact ⟨I, T', S', vr_int, i + 1, n, hit'', rfl⟩
  done := by
    intro A I σ s hA S _ ⟨i, n, hit, e⟩ hX
    cases n with
    | succ n => cases e
    | zero => exact wpAny_pyNext_range_end hA hit (by simp) fun h' he => ⟨rfl, ext_done S (hX it rfl).1 (hX it rfl).2 he⟩
  self := fun ⟨i, n, hit, _⟩ => wpAny_pyIter_rangeiter hit ⟨rfl, rfl⟩

/-- numbered items from i -/
noncomputable def enums (i : Int) : List Val → List Val
  | [] => []
  | v :: l => .tup [.int i, v] :: enums (i + 1) l
theorem itr_enum {e it a : Addr} (hne : e ≠ it) (ha : a ≠ it) (hae : a ≠ e) (vs : List Value) (n : Nat) : Itr cx true (.ref e) (fun b => b = e ∨ b = it) HT fun I h l =>
    ∃ (i : Nat) (old : Value) (ls : List Val), IsEnum h e it i old ∧ h.IsListIter it a i ∧ I a = some (listOf (List.toArray vs) n) ∧ VRs cx.w.params I (vs.drop i) ls ∧ l = enums i ls where
  frame := fun ⟨i, old, ls, he, ⟨o, ho, hc, hd⟩, hI, hv, el⟩ hle hk => ⟨i, old, ls, hk e _ (.inl rfl) he, ⟨o, hk it o (.inr rfl) ho, hc, hd⟩, hle _ _ hI, hv.mono hle, el⟩
  live := fun ⟨i, old, ls, he, ⟨o, ho, hc, hd⟩, _⟩ b hb => by
    rcases hb with rfl | rfl
    · exact ⟨_, he⟩
    · exact ⟨o, ho⟩
  next := by
    intro A I σ s v l target hA ht S _ ⟨i, old, ls, he, hit, hI, hv, el⟩ hX
    obtain ⟨es, nn, p, rfl⟩ := ht rfl
    cases ls with
    | nil => cases el
    | cons u ls =>
      obtain ⟨rfl, rfl⟩ := List.cons.inj el
      have hl : s.heap.IsList a (List.toArray vs) := ⟨_, S.sub _ _ hI, rfl, n, rfl⟩
      have hlt : i < vs.length := by
        have := hv.length
        rw [List.length_drop, List.length_cons] at this
        omega
      have ed : vs.drop i = vs[i] :: vs.drop (i + 1) := List.drop_eq_getElem_cons hlt
      rw [ed] at hv
      refine wpAny_pyNext_enum_item he hit hl (x := vs[i]) (by simp [hlt]) hne fun h' he' hit' ht' hz' hk' => ⟨_, rfl, ?_⟩
      refine wpAny_letOwnedTupleGo_enum he' fun h'' he'' hs'' => ?_
      have ez : e < s.heap.objs.size := Heap.lt_size he
      have itz : it < s.heap.objs.size := let ⟨_, ho, _⟩ := hit; Heap.lt_size ho
      have ne1 : s.heap.objs.size ≠ e := fun q => Nat.lt_irrefl _ (q ▸ ez)
      have hT : h''.get? s.heap.objs.size = some (tupOf #[.int i s.toks, vs[i]] 0) := (hs''.2 _ ne1).trans ht'
      have kk : ∀ b o, b ≠ e → b ≠ it → s.heap.get? b = some o → h''.get? b = some o := fun b o h1 h2 h3 => (hs''.2 b h1).trans (hk' b o h1 h2 h3)
      have le := Im.le_put (o := tupOf #[.int i s.toks, vs[i]] 0) S.freshI
      have hit'' : h''.IsListIter it a (i + 1) := by
        obtain ⟨o, ho, hc, hd⟩ := hit'
        exact ⟨o, (hs''.2 it (Ne.symm hne)).trans ho, hc, hd⟩
      refine ⟨I.put s.heap.objs.size (tupOf #[.int i s.toks, vs[i]] 0), ?_, ?_, ?_, i + 1, vs[i], ls, ?_, hit'', le _ _ hI, hv.2.mono le, ?_⟩
      · refine ⟨fun b o hx _ h => kk b o (fun q => hx (.inl q)) (fun q => hx (.inr q)) h, le, fun b o h => ?_, fun _ h => .inl h, fun b q => ?_⟩
        · by_cases eb : b = s.heap.objs.size
          · exact .inr (.inl (eb ▸ get_size _))
          · rw [Im.put_ne _ _ eb] at h; exact .inl h
        · cases z : s.heap.get? b with
          | none => rfl
          | some o =>
            exfalso
            by_cases h1 : b = e
            · subst h1; rw [he''] at q; cases q
            · by_cases h2 : b = it
              · subst h2
                obtain ⟨o', ho', _⟩ := hit''
                rw [ho'] at q; cases q
              · rw [kk b o h1 h2 z] at q; cases q
      · have nI : ∀ b o, I b = some o → b ≠ e ∧ b ≠ it := fun b o h => ⟨fun q => (by subst q; rw [(hX b (.inl rfl)).1] at h; cases h), fun q => (by subst q; rw [(hX b (.inr rfl)).1] at h; cases h)⟩
        have nσ : ∀ b c, σ b = some c → b ≠ e ∧ b ≠ it := fun b o h => ⟨fun q => (by subst q; rw [(hX b (.inl rfl)).2] at h; cases h), fun q => (by subst q; rw [(hX b (.inr rfl)).2] at h; cases h)⟩
        refine ⟨fun b o h => ?_, fun b o h => le b o (S.base b o h), fun b c h => ?_, fun b c h => ?_, S.gens, S.os⟩
        · by_cases eb : b = s.heap.objs.size
          · subst eb; rw [Im.put_self] at h; cases h; exact hT
          · rw [Im.put_ne _ _ eb] at h; exact kk b o (nI b o h).1 (nI b o h).2 (S.sub b o h)
        · obtain ⟨p, hp, hc⟩ := S.cell b c h
          exact ⟨p, kk b p (nσ b c h).1 (nσ b c h).2 hp, hc.mono le⟩
        · by_cases eb : b = s.heap.objs.size
          · subst eb; rw [S.freshS] at h; cases h
          · rw [Im.put_ne _ _ eb]; exact S.apart b c h
      · exact vr_tup (vs := [.int i s.toks, vs[i]]) (n := 0) (Im.put_self ..) ⟨vr_int, hv.1.mono le, trivial⟩
      · exact he''
      · rfl
  done := by
    intro A I σ s hA S _ ⟨i, old, ls, he, hit, hI, hv, el⟩ hX
    have hl : s.heap.IsList a (List.toArray vs) := ⟨_, S.sub _ _ hI, rfl, n, rfl⟩
    cases ls with
    | cons _ _ => cases el
    | nil =>
      have hge : vs.length ≤ i := by
        have := hv.length
        rw [List.length_drop, List.length_nil] at this
        omega
      refine wpAny_pyNext_enum_end hA he hit hl (by simp [hge]) fun h' hx => ?_
      obtain ⟨T', S'⟩ := ext_done S (hX it (.inr rfl)).1 (hX it (.inr rfl)).2 hx
      exact ⟨rfl, T'.mono (fun b _ _ h => .inr h) (fun b h => .inr h), S'⟩
  self := fun ⟨i, old, ls, he, _⟩ => wpAny_pyIter_enum he ⟨rfl, rfl⟩

inductive PostI (cx : Cx) (tt : Bool) (I : Im) (σ : Sto) (s : Shared) (it : Value) (Q : (Sto → Prop) → List Val → Sto → Prop) (s' : Shared) : Prop
  | mk (I' : Im) (σ' : Sto) (X : Addr → Prop) (H : Sto → Prop) (l : List Val) (t : Tr Own0 I σ s I' σ' s') (st : St cx I' σ' s') (r : ItR cx tt it X H I' s'.heap l) (hX : ∀ b, X b → I' b = none ∧ σ' b = none ∧ s.heap.get? b = none) (q : Q H l σ')
noncomputable def WpIt (cx : Cx) (k : Nat) (tt : Bool) (m : Loc) (σ : Sto) (e : Expr) (Q : (Sto → Prop) → List Val → Sto → Prop) : Prop :=
  ∀ A env I s, Room A k → St cx I σ s → FrR cx I σ m env s → wpAny (Md cx) A (eval e env) (fun v s₁ => wpAny (Md cx) A (pyIter v) (fun it s' =>
    PostI cx tt I σ s it Q s') Bot s₁) Bot s
variable {m : Loc} {Q : (Sto → Prop) → List Val → Sto → Prop}
theorem Tr.fresh_size {I : Im} {σ' : Sto} {s s₁ : Shared} {I₁ : Im} (t : Tr Own0 I σ s I₁ σ' s₁) : s.heap.get? s₁.heap.objs.size = none := t.live _ (get_size _)
theorem wit_lst {e : Expr} (h : WpE cx k m σ e fun V σ' => ∃ Vs, V = .lst Vs ∧ Q HT Vs σ') : WpIt cx k false m σ e Q := fun A env I s R S F =>
  wv (h A env I s R S F) fun v s₁ I₁ σ₁ V t₁ S₁ v₁ ⟨Vs, eV, q⟩ => by
    subst eV
    obtain ⟨a, vs, n, rfl, ha, r⟩ := un_lst v₁
    refine wpAny_pyIter_list (items := List.toArray vs) ⟨_, S₁.sub _ _ ha, rfl, n, rfl⟩ ?_
    have hne : a ≠ s₁.heap.objs.size := fun e => Nat.lt_irrefl _ (e ▸ S₁.lt ha)
    refine ⟨I₁, σ₁, _, _, Vs, t₁.trans (Tr.pushH _ _), S₁.pushH _, ⟨_, itr_list hne vs n, 0, ⟨_, Heap.get?_push_size _ rfl, rfl, rfl⟩, ha, by simpa using r⟩, fun b hb => ?_, q⟩
    subst hb
    exact ⟨S₁.freshI, S₁.freshS, t₁.fresh_size⟩
theorem wit_mut {e : Expr} (h : WpE cx k m σ e fun V σ' => ∃ a Vs, V = .raw (.ref a) ∧ σ' a = some (.list Vs) ∧ Q (fun σ => σ a = some (.list Vs)) Vs σ') : WpIt cx k false m σ e Q := fun A env I s R S F =>
  wv (h A env I s R S F) fun v s₁ I₁ σ₁ V t₁ S₁ v₁ ⟨a, Vs, eV, hσ, q⟩ => by
    subst eV
    cases un_raw v₁
    obtain ⟨oa, hoa, vs, n, rfl, r⟩ := S₁.cell a _ hσ
    refine wpAny_pyIter_list (items := List.toArray vs) ⟨_, hoa, rfl, n, rfl⟩ ?_
    refine ⟨I₁, σ₁, _, _, Vs, t₁.trans (Tr.pushH _ _), S₁.pushH _, ⟨_, itr_mut, 0, ⟨_, Heap.get?_push_size _ rfl, rfl, rfl⟩, rfl⟩, fun b hb => ?_, q⟩
    subst hb
    exact ⟨S₁.freshI, S₁.freshS, t₁.fresh_size⟩
theorem wit_tup {e : Expr} (h : WpE cx k m σ e fun V σ' => ∃ Vs, V = .tup Vs ∧ Q HT Vs σ') : WpIt cx k false m σ e Q := fun A env I s R S F =>
  wv (h A env I s R S F) fun v s₁ I₁ σ₁ V t₁ S₁ v₁ ⟨Vs, eV, q⟩ => by
    subst eV
    obtain ⟨a, vs, n, rfl, ha, r⟩ := un_tup v₁
    refine wpAny_pyIter_tuple (items := List.toArray vs) ⟨_, S₁.sub _ _ ha, rfl, n, rfl⟩ ?_
    have hne : a ≠ s₁.heap.objs.size := fun e => Nat.lt_irrefl _ (e ▸ S₁.lt ha)
    refine ⟨I₁, σ₁, _, _, Vs, t₁.trans (Tr.pushH _ _), S₁.pushH _, ⟨_, itr_tuple hne vs n, 0, ⟨_, Heap.get?_push_size _ rfl, rfl, rfl⟩, ha, by simpa using r⟩, fun b hb => ?_, q⟩
    subst hb
    exact ⟨S₁.freshI, S₁.freshS, t₁.fresh_size⟩
theorem wit_rng {e : Expr} (h : WpE cx k m σ e fun V σ' => ∃ n : Nat, V = .rng n ∧ n < 1000000 ∧ Q HT (upFrom 0 n) σ') : WpIt cx k false m σ e Q := fun A env I s R S F =>
  wv (h A env I s R S F) fun v s₁ I₁ σ₁ V t₁ S₁ v₁ ⟨n, eV, hn, q⟩ => by
    subst eV
    obtain ⟨a, t, u, w, rfl, ha⟩ := un_rng v₁
    have sz : Builtin.Range.rangeSize 0 n 1 = n := by rw [rangeSize_one]; split <;> omega
    refine wpAny_pyIter_range (S₁.sub _ _ ha) ?_ ?_
    · unfold Builtin.Range.small
      rw [sz]
      simp [Builtin.Range.rangeFitsLong]
      omega
    rw [sz]
    refine ⟨I₁, σ₁, _, _, upFrom 0 n, t₁.trans (Tr.pushH _ _), S₁.pushH _, ⟨_, itr_range (it := s₁.heap.objs.size), 0, n, Heap.get?_push_size _ rfl, rfl⟩, fun b hb => ?_, q⟩
    subst hb
    exact ⟨S₁.freshI, S₁.freshS, t₁.fresh_size⟩
/-- enumerate(list) -/
theorem wit_enum {id : Str} {p pos : Pos} {e : Expr} (hm : (id, Val.raw (.type "enumerate")) ∈ m.v ∨ (id, Val.raw (.type "enumerate")) ∈ m.c) (h : WpE cx k m σ e fun V σ' => ∃ Vs, V = .lst Vs ∧ Q HT (enums 0 Vs) σ') (he : isStar e = false := by rfl) :
    WpIt cx k true m σ (.Call (.Name id p) [e] [] pos) Q := fun A env I s R S F => by
  refine wpAny_Call_Name_kw ?_
  have hn : WpE cx k m σ (.Name id p) fun V τ => V = .raw (.type "enumerate") ∧ τ = σ := wpe_nameG hm (fun h => nomatch h) ⟨rfl, rfl⟩
  refine wv (hn A env I s R S F) fun f s₀ I₀ σ₀ V t₀ S₀ v₀ ⟨e1, e2⟩ => ?_
  subst e1 e2
  cases un_raw v₀
  have hb : backTo pos (starEach [e] env) = [(false, eval e env)] := by rw [star_cons he]; rfl
  show wpAny _ _ (callWith pos (.type "enumerate") [] (backTo pos (starEach [e] env)) []) _ _ _
  rw [hb]
  refine callWith_of (P := fun h => True) rfl (fun g hg => ⟨_, .inr (.inl rfl), Looks.of_pure rfl⟩) ?_
  refine evalArgs_plain (spliced_cons ?_)
  refine wv (h A env I₀ s₀ R S₀ (F.step0 t₀)) fun v s₁ I₁ σ₁ V t₁ S₁ v₁ ⟨Vs, eV, q⟩ => spliced_nil ⟨trivial, ?_⟩
  subst eV
  obtain ⟨a, vs, n, rfl, ha, r⟩ := un_lst v₁
  show wpAny _ _ (call (.type "enumerate") [.ref a]) _ _ _
  refine call_enumerate_list (items := List.toArray vs) ⟨_, S₁.sub _ _ ha, rfl, n, rfl⟩ fun h' he' hi' hz' hk' => ?_
  refine wpAny_pyIter_enum he' ?_
  have z1 : a ≠ s₁.heap.objs.size := fun e => Nat.lt_irrefl _ (e ▸ S₁.lt ha)
  have z2 : a ≠ s₁.heap.objs.size + 1 := fun e => by have := S₁.lt ha; rw [e] at this; exact absurd this (Nat.not_lt.mpr (Nat.le_succ _))
  have hnone : s₁.heap.get? (s₁.heap.objs.size + 1) = none := by
    cases q : s₁.heap.get? (s₁.heap.objs.size + 1) with
    | none => rfl
    | some o => exact absurd (Heap.lt_size q) (Nat.not_lt.mpr (Nat.le_succ _))
  have T := t₀.trans t₁
  have S₂ := S₁.grow hk' s₁.toks
  refine ⟨I₁, σ₁, _, _, enums 0 Vs, T.trans (Tr.grow hk' s₁.toks _), S₂, ⟨_, itr_enum (e := s₁.heap.objs.size + 1) (it := s₁.heap.objs.size) (a := a) (Nat.succ_ne_self _) z1 z2 vs n, 0, .none, Vs, he', hi', ha, by simpa using r, rfl⟩, fun b hb => ?_, q⟩
  have off : ∀ b, s₁.heap.get? b = none → I₁ b = none ∧ σ₁ b = none ∧ s.heap.get? b = none := fun b hb => by
    refine ⟨?_, ?_, T.live b hb⟩
    · cases z : I₁ b with
      | none => rfl
      | some o => rw [S₁.sub b o z] at hb; cases hb
    · cases z : σ₁ b with
      | none => rfl
      | some c => obtain ⟨o, ho, _⟩ := S₁.cell b c z; rw [ho] at hb; cases hb
  rcases hb with rfl | rfl
  · exact off _ hnone
  · exact off _ (get_size _)
end

section
variable {cx : Cx} {k : Nat} {m : Loc} {σ : Sto}

inductive PostA (cx : Cx) (ns : List Str) (c : List (Str × Val)) (kk : List Str) (env : Env) (I : Im) (σ : Sto) (s : Shared) (Q : List (Str × Val) → Prop) (s' : Shared) : Prop
  | mk (I' : Im) (v' : List (Str × Val)) (t : Tr (Own ns env) I σ s I' σ s') (st : St cx I' σ s') (fr : FrR cx I' σ ⟨v', c, kk⟩ env s') (hn : names v' = ns) (q : Q v')
noncomputable def WpAs (cx : Cx) (m : Loc) (σ : Sto) (t : Expr) (V : Val) (Q : List (Str × Val) → Prop) : Prop :=
  ∀ A env I s v, A.handled = none → St cx I σ s → FrR cx I σ m env s → VR cx.w.params I v V → wpAny (Md cx) A (assign t env v) (fun _ s' => PostA cx (names m.v) m.c m.k env I σ s Q s') Bot s
noncomputable def WpAsL (cx : Cx) (m : Loc) (σ : Sto) (ts : List Expr) (Vs : List Val) (Q : List (Str × Val) → Prop) : Prop :=
  ∀ A env I s vs, A.handled = none → St cx I σ s → FrR cx I σ m env s → VRs cx.w.params I vs Vs → wpAny (Md cx) A (assignInOrder ((assignEach ts env).map (·.2)) vs) (fun _ s' => PostA cx (names m.v) m.c m.k env I σ s Q s') Bot s
theorem wpa_name {x : Str} {pos : Pos} {V : Val} {Q : List (Str × Val) → Prop} {v' : List (Str × Val)} (u : Upd m.v x V v') (q : Q v') : WpAs cx m σ (.Name x pos) V Q := fun A env I s v hA S F vr =>
  wpAny_assign_Name (wfrom (store_ok S F u vr) fun _ s' ⟨t, S', F'⟩ => ⟨I, v', t, S', F', u.names, q⟩)
theorem wpal_nil {Q : List (Str × Val) → Prop} (q : Q m.v) : WpAsL cx m σ [] [] Q := fun A env I s vs hA S F vr => by
  obtain rfl := vr.nil_inv
  exact assignInOrder_nil ⟨I, m.v, Tr.refl .., S, F, rfl, q⟩
theorem each_cons {e : Expr} {es : List Expr} {env : Env} (h : isStar e = false) : assignEach (e :: es) env = (false, assign e env) :: assignEach es env := by
  cases e <;> first | rfl | (cases h; done)
theorem wpal_cons {t : Expr} {ts : List Expr} {V : Val} {Vs : List Val} {Q : List (Str × Val) → Prop} (h : WpAs cx m σ t V fun v' => WpAsL cx ⟨v', m.c, m.k⟩ σ ts Vs Q) (ht : isStar t = false := by rfl) : WpAsL cx m σ (t :: ts) (V :: Vs) Q := fun A env I s vs hA S F vr => by
  obtain ⟨v, vs, rfl, v₁, vr⟩ := vr.cons_inv
  · skip
    rw [each_cons ht]
    refine assignInOrder_cons (wfrom (h A env I s v hA S F v₁) fun _ s₁ ⟨I₁, v', t₁, S₁, F₁, hn, q⟩ => ?_)
    refine wfrom (q A env I₁ s₁ vs hA S₁ F₁ (vr.mono t₁.le)) fun _ s₂ ⟨I₂, v₂, t₂, S₂, F₂, hn₂, q₂⟩ => ?_
    have e : names (Loc.mk v' m.c m.k).v = names m.v := hn
    rw [e] at t₂ hn₂
    exact ⟨I₂, v₂, t₁.trans t₂, S₂, F₂, hn₂, q₂⟩
theorem each_len {env : Env} : ∀ (ts : List Expr), (assignEach ts env).length = ts.length
  | [] => rfl
  | t :: ts => by cases t <;> exact congrArg Nat.succ (each_len ts)
theorem each_star {env : Env} : ∀ (ts : List Expr), (ts.all fun e => !isStar e) = true → (assignEach ts env).findIdx? (·.1) = none
  | [], _ => rfl
  | t :: ts, h => by
    simp only [List.all_cons, Bool.and_eq_true, Bool.not_eq_true'] at h
    rw [each_cons h.1, List.findIdx?_cons]
    simp [each_star ts h.2]
theorem St.extBut {I : Im} {s : Shared} (S : St cx I σ s) {h' : Heap} (he : Heap.ExtBut s.heap.objs.size s.heap h') (X : Addr → Prop) : St cx I σ { s with heap := h' } ∧ Tr X I σ s I σ { s with heap := h' } := by
  have kp : ∀ b o, s.heap.get? b = some o → h'.get? b = some o := fun b o hb => he b o (Nat.ne_of_lt (Heap.lt_size hb)) hb
  exact ⟨S.grow kp s.toks, Tr.grow kp s.toks X⟩
theorem wpa_tuple {ts : List Expr} {kk : Nat} {pos : Pos} {Vs : List Val} {Q : List (Str × Val) → Prop} (h : WpAsL cx m σ ts Vs Q) (hl : Vs.length = ts.length := by rfl) (ht : (ts.all fun e => !isStar e) = true := by rfl) : WpAs cx m σ (.Tuple ts kk pos) (.tup Vs) Q := fun A env I s v hA S F vr => by
  obtain ⟨a, vs, n, rfl, ha, r⟩ := un_tup vr
  have it : IsTup s.heap a (List.toArray vs) := ⟨_, S.sub _ _ ha, rfl, n, rfl⟩
  refine assign_Tuple_tuple hA it ?_ (each_star ts ht) fun h' he => ?_
  · rw [each_len, List.size_toArray, r.length, hl]
  obtain ⟨S', T'⟩ := S.extBut he Own0
  refine wfrom (h A env I _ vs hA S' (F.step0 T') r) fun _ s₂ ⟨I₂, v₂, t₂, S₂, F₂, hn₂, q₂⟩ => ⟨I₂, v₂, T'.of0.trans t₂, S₂, F₂, hn₂, q₂⟩

theorem upd_comm {mm m1 m2 : List (Str × Val)} {x y : Str} {V W : Val} (hxy : x ≠ y) (u : Upd mm x V m1) (w : Upd m1 y W m2) : ∃ m3, Upd mm y W m3 ∧ Upd m3 x V m2 := by
  induction u generalizing m2 with
  | here =>
    cases w with
    | here => exact absurd rfl hxy
    | there w => exact ⟨_, .there w, .here⟩
  | there u ih =>
    cases w with
    | here => exact ⟨_, .here, .there u⟩
    | there w => obtain ⟨m3, a, b⟩ := ih hxy w; exact ⟨_, .there a, .there b⟩
theorem some_or {c : Prop} [Decidable c] {x : Str} : (if c then some x else none) = none ∨ (if c then some x else none) = some x := by
  by_cases h : c
  · exact .inr (if_pos h)
  · exact .inl (if_neg h)
theorem filter_two {f : Expr → Option Str} {a b : Expr} {x y : Str} (ha : f a = none ∨ f a = some x) (hb : f b = none ∨ f b = some y) (h : ([a, b].filterMap f).length = 2) : [a, b].filterMap f = [x, y] := by
  revert h
  rw [List.filterMap, List.filterMap, List.filterMap]
  rcases ha with ha | ha <;> rcases hb with hb | hb <;> rw [ha, hb] <;> first | exact fun _ => rfl | exact fun h => nomatch h
theorem swaps_cases {x y : Str} {px py p : Pos} {kk : Nat} {value : Expr} {env : Env} (hv : ∀ vs k p, value = .Tuple vs k p → vs.all (constantsAlone 8) = false) :
    ∃ r, swappedStores [.Tuple [.Name x px, .Name y py] kk p] value env = pure r ∧ (r = none ∨ r = some [x, y]) := by
  cases value with
  | Tuple vs k2 p2 =>
    have hv := hv _ _ _ rfl
    delta swappedStores
    dsimp only
    split
    · exact ⟨_, rfl, .inl rfl⟩
    · split
      · exact ⟨_, rfl, .inl rfl⟩
      · split
        · exact ⟨_, rfl, .inl rfl⟩
        · rename_i h3
          split
          · exact ⟨_, rfl, .inl rfl⟩
          · rw [hv]
            exact ⟨_, rfl, .inr (congrArg some (filter_two some_or some_or (bne_eq_false_iff_eq.mp (Bool.or_eq_false_iff.mp (Eq.mp (Bool.not_eq_true _) h3)).1)))⟩
  | _ => exact ⟨none, rfl, .inl rfl⟩

variable {Q : Fl → Loc → Sto → Prop}
/-- x, y = (..) -/
@[reducible] noncomputable def kTwo (v c : List (Str × Val)) (kk : List Str) (x y : Str) (Q : Fl → Loc → Sto → Prop) : Val → Sto → Prop := fun V σ => ∃ A B v₁ v₂, V = .tup [A, B] ∧ Upd v x A v₁ ∧ Upd v₁ y B v₂ ∧ Q .next ⟨v₂, c, kk⟩ σ
theorem wps_two {vv c : List (Str × Val)} {ks : List Str} {x y : Str} {px py p pos : Pos} {kk : Nat} {value : Expr} (hxy : x ≠ y)
    (h : WpE cx k ⟨vv, c, ks⟩ σ value (kTwo vv c ks x y Q))
    (hv : ∀ vs k p, value = .Tuple vs k p → vs.all (constantsAlone 8) = false) :
    WpS cx k ⟨vv, c, ks⟩ σ (.Assign [.Tuple [.Name x px, .Name y py] kk p] value pos) Q := fun A env I s R S F => by
  obtain ⟨r, hr, hc⟩ := swaps_cases (x := x) (y := y) (px := px) (py := py) (p := p) (kk := kk) (env := env) hv
  have hs : swapsWithSole [.Tuple [.Name x px, .Name y py] kk p] value pos.line env = pure false := by
    cases value <;> rfl
  rcases hc with rfl | rfl
  · refine Assign_Tuple (wv (h A env I s R S F) fun v s₁ I₁ σ₁ V t₁ S₁ v₁ ⟨A', B', w₁, w₂, e, u₁, u₂, q⟩ => ?_) hs hr
    subst e
    have F₁ := F.step0 t₁
    have as : WpAs cx ⟨vv, c, ks⟩ σ₁ (.Tuple [.Name x px, .Name y py] kk p) (.tup [A', B']) (fun v' => v' = w₂) :=
      wpa_tuple (wpal_cons (wpa_name u₁ (wpal_cons (wpa_name u₂ (wpal_nil rfl)))))
    refine wfrom (as A env I₁ s₁ v R.hand S₁ F₁ v₁) fun _ s₂ ⟨I₂, v', t₂, S₂, F₂, hn, e⟩ => ?_
    subst e
    exact ⟨I₂, σ₁, .next, _, t₁.of0.trans t₂, S₂, trivial, F₂, hn, q⟩
  · refine Assign_Tuple_swapped (wv (h A env I s R S F) fun v s₁ I₁ σ₁ V t₁ S₁ v₁ ⟨A', B', w₁, w₂, e, u₁, u₂, q⟩ => ?_) hs hr
    subst e
    have F₁ := F.step0 t₁
    obtain ⟨a, vs, n, rfl, ha, r⟩ := un_tup v₁
    have it : IsTup s₁.heap a (List.toArray vs) := ⟨_, S₁.sub _ _ ha, rfl, n, rfl⟩
    have hl : (2 : Nat) = (List.toArray vs).size := by rw [List.size_toArray, r.length]; rfl
    show wpAny _ _ (unpackItems (.ref a) 2 none) _ _ _
    rw [hl]
    refine unpackItems_tuple R.hand it fun h' he => ?_
    obtain ⟨S', T'⟩ := S₁.extBut he Own0
    obtain ⟨w₃, u₃, u₄⟩ := upd_comm hxy u₁ u₂
    obtain ⟨va, vb, rfl, ra, rb⟩ := two_args r
    · skip
      show wpAny _ _ (assignInOrder [bindName env y, bindName env x] [vb, va]) _ _ _
      refine assignInOrder_cons (bindName_ (wfrom (store_ok S' (F₁.step0 T') u₃ rb) fun _ s₂ ⟨t₂, S₂, F₂⟩ => ?_))
      refine assignInOrder_cons (bindName_ (wfrom (store_ok S₂ F₂ u₄ ra) fun _ s₃ ⟨t₃, S₃, F₃⟩ => assignInOrder_nil ?_))
      have e : names (Loc.mk w₃ c ks).v = names vv := u₃.names
      rw [e] at t₃
      exact ⟨I₁, σ₁, .next, _, ((t₁.trans T').of0.trans t₂).trans t₃, S₃, trivial, F₃, u₄.names.trans u₃.names, q⟩
/-- a tuple of names = any other expression -/
noncomputable def notTup : Expr → Bool
  | .Tuple .. => false
  | _ => true
@[reducible] noncomputable def kMany (cx : Cx) (v c : List (Str × Val)) (ks : List Str) (t : Expr) (Q : Fl → Loc → Sto → Prop) : Val → Sto → Prop := fun V σ => WpAs cx ⟨v, c, ks⟩ σ t V fun v' => Q .next ⟨v', c, ks⟩ σ
theorem wps_many {v c : List (Str × Val)} {ks : List Str} {ts : List Expr} {p pos : Pos} {kk : Nat} {value : Expr}
    (h : WpE cx k ⟨v, c, ks⟩ σ value (kMany cx v c ks (.Tuple ts kk p) Q)) (hv : notTup value = true := by rfl) :
    WpS cx k ⟨v, c, ks⟩ σ (.Assign [.Tuple ts kk p] value pos) Q := fun A env I s R S F => by
  have hs : swapsWithSole [.Tuple ts kk p] value pos.line env = pure false := by cases value <;> rfl
  have hw : swappedStores [.Tuple ts kk p] value env = pure none := by
    cases value <;> first | rfl | (cases hv; done)
  refine Assign_Tuple (wv (h A env I s R S F) fun v s₁ I₁ σ₁ V t₁ S₁ v₁ q => ?_) hs hw
  refine wfrom (q A env I₁ s₁ v R.hand S₁ (F.step0 t₁) v₁) fun _ s₂ ⟨I₂, v', t₂, S₂, F₂, hn, q₂⟩ => ?_
  exact ⟨I₂, σ₁, .next, _, t₁.of0.trans t₂, S₂, trivial, F₂, hn, q₂⟩

inductive WhileI (cx : Cx) (m : Loc) (env : Env) (I : Im) (σ : Sto) (s : Shared) (J : Nat → Loc → Sto → Prop) (n : Nat) (s' : Shared) : Prop
  | mk (I' : Im) (σ' : Sto) (m' : Loc) (t : Tr (Own (names m.v) env) I σ s I' σ' s') (st : St cx I' σ' s') (fr : FrR cx I' σ' m' env s') (hn : names m'.v = names m.v) (j : J n m' σ')
theorem wps_while {test : Expr} {body : List Stmt} {pos : Pos} (J : Nat → Loc → Sto → Prop) (n : Nat) (h0 : J n m σ)
    (turn : ∀ n m₁ σ₁, names m₁.v = names m.v → J n m₁ σ₁ → WpT cx k m₁ σ₁ test fun b σ₂ => if b then WpSs cx k m₁ σ₂ body fun F m₃ σ₃ => match F with
      | .next | .cont => ∃ n', n' < n ∧ J n' m₃ σ₃
      | .brk => Q .next m₃ σ₃
      | .ret V => Q (.ret V) m₃ σ₃ else Q .next m₁ σ₂) : WpS cx k m σ (.While test body [] pos) Q := fun A env I s R S F => by
  refine wpAny_While (codeAny_whileLoop (WhileI cx m env I σ s J) ?_ n ⟨I, σ, m, Tr.refl .., S, F, rfl, h0⟩)
  rintro n s' ⟨I', σ', m', t, S', F', hn, j⟩
  refine wpAny_mono (turn n m' σ' hn j A env I' s' R S' F') (fun b s₂ ⟨I₂, σ₂, t₂, S₂, q⟩ => ?_) fun _ _ z => z.elim
  have F₂ := F'.step0 t₂
  cases b with
  | true =>
    simp only [if_true] at q ⊢
    refine wpAny_mono (q A env I₂ s₂ R S₂ F₂) (fun f s₃ ⟨I₃, σ₃, G, m₃, t₃, S₃, fl, F₃, hn₃, q₃⟩ => ?_) fun _ _ z => z.elim
    rw [hn] at t₃ hn₃
    have T := (t.trans t₂.of0).trans t₃
    cases f <;> cases G <;> first
      | exact fl.elim
      | exact (let ⟨n', hlt, j'⟩ := q₃; ⟨n', hlt, I₃, σ₃, m₃, T, S₃, F₃, hn₃, j'⟩)
      | exact ⟨I₃, σ₃, .next, m₃, T, S₃, trivial, F₃, hn₃, q₃⟩
      | exact ⟨I₃, σ₃, .ret _, m₃, T, S₃, fl, F₃, hn₃, q₃⟩
  | false =>
    simp only [Bool.false_eq_true, if_false] at q ⊢
    exact wpAny_execs_nil ⟨I₂, σ₂, .next, m', t.trans t₂.of0, S₂, trivial, F₂, hn, q⟩

theorem own_live {I : Im} {env : Env} {s : Shared} (F : FrR cx I σ m env s) {b : Addr} (h : b = env.locals ∨ ∃ x, env.cells.lookup x = some b) : ∃ o, s.heap.get? b = some o := by
  rcases h with rfl | ⟨x, h⟩
  · obtain ⟨mm, ⟨o, es, ep, ho, _⟩, _⟩ := F.vals; exact ⟨o, ho⟩
  · obtain ⟨v, o, ho, _⟩ := F.cells x b h; exact ⟨o, ho⟩
theorem tr_off {X Y : Addr → Prop} {I I' : Im} {σ' : Sto} {s s' : Shared} (t : Tr X I σ s I' σ' s') (h : ∀ b, Y b → I b = none ∧ σ b = none) (hl : ∀ b, Y b → ∃ o, s.heap.get? b = some o) : ∀ b, Y b → I' b = none ∧ σ' b = none := fun b hb => by
  obtain ⟨o, ho⟩ := hl b hb
  refine ⟨?_, ?_⟩
  · cases q : I' b with
    | none => rfl
    | some p =>
      rcases t.newI b p q with z | z | z
      · rw [(h b hb).1] at z; cases z
      · rw [ho] at z; cases z
      · exact absurd (h b hb).2 z
  · by_cases q : σ' b = none
    · exact q
    · rcases t.newσ b q with z | z
      · exact absurd (h b hb).2 z
      · rw [ho] at z; cases z
@[reducible] noncomputable def kFb (J : List Val → Loc → Sto → Prop) (l : List Val) (Q : Fl → Loc → Sto → Prop) : Fl → Loc → Sto → Prop := fun F m₃ σ₃ => match F with
  | .next | .cont => J l m₃ σ₃
  | .brk => Q .next m₃ σ₃
  | .ret V => Q (.ret V) m₃ σ₃
inductive ForI (cx : Cx) (m : Loc) (env : Env) (X : Addr → Prop) (T : Im → Heap → List Val → Prop) (I : Im) (σ : Sto) (s : Shared) (J : List Val → Loc → Sto → Prop) (n : Nat) (s' : Shared) : Prop
  | mk (I' : Im) (σ' : Sto) (m' : Loc) (l : List Val) (hl : n = l.length) (t : Tr (fun b => Own (names m.v) env b ∨ X b) I σ s I' σ' s') (st : St cx I' σ' s') (fr : FrR cx I' σ' m' env s') (hn : names m'.v = names m.v) (hT : T I' s'.heap l) (hX : ∀ b, X b → I' b = none ∧ σ' b = none) (j : J l m' σ')
theorem wps_for {tt : Bool} {target iter : Expr} {body : List Stmt} {pos : Pos} (ht : tt = true → ∃ es n p, target = .Tuple es n p)
    (h : WpIt cx k tt m σ iter fun H l σ₁ => ∃ J : List Val → Loc → Sto → Prop, J l m σ₁ ∧ (∀ l m σ, J l m σ → H σ) ∧
      (∀ v l m₁ σ₁, names m₁.v = names m.v → J (v :: l) m₁ σ₁ → WpAs cx m₁ σ₁ target v fun v' => WpSs cx k ⟨v', m₁.c, m₁.k⟩ σ₁ body (kFb J l Q)) ∧
      (∀ m₁ σ₁, names m₁.v = names m.v → J [] m₁ σ₁ → Q .next m₁ σ₁))
    (hs : ∀ x env, foldedSetIterable iter env x = pure x := by intro _ _; rfl) :
    WpS cx k m σ (.For target iter body [] pos) Q := fun A env I₀ s₀ R S₀ F₀ => by
  refine wpAny_For (wfrom (h A env I₀ s₀ R S₀ F₀) fun v s₁ h₁ => wfrom h₁ fun it s₂ ⟨I₂, σ₂, X, H, l, t₂, S₂, ⟨T, IT, hT⟩, hX, J, j0, jH, turn, fin⟩ => ?_) (fun x => hs x env)
  have offE : ∀ b, X b → b ≠ env.locals ∧ ∀ x, env.cells.lookup x ≠ some b := fun b hb => by
    have no : ∀ (P : b = env.locals ∨ ∃ x, env.cells.lookup x = some b), False := fun P => by
      obtain ⟨o, ho⟩ := own_live F₀ P
      rw [(hX b hb).2.2] at ho; cases ho
    exact ⟨fun e => no (.inl e), fun x e => no (.inr ⟨x, e⟩)⟩
  have offO : ∀ b ns, X b → ¬ Own ns env b := fun b ns hb => by
    rintro (e | ⟨x, _, hx, _⟩)
    · exact (offE b hb).1 e
    · exact (offE b hb).2 x hx
  refine codeAny_forLoop_any (ForI cx m env X T I₀ σ s₀ J) ?_ l.length
    ⟨I₂, σ₂, m, l, rfl, t₂.of0, S₂, F₀.step0 t₂, rfl, hT, fun b hb => ⟨(hX b hb).1, (hX b hb).2.1⟩, j0⟩
  rintro n s' ⟨I', σ', m', l, rfl, t, S', F', hn, hT, hoff, j⟩
  cases l with
  | nil =>
    refine wpAny_mono (IT.done R.hand S' (jH _ _ _ j) hT hoff) (fun r s₃ ⟨e, tD, S₃⟩ => ?_) fun _ _ z => z.elim
    subst e
    have T₃ : Tr (Own (names m.v) env) I₀ σ s₀ I' σ' s₃ := by
      refine (t.transD (tD.mono (fun b _ _ hb => .inr hb) fun b hb => hb)).close (fun b o ho hb => ?_) fun b hb => (hX b hb).2.2
      rcases hb with hb | hb
      · exact hb
      · rw [(hX b hb).2.2] at ho; cases ho
    have F₃ : FrR cx I' σ' m' env s₃ := by
      have F₄ : TrD X X I' σ' s' I' σ' s₃ := tD
      refine ⟨F'.kind, F'.glob, F'.blt, F'.nodup, F'.debug, fun x c hc => ?_, F'.capart, F'.ownI, F'.ownS, F'.lc, F'.kinds, F'.caps, ?_⟩
      · obtain ⟨w, o, ho, hd⟩ := F'.cells x c hc
        exact ⟨w, o, F₄.keep c o (fun hb => (offE c hb).2 x hc) (F'.ownS.2 x c hc) ho, hd⟩
      · obtain ⟨mm, ⟨o, es, ep, ho, r⟩, hv⟩ := F'.vals
        refine ⟨mm, ⟨o, es, ep, F₄.keep _ o (fun hb => (offE _ hb).1 rfl) F'.ownS.1 ho, r⟩, fun x V hx => ?_⟩
        rcases hv x V hx with z | ⟨v, h1, h2⟩
        · exact .inl z
        · refine .inr ⟨v, h1, ?_⟩
          unfold Stands at h2 ⊢
          generalize env.kindOf x = kk at h2 ⊢
          rcases kk with _ | kk
          · exact h2
          · cases kk <;> first | exact h2 | exact (let ⟨c, h3, ⟨o, h4, h5⟩, h6⟩ := h2; ⟨c, h3, ⟨o, F₄.keep c o (fun hb => (offE c hb).2 x h3) (F'.ownS.2 x c h3) h4, h5⟩, h6⟩)
    exact wpAny_execs_nil ⟨I', σ', .next, m', T₃, S₃, trivial, F₃, hn, fin m' σ' hn j⟩
  | cons v l =>
    refine wpAny_mono (IT.next (target := target) R.hand ht S' (jH _ _ _ j) hT hoff) (fun r s₃ ⟨w, e, hgo⟩ => ?_) fun _ _ z => z.elim
    subst e
    refine wpAny_mono hgo (fun _ s₄ ⟨I₄, t₄, S₄, vw, hT₄⟩ => ?_) fun _ _ z => z.elim
    have F₄ := F'.step t₄ offE
    have off₄ := tr_off t₄ hoff (IT.live hT)
    refine wpAny_mono (turn v l m' σ' hn j A env I₄ s₄ w R.hand S₄ F₄ vw) (fun _ s₅ ⟨I₅, v₅, t₅, S₅, F₅, hn₅, q₅⟩ => ?_) fun _ _ z => z.elim
    rw [hn] at t₅ hn₅
    have off₅ := tr_off t₅ off₄ (IT.live hT₄)
    have hT₅ := IT.frame hT₄ t₅.le fun b o hb ho => t₅.keep b o (offO b _ hb) (off₄ b hb).2 ho
    refine wpAny_mono (q₅ A env I₅ s₅ R S₅ F₅) (fun f s₆ ⟨I₆, σ₆, G, m₆, t₆, S₆, fl, F₆, hn₆, q₆⟩ => ?_) fun _ _ z => z.elim
    have hn₅' : names (Loc.mk v₅ m'.c m'.k).v = names m.v := hn₅
    rw [hn₅'] at t₆ hn₆
    have off₆ := tr_off t₆ off₅ (IT.live hT₅)
    have hT₆ := IT.frame hT₅ t₆.le fun b o hb ho => t₆.keep b o (offO b _ hb) (off₅ b hb).2 ho
    have TT : Tr (fun b => Own (names m.v) env b ∨ X b) I₀ σ s₀ I₆ σ₆ s₆ :=
      t.trans ((t₄.weaken fun b _ _ hb => .inr hb).trans ((t₅.weaken fun b _ _ hb => .inl hb).trans (t₆.weaken fun b _ _ hb => .inl hb)))
    have T₀ : Tr (Own (names m.v) env) I₀ σ s₀ I₆ σ₆ s₆ := TT.weaken fun b o ho hb => by
      rcases hb with hb | hb
      · exact hb
      · rw [(hX b hb).2.2] at ho; cases ho
    cases f <;> cases G <;> first
      | exact fl.elim
      | exact ⟨l.length, Nat.lt_succ_self _, I₆, σ₆, m₆, l, rfl, TT, S₆, F₆, hn₆, hT₆, off₆, q₆⟩
      | exact ⟨I₆, σ₆, .next, m₆, T₀, S₆, trivial, F₆, hn₆, q₆⟩
      | exact ⟨I₆, σ₆, .ret _, m₆, T₀, S₆, fl, F₆, hn₆, q₆⟩
end
section
variable {cx : Cx} {k : Nat} {m : Loc} {σ : Sto} {Q : Fl → Loc → Sto → Prop}
theorem WpT.mono {e : Expr} {P P' : Bool → Sto → Prop} (h : WpT cx k m σ e P) (f : ∀ b τ, P b τ → P' b τ) : WpT cx k m σ e P' := fun A env I s R S F =>
  wb (h A env I s R S F) fun _ _ I' σ' t st q => ⟨I', σ', t, st, f _ _ q⟩
@[reducible] noncomputable def kWb (J : Nat → Loc → Sto → Prop) (K : Loc → Sto → Prop) (Q : Fl → Loc → Sto → Prop) (n : Nat) : Fl → Loc → Sto → Prop := fun F m₃ σ₃ => match F with
  | .next | .cont => ∃ n', n' < n ∧ J n' m₃ σ₃
  | .brk => K m₃ σ₃
  | .ret V => Q (.ret V) m₃ σ₃
@[reducible] noncomputable def kWt (cx : Cx) (k : Nat) (m : Loc) (body : List Stmt) (J : Nat → Loc → Sto → Prop) (K : Loc → Sto → Prop) (Q : Fl → Loc → Sto → Prop) (n : Nat) : Bool → Sto → Prop := fun b σ₂ => if b then WpSs cx k m σ₂ body (kWb J K Q n) else K m σ₂
theorem kWb_ret {J : Nat → Loc → Sto → Prop} {K : Loc → Sto → Prop} {Q : Fl → Loc → Sto → Prop} {n : Nat} {V : Val} (q : Q (.ret V) m σ) : kWb J K Q n (.ret V) m σ := q
theorem wps_whileK {test : Expr} {body : List Stmt} {pos : Pos} (J : Nat → Loc → Sto → Prop) (K : Loc → Sto → Prop) (n : Nat) (h0 : J n m σ)
    (turn : ∀ n m₁ σ₁, names m₁.v = names m.v → J n m₁ σ₁ → WpT cx k m₁ σ₁ test (kWt cx k m₁ body J K Q n)) (hK : ∀ m τ, K m τ → Q .next m τ) : WpS cx k m σ (.While test body [] pos) Q := by
  refine wps_while J n h0 fun n m₁ σ₁ hn j => (turn n m₁ σ₁ hn j).mono fun b τ q => ?_
  cases b with
  | true =>
    simp only [if_true] at q ⊢
    refine fun A env I s R S F => ws (q A env I s R S F) fun f s' I' σ' G m' t st fl fr hn q => ⟨I', σ', G, m', t, st, fl, fr, hn, ?_⟩
    cases G <;> first | exact q | exact hK _ _ q
  | false =>
    simp only [Bool.false_eq_true, if_false] at q ⊢
    exact hK _ _ q
end

noncomputable def Im.fz (I : Im) (h : Heap) (ds : List Addr) : Im := fun b => if b ∈ ds then h.get? b else I b
noncomputable def Shift (cx : Cx) (σ : Sto) (V : Val) (ds : List Addr) (V' : Val) : Prop :=
  ∀ I s v, St cx I σ s → VR cx.w.params I v V → (∀ b ∈ ds, σ b ≠ none) ∧ VR cx.w.params (I.fz s.heap ds) v V'
noncomputable def Shifts (cx : Cx) (σ : Sto) (Vs : List Val) (ds : List Addr) (Vs' : List Val) : Prop :=
  ∀ I s vs, St cx I σ s → VRs cx.w.params I vs Vs → (∀ b ∈ ds, σ b ≠ none) ∧ VRs cx.w.params (I.fz s.heap ds) vs Vs'
section
variable {cx : Cx} {σ : Sto}
theorem fz_le {I : Im} {s : Shared} (S : St cx I σ s) (ds : List Addr) : Im.Le I (I.fz s.heap ds) := fun b o h => by
  unfold Im.fz
  split
  · exact S.sub b o h
  · exact h
theorem fz_mono {I : Im} {s : Shared} (S : St cx I σ s) {ds es : List Addr} (h : ∀ b ∈ ds, b ∈ es) : Im.Le (I.fz s.heap ds) (I.fz s.heap es) := fun b o hb => by
  unfold Im.fz at hb ⊢
  by_cases e : b ∈ es
  · rw [if_pos e]
    split at hb
    · exact hb
    · exact S.sub b o hb
  · rw [if_neg e]
    rw [if_neg (fun q => e (h b q))] at hb
    exact hb
theorem shift_id (V : Val) : Shift cx σ V [] V := fun I s v S h => ⟨(fun _ h => nomatch h), h.mono (fz_le S [])⟩
theorem shifts_id (Vs : List Val) : Shifts cx σ Vs [] Vs := fun I s v S h => ⟨(fun _ h => nomatch h), h.mono (fz_le S [])⟩
theorem shifts_nil : Shifts cx σ [] [] [] := shifts_id []
theorem shifts_cons {V V' : Val} {Vs Vs' : List Val} {ds es : List Addr} (h : Shift cx σ V ds V') (t : Shifts cx σ Vs es Vs') : Shifts cx σ (V :: Vs) (ds ++ es) (V' :: Vs') := fun I s vs S hv => by
  obtain ⟨v, vs, rfl, a, b⟩ := hv.cons_inv
  · skip
    obtain ⟨h1, h2⟩ := h I s v S a
    obtain ⟨t1, t2⟩ := t I s vs S b
    refine ⟨fun b hb => (List.mem_append.mp hb).elim (h1 b) (t1 b), h2.mono (fz_mono S fun b hb => List.mem_append.mpr (.inl hb)), t2.mono (fz_mono S fun b hb => List.mem_append.mpr (.inr hb))⟩
theorem shift_lst {a : Addr} {Vs Vs' : List Val} {ds : List Addr} (ha : σ a = some (.list Vs)) (h : Shifts cx σ Vs ds Vs') : Shift cx σ (.raw (.ref a)) (a :: ds) (.lst Vs') := fun I s v S hv => by
  cases un_raw hv
  obtain ⟨o, ho, vs, n, rfl, r⟩ := S.cell a _ ha
  obtain ⟨h1, h2⟩ := h I s vs S r
  refine ⟨fun b hb => ?_, vr_lst (vs := vs) (n := n) ?_ (h2.mono (fz_mono S fun b hb => .tail _ hb))⟩
  · rcases List.mem_cons.mp hb with rfl | hb
    · rw [ha]; simp
    · exact h1 b hb
  · unfold Im.fz; rw [if_pos (.head _)]; exact ho
theorem shift_obj {a C d : Addr} {ns : List Str} {Vs Vs' : List Val} {ds : List Addr} (ha : σ a = some (.inst C d)) (hd : σ d = some (.dict ns Vs)) (h : Shifts cx σ Vs ds Vs') : Shift cx σ (.raw (.ref a)) (a :: d :: ds) (.obj C ns Vs') := fun I s v S hv => by
  cases un_raw hv
  obtain ⟨o, ho, e⟩ := S.cell a _ ha
  have e : o = instObj C d := e
  subst e
  obtain ⟨o, ho', es, n, rfl, kk, r⟩ := S.cell d _ hd
  obtain ⟨h1, h2⟩ := h I s _ S r
  refine ⟨fun b hb => ?_, vr_obj (d := d) (es := es) (n := n) ?_ ?_ kk (h2.mono (fz_mono S fun b hb => .tail _ (.tail _ hb)))⟩
  · rcases List.mem_cons.mp hb with rfl | hb
    · rw [ha]; simp
    · rcases List.mem_cons.mp hb with rfl | hb
      · rw [hd]; simp
      · exact h1 b hb
  · unfold Im.fz; rw [if_pos (.head _)]; exact ho
  · unfold Im.fz; rw [if_pos (.tail _ (.head _))]; exact ho'
theorem freeze_all {I₀ I : Im} {σ₀ : Sto} {s₀ s : Shared} {X : Addr → Prop} (t : Tr X I₀ σ₀ s₀ I σ s) (S : St cx I σ s) {ds : List Addr} (hd : ∀ b ∈ ds, σ b ≠ none) {τ : Sto} (hτ : ∀ b c, τ b = some c → σ b = some c ∧ b ∉ ds) :
    Tr X I₀ σ₀ s₀ (I.fz s.heap ds) τ s ∧ St cx (I.fz s.heap ds) τ s := by
  refine ⟨⟨t.keep, t.le.trans (fz_le S ds), fun b o h => ?_, fun b h => ?_, t.live⟩, fun b o h => ?_, fun b o h => fz_le S ds b o (S.base b o h), fun b c h => ?_, fun b c h => ?_, S.gens, S.os⟩
  · unfold Im.fz at h
    split at h
    · rename_i hb
      rcases t.newσ b (hd b hb) with q | q
      · exact .inr (.inr q)
      · exact .inr (.inl q)
    · exact t.newI b o h
  · cases q : τ b with
    | none => exact absurd q h
    | some c => exact t.newσ b (by rw [(hτ b c q).1]; simp)
  · unfold Im.fz at h
    split at h
    · exact h
    · exact S.sub b o h
  · obtain ⟨o, ho, r⟩ := S.cell b c (hτ b c h).1
    exact ⟨o, ho, r.mono (fz_le S ds)⟩
  · unfold Im.fz
    rw [if_neg (hτ b c h).2]
    exact S.apart b c (hτ b c h).1
/-- V seen as V', the store cut to τ -/
noncomputable def Fz (cx : Cx) (σ : Sto) (V V' : Val) (τ : Sto) : Prop := ∃ ds, Shift cx σ V ds V' ∧ ∀ b c, τ b = some c → σ b = some c ∧ b ∉ ds
theorem Post.fz {I : Im} {s : Shared} {Q : Val → Sto → Prop} {v : Value} {s' : Shared} (p : Post cx I σ s (fun V σ' => ∃ V' τ, Fz cx σ' V V' τ ∧ Q V' τ) v s') : Post cx I σ s Q v s' := by
  obtain ⟨I', σ', V, t, S, vr, V', τ, ⟨ds, h, hτ⟩, q⟩ := p
  obtain ⟨h1, h2⟩ := h I' s' v S vr
  obtain ⟨t', S'⟩ := freeze_all t S h1 hτ
  exact ⟨_, τ, V', t', S', h2, q⟩
variable {k : Nat} {m : Loc}
theorem wpe_fz {e : Expr} {Q : Val → Sto → Prop} (h : WpE cx k m σ e fun V σ' => ∃ V' τ, Fz cx σ' V V' τ ∧ Q V' τ) : WpE cx k m σ e Q := fun A env I s R S F => wfrom (h A env I s R S F) fun _ _ p => p.fz
theorem fz_lst {a : Addr} {Vs : List Val} (h : σ a = none) : Fz cx (σ.set a (.list Vs)) (.raw (.ref a)) (.lst Vs) σ := by
  refine ⟨[a], shift_lst (Sto.set_self ..) (shifts_id Vs), fun b c hb => ?_⟩
  have : b ≠ a := fun e => by subst e; rw [h] at hb; cases hb
  exact ⟨by rw [Sto.set_ne _ _ this]; exact hb, by simpa using this⟩

theorem closureFor_ok {scope : Scope} {env : Env} (h : ∀ x ∈ scope.names, x.2 = .free → ∃ c, env.cells.lookup x.1 = some c) :
    ∃ cl, closureFor scope env = pure cl ∧ (∀ p ∈ cl, env.cells.lookup p.1 = some p.2) ∧ ∀ x ∈ scope.names, x.2 = .free → ∃ c, (x.1, c) ∈ cl := by
  have go : ∀ (l : List (Str × NameKind)) (cs : List (Str × Addr)), (∀ x ∈ l, x.2 = .free → ∃ c, env.cells.lookup x.1 = some c) → (∀ p ∈ cs, env.cells.lookup p.1 = some p.2) →
      ∃ cl, (forIn l cs fun (x : Str × NameKind) (r : List (Str × Addr)) => (match x with
        | (name, kind) => if (kind == .free) = true then do let c ← cellOf env name; pure (ForInStep.yield ((name, c) :: r)) else pure (ForInStep.yield r) : Sem (ForInStep (List (Str × Addr))))) = pure cl ∧
        (∀ p ∈ cl, env.cells.lookup p.1 = some p.2) ∧ (∀ x ∈ l, x.2 = .free → ∃ c, (x.1, c) ∈ cl) ∧ ∀ p ∈ cs, p ∈ cl := by
    intro l
    induction l with
    | nil => intro cs _ hc; exact ⟨cs, rfl, hc, (fun _ h => nomatch h), fun _ h => h⟩
    | cons x l ih =>
      intro cs hl hc
      obtain ⟨n, kd⟩ := x
      rw [List.forIn_cons]
      dsimp only
      by_cases hk : kd = .free
      · subst hk
        obtain ⟨c, e⟩ := hl (n, .free) (.head _) rfl
        have ec : cellOf env n = pure c := by unfold cellOf; rw [show env.cells.lookup n = some c from e]
        obtain ⟨cl, h1, h2, h3, h4⟩ := ih ((n, c) :: cs) (fun x hx => hl x (.tail _ hx)) (fun p hp => by
          rcases List.mem_cons.mp hp with rfl | hp
          · exact e
          · exact hc p hp)
        refine ⟨cl, ?_, h2, fun x hx hf => ?_, fun p hp => h4 p (.tail _ hp)⟩
        · rw [if_pos (by rfl), ec, pure_bind, pure_bind]; exact h1
        · rcases List.mem_cons.mp hx with rfl | hx
          · exact ⟨c, h4 _ (.head _)⟩
          · exact h3 x hx hf
      · obtain ⟨cl, h1, h2, h3, h4⟩ := ih cs (fun x hx => hl x (.tail _ hx)) hc
        refine ⟨cl, ?_, h2, fun x hx hf => ?_, h4⟩
        · rw [if_neg (by simpa using hk), pure_bind]; exact h1
        · rcases List.mem_cons.mp hx with rfl | hx
          · exact absurd hf hk
          · exact h3 x hx hf
  obtain ⟨cl, h1, h2, h3, _⟩ := go scope.names [] h fun _ h => nomatch h
  refine ⟨cl, ?_, h2, h3⟩
  show (forIn scope.names [] _ >>= fun cs => pure cs) = _
  rw [h1, pure_bind]
theorem lookup_cl {env : Env} {cl : List (Str × Addr)} (h : ∀ p ∈ cl, env.cells.lookup p.1 = some p.2) {x : Str} : ((∃ c, (x, c) ∈ cl) → cl.lookup x = env.cells.lookup x) ∧ ∀ c, cl.lookup x = some c → env.cells.lookup x = some c := by
  have b : ∀ c, cl.lookup x = some c → env.cells.lookup x = some c := fun c hc => h (x, c) (mem_of_lookup hc)
  refine ⟨fun ⟨c, hc⟩ => ?_, b⟩
  cases q : cl.lookup x with
  | some d => exact (b d q).symm
  | none =>
    have := List.lookup_eq_none_iff.mp q (x, c) hc
    simp at this
theorem relabel_other {scope : Scope} {env : Env} : ∀ {ns : List (Str × NameKind)} {x : Str} {kd : NameKind}, ns.lookup x = some kd →
    (ns.map fun (n, k) => if (k == NameKind.free && env.scope.kind == .function && env.kindOf n == some .cell) then (n, NameKind.cell) else (n, k)).lookup x = some kd ∨
    (kd = .free ∧ (ns.map fun (n, k) => if (k == NameKind.free && env.scope.kind == .function && env.kindOf n == some .cell) then (n, NameKind.cell) else (n, k)).lookup x = some .cell)
  | [], _, _, h => by simp at h
  | (n, k) :: r, x, kd, h => by
    have ih := @relabel_other scope env r x kd
    show List.lookup x ((if (k == NameKind.free && env.scope.kind == .function && env.kindOf n == some .cell) = true then (n, NameKind.cell) else (n, k)) :: _) = _ ∨ _ ∧ List.lookup x ((if (k == NameKind.free && env.scope.kind == .function && env.kindOf n == some .cell) = true then (n, NameKind.cell) else (n, k)) :: _) = _
    cases hx : x == n with
    | true =>
      simp only [List.lookup_cons, hx] at h
      cases h
      by_cases hc : (k == NameKind.free && env.scope.kind == .function && env.kindOf n == some .cell) = true
      · refine .inr ⟨?_, ?_⟩
        · simp at hc; exact hc.1.1
        · rw [if_pos hc]; simp [List.lookup_cons, hx]
      · exact .inl (by rw [if_neg hc]; simp [List.lookup_cons, hx])
    | false =>
      simp only [List.lookup_cons, hx] at h
      by_cases hc : (k == NameKind.free && env.scope.kind == .function && env.kindOf n == some .cell) = true
      · rw [if_pos hc]; simp only [List.lookup_cons, hx]; exact ih h
      · rw [if_neg hc]; simp only [List.lookup_cons, hx]; exact ih h

noncomputable def okComp (scope : Scope) (ts cs gs ks : List Str) : Bool :=
  decide (ts ++ (cs ++ gs)).Nodup && ts.all (fun x => scope.names.lookup x == some .local) && cs.all (fun x => scope.names.lookup x == some .free && scope.names.any fun p => p.1 == x && p.2 == .free) && gs.all (fun x => scope.names.lookup x == some .globalImplicit)
  && (ts ++ (cs ++ gs)).all (fun x => !(x == ("__debug__" : Str)) && !(x == ("__classdict__" : Str)))
  && scope.names.all (fun p => p.2 != .cell && (p.2 != .free || ks.contains p.1) && (p.2 != .local || scope.names.lookup p.1 == some .local))
  && scope.kind == .function
noncomputable def unbs (ts : List Str) : List (Str × Val) := ts.map fun x => (x, .unbound)
theorem names_unbs : ∀ ts : List Str, names (unbs ts) = ts
  | [] => rfl
  | t :: ts => by
    have := names_unbs ts
    unfold names unbs at this ⊢
    simp only [List.map_cons, List.map_map] at this ⊢
    rw [this]
theorem names_app (a b : List (Str × Val)) : names (a ++ b) = names a ++ names b := List.map_append ..
theorem FrR.forget {I : Im} {m : Loc} {env : Env} {s : Shared} {ts : List Str} (F : FrR cx I σ m env s) (h : names m.v = ts) : FrR cx I σ ⟨unbs ts, m.c, m.k⟩ env s := by
  have e : names (Loc.mk (unbs ts) m.c m.k).v = names m.v := (names_unbs ts).trans h.symm
  refine ⟨F.kind, F.glob, F.blt, by rw [e]; exact F.nodup, fun x V hx => ?_, F.cells, F.capart, F.ownI, F.ownS, F.lc, by rw [e]; exact F.kinds, F.caps, ?_⟩
  · rcases hx with hx | hx
    · have hy : x ∈ names m.v := by rw [← e]; exact mem_names hx
      obtain ⟨p, hp, e⟩ := List.mem_map.mp hy
      cases p; cases e; exact F.debug _ _ (.inl hp)
    · exact F.debug x V (.inr hx)
  · obtain ⟨mm, hn, hv⟩ := F.vals
    refine ⟨mm, hn, fun x V hx => ?_⟩
    rcases hx with hx | hx
    · obtain ⟨y, _, e⟩ := List.mem_map.mp hx
      cases e; exact .inl rfl
    · exact hv x V (.inr hx)
theorem comp_frame {I : Im} {m : Loc} {env : Env} {s s' : Shared} {scope : Scope} {cl : List (Str × Addr)} {C : Addr} {ts : List Str} {cs gs : List (Str × Val)} {mm' : Str → Option Value} (F : FrR cx I σ m env s) (S' : St cx I σ s')
    (ok : okComp scope ts (names cs) (names gs) m.k = true) (hcs : ∀ p ∈ cs, p ∈ m.v ∨ p ∈ m.c) (hg : GVs cx gs) (kp : ∀ b o, s.heap.get? b = some o → s'.heap.get? b = some o)
    (h2 : ∀ p ∈ cl, env.cells.lookup p.1 = some p.2) (h3 : ∀ x ∈ scope.names, x.2 = .free → ∃ c, (x.1, c) ∈ cl) (hC : s.heap.get? C = none) (hn : s'.heap.Ns C mm') (hI : I C = none) (hσ : σ C = none) :
    FrR cx I σ ⟨unbs ts, cs ++ gs, []⟩ (compEnvC scope cl C env) s' := by
  unfold okComp at ok
  simp only [Bool.and_eq_true, decide_eq_true_eq, List.all_eq_true, Bool.not_eq_true'] at ok
  obtain ⟨⟨⟨⟨⟨⟨nd, o1⟩, o2⟩, o3⟩, o4⟩, o5⟩, o6⟩ := ok
  have cellsE : ∀ x c, (compEnvC scope cl C env).cells.lookup x = some c → env.cells.lookup x = some c := fun x c h => (lookup_cl h2).2 c h
  refine ⟨beq_iff_eq.mp o6, F.glob, F.blt, ?_, fun x V hx => ?_, fun x c hc => ?_, fun x y c hx hy => F.capart x y c (cellsE x c hx) (cellsE y c hy), ⟨hI, fun x c hc => F.ownI.2 x c (cellsE x c hc)⟩, ⟨hσ, fun x c hc => F.ownS.2 x c (cellsE x c hc)⟩, fun x c hc e => ?_, fun x hx => ?_, (fun _ h => nomatch h), _, hn, fun x V hx => ?_⟩
  · show (names (unbs ts) ++ names (cs ++ gs)).Nodup
    rw [names_unbs, names_app]; exact nd
  · have hx : x ∈ ts ++ (names cs ++ names gs) := by
      rcases hx with hx | hx
      · have := mem_names hx
        rw [show (Loc.mk (unbs ts) (cs ++ gs) []).v = unbs ts from rfl, names_unbs] at this
        exact List.mem_append.mpr (.inl this)
      · have := mem_names hx
        rw [show (Loc.mk (unbs ts) (cs ++ gs) []).c = cs ++ gs from rfl, names_app] at this
        exact List.mem_append.mpr (.inr this)
    exact (o4 x hx).1
  · obtain ⟨v, o, ho, hd⟩ := F.cells x c (cellsE x c hc)
    exact ⟨v, o, kp _ _ ho, hd⟩
  · obtain ⟨v, o, ho, hd⟩ := F.cells x c (cellsE x c hc)
    have e : c = C := e
    subst e; rw [hC] at ho; cases ho
  · have hx : x ∈ ts := by
      have hx : x ∈ names (unbs ts) := hx
      rw [names_unbs] at hx; exact hx
    exact .inl (lookup_relabel_local (beq_iff_eq.mp (o1 x hx)))
  · rcases hx with hx | hx
    · obtain ⟨y, _, e⟩ := List.mem_map.mp hx
      cases e; exact .inl rfl
    · rcases List.mem_append.mp hx with hx | hx
      · have q := o2 x (mem_names hx)
        have q1 := beq_iff_eq.mp q.1
        obtain ⟨p, hp, hpe⟩ := List.any_eq_true.mp q.2
        simp only [Bool.and_eq_true, beq_iff_eq] at hpe
        obtain ⟨mm, hm, hv⟩ := F.vals
        have hmem : (x, V) ∈ m.v ∨ (x, V) ∈ m.c := hcs _ hx
        rcases hv x V hmem with z | ⟨v, vr, st⟩
        · exact .inl z
        · refine .inr ⟨v, vr, ?_⟩
          have hck : env.kindOf x = some .cell ∨ env.kindOf x = some .free := by
            refine F.caps x ?_
            have := (o5 p hp).1.2
            rw [hpe.2, hpe.1] at this
            simpa using this
          have hst : ∃ c, env.cells.lookup x = some c ∧ s.heap.IsCell c (some v) ∧ (x == ("__classdict__" : Str)) = false := by
            unfold Stands at st
            rcases hck with e | e <;> rw [e] at st <;> exact st
          obtain ⟨c, hc, ⟨o, ho, hd⟩, hx'⟩ := hst
          have hlk : (compEnvC scope cl C env).cells.lookup x = some c := by
            obtain ⟨d, hd'⟩ := h3 p hp hpe.2
            rw [hpe.1] at hd'
            exact ((lookup_cl h2).1 ⟨d, hd'⟩).trans hc
          have hk : (compEnvC scope cl C env).kindOf x = some .cell ∨ (compEnvC scope cl C env).kindOf x = some .free := by
            rcases relabel_other (scope := scope) (env := env) q1 with e | ⟨_, e⟩
            · exact .inr e
            · exact .inl e
          unfold Stands
          rcases hk with e | e <;> rw [e] <;> exact ⟨c, hlk, ⟨o, kp _ _ ho, hd⟩, hx'⟩
      · obtain ⟨v, vr, st⟩ := hg.all _ hx
        refine .inr ⟨v, vr.mono S'.base, ?_⟩
        have q := beq_iff_eq.mp (o3 x (mem_names hx))
        have hk : (compEnvC scope cl C env).kindOf x = some .globalImplicit := by
          rcases relabel_other (scope := scope) (env := env) q with e | ⟨e, _⟩
          · exact e
          · cases e
        unfold Stands
        rw [hk]
        exact st
end

section
variable {cx : Cx} {k : Nat} {m : Loc} {σ : Sto}
noncomputable def testsOf (ifs : List Expr) (env : Env) : Sem Bool := forIn ifs true fun c r => if r = true then do let ok ← isTrue c env (eval c env); pure (ForInStep.yield ok) else pure (ForInStep.yield r)
theorem comp_loop {M : Model} {A : Around} {prog : Program} {w : World} {R : Result → Shared → Prop} {s : Shared} {elt target iter : Expr} {ifs : List Expr} {scope : Scope} {pos : Pos} {it acc : Value} {env : Env} (I : Nat → Shared → Prop)
    (turn : ∀ n s, I n s → wpAny (model prog w) A (pyNext it) (fun r s₁ => match r with
      | none => R (.ok .next) s₁
      | some v => wpAny (model prog w) A (letOwnedTupleGo target it v) (fun _ s₀ => wpAny (model prog w) A (assign target env v) (fun _ s₂ =>
          wpAny (model prog w) A (testsOf ifs env) (fun ok s₃ =>
            if ok = true then wpAny (model prog w) A (eval elt env) (fun x s₄ =>
              wpAny (model prog w) A (call (.builtin "list.append") [acc, x]) (fun _ s₅ => ∃ m, m < n ∧ I m s₅) Bot s₄) Bot s₃
            else ∃ m, m < n ∧ I m s₃) Bot s₂) Bot s₀) Bot s₁) Bot s)
    (n : Nat) (h : I n s) :
    codeAny (model prog w) A (.compLoop (.ListComp elt [⟨target, iter, ifs, 0⟩] scope pos) 0 it acc env) R s := by
  refine codeAny_loop rfl I (fun n s hI => ?_) n h
  show wpAny _ A ((compTurn (.ListComp elt [⟨target, iter, ifs, 0⟩] scope pos) 0 it acc env).onRaise (fun x => do noteFrame x env; theTreesLotGoes x)) _ _ s
  refine wpAny_noted ?_
  rw [compTurn_list]
  have no : ∀ {P : Value → Shared → Prop} (a : Value) (b : Shared), Bot a b → P a b := fun _ _ z => z.elim
  refine wpAny_bind (wpAny_standAt (wpAny_bind (wpAny_mono (turn n s hI) (fun r s₁ h₁ => ?_) no)))
  cases r with
  | none => exact wpAny_pure h₁
  | some v =>
    refine wpAny_bind (wpAny_mono h₁ (fun _ s₀ h₀ => ?_) no)
    refine wpAny_bind (wpAny_mono h₀ (fun _ s₂ h₂ => wpAny_bind (wpAny_mono h₂ (fun ok s₃ h₃ => ?_) no)) no)
    cases ok with
    | false => exact wpAny_pure ⟨rfl, h₃⟩
    | true =>
      exact wpAny_bind (wpAny_bind (wpAny_mono h₃ (fun x s₄ h₄ => wpAny_bind (wpAny_mono h₄ (fun _ s₅ h₅ => wpAny_pure (wpAny_pure ⟨rfl, h₅⟩)) no)) no))

noncomputable def WpIfs (cx : Cx) (k : Nat) (m : Loc) (σ : Sto) (ifs : List Expr) (Q : Bool → Sto → Prop) : Prop :=
  ∀ A env I s, Room A k → St cx I σ s → FrR cx I σ m env s → wpAny (Md cx) A (testsOf ifs env) (PostB cx I σ s Q) Bot s
theorem ifs_nil {Q : Bool → Sto → Prop} (q : Q true σ) : WpIfs cx k m σ [] Q := fun A env I s R S F => wpAny_tests_nil ⟨I, σ, Tr.refl .., S, q⟩
theorem ifs_one {c : Expr} {Q : Bool → Sto → Prop} (h : WpT cx k m σ c Q) : WpIfs cx k m σ [c] Q := fun A env I s R S F => wpAny_tests_one (h A env I s R S F)

/-- the state of a comprehension's loop, seen from its start -/
inductive CompI (cx : Cx) (ts : List Str) (c : List (Str × Val)) (env : Env) (D C : Addr) (X : Addr → Prop) (T : Im → Heap → List Val → Prop) (I : Im) (σ : Sto) (s : Shared) (J : List Val → List Val → Sto → Prop) (n : Nat) (s' : Shared) : Prop
  | mk (I' : Im) (σ' : Sto) (l : List Val) (vs : List Value) (cc : Nat) (acc : List Val) (hn : n = l.length) (hl : vs.length + l.length ≤ 1000) (t : Tr (fun b => X b ∨ b = D ∨ b = C) I σ s I' σ' s') (st : St cx I' σ' s') (fr : FrR cx I' σ' ⟨unbs ts, c, []⟩ env s') (hT : T I' s'.heap l)
      (off : ∀ b, X b ∨ b = D → I' b = none ∧ σ' b = none) (hD : s'.heap.get? D = some (listOf (List.toArray vs) cc)) (hv : VRs cx.w.params I' vs acc) (j : J l acc σ')
theorem comp_core {tt : Bool} {target iter elt : Expr} {ifs : List Expr} {scope : Scope} {pos : Pos} {ts : List Str} {cs gs : List (Str × Val)} {A : Around} {env : Env} {I₀ I₂ : Im} {σ₀ σ₂ : Sto} {s₀ s₂ : Shared} {it : Value} {X : Addr → Prop} {H : Sto → Prop} {T : Im → Heap → List Val → Prop} {l : List Val} {cl : List (Str × Addr)}
    (R : Room A k) (F₀ : FrR cx I₀ σ₀ m env s₀) (ok : okComp scope ts (names cs) (names gs) m.k = true) (hcs : ∀ p ∈ cs, p ∈ m.v ∨ p ∈ m.c) (hg : GVs cx gs) (ht : tt = true → ∃ es n p, target = .Tuple es n p)
    (h2 : ∀ p ∈ cl, env.cells.lookup p.1 = some p.2) (h3 : ∀ x ∈ scope.names, x.2 = .free → ∃ c, (x.1, c) ∈ cl)
    (t₂ : Tr Own0 I₀ σ₀ s₀ I₂ σ₂ s₂) (S₂ : St cx I₂ σ₂ s₂) (IT : Itr cx tt it X H T) (hT : T I₂ s₂.heap l) (hX : ∀ b, X b → I₂ b = none ∧ σ₂ b = none ∧ s₀.heap.get? b = none) (hl : l.length ≤ 1000)
    (J : List Val → List Val → Sto → Prop) (j0 : J l [] σ₂) (jH : ∀ l a σ, J l a σ → H σ)
    (turn : ∀ v l acc σ₁, J (v :: l) acc σ₁ → WpAs cx ⟨unbs ts, cs ++ gs, []⟩ σ₁ target v fun v' => WpIfs cx k ⟨v', cs ++ gs, []⟩ σ₁ ifs fun b σ₂ => if b then WpE cx k ⟨v', cs ++ gs, []⟩ σ₂ elt fun V σ₃ => J l (acc ++ [V]) σ₃ else J l acc σ₂)
    {RR : Value → Addr → Result → Shared → Prop}
    (hRR : ∀ I' σ' D C vs n acc s' mm, Tr Own0 I₀ σ₀ s₀ I' σ' s' → St cx I' σ' s' → s'.heap.get? D = some (listOf (List.toArray vs) n) → VRs cx.w.params I' vs acc → I' D = none → σ' D = none → s₀.heap.get? D = none →
      s'.heap.Ns C mm → I' C = none → σ' C = none → s₀.heap.get? C = none → D ≠ C → J [] acc σ' → RR (.ref D) C (.ok .next) s') :
    wpAny (Md cx) A (newList []) (fun acc s₃ => wpAny (Md cx) A (newFunctionEnv scope env.globals cl [] env.qual none .none (some env)) (fun cenv s₄ =>
      codeAny (Md cx) A (.compStart (.ListComp elt [⟨target, iter, ifs, 0⟩] scope pos) 0 it acc { cenv with scope := relabel scope env }) (RR acc cenv.locals) s₄) Bot s₃) Bot s₂ := by
  have ok' := ok
  unfold okComp at ok'
  simp only [Bool.and_eq_true, decide_eq_true_eq, List.all_eq_true, Bool.not_eq_true'] at ok'
  obtain ⟨⟨_, o5⟩, o6⟩ := ok'
  have hcell : ∀ y ∈ scope.names, y.2 ≠ .cell := fun y hy => by have := (o5 y hy).1.1; simpa using this
  refine wpAny_newObj_type (wpAny_newFunctionEnv hcell (by intro y hy; simp at hy) (fun h₁ hns₁ hsb₁ => ?_) (beq_iff_eq.mp o6))
  dsimp only at hns₁ hsb₁ ⊢
  generalize hH2 : s₂.heap.push { cls := .type "list", dict := none, data := .seq ([] : List Value).toArray } = H2 at hns₁ hsb₁ ⊢
  have hC : H2.objs.size = s₂.heap.objs.size + 1 := by rw [← hH2, Heap.size_push]
  have hDC : s₂.heap.objs.size ≠ H2.objs.size := by rw [hC]; exact Nat.ne_of_lt (Nat.lt_succ_self _)
  have below : ∀ b, b < s₂.heap.objs.size → b ≠ H2.objs.size ∧ b ≠ s₂.heap.objs.size := fun b hb => ⟨by rw [hC]; exact Nat.ne_of_lt (Nat.lt_succ_of_lt hb), Nat.ne_of_lt hb⟩
  have old : ∀ b o, s₂.heap.get? b = some o → h₁.get? b = some o := fun b o e => hsb₁.extBut b o (below b (Heap.lt_size e)).1 (Heap.get?_push_of_some _ (hH2 ▸ Heap.get?_push_of_some _ e))
  have hacc : h₁.get? s₂.heap.objs.size = some (listOf (List.toArray []) 0) := hsb₁.extBut _ _ hDC (Heap.get?_push_of_some _ (hH2 ▸ Heap.get?_push_size _ rfl))
  have fresh : ∀ a, s₂.heap.objs.size ≤ a → s₂.heap.get? a = none := fun a ha => by
    cases e : s₂.heap.get? a with
    | none => rfl
    | some o' => exact absurd (Heap.lt_size e) (Nat.not_lt.mpr ha)
  have offI : ∀ a, s₂.heap.get? a = none → I₂ a = none := fun a ha => by
    cases q : I₂ a with
    | none => rfl
    | some o => rw [S₂.sub a o q] at ha; cases ha
  have offS : ∀ a, s₂.heap.get? a = none → σ₂ a = none := fun a ha => by
    cases q : σ₂ a with
    | none => rfl
    | some c => obtain ⟨o, ho, _⟩ := S₂.cell a c q; rw [ho] at ha; cases ha
  have fD : s₂.heap.get? s₂.heap.objs.size = none := fresh _ (Nat.le_refl _)
  have fC : s₂.heap.get? H2.objs.size = none := fresh _ (by rw [hC]; exact Nat.le_succ _)
  have S₃ : St cx I₂ σ₂ { s₂ with heap := h₁, toks := s₂.toks + ([] : List (Str × Value)).length } := S₂.grow old _
  have t₃ : Tr Own0 I₀ σ₀ s₀ I₂ σ₂ { s₂ with heap := h₁, toks := s₂.toks + ([] : List (Str × Value)).length } := t₂.trans (Tr.grow old _ _)
  have F₃ : FrR cx I₂ σ₂ ⟨unbs ts, cs ++ gs, []⟩ (compEnvC scope cl H2.objs.size env) { s₂ with heap := h₁, toks := s₂.toks + ([] : List (Str × Value)).length } :=
    comp_frame (F₀.step0 t₂) S₃ ok hcs hg old h2 h3 fC hns₁ (offI _ fC) (offS _ fC)
  generalize hDg : s₂.heap.objs.size = D at *
  generalize hCg : H2.objs.size = C at *
  have live₂ : ∀ b o, s₀.heap.get? b = some o → s₂.heap.get? b ≠ none := fun b o hb q => by rw [t₂.live b q] at hb; cases hb
  have newD : s₀.heap.get? D = none := t₂.live _ fD
  have newC : s₀.heap.get? C = none := t₂.live _ fC
  have hXD : ∀ b, X b → b ≠ D ∧ b ≠ C := fun b hb => by
    obtain ⟨o, ho⟩ := IT.live hT b hb
    refine ⟨fun e => ?_, fun e => ?_⟩
    · rw [e, fD] at ho; cases ho
    · rw [e, fC] at ho; cases ho
  have offE : ∀ b, X b ∨ b = D → b ≠ (compEnvC scope cl C env).locals ∧ ∀ x, (compEnvC scope cl C env).cells.lookup x ≠ some b := fun b hb => by
    have hfr : s₀.heap.get? b = none := by
      rcases hb with hb | rfl
      · exact (hX b hb).2.2
      · exact newD
    refine ⟨fun e => ?_, fun x e => ?_⟩
    · rcases hb with hb | rfl
      · exact (hXD b hb).2 e
      · exact hDC e
    · obtain ⟨v, o, ho, _⟩ := F₀.cells x b ((lookup_cl h2).2 b e)
      rw [hfr] at ho; cases ho
  have hown : ∀ b, Own ts (compEnvC scope cl C env) b → b = C := by
    rintro b (e | ⟨x, hx, _, hk⟩)
    · exact e
    · exfalso
      have nm : x ∈ names (Loc.mk (unbs ts) (cs ++ gs) []).v := by
        rw [show (Loc.mk (unbs ts) (cs ++ gs) []).v = unbs ts from rfl, names_unbs]; exact hx
      unfold okComp at ok
      simp only [Bool.and_eq_true, decide_eq_true_eq, List.all_eq_true, Bool.not_eq_true'] at ok
      have := ok.1.1.1.1.1.2 x hx
      have e := lookup_relabel_local (env := env) (beq_iff_eq.mp this)
      rw [show (compEnvC scope cl C env).kindOf x = some .local from e] at hk
      cases hk
  have loop : ∀ s₄, s₄ = { s₂ with heap := h₁, toks := s₂.toks + ([] : List (Str × Value)).length } → codeAny (Md cx) A (.compLoop (.ListComp elt [⟨target, iter, ifs, 0⟩] scope pos) 0 it (.ref D) (compEnvC scope cl C env)) (RR (.ref D) C) s₄ := by
    rintro s₄ rfl
    refine comp_loop (M := Md cx) (CompI cx ts (cs ++ gs) (compEnvC scope cl C env) D C X T I₀ σ₀ s₀ J) ?_ l.length
      ⟨I₂, σ₂, l, [], 0, [], rfl, by simpa using hl, t₃.of0, S₃, F₃, IT.frame hT (Im.Le.refl _) fun b o _ ho => old b o ho, fun b hb => ?_, hacc, trivial, j0⟩
    · rintro n s' ⟨I', σ', l, vs, c, acc, rfl, hlen, t, S', F', hT, hoff, hD, hvs, j⟩
      have hoffX : ∀ b, X b → I' b = none ∧ σ' b = none := fun b hb => hoff b (.inl hb)
      cases l with
      | nil =>
        refine wpAny_mono (IT.done R.hand S' (jH _ _ _ j) hT hoffX) (fun r s₃ ⟨e, tD, S₃⟩ => ?_) fun _ _ z => z.elim
        subst e
        have T₃ : Tr Own0 I₀ σ₀ s₀ I' σ' s₃ := by
          refine (t.transD (tD.mono (fun b _ _ hb => .inl hb) fun b hb => hb)).close (fun b o ho hb => ?_) fun b hb => (hX b hb).2.2
          rcases hb with hb | rfl | rfl
          · rw [(hX b hb).2.2] at ho; cases ho
          · rw [newD] at ho; cases ho
          · rw [newC] at ho; cases ho
        have nXD : ¬ X D := fun h => (hXD D h).1 rfl
        have nXC : ¬ X C := fun h => (hXD C h).2 rfl
        obtain ⟨mm, ⟨o, es, ep, ho, r⟩, hv⟩ := F'.vals
        exact hRR I' σ' D C vs c acc s₃ mm T₃ S₃ (tD.keep D _ nXD (hoff D (.inr rfl)).2 hD) hvs (hoff D (.inr rfl)).1 (hoff D (.inr rfl)).2 newD ⟨o, es, ep, tD.keep C o nXC F'.ownS.1 ho, r⟩ F'.ownI.1 F'.ownS.1 newC hDC j
      | cons v l =>
        refine wpAny_mono (IT.next (target := target) R.hand ht S' (jH _ _ _ j) hT hoffX) (fun r s₃ ⟨w, e, hgo⟩ => ?_) fun _ _ z => z.elim
        subst e
        refine wpAny_mono hgo (fun _ s₄ ⟨I₄, t₄, S₄, vw, hT₄⟩ => ?_) fun _ _ z => z.elim
        have F₄ := F'.step t₄ fun b hb => offE b (.inl hb)
        have liveD : ∀ b, X b ∨ b = D → ∃ o, s'.heap.get? b = some o := fun b hb => by
          rcases hb with hb | rfl
          · exact IT.live hT b hb
          · exact ⟨_, hD⟩
        have off₄ := tr_off t₄ hoff liveD
        have D₄ : s₄.heap.get? D = some (listOf (List.toArray vs) c) := t₄.keep D _ (fun h => (hXD D h).1 rfl) (hoff D (.inr rfl)).2 hD
        have liveD₄ : ∀ b, X b ∨ b = D → ∃ o, s₄.heap.get? b = some o := fun b hb => by
          rcases hb with hb | rfl
          · exact IT.live hT₄ b hb
          · exact ⟨_, D₄⟩
        refine wpAny_mono (turn v l acc σ' j A _ I₄ s₄ w R.hand S₄ F₄ vw) (fun _ s₅ ⟨I₅, v₅, t₅, S₅, F₅, hn₅, q₅⟩ => ?_) fun _ _ z => z.elim
        rw [show names (Loc.mk (unbs ts) (cs ++ gs) []).v = ts from names_unbs ts] at t₅ hn₅
        have t₅' : Tr (fun b => X b ∨ b = D ∨ b = C) I₄ σ' s₄ I₅ σ' s₅ := t₅.weaken fun b _ _ hb => .inr (.inr (hown b hb))
        have nOwn : ∀ b, X b ∨ b = D → ¬ Own ts (compEnvC scope cl C env) b := fun b hb h => (offE b hb).1 (hown b h)
        have off₅ := tr_off t₅ off₄ liveD₄
        have hT₅ := IT.frame hT₄ t₅.le fun b o hb ho => t₅.keep b o (nOwn b (.inl hb)) (off₄ b (.inl hb)).2 ho
        have D₅ := t₅.keep D _ (nOwn D (.inr rfl)) (off₄ D (.inr rfl)).2 D₄
        have liveD₅ : ∀ b, X b ∨ b = D → ∃ o, s₅.heap.get? b = some o := fun b hb => by
          rcases hb with hb | rfl
          · exact IT.live hT₅ b hb
          · exact ⟨_, D₅⟩
        refine wpAny_mono (q₅ A _ I₅ s₅ R S₅ F₅) (fun ok s₆ ⟨I₆, σ₆, t₆, S₆, q₆⟩ => ?_) fun _ _ z => z.elim
        have F₆ := F₅.step0 t₆
        have off₆ := tr_off t₆ off₅ liveD₅
        have hT₆ := IT.frame hT₅ t₆.le fun b o hb ho => t₆.keep b o (fun h => h.elim) (off₅ b (.inl hb)).2 ho
        have D₆ := t₆.keep D _ (fun h => h.elim) (off₅ D (.inr rfl)).2 D₅
        have liveD₆ : ∀ b, X b ∨ b = D → ∃ o, s₆.heap.get? b = some o := fun b hb => by
          rcases hb with hb | rfl
          · exact IT.live hT₆ b hb
          · exact ⟨_, D₆⟩
        have TT : Tr (fun b => X b ∨ b = D ∨ b = C) I₀ σ₀ s₀ I₆ σ₆ s₆ := t.trans ((t₄.weaken fun b _ _ hb => .inl hb).trans (t₅'.trans t₆.of0))
        have LE := t₄.le.trans (t₅.le.trans t₆.le)
        cases ok with
        | false =>
          simp only [Bool.false_eq_true, if_false] at q₆ ⊢
          exact ⟨l.length, Nat.lt_succ_self _, I₆, σ₆, l, vs, c, acc, rfl, by simp only [List.length_cons] at hlen; omega, TT, S₆, F₆.forget hn₅, hT₆, off₆, D₆, hvs.mono LE, q₆⟩
        | true =>
          simp only [if_true] at q₆ ⊢
          refine wpAny_mono (q₆ A _ I₆ s₆ R S₆ F₆) (fun x s₇ ⟨I₇, σ₇, V, t₇, S₇, vx, q₇⟩ => ?_) fun _ _ z => z.elim
          have F₇ := F₆.step0 t₇
          have off₇ := tr_off t₇ off₆ liveD₆
          have hT₇ := IT.frame hT₆ t₇.le fun b o hb ho => t₇.keep b o (fun h => h.elim) (off₆ b (.inl hb)).2 ho
          have D₇ := t₇.keep D _ (fun h => h.elim) (off₆ D (.inr rfl)).2 D₆
          refine PyProof.Rows.append_at D₇ (fun h' hs' hD' => ?_) (by rw [List.size_toArray, sizeLine_eq]; simp only [List.length_cons] at hlen; omega)
          obtain ⟨S₈, T₈⟩ := own_change S₇ (off₇ D (.inr rfl)).1 (off₇ D (.inr rfl)).2 hs' hD' s₇.toks
          have F₈ := F₇.step T₈ fun b hb => offE b (.inr hb)
          have hT₈ := IT.frame hT₇ (Im.Le.refl _) (h' := h') fun b o hb ho => (hs'.2 b (hXD b hb).1).trans ho
          refine ⟨l.length, Nat.lt_succ_self _, I₇, σ₇, l, vs ++ [x], c + 1, acc ++ [V], rfl, by simp only [List.length_append, List.length_cons, List.length_nil] at hlen ⊢; omega, ?_, S₈, F₈.forget hn₅, hT₈, off₇, ?_, (hvs.mono (LE.trans t₇.le)).append ⟨vx, trivial⟩, q₇⟩
          · exact TT.trans (t₇.of0.trans (T₈.weaken fun b _ _ hb => .inr (.inl hb)))
          · rw [show (List.toArray (vs ++ [x])) = (List.toArray vs).push x by simp]; exact hD'
    · rcases hb with hb | rfl
      · exact ⟨(hX b hb).1, (hX b hb).2.1⟩
      · exact ⟨offI _ fD, offS _ fD⟩
  refine codeAny_compStart_list (loop _ rfl) ?_
  have hT' : T I₂ ({ s₂ with heap := h₁, toks := s₂.toks + ([] : List (Str × Value)).length } : Shared).heap l := IT.frame hT (Im.Le.refl _) fun b o _ ho => old b o ho
  exact wpAny_mono (IT.self hT') (fun it' s' ⟨e1, e2⟩ => by subst e1; exact loop s' e2) fun _ _ z => z.elim

theorem adopt {I₀ I' : Im} {σ₀ σ' : Sto} {s₀ s' : Shared} {X : Addr → Prop} (T : Tr X I₀ σ₀ s₀ I' σ' s') (S : St cx I' σ' s') {D : Addr} {vs : List Value} {n : Nat} {acc : List Val} (hD : s'.heap.get? D = some (listOf (List.toArray vs) n)) (hv : VRs cx.w.params I' vs acc)
    (hI : I' D = none) (hn : s₀.heap.get? D = none) : Tr X I₀ σ₀ s₀ I' (σ'.set D (.list acc)) s' ∧ St cx I' (σ'.set D (.list acc)) s' := by
  refine ⟨⟨T.keep, T.le, T.newI, fun b hb => ?_, T.live⟩, S.sub, S.base, fun b c hb => ?_, fun b c hb => ?_, S.gens, S.os⟩
  · by_cases e : b = D
    · subst e; exact .inr hn
    · rw [Sto.set_ne _ _ e] at hb; exact T.newσ b hb
  · by_cases e : b = D
    · subst e; rw [Sto.set_self] at hb; cases hb; exact ⟨_, hD, vs, n, rfl, hv⟩
    · rw [Sto.set_ne _ _ e] at hb; exact S.cell b c hb
  · by_cases e : b = D
    · subst e; exact hI
    · rw [Sto.set_ne _ _ e] at hb; exact S.apart b c hb
theorem adoptI {I₀ I' : Im} {σ₀ σ' : Sto} {s₀ s' : Shared} {X : Addr → Prop} (T : Tr X I₀ σ₀ s₀ I' σ' s') (S : St cx I' σ' s') {D : Addr} {vs : List Value} {n : Nat} {acc : List Val} (hD : s'.heap.get? D = some (listOf (List.toArray vs) n)) (hv : VRs cx.w.params I' vs acc)
    (hI : I' D = none) (hn : s₀.heap.get? D = none) (hσ : σ' D = none) : ∃ I'', Tr X I₀ σ₀ s₀ I'' σ' s' ∧ St cx I'' σ' s' ∧ VR cx.w.params I'' (.ref D) (.lst acc) ∧ ∀ b, b ≠ D → I'' b = I' b := by
  have le := Im.le_put (o := listOf (List.toArray vs) n) hI
  refine ⟨I'.put D (listOf (List.toArray vs) n), ⟨T.keep, T.le.trans le, fun b o h => ?_, T.newσ, T.live⟩, ⟨fun b o h => ?_, fun b o h => le b o (S.base b o h), fun b c h => ?_, fun b c h => ?_, S.gens, S.os⟩, vr_lst (Im.put_self ..) (hv.mono le), fun b e => Im.put_ne _ _ e⟩
  · by_cases e : b = D
    · subst e; exact .inr (.inl hn)
    · rw [Im.put_ne _ _ e] at h; exact T.newI b o h
  · by_cases e : b = D
    · subst e; rw [Im.put_self] at h; cases h; exact hD
    · rw [Im.put_ne _ _ e] at h; exact S.sub b o h
  · obtain ⟨o, ho, r⟩ := S.cell b c h
    exact ⟨o, ho, r.mono le⟩
  · by_cases e : b = D
    · subst e; rw [hσ] at h; cases h
    · rw [Im.put_ne _ _ e]; exact S.apart b c h
theorem FrR.but {I : Im} {m : Loc} {env : Env} {s : Shared} (F : FrR cx I σ m env s) {C : Addr} {h' : Heap} (hs : ∀ b, b ≠ C → h'.get? b = s.heap.get? b) (h1 : env.locals ≠ C) (h2 : ∀ x, env.cells.lookup x ≠ some C) : FrR cx I σ m env { s with heap := h' } := by
  have hc : ∀ x c, env.cells.lookup x = some c → c ≠ C := fun x c h e => h2 x (e ▸ h)
  refine ⟨F.kind, F.glob, F.blt, F.nodup, F.debug, fun x c h => ?_, F.capart, F.ownI, F.ownS, F.lc, F.kinds, F.caps, ?_⟩
  · obtain ⟨v, o, ho, hd⟩ := F.cells x c h
    exact ⟨v, o, (hs c (hc x c h)).trans ho, hd⟩
  · obtain ⟨mm, ⟨o, es, ep, ho, r⟩, hv⟩ := F.vals
    refine ⟨mm, ⟨o, es, ep, (hs _ h1).trans ho, r⟩, fun x V hx => ?_⟩
    rcases hv x V hx with z | ⟨v, h1, h2⟩
    · exact .inl z
    · refine .inr ⟨v, h1, ?_⟩
      unfold Stands at h2 ⊢
      generalize env.kindOf x = kk at h2 ⊢
      rcases kk with _ | kk
      · exact h2
      · cases kk <;> first | exact h2 | exact (let ⟨c, h3, ⟨o, h4, h5⟩, h6⟩ := h2; ⟨c, h3, ⟨o, (hs c (hc x c h3)).trans h4, h5⟩, h6⟩)
noncomputable def CompJ (cx : Cx) (k : Nat) (ts : List Str) (c : List (Str × Val)) (target : Expr) (ifs : List Expr) (elt : Expr) (H : Sto → Prop) (J : List Val → List Val → Sto → Prop) : Prop :=
  (∀ l a σ, J l a σ → H σ) ∧ ∀ v l acc σ₁, J (v :: l) acc σ₁ → WpAs cx ⟨unbs ts, c, []⟩ σ₁ target v fun v' => WpIfs cx k ⟨v', c, []⟩ σ₁ ifs fun b σ₂ => if b then WpE cx k ⟨v', c, []⟩ σ₂ elt fun V σ₃ => J l (acc ++ [V]) σ₃ else J l acc σ₂
theorem free_lookup {scope : Scope} {ts cs gs : List Str} {I : Im} {env : Env} {s : Shared} (F : FrR cx I σ m env s) (ok : okComp scope ts cs gs m.k = true) (hcs : ∀ x ∈ m.k, x ∈ names m.v ∨ ∃ c, env.cells.lookup x = some c) : ∀ x ∈ scope.names, x.2 = .free → ∃ c, env.cells.lookup x.1 = some c := fun x hx hf => by
  unfold okComp at ok
  simp only [Bool.and_eq_true, decide_eq_true_eq, List.all_eq_true, Bool.not_eq_true'] at ok
  have hk : x.1 ∈ m.k := by
    have := (ok.1.2 x hx).1.2
    rw [hf] at this
    simpa using this
  rcases hcs x.1 hk with h | h
  · rcases F.kinds x.1 h with e | e
    · rcases F.caps x.1 hk with z | z <;> rw [e] at z <;> cases z
    · exact e.2.1
  · exact h
theorem wpe_comp {tt : Bool} {target iter elt : Expr} {ifs : List Expr} {scope : Scope} {pos : Pos} (ts : List Str) (cs gs : List (Str × Val)) {Q : Val → Sto → Prop}
    (ok : okComp scope ts (names cs) (names gs) m.k = true) (hcs : ∀ p ∈ cs, p ∈ m.v ∨ p ∈ m.c) (hk : ∀ x ∈ m.k, x ∈ names m.v) (hg : GVs cx gs) (ht : tt = true → ∃ es n p, target = .Tuple es n p)
    (h : WpIt cx k tt m σ iter fun H l σ₁ => l.length ≤ 1000 ∧ ∃ J : List Val → List Val → Sto → Prop, J l [] σ₁ ∧ CompJ cx k ts (cs ++ gs) target ifs elt H J ∧ ∀ acc σ', J [] acc σ' → ∀ a, σ' a = none → Q (.raw (.ref a)) (σ'.set a (.list acc)))
    (hs : ∀ x env, foldedSetIterable iter env x = pure x := by intro _ _; rfl) :
    WpE cx k m σ (.ListComp elt [⟨target, iter, ifs, 0⟩] scope pos) Q := fun A env I₀ s₀ R S₀ F₀ => by
  obtain ⟨cl, hcl, h2, h3⟩ := closureFor_ok (free_lookup F₀ ok fun x hx => .inl (hk x hx))
  have ok' := ok
  unfold okComp at ok'
  simp only [Bool.and_eq_true, decide_eq_true_eq, List.all_eq_true, Bool.not_eq_true'] at ok'
  rw [eval_ListComp]
  refine wpAny_comprehension_free (use := none) rfl (fun x => hs x env) hcl (beq_iff_eq.mp ok'.2) (fun x hx hl => ?_) (wfrom (h A env I₀ s₀ R S₀ F₀) fun v s₁ h₁ => wfrom h₁ fun it s₂ ⟨I₂, σ₂, X, H, l, t₂, S₂, ⟨T, IT, hT⟩, hX, hl, J, j0, ⟨jH, turn⟩, fin⟩ => ?_)
  · have := (ok'.1.2 x hx).2
    rw [hl] at this
    simpa using this
  refine comp_core (RR := fun acc C => compPost (Md cx) A Bot none (Post cx I₀ σ s₀ Q) acc C) R F₀ ok hcs hg ht h2 h3 t₂ S₂ IT hT hX hl J j0 jH turn ?_
  intro I' σ' D C vs n acc s' mm T' S' hD hv hDI hDσ hDn hCn hCI hCσ hCf hDC j
  refine ⟨mm, hCn, fun h' hs' => ?_⟩
  obtain ⟨o, es, ep, hCo, _⟩ := hCn
  have hs'' : ∀ b, b ≠ C → h'.get? b = s'.heap.get? b := hs'.2
  have S'' : St cx I' σ' { s' with heap := h' } := ⟨fun b p hb => (hs'' b fun e => by subst e; rw [hCI] at hb; cases hb).trans (S'.sub b p hb), S'.base, fun b c hb => let ⟨p, hp, r⟩ := S'.cell b c hb; ⟨p, (hs'' b fun e => by subst e; rw [hCσ] at hb; cases hb).trans hp, r⟩, S'.apart, S'.gens, S'.os⟩
  have T'' : Tr Own0 I₀ σ s₀ I' σ' { s' with heap := h' } := ⟨fun b p hx hσ hb => (hs'' b fun e => by subst e; rw [hCf] at hb; cases hb).trans (T'.keep b p hx hσ hb), T'.le, T'.newI, T'.newσ, fun b hb => by
    by_cases e : b = C
    · subst e; exact hCf
    · exact T'.live b ((hs'' b e).symm.trans hb)⟩
  obtain ⟨T3, S3⟩ := adopt T'' S'' ((hs'' D hDC).trans hD) hv hDI hDn
  exact ⟨I', _, .raw (.ref D), T3, S3, vr_raw, fin acc σ' j D hDσ⟩
/-- y = [..], the list seen as frozen -/
theorem wps_comp {vv c : List (Str × Val)} {kk : List Str} {tt : Bool} {target iter elt : Expr} {ifs : List Expr} {scope : Scope} {pos spos : Pos} {y : Str} {py : Pos} (ts : List Str) (cs gs : List (Str × Val)) {Q : Fl → Loc → Sto → Prop}
    (ok : okComp scope ts (names cs) (names gs) kk = true) (hcs : ∀ p ∈ cs, p ∈ vv ∨ p ∈ c) (hk : ∀ x ∈ kk, x ∈ names vv) (hg : GVs cx gs) (ht : tt = true → ∃ es n p, target = .Tuple es n p)
    (h : WpIt cx k tt ⟨vv, c, kk⟩ σ iter fun H l σ₁ => l.length ≤ 1000 ∧ ∃ J : List Val → List Val → Sto → Prop, J l [] σ₁ ∧ CompJ cx k ts (cs ++ gs) target ifs elt H J ∧ ∀ acc σ', J [] acc σ' → kAs vv c kk y Q (.lst acc) σ')
    (hs : ∀ x env, foldedSetIterable iter env x = pure x := by intro _ _; rfl) :
    WpS cx k ⟨vv, c, kk⟩ σ (.Assign [.Name y py] (.ListComp elt [⟨target, iter, ifs, 0⟩] scope pos) spos) Q := fun A env I₀ s₀ R S₀ F₀ => by
  have hsw : ∃ b, swapsWith (.ListComp elt [⟨target, iter, ifs, 0⟩] scope pos) (some (.Name y py)) spos.line env = pure b := ⟨_, rfl⟩
  obtain ⟨b, hsw⟩ := hsw
  cases b with
  | false =>
    refine wpAny_Assign_Name ?_ hsw
    have we : WpE cx k ⟨vv, c, kk⟩ σ (.ListComp elt [⟨target, iter, ifs, 0⟩] scope pos) (kAs vv c kk y Q) := by
      refine wpe_fz (wpe_comp ts cs gs ok hcs hk hg ht ?_ hs)
      refine fun A env I s R S F => wfrom (h A env I s R S F) fun v s₁ h₁ => wfrom h₁ fun it s₂ ⟨I₂, σ₂, X, H, l, t₂, S₂, i₂, hX, hl, J, j0, cj, fin⟩ => ?_
      refine ⟨I₂, σ₂, X, H, l, t₂, S₂, i₂, hX, hl, J, j0, cj, fun acc σ' j a ha => ?_⟩
      obtain ⟨v', u, q⟩ := fin acc σ' j
      exact ⟨_, σ', fz_lst ha, v', u, q⟩
    exact wv (we A env I₀ s₀ R S₀ F₀) fun v s₁ I₁ σ₁ V t₁ S₁ v₁ ⟨v', u, q⟩ => wfrom (store_ok S₁ (F₀.step0 t₁) u v₁) fun _ s₂ ⟨t₂, S₂, F₂⟩ => ⟨I₁, σ₁, .next, _, t₁.of0.trans t₂, S₂, trivial, F₂, u.names, q⟩
  | true =>
    obtain ⟨cl, hcl, h2, h3⟩ := closureFor_ok (free_lookup F₀ ok fun x hx => .inl (hk x hx))
    have ok' := ok
    unfold okComp at ok'
    simp only [Bool.and_eq_true, decide_eq_true_eq, List.all_eq_true, Bool.not_eq_true'] at ok'
    rw [exec_Assign_Name_used _ _ _ _ hsw]
    refine wpAny_bind (wpAny_standAt (wpAny_bind ?_))
    show wpAny (Md cx) A (do let _ ← comprehension (.ListComp elt [⟨target, iter, ifs, 0⟩] scope pos) scope env _ (newList []) false (eval iter env) (some (assign (.Name y py) env))) _ _ s₀
    refine wpAny_bind (wpAny_mono (wpAny_comprehension_free (E := Bot) (use := some (assign (.Name y py) env)) (Q := fun _ s' => PostS cx (names vv) env I₀ σ s₀ Q .next s') rfl (fun x => hs x env) hcl (beq_iff_eq.mp ok'.2) (fun x hx hl => ?_)
      (wfrom (h A env I₀ s₀ R S₀ F₀) fun v s₁ h₁ => wfrom h₁ fun it s₂ ⟨I₂, σ₂, X, H, l, t₂, S₂, ⟨T, IT, hT⟩, hX, hl, J, j0, ⟨jH, turn⟩, fin⟩ => ?_)) (fun _ s' hq => wpAny_pure (wpAny_pure hq)) fun _ _ z => z.elim)
    · have := (ok'.1.2 x hx).2
      rw [hl] at this
      simpa using this
    refine comp_core (RR := fun acc C => compPost (Md cx) A Bot (some (assign (.Name y py) env)) (fun _ s' => PostS cx (names vv) env I₀ σ s₀ Q .next s') acc C) R F₀ ok hcs hg ht h2 h3 t₂ S₂ IT hT hX hl J j0 jH turn ?_
    intro I' σ' D C vs n acc s' mm T' S' hD hv hDI hDσ hDn hCn hCI hCσ hCf hDC j
    obtain ⟨v', u, q⟩ := fin acc σ' j
    obtain ⟨I'', T3, S3, vr, same⟩ := adoptI T' S' hD hv hDI hDn hDσ
    have hCI' : I'' C = none := (same C (fun e => hDC e.symm)).trans hCI
    show wpAny (Md cx) A (assign (.Name y py) env (.ref D)) _ _ _
    refine wpAny_assign_Name (wfrom (store_ok S3 (F₀.step0 T3) u vr) fun _ s₂ ⟨t₂, S₂, F₂⟩ => ?_)
    have c1 : env.locals ≠ C := fun e => by
      obtain ⟨o, ho⟩ := own_live F₀ (b := C) (.inl e.symm)
      rw [hCf] at ho; cases ho
    have c2 : ∀ x, env.cells.lookup x ≠ some C := fun x e => by
      obtain ⟨o, ho⟩ := own_live F₀ (b := C) (.inr ⟨x, e⟩)
      rw [hCf] at ho; cases ho
    have nO : ¬ Own (names vv) env C := by
      rintro (e | ⟨x, _, e, _⟩)
      · exact c1 e.symm
      · exact c2 x e
    obtain ⟨o, es, ep, hCo, r⟩ := hCn
    refine ⟨mm, ⟨o, es, ep, t₂.keep C o nO hCσ hCo, r⟩, fun h' hs' => ?_⟩
    have hs'' : ∀ b, b ≠ C → h'.get? b = s₂.heap.get? b := hs'.2
    have TT : Tr (Own (names vv) env) I₀ σ s₀ I'' σ' s₂ := T3.of0.trans t₂
    refine ⟨I'', σ', .next, ⟨v', c, kk⟩, ⟨fun b p hx hσ hb => (hs'' b fun e => by subst e; rw [hCf] at hb; cases hb).trans (TT.keep b p hx hσ hb), TT.le, TT.newI, TT.newσ, fun b hb => ?_⟩,
      ⟨fun b p hb => (hs'' b fun e => by subst e; rw [hCI'] at hb; cases hb).trans (S₂.sub b p hb), S₂.base, fun b c hb => let ⟨p, hp, r⟩ := S₂.cell b c hb; ⟨p, (hs'' b fun e => by subst e; rw [hCσ] at hb; cases hb).trans hp, r⟩, S₂.apart, S₂.gens, S₂.os⟩, trivial, F₂.but hs'' c1 c2, u.names, q⟩
    by_cases e : b = C
    · subst e; exact hCf
    · exact TT.live b ((hs'' b e).symm.trans hb)
end

theorem KA.keysOf {prog : Program} {w : World} {es : List DictEntry} {ns : List Str} (h : KA w.params es ns) : ∀ e ∈ es, ∃ k, (strKind prog w).is k e.key = true ∧ e.hash = (strKind prog w).hash k := by
  induction ns generalizing es with
  | nil => intro e he; rw [h.nil_inv] at he; cases he
  | cons x xs ih =>
    intro e' he
    obtain ⟨e, r, rfl, ⟨t, h1⟩, h2, h3⟩ := h.cons_inv
    rcases List.mem_cons.mp he with rfl | he
    · exact ⟨x, by rw [h1]; exact strKind_is prog w x t, h2⟩
    · exact ih h3 e' he
theorem KA.pairs {prog : Program} {w : World} : ∀ {es : List DictEntry} {ns : List Str}, KA w.params es ns → Pairs (strKind prog w) es (ns.zip (es.map (·.val)))
  | [], [], _ => .nil
  | e :: es, x :: xs, ⟨⟨t, h1⟩, h2, r⟩ => .cons (by rw [h1]; exact strKind_is prog w x t) rfl (KA.pairs r)
theorem KA.length {P : Params} : ∀ {es : List DictEntry} {ns : List Str}, KA P es ns → es.length = ns.length
  | [], [], _ => rfl
  | _ :: _, _ :: _, ⟨_, _, r⟩ => by simp [KA.length r]
theorem KI.length : ∀ {es : List DictEntry} {ns : List Int}, KI es ns → es.length = ns.length
  | [], [], _ => rfl
  | _ :: _, _ :: _, ⟨_, _, r⟩ => by simp [KI.length r]
theorem KI.keysOf {prog : Program} {w : World} {es : List DictEntry} {ns : List Int} (h : KI es ns) : ∀ e ∈ es, ∃ k, (intKind prog w).is k e.key = true ∧ e.hash = (intKind prog w).hash k := by
  induction ns generalizing es with
  | nil => intro e he; rw [h.nil_inv] at he; cases he
  | cons x xs ih =>
    intro e' he
    obtain ⟨e, r, rfl, ⟨t, h1⟩, h2, h3⟩ := h.cons_inv
    rcases List.mem_cons.mp he with rfl | he
    · exact ⟨x, by rw [h1]; exact intKind_is prog w x t, h2⟩
    · exact ih h3 e' he
theorem KI.pairs {prog : Program} {w : World} : ∀ {es : List DictEntry} {ns : List Int}, KI es ns → Pairs (intKind prog w) es (ns.zip (es.map (·.val)))
  | [], [], _ => .nil
  | e :: es, x :: xs, ⟨⟨t, h1⟩, h2, r⟩ => .cons (by rw [h1]; exact intKind_is prog w x t) rfl (KI.pairs r)
theorem KA.of {prog : Program} {w : World} : ∀ {es : List DictEntry} {kvs : List (Str × Value)}, Pairs (strKind prog w) es kvs → (∀ e ∈ es, ∃ k, (strKind prog w).is k e.key = true ∧ e.hash = (strKind prog w).hash k) → KA w.params es (kvs.map (·.1)) ∧ es.map (·.val) = kvs.map (·.2)
  | _, _, .nil, _ => ⟨trivial, rfl⟩
  | e :: es, kv :: kvs, .cons h1 h2 r, hk => by
    obtain ⟨a, b⟩ := KA.of r fun e he => hk e (.tail _ he)
    obtain ⟨k, i1, i2⟩ := hk e (.head _)
    have ek : k = kv.1 := (strKind prog w).inj _ _ _ i1 h1
    subst ek
    exact ⟨⟨Value.isStrOf_shape h1, i2, a⟩, by rw [List.map_cons, List.map_cons, b, h2]⟩
theorem KI.of {prog : Program} {w : World} : ∀ {es : List DictEntry} {kvs : List (Int × Value)}, Pairs (intKind prog w) es kvs → (∀ e ∈ es, ∃ k, (intKind prog w).is k e.key = true ∧ e.hash = (intKind prog w).hash k) → KI es (kvs.map (·.1)) ∧ es.map (·.val) = kvs.map (·.2)
  | _, _, .nil, _ => ⟨trivial, rfl⟩
  | e :: es, kv :: kvs, .cons h1 h2 r, hk => by
    obtain ⟨a, b⟩ := KI.of r fun e he => hk e (.tail _ he)
    obtain ⟨k, i1, i2⟩ := hk e (.head _)
    have ek : k = kv.1 := (intKind prog w).inj _ _ _ i1 h1
    subst ek
    exact ⟨⟨Value.isInt_shape h1, i2, a⟩, by rw [List.map_cons, List.map_cons, b, h2]⟩
theorem zip_fst {α β : Type} : ∀ {ps : List α} {vs : List β}, vs.length = ps.length → (ps.zip vs).map (·.1) = ps
  | [], _, _ => by simp
  | p :: ps, v :: vs, h => by simp at h; simp [zip_fst h]
theorem KA.dictOf {prog : Program} {w : World} {h : Heap} {a : Addr} {es : List DictEntry} {n : Nat} {ns : List Str} (ho : h.get? a = some (dictOf es n)) (k : KA w.params es ns) (nd : ns.Nodup) : h.DictOf (strKind prog w) a (ns.zip (es.map (·.val))) :=
  ⟨_, List.toArray es, n, ho, ⟨rfl, rfl, rfl⟩, rfl, (fun e he => k.keysOf e (by simpa using he)), k.pairs, by rw [zip_fst (by rw [List.length_map, k.length])]; exact nd⟩
theorem KI.dictOf {prog : Program} {w : World} {h : Heap} {a : Addr} {es : List DictEntry} {n : Nat} {ns : List Int} (ho : h.get? a = some (dictOf es n)) (k : KI es ns) (nd : ns.Nodup) : h.DictOf (intKind prog w) a (ns.zip (es.map (·.val))) :=
  ⟨_, List.toArray es, n, ho, ⟨rfl, rfl, rfl⟩, rfl, (fun e he => k.keysOf e (by simpa using he)), k.pairs, by rw [zip_fst (by rw [List.length_map, k.length])]; exact nd⟩
theorem exact_dict {o : Obj} {es : Array DictEntry} {ep : Nat} (h : o.ExactDict) (hd : o.data = .dict es ep) : o = dictOf es.toList ep := by
  obtain ⟨c, d, dt, sl⟩ := o
  obtain ⟨h1, h2, h3⟩ := h
  dsimp only at h1 h2 h3 hd
  subst h1 h2 h3 hd
  simp

/-- look a key up -/
noncomputable def lookV {α : Type} [DecidableEq α] : List α → List Val → α → Option Val
  | x :: xs, V :: Vs, k => if x = k then some V else lookV xs Vs k
  | _, _, _ => none
noncomputable def putV {α : Type} [DecidableEq α] : List α → List Val → α → Val → List Val
  | x :: xs, V :: Vs, k, W => (if x = k then W else V) :: putV xs Vs k W
  | _, Vs, _, _ => Vs
theorem valueAt_zip {α : Type} [DecidableEq α] {P : Params} {I : Im} {k : α} {V : Val} : ∀ {ns : List α} {vs : List Value} {Vs : List Val}, VRs P I vs Vs → lookV ns Vs k = some V → ∃ v, valueAt (ns.zip vs) k = some v ∧ VR P I v V
  | x :: ns, v :: vs, W :: Vs, ⟨h1, h2⟩, h => by
    unfold lookV at h
    by_cases e : x = k
    · rw [if_pos e] at h
      cases h
      exact ⟨v, by simp [valueAt, e], h1⟩
    · rw [if_neg e] at h
      obtain ⟨u, a, b⟩ := valueAt_zip h2 h
      exact ⟨u, by simpa [valueAt, e] using a, b⟩
  | [], _, _, _, h => by simp [lookV] at h
  | _ :: _, [], [], _, h => by simp [lookV] at h
theorem valueAt_none {α : Type} [DecidableEq α] {P : Params} {I : Im} {k : α} : ∀ {ns : List α} {vs : List Value} {Vs : List Val}, VRs P I vs Vs → ns.length = Vs.length → lookV ns Vs k = none → valueAt (ns.zip vs) k = none
  | x :: ns, v :: vs, W :: Vs, ⟨h1, h2⟩, hl, h => by
    unfold lookV at h
    by_cases e : x = k
    · rw [if_pos e] at h; cases h
    · rw [if_neg e] at h
      have := valueAt_none h2 (by simpa using hl) h
      simpa [valueAt, e] using this
  | [], _, _, _, _, _ => by simp [valueAt]
  | _ :: _, [], [], _, hl, _ => by simp at hl
theorem mapped_zip {α : Type} [DecidableEq α] {P : Params} {I : Im} {k : α} {v : Value} {W : Val} (vr : VR P I v W) : ∀ {ns : List α} {vs : List Value} {Vs : List Val}, VRs P I vs Vs → ns.length = Vs.length →
    ((ns.zip vs).map (fun kv => if kv.1 = k then (kv.1, v) else kv)).map (·.1) = ns ∧ VRs P I (((ns.zip vs).map (fun kv => if kv.1 = k then (kv.1, v) else kv)).map (·.2)) (putV ns Vs k W)
  | [], [], [], _, _ => ⟨rfl, trivial⟩
  | x :: ns, u :: vs, V :: Vs, ⟨h1, h2⟩, hl => by
    obtain ⟨a, b⟩ := mapped_zip vr h2 (by simpa using hl)
    simp only [List.zip_cons_cons, List.map_cons]
    by_cases e : x = k
    · rw [if_pos e, a]
      refine ⟨rfl, ?_⟩
      unfold putV
      rw [if_pos e]
      exact ⟨vr, b⟩
    · rw [if_neg e, a]
      refine ⟨rfl, ?_⟩
      unfold putV
      rw [if_neg e]
      exact ⟨h1, b⟩
  | [], _ :: _, _ :: _, _, hl => by simp at hl
  | _ :: _, [], [], _, hl => by simp at hl
theorem any_zip {α : Type} [DecidableEq α] {P : Params} {I : Im} {k : α} : ∀ {ns : List α} {vs : List Value} {Vs : List Val}, VRs P I vs Vs → (lookV ns Vs k).isSome = true → (ns.zip vs).any (fun kv => kv.1 = k) = true
  | x :: ns, v :: vs, W :: Vs, ⟨h1, h2⟩, h => by
    unfold lookV at h
    by_cases e : x = k
    · simp [e]
    · rw [if_neg e] at h
      have := any_zip h2 h
      simp only [List.zip_cons_cons, List.any_cons, this, Bool.or_true]
  | [], _, _, _, h => by simp [lookV] at h
  | _ :: _, [], [], _, h => by simp [lookV] at h

section
variable {cx : Cx} {k : Nat} {m : Loc} {σ : Sto} {Q : Val → Sto → Prop}
theorem sub_sd {sl : Expr} {a : Addr} {ns : List Str} {Vs : List Val} {x : Str} {V : Val} (ha : σ a = some (.dict ns Vs)) (nd : ns.Nodup) (hl : lookV ns Vs x = some V) (q : Q V σ) (h : plainSl sl := by intro _ _; rfl) : WpSub cx k sl (.raw (.ref a)) (.str x) σ Q :=
  fun A I s v u value R S hv hu => by
    cases un_raw hv
    obtain ⟨t, rfl⟩ := un_str hu
    obtain ⟨o, ho, es, n, rfl, kk, r⟩ := S.cell a _ ha
    have hd := KA.dictOf (prog := cx.prog) ho kk nd
    obtain ⟨w, hw, vw⟩ := valueAt_zip r hl
    exact tail_any hd.typeIs slot_dict_getitem.lookup (wpAny_getItem_of (knd := strKind cx.prog cx.w) (strKind_is _ _ x t) hd.mapOf hw (Post.tok S vw q _)) (h _ _)
theorem sub_nd {sl : Expr} {a : Addr} {ns : List Int} {Vs : List Val} {x : Int} {V : Val} (ha : σ a = some (.nd ns Vs)) (nd : ns.Nodup) (hl : lookV ns Vs x = some V) (q : Q V σ) (h : plainSl sl := by intro _ _; rfl) : WpSub cx k sl (.raw (.ref a)) (.int x) σ Q :=
  fun A I s v u value R S hv hu => by
    cases un_raw hv
    obtain ⟨t, rfl⟩ := un_int hu
    obtain ⟨o, ho, es, n, rfl, kk, r⟩ := S.cell a _ ha
    have hd := KI.dictOf (prog := cx.prog) (w := cx.w) ho kk nd
    obtain ⟨w, hw, vw⟩ := valueAt_zip r hl
    exact tail_any hd.typeIs slot_dict_getitem.lookup (wpAny_getItem_of (knd := intKind cx.prog cx.w) (intKind_is _ _ x t) hd.mapOf hw (Post.tok S vw q _)) (h _ _)

inductive PostU (cx : Cx) (I : Im) (σ : Sto) (s : Shared) (Q : Sto → Prop) (s' : Shared) : Prop
  | mk (I' : Im) (σ' : Sto) (t : Tr Own0 I σ s I' σ' s') (st : St cx I' σ' s') (q : Q σ')
noncomputable def WpSet (cx : Cx) (k : Nat) (O U V : Val) (σ : Sto) (Q : Sto → Prop) : Prop :=
  ∀ A I s o u v, Room A k → St cx I σ s → VR cx.w.params I o O → VR cx.w.params I u U → VR cx.w.params I v V → wpAny (Md cx) A (setItem o u v) (fun _ s' => PostU cx I σ s Q s') Bot s
theorem set_sd {a : Addr} {ns : List Str} {Vs : List Val} {x : Str} {W : Val} {Q : Sto → Prop} (ha : σ a = some (.dict ns Vs)) (nd : ns.Nodup) (hn : ns.length ≤ 1000) (hl : (lookV ns Vs x).isSome = true) (q : Q (σ.set a (.dict ns (putV ns Vs x W)))) : WpSet cx k (.raw (.ref a)) (.str x) W σ Q :=
  fun A I s o u v R S ho hu hv => by
    cases un_raw ho
    obtain ⟨t, rfl⟩ := un_str hu
    obtain ⟨o, ho, es, n, rfl, kk, r⟩ := S.cell a _ ha
    have hd := KA.dictOf (prog := cx.prog) ho kk nd
    have el := r.length
    rw [List.length_map] at el
    have el2 := kk.length
    refine wpAny_setItem_pairs (knd := strKind cx.prog cx.w) (k := x) (strKind_is _ _ x t) hd (fun h' hd' hs' => ?_) (by rw [List.length_zip, List.length_map, sizeLine_eq]; omega)
    obtain ⟨o', es', ep', ho', ex, hdat, hk', hp', hnd'⟩ := hd'
    have eo := exact_dict ex hdat
    subst eo
    obtain ⟨ka, ev⟩ := KA.of hp' fun e he => hk' e (by simpa using he)
    have st : stored (ns.zip (es.map (·.val))) x v = (ns.zip (es.map (·.val))).map (fun kv => if kv.1 = x then (kv.1, v) else kv) := by
      unfold stored; rw [if_pos (any_zip r hl)]
    obtain ⟨m1, m2⟩ := mapped_zip (k := x) (ns := ns) hv r (by omega)
    rw [st] at ka ev
    rw [m1] at ka
    rw [← ev] at m2
    have hc : CR cx.w.params I (dictOf es'.toList ep') (.dict ns (putV ns Vs x W)) := ⟨_, _, rfl, ka, m2⟩
    exact ⟨I, _, (Tr.upd ha hs' ho' Own0).toks _, (S.upd ha hs' ho' hc).toks _, q⟩
theorem seq_turn (f : Array Value → Array Value) (xs : Array Value) (n : Nat) : ∃ n', Obj.mapSeq f (listOf xs n) = listOf (f xs) n' := ⟨_, rfl⟩
theorem seq_upd {I : Im} {s : Shared} (S : St cx I σ s) {a : Addr} {Vs Vs' : List Val} {vs vs' : List Value} {n : Nat} (ha : σ a = some (.list Vs)) (ho : s.heap.get? a = some (listOf (List.toArray vs) n)) {f : Array Value → Array Value} (hf : f (List.toArray vs) = List.toArray vs') (hv : VRs cx.w.params I vs' Vs') :
    Tr Own0 I σ s I (σ.set a (.list Vs')) { s with heap := s.heap.update a (Obj.mapSeq f) } ∧ St cx I (σ.set a (.list Vs')) { s with heap := s.heap.update a (Obj.mapSeq f) } := by
  obtain ⟨n', e⟩ := seq_turn f (List.toArray vs) n
  have ho' : (s.heap.update a (Obj.mapSeq f)).get? a = some (listOf (List.toArray vs') n') := by
    rw [Heap.get?_update_self _ ho (by rw [e]; rfl), e, hf]
  exact ⟨Tr.upd ha (Heap.SameBut.update ..) ho' Own0, S.upd ha (Heap.SameBut.update ..) ho' ⟨vs', n', rfl, hv⟩⟩
theorem set_list {a : Addr} {Vs : List Val} {i : Int} {W : Val} {Q : Sto → Prop} (ha : σ a = some (.list Vs)) (h0 : 0 ≤ i) (h1 : i < Vs.length) (hz : Vs.length ≤ 1000) (q : Q (σ.set a (.list (Vs.set i.toNat W)))) : WpSet cx k (.raw (.ref a)) (.int i) W σ Q :=
  fun A I s o u v R S ho hu hv => by
    cases un_raw ho
    obtain ⟨t, rfl⟩ := un_int hu
    obtain ⟨o, ho, vs, n, rfl, r⟩ := S.cell a _ ha
    have el := r.length
    have hl : s.heap.IsList a (List.toArray vs) := ⟨_, ho, rfl, n, rfl⟩
    have setR : ∀ {j : Nat} {vs : List Value} {Vs : List Val}, VRs cx.w.params I vs Vs → VRs cx.w.params I (vs.set j v) (Vs.set j W) := by
      intro j vs
      induction vs generalizing j with
      | nil => intro Vs h; cases Vs with
        | nil => exact trivial
        | cons _ _ => exact h.elim
      | cons x vs ih => intro Vs h; cases Vs with
        | nil => exact h.elim
        | cons V Vs => cases j with
          | zero => exact ⟨hv, h.2⟩
          | succ j => exact ⟨h.1, ih h.2⟩
    obtain ⟨tr, S'⟩ := seq_upd S ha ho (f := fun x => x.setIfInBounds i.toNat v) (vs' := vs.set i.toNat v) (by simp) (setR r)
    have hj : i.toNat < (List.toArray vs).size := by simp; omega
    have hm : s.heap.objs.size = s.heap.objs.size := rfl
    unfold setItem
    refine wpAny_holding (wpAny_bind (wpAny_sequenceKey hl.typeIs (by decide) (wpAny_bind (wpAny_callSpecial?_slot (name := Str.ofString "__setitem__") hl.typeIs slot_list_setitem
      (wpAny_call_entry slot_list_setitem hl.typeIs entry_list_setitem ?_ (args_list_setitem _ _ _))))))
    show wpAny _ _ (Builtin.List.listSubscript? (.int i t) >>= _) _ _ s
    refine wpAny_bind (wpAny_listSubscript_int (fitsIndex_of h0 (by omega)) ?_)
    have e : i = (i.toNat : Int) := by omega
    rw [e]
    show wpAny _ _ ((seqItemAt a i.toNat >>= fun r => pure (r.map (i.toNat, ·))) >>= _) _ _ s
    refine wpAny_bind (wpAny_bind (wpAny_seqItemAt ho rfl (wpAny_pure ?_)))
    rw [Array.getElem?_eq_getElem hj]
    show wpAny _ _ (setSeqItemAt a i.toNat v >>= _) _ _ s
    refine wpAny_bind (wpAny_setSeqItemAt ho rfl ?_)
    have fin : PostU cx I σ s Q { s with heap := s.heap.update a (Obj.mapSeq (·.setIfInBounds i.toNat v)) } := ⟨I, _, tr, S', q⟩
    first
      | exact wpAny_bind (wpAny_pure (wpAny_pure ⟨.none, rfl, wpAny_pure fin⟩))
      | exact wpAny_pure ⟨.none, rfl, wpAny_pure fin⟩

theorem meth_list {a : Addr} {Vs : List Val} {name : Str} {id : String} {Q : Val → List Val → Sto → Prop} (ha : σ a = some (.list Vs)) (slot : Slot "list" name id) (hty : typeOf (.builtin id) = pure (.type "method_descriptor")) (q : Q (.raw (.builtin id)) [.raw (.ref a)] σ) :
    WpMeth cx k name (.raw (.ref a)) σ Q := fun A I s v pl R S hv => by
  cases un_raw hv
  obtain ⟨o, ho, vs, n, rfl, r⟩ := S.cell a _ ha
  exact getMethod_builtin ⟨_, ho, rfl⟩ PySem.F.plainAttrs_list slot hty (fun b e => by cases e; exact ⟨_, ho, rfl⟩) ⟨I, σ, .raw (.builtin id), [.raw (.ref a)], Tr.refl .., S, vr_raw, ⟨vr_raw, trivial⟩, q⟩
theorem c_append {a : Addr} {Vs : List Val} {W : Val} (ha : σ a = some (.list Vs)) (hz : Vs.length ≤ 1000) (q : Q .none (σ.set a (.list (Vs ++ [W])))) : WpCall cx k (.raw (.builtin "list.append")) [.raw (.ref a), W] σ Q := fun A I s fv vs R S hf hargs => by
  cases un_raw hf
  obtain ⟨v, u, rfl, hv, hu⟩ := two_args hargs
  cases un_raw hv
  obtain ⟨o, ho, xs, n, rfl, r⟩ := S.cell a _ ha
  have el := r.length
  refine PyProof.Rows.append_at ho (fun h' hs' ho' => ?_) (by rw [List.size_toArray, sizeLine_eq]; omega)
  have hc : CR cx.w.params I { cls := .type "list", data := .seq ((List.toArray xs).push u) (n + 1) } (.list (Vs ++ [W])) := ⟨xs ++ [u], n + 1, by simp, r.append ⟨hu, trivial⟩⟩
  exact ⟨I, _, .none, Tr.upd ha hs' ho' Own0, S.upd ha hs' ho' hc, vr_none, q⟩
theorem c_extend {a : Addr} {Vs Ws : List Val} (ha : σ a = some (.list Vs)) (hz : Vs.length + Ws.length ≤ 1000) (q : Q .none (σ.set a (.list (Vs ++ Ws)))) : WpCall cx k (.raw (.builtin "list.extend")) [.raw (.ref a), .lst Ws] σ Q := fun A I s fv vs R S hf hargs => by
  cases un_raw hf
  obtain ⟨v, u, rfl, hv, hu⟩ := two_args hargs
  cases un_raw hv
  obtain ⟨o, ho, xs, n, rfl, r⟩ := S.cell a _ ha
  obtain ⟨b, ys, n', rfl, hb, r'⟩ := un_lst hu
  have el := r.length
  have el' := r'.length
  obtain ⟨t, S'⟩ := seq_upd S ha ho (f := fun x => x ++ List.toArray ys) (vs' := xs ++ ys) (by simp) (r.append r')
  refine call_meets PySem.F.slot_list_extend ⟨_, ho, rfl⟩ PySem.F.entry_list_extend (PySem.F.args_list_extend_2 _ _) (PySem.AutoSeq1.list_extend_list_list_0 a _ n b _ n' ?_ ?_ ?_) ⟨ho, S.sub _ _ hb, ?_⟩
  · simp only [List.size_toArray, Builtin.List.listTooLong]
    simp [sizeLine]
    omega
  · rw [List.size_toArray, sizeLine_eq]; omega
  · rw [List.size_toArray, List.size_toArray, sizeLine_eq]; omega
  · exact ⟨I, _, .none, t, S', vr_none, q⟩
theorem c_pop0 {a : Addr} {V : Val} {Vs : List Val} (ha : σ a = some (.list (V :: Vs))) (hz : Vs.length ≤ 1000) (q : Q V (σ.set a (.list Vs))) : WpCall cx k (.raw (.builtin "list.pop")) [.raw (.ref a), .int 0] σ Q := fun A I s fv vs R S hf hargs => by
  cases un_raw hf
  obtain ⟨v, u, rfl, hv, hu⟩ := two_args hargs
  cases un_raw hv
  obtain ⟨t, rfl⟩ := un_int hu
  obtain ⟨o, ho, xs, n, rfl, r⟩ := S.cell a _ ha
  match xs, r with
  | x :: xs, ⟨h1, r⟩ =>
    have el := r.length
    obtain ⟨tt, S'⟩ := seq_upd S ha ho (f := fun x => x.eraseIdxIfInBounds 0) (vs' := xs) (by simp) r
    refine call_meets PySem.F.slot_list_pop ⟨_, ho, rfl⟩ PySem.F.entry_list_pop (PySem.F.args_list_pop_2 _ _) (PySem.MeetsSeq.list_pop_at a _ n 0 t 0 x (by decide) ?_ (by simp) (by rw [List.size_toArray, sizeLine_eq, List.length_cons]; omega)) ⟨ho, ?_⟩
    · unfold seqIndex?
      simp
    · exact ⟨I, _, V, tt, S', h1, q⟩
theorem meth_bytes {b : Array UInt8} {Q : Val → List Val → Sto → Prop} (q : Q (.raw (.builtin "bytes.find")) [.bytes b] σ) : WpMeth cx k "find" (.bytes b) σ Q := fun A I s v pl R S hv => by
  obtain ⟨t, rfl⟩ := un_bytes hv
  exact getMethod_builtin (typeIs_bytes s b t) FB.plainAttrs_bytes slot_bytes_find type_bytes_find (fun b e => by cases e) ⟨I, σ, .raw (.builtin "bytes.find"), [.bytes b], Tr.refl .., S, vr_raw, ⟨vr_bytes, trivial⟩, q⟩
theorem c_find {b : Array UInt8} {i : Int} (h0 : 0 ≤ i) (h1 : i < 256) (hb : 1 ≤ b.size) (q : Q (.int (findAt b i)) σ) : WpCall cx k (.raw (.builtin "bytes.find")) [.bytes b, .int i] σ Q := fun A I s fv vs R S hf hargs => by
  cases un_raw hf
  obtain ⟨v, u, rfl, hv, hu⟩ := two_args hargs
  obtain ⟨t, rfl⟩ := un_bytes hv
  obtain ⟨t', rfl⟩ := un_int hu
  exact call_gives slot_bytes_find (typeIs_bytes s b t) entry_bytes_find (args_bytes_find_2 _ _) (gives_bytes_find b t t' i h0 h1 hb) (Post.tok S vr_int q _)
end

section
variable {cx : Cx} {k : Nat} {m : Loc} {σ : Sto} {Q : Val → Sto → Prop}
inductive PostP (cx : Cx) (I : Im) (σ : Sto) (s : Shared) (Q : Option Int → Sto → Prop) (v : Value) (s' : Shared) : Prop
  | mk (I' : Im) (σ' : Sto) (i : Option Int) (t : Tr Own0 I σ s I' σ' s') (st : St cx I' σ' s') (r : IsPart v i) (q : Q i σ')
noncomputable def WpPart (cx : Cx) (k : Nat) (m : Loc) (σ : Sto) (e : Option Expr) (Q : Option Int → Sto → Prop) : Prop :=
  ∀ A env I s, Room A k → St cx I σ s → FrR cx I σ m env s → wpAny (Md cx) A (evalPart e env) (PostP cx I σ s Q) Bot s
theorem part_none {Q : Option Int → Sto → Prop} (q : Q none σ) : WpPart cx k m σ none Q := fun A env I s R S F => wpAny_evalPart_none ⟨I, σ, none, Tr.refl .., S, .none, q⟩
theorem part_some {e : Expr} {Q : Option Int → Sto → Prop} (h : WpE cx k m σ e fun V σ' => ∃ i, V = .int i ∧ Q (some i) σ') : WpPart cx k m σ (some e) Q := fun A env I s R S F =>
  wpAny_evalPart_some (wv (h A env I s R S F) fun v s' I' σ' V t S' vr ⟨i, e, q⟩ => by
    subst e
    obtain ⟨u, rfl⟩ := un_int vr
    exact ⟨I', σ', some i, t, S', .int i u, q⟩)
theorem wpe_slice {value : Expr} {lower upper : Option Expr} {p pos : Pos}
    (h : WpE cx k m σ value fun V σ₁ => ∃ Vs, V = .lst Vs ∧ Vs.length ≤ 1000 ∧ WpPart cx k m σ₁ lower fun lo σ₂ => WpPart cx k m σ₂ upper fun hi σ₃ =>
      ∃ Ws, (∀ (I : Im) (vs : List Value), VRs cx.w.params I vs Vs → VRs cx.w.params I (slicePick (List.toArray vs) lo hi none).toList Ws) ∧ Q (.lst Ws) σ₃)
    (hs : ∀ o a, subscripted (.Slice lower upper none p) false o (.ref a) = operate [.ref a, o] (getItem o (.ref a)) := by intro _ _; rfl) : WpE cx k m σ (.Subscript value (.Slice lower upper none p) pos) Q := fun A env I s R S F => by
  refine Subscript_ (wv (h A env I s R S F) fun v s₁ I₁ σ₁ V t₁ S₁ v₁ ⟨Vs, eV, hl, q₁⟩ => wpAny_Slice (wfrom (q₁ A env I₁ s₁ R S₁ (F.step0 t₁)) fun a s₂ ⟨I₂, σ₂, lo, t₂, S₂, pl, q₂⟩ =>
    wfrom (q₂ A env I₂ s₂ R S₂ ((F.step0 t₁).step0 t₂)) fun b s₃ ⟨I₃, σ₃, hi, t₃, S₃, ph, Ws, hW, q₃⟩ => ?_))
  rw [evalPart_none]
  refine wpAny_pure ?_
  subst eV
  obtain ⟨l, vs, n, rfl, ha, r⟩ := un_lst (v₁.mono (t₂.le.trans t₃.le))
  have rl := r.length
  have hlst : s₃.heap.IsList l (List.toArray vs) := ⟨_, S₃.sub _ _ ha, rfl, n, rfl⟩
  have S₄ := S₃.pushH { cls := .type "slice", data := .fields #[a, b, .none] }
  have S₅ := S₄.pushI (listOf (List.toArray (slicePick (List.toArray vs) lo hi none).toList) 0)
  have T₅ := Tr.pushI S₄ (listOf (List.toArray (slicePick (List.toArray vs) lo hi none).toList) 0) Own0
  dsimp only at S₅ T₅
  rw [show List.toArray (slicePick (List.toArray vs) lo hi none).toList = slicePick (List.toArray vs) lo hi none by simp] at S₅ T₅
  refine tail_any (Heap.IsList.typeIs (s := { s₃ with heap := s₃.heap.push { cls := .type "slice", data := .fields #[a, b, .none] } }) (hlst.push _)) list_getitem_lookup
    (wpAny_getItem_list_slice (hlst.push _) (Heap.IsSliceOf.new ..) pl ph .none (by simp) ?_ (by rw [List.size_toArray, sizeLine_eq]; omega)) (hs _ _)
  refine ⟨_, σ₃, .lst Ws, (t₁.trans (t₂.trans t₃)).trans ((Tr.pushH _ _).trans T₅), S₅, ?_, q₃⟩
  refine vr_lst (vs := (slicePick (List.toArray vs) lo hi none).toList) (n := 0) ?_ ((hW I₃ vs r).mono T₅.le)
  rw [Im.put_self]
theorem pick_upto {P : Params} {I : Im} {Vs : List Val} {i : Int} (h0 : 0 ≤ i) {vs : List Value} (h : VRs P I vs Vs) : VRs P I (slicePick (List.toArray vs) none (some i) none).toList (Vs.take i.toNat) := by
  have e : i = (i.toNat : Int) := by omega
  have key := slicePick_upto' (List.toArray vs) i.toNat
  rw [← e] at key
  rw [key]
  simpa using h.take i.toNat
theorem pick_all {P : Params} {I : Im} {Vs : List Val} {vs : List Value} (h : VRs P I vs Vs) : VRs P I (slicePick (List.toArray vs) (some 0) (some (Vs.length : Int)) none).toList Vs := by
  have := slicePick_run (List.toArray vs) 0 Vs.length (by rw [List.size_toArray, h.length]; exact Nat.le_refl _) (Nat.zero_le _)
  have e : ((0 : Nat) : Int) = 0 := rfl
  rw [e] at this
  rw [this]
  have hl := h.length
  simp only [List.drop_zero, Nat.sub_zero]
  rw [← hl]
  simpa using h

@[reducible] noncomputable def kG3 (cx : Cx) (k : Nat) (U : Val) (o : CmpOp) (Q : Val → Sto → Prop) : Val → Sto → Prop := fun W σ => Wp2 cx k (compareOp o) U W σ Q
@[reducible] noncomputable def kG2 (cx : Cx) (k : Nat) (m : Loc) (U : Val) (r : Expr) (o : CmpOp) (Q : Val → Sto → Prop) : Val → Sto → Prop := fun W σ => ∃ b, W = .bool b ∧ if b then WpE cx k m σ r (kG3 cx k U o Q) else Q (.bool false) σ
@[reducible] noncomputable def kG1 (cx : Cx) (k : Nat) (m : Loc) (V : Val) (r : Expr) (o o' : CmpOp) (Q : Val → Sto → Prop) : Val → Sto → Prop := fun U σ => Wp2 cx k (compareOp o) V U σ (kG2 cx k m U r o' Q)
@[reducible] noncomputable def kG0 (cx : Cx) (k : Nat) (m : Loc) (r r' : Expr) (o o' : CmpOp) (Q : Val → Sto → Prop) : Val → Sto → Prop := fun V σ => WpE cx k m σ r (kG1 cx k m V r' o o' Q)
theorem wpe_chain {l r₁ r₂ : Expr} {o₁ o₂ : CmpOp} {pos : Pos}
    (h : WpE cx k m σ l (kG0 cx k m r₁ r₂ o₁ o₂ Q))
    (hm : lastMarks [o₁, o₂] [r₁, r₂] = false := by rfl) :
    WpE cx k m σ (.Compare l [o₁, o₂] [r₁, r₂] pos) Q := fun A env I s R S F => by
  refine Compare_chain (wv (h A env I s R S F) fun v s₁ I₁ σ₁ V t₁ S₁ v₁ q₁ => ?_) hm
  show wpAny _ _ (do
    let rv ← holding [v] (eval r₁ env)
    standAt pos
    let c ← holding [v, rv] (compareOp o₁ v rv)
    release [v, rv] [c]
    if ← holding [c, rv] (truthy c) then compareChain pos rv [o₂] [eval r₂ env] else pure c) _ _ _
  refine wpAny_bind (wpAny_holding (wv (q₁ A env I₁ s₁ R S₁ (F.step0 t₁)) fun u s₂ I₂ σ₂ U t₂ S₂ v₂ q₂ => wpAny_bind (wpAny_standAt (wpAny_bind (wpAny_holding
    (wv (q₂ A I₂ s₂ v u R S₂ (v₁.mono t₂.le) v₂) fun c s₃ I₃ σ₃ W t₃ S₃ v₃ ⟨b, e, q₃⟩ => wpAny_bind ?_))))))
  subst e; cases un_bool v₃
  refine wrel ?_
  refine wpAny_bind (wpAny_holding (wpAny_truthy_bool ?_))
  cases b with
  | false => exact wpAny_pure ⟨I₃, σ₃, .bool false, t₁.trans (t₂.trans t₃), S₃, vr_bool, q₃⟩
  | true =>
    have F₃ := ((F.step0 t₁).step0 t₂).step0 t₃
    show wpAny _ _ (do
      let rv ← holding [u] (eval r₂ env)
      standAt pos
      operate [u, rv] (compareOp o₂ u rv)) _ _ _
    refine wpAny_bind (wpAny_holding (wv (q₃ A env I₃ s₃ R S₃ F₃) fun x s₄ I₄ σ₄ T t₄ S₄ v₄ q₄ => wpAny_bind (wpAny_standAt (wpAny_operating
      (wfrom (q₄ A I₄ s₄ u x R S₄ (v₂.mono (t₃.le.trans t₄.le)) v₄) fun c s₅ p => p.from (t₁.trans (t₂.trans (t₃.trans t₄))))))))

inductive PostD (cx : Cx) (I : Im) (σ : Sto) (s : Shared) (Q : List (Val × Val) → Sto → Prop) (ps : List (Value × Value)) (s' : Shared) : Prop
  | mk (I' : Im) (σ' : Sto) (Ps : List (Val × Val)) (t : Tr Own0 I σ s I' σ' s') (st : St cx I' σ' s') (r1 : VRs cx.w.params I' (ps.map (·.1)) (Ps.map (·.1))) (r2 : VRs cx.w.params I' (ps.map (·.2)) (Ps.map (·.2))) (q : Q Ps σ')
noncomputable def WpPs (cx : Cx) (k : Nat) (m : Loc) (σ : Sto) (keys : List (Option Expr)) (values : List Expr) (Q : List (Val × Val) → Sto → Prop) : Prop :=
  ∀ A env I s pos, Room A k → St cx I σ s → FrR cx I σ m env s → wpAny (Md cx) A (evalPairs (pairTrees keys values env pos)) (PostD cx I σ s Q) Bot s
theorem ps_nil {Q : List (Val × Val) → Sto → Prop} (q : Q [] σ) : WpPs cx k m σ [] [] Q := fun A env I s pos R S F => wpAny_pure ⟨I, σ, [], Tr.refl .., S, trivial, trivial, q⟩
theorem ps_cons {ke ve : Expr} {keys : List (Option Expr)} {values : List Expr} {Q : List (Val × Val) → Sto → Prop} (h : WpE cx k m σ ke fun K σ₁ => WpE cx k m σ₁ ve fun V σ₂ => WpPs cx k m σ₂ keys values fun Ps σ₃ => Q ((K, V) :: Ps) σ₃) :
    WpPs cx k m σ (some ke :: keys) (ve :: values) Q := fun A env I s pos R S F => by
  show wpAny _ _ (do
    let kv ← eval ke env
    let vv ← holding [kv] (do let x ← eval ve env; standAt pos; pure x)
    return (kv, vv) :: (← holding [kv, vv] (evalPairs (pairTrees keys values env pos)))) _ _ _
  refine wpAny_bind (wv (h A env I s R S F) fun kv s₁ I₁ σ₁ K t₁ S₁ v₁ q₁ => ?_)
  refine wpAny_bind (wpAny_holding (wpAny_bind (wv (q₁ A env I₁ s₁ R S₁ (F.step0 t₁)) fun vv s₂ I₂ σ₂ V t₂ S₂ v₂ q₂ => wpAny_bind (wpAny_standAt (wpAny_pure ?_)))))
  refine wpAny_bind (wpAny_holding (wfrom (q₂ A env I₂ s₂ pos R S₂ ((F.step0 t₁).step0 t₂)) fun ps s₃ ⟨I₃, σ₃, Ps, t₃, S₃, a, b, q₃⟩ => wpAny_pure ?_))
  exact ⟨I₃, σ₃, (K, V) :: Ps, t₁.trans (t₂.trans t₃), S₃, ⟨v₁.mono (t₂.le.trans t₃.le), a⟩, ⟨v₂.mono t₃.le, b⟩, q₃⟩
theorem merged_nodup {K : Type} [DecidableEq K] : ∀ {more kvs : List (K × Value)}, ((kvs ++ more).map (·.1)).Nodup → merged kvs more = kvs ++ more
  | [], kvs, _ => by simp [merged]
  | p :: more, kvs, nd => by
    have st : stored kvs p.1 p.2 = kvs ++ [p] := by
      unfold stored
      rw [if_neg]
      intro h
      obtain ⟨q, hq, e⟩ := List.any_eq_true.mp h
      have e : q.1 = p.1 := by simpa using e
      rw [List.map_append, List.nodup_append] at nd
      exact nd.2.2 q.1 (List.mem_map.mpr ⟨q, hq, rfl⟩) p.1 (List.mem_map.mpr ⟨p, .head _, rfl⟩) e
    have : merged kvs (p :: more) = merged (stored kvs p.1 p.2) more := rfl
    rw [this, st, merged_nodup (by rw [List.append_assoc]; exact nd)]
    simp
theorem int_keys {P : Params} {I : Im} {prog : Program} {w : World} : ∀ {ps : List (Value × Value)} {ks : List Int}, VRs P I (ps.map (·.1)) (ks.map Val.int) → Carries (intKind prog w) ps (ks.zip (ps.map (·.2)))
  | [], [], _ => trivial
  | (a, b) :: ps, x :: ks, ⟨h, r⟩ => by
    obtain ⟨t, e⟩ := un_int h
    dsimp only at e
    subst e
    exact ⟨intKind_is prog w x t, rfl, int_keys r⟩
theorem str_keys {P : Params} {I : Im} {prog : Program} {w : World} : ∀ {ps : List (Value × Value)} {ks : List Str}, VRs P I (ps.map (·.1)) (ks.map Val.str) → Carries (strKind prog w) ps (ks.zip (ps.map (·.2)))
  | [], [], _ => trivial
  | (a, b) :: ps, x :: ks, ⟨h, r⟩ => by
    obtain ⟨t, e⟩ := un_str h
    dsimp only at e
    subst e
    exact ⟨strKind_is prog w x t, rfl, str_keys r⟩
/-- what a fresh dict becomes -/
theorem dict_fill {I₀ I : Im} {σ₀ : Sto} {s₀ s : Shared} (T : Tr Own0 I₀ σ₀ s₀ I σ s) (S : St cx I σ s) {d : Addr} (hn : s₀.heap.get? d = none) (hI : I d = none) (hσ : σ d = none) {h' : Heap} (hs : Heap.SameBut d s.heap h') {o : Obj} (ho : h'.get? d = some o) {c : Cell} (hc : CR cx.w.params I o c) (tk : Nat) :
    Tr Own0 I₀ σ₀ s₀ I (σ.set d c) { s with heap := h', toks := tk } ∧ St cx I (σ.set d c) { s with heap := h', toks := tk } := by
  refine ⟨⟨fun b p hx h0 hb => ?_, T.le, T.newI, fun b hb => ?_, fun b hb => ?_⟩, fun b p hb => ?_, S.base, fun b e hb => ?_, fun b e hb => ?_, S.gens, S.os⟩
  · exact (hs.2 b fun e => by subst e; rw [hn] at hb; cases hb).trans (T.keep b p hx h0 hb)
  · by_cases e : b = d
    · subst e; exact .inr hn
    · rw [Sto.set_ne _ _ e] at hb; exact T.newσ b hb
  · by_cases e : b = d
    · subst e; exact hn
    · exact T.live b ((hs.2 b e).symm.trans hb)
  · exact (hs.2 b fun e => by subst e; rw [hI] at hb; cases hb).trans (S.sub b p hb)
  · by_cases z : b = d
    · subst z; rw [Sto.set_self] at hb; cases hb; exact ⟨o, ho, hc⟩
    · rw [Sto.set_ne _ _ z] at hb
      obtain ⟨p, hp, r⟩ := S.cell b e hb
      exact ⟨p, (hs.2 b z).trans hp, r⟩
  · by_cases z : b = d
    · subst z; exact hI
    · rw [Sto.set_ne _ _ z] at hb; exact S.apart b e hb
theorem wpe_dict_int {keys : List (Option Expr)} {values : List Expr} {pos : Pos}
    (h : WpPs cx k m σ keys values fun Ps σ₁ => ∃ ks : List Int, Ps.map (·.1) = ks.map Val.int ∧ ks.Nodup ∧ ∀ a, σ₁ a = none → (a == sysModules) = false → Q (.raw (.ref a)) (σ₁.set a (.nd ks (Ps.map (·.2)))))
    (hall : keys.all (·.isSome) = true := by rfl) (hl : keys.length = values.length := by rfl) (h0 : keys ≠ [] := by simp) (hlen : keys.length ≤ 15 := by decide) : WpE cx k m σ (.Dict keys values pos) Q := fun A env I s R S F => by
  have d1 : s.heap.get? s.heap.objs.size = none := get_size _
  refine wpAny_Dict_walk (knd := intKind cx.prog cx.w) hall hl h0 hlen ?_
  refine wfrom (h A env I _ pos R (S.pushH _) (F.step0 (Tr.pushH _ _))) fun ps s₁ ⟨I₁, σ₁, Ps, t₁, S₁, v₁, v₂, ks, ek, nd, q⟩ => ?_
  rw [ek] at v₁
  have hI : I₁ s.heap.objs.size = none := (tr_off (Y := (· = s.heap.objs.size)) t₁ (fun b e => e ▸ ⟨S.freshI, S.freshS⟩) (fun b e => e ▸ ⟨_, Heap.get?_push_size _ rfl⟩) _ rfl).1
  have hσ : σ₁ s.heap.objs.size = none := (tr_off (Y := (· = s.heap.objs.size)) t₁ (fun b e => e ▸ ⟨S.freshI, S.freshS⟩) (fun b e => e ▸ ⟨_, Heap.get?_push_size _ rfl⟩) _ rfl).2
  have hk := t₁.keep s.heap.objs.size _ (fun h => h.elim) S.freshS (Heap.get?_push_size _ rfl)
  have kl : ks.length = (ps.map (·.2)).length := by
    have a := v₁.length
    simp only [List.length_map] at a ⊢
    exact a.symm
  refine ⟨ks.zip (ps.map (·.2)), int_keys v₁, ⟨_, #[], 0, hk, ⟨rfl, rfl, rfl⟩, rfl, (fun _ he => by simp at he), Pairs.nil, List.nodup_nil⟩, fun h' hd hs => ?_⟩
  rw [merged_nodup (by simpa [zip_fst kl.symm] using nd)] at hd
  obtain ⟨o, es, ep, ho, ex, hdat, hk', hp, _⟩ := hd
  have eo := exact_dict ex hdat
  subst eo
  obtain ⟨ka, ev⟩ := KI.of hp fun e he => hk' e (by simpa using he)
  rw [List.nil_append, zip_fst kl.symm] at ka
  have e2 : (ks.zip (ps.map (·.2))).map (·.2) = ps.map (·.2) := by
    rw [List.map_snd_zip]; omega
  rw [List.nil_append, e2] at ev
  have hc : CR cx.w.params I₁ (dictOf es.toList ep) (.nd ks (Ps.map (·.2))) := ⟨_, _, rfl, ka, by rw [ev]; exact v₂⟩
  obtain ⟨T', S'⟩ := dict_fill ((Tr.pushH _ _).trans t₁) S₁ d1 hI hσ hs ho hc (s₁.toks + ps.length)
  refine ⟨I₁, _, _, T', S', vr_raw, q _ hσ ?_⟩
  have := modules_low S.nolim
  exact beq_eq_false_iff_ne.mpr (Nat.ne_of_gt this)
theorem wpe_dict_str {keys : List (Option Expr)} {values : List Expr} {pos : Pos}
    (h : WpPs cx k m σ keys values fun Ps σ₁ => ∃ ks : List Str, Ps.map (·.1) = ks.map Val.str ∧ ks.Nodup ∧ ∀ a, σ₁ a = none → Q (.raw (.ref a)) (σ₁.set a (.dict ks (Ps.map (·.2)))))
    (hall : keys.all (·.isSome) = true := by rfl) (hl : keys.length = values.length := by rfl) (h0 : keys ≠ [] := by simp) (hlen : keys.length ≤ 15 := by decide) : WpE cx k m σ (.Dict keys values pos) Q := fun A env I s R S F => by
  have d1 : s.heap.get? s.heap.objs.size = none := get_size _
  refine wpAny_Dict_walk (knd := strKind cx.prog cx.w) hall hl h0 hlen ?_
  refine wfrom (h A env I _ pos R (S.pushH _) (F.step0 (Tr.pushH _ _))) fun ps s₁ ⟨I₁, σ₁, Ps, t₁, S₁, v₁, v₂, ks, ek, nd, q⟩ => ?_
  rw [ek] at v₁
  have hI : I₁ s.heap.objs.size = none := (tr_off (Y := (· = s.heap.objs.size)) t₁ (fun b e => e ▸ ⟨S.freshI, S.freshS⟩) (fun b e => e ▸ ⟨_, Heap.get?_push_size _ rfl⟩) _ rfl).1
  have hσ : σ₁ s.heap.objs.size = none := (tr_off (Y := (· = s.heap.objs.size)) t₁ (fun b e => e ▸ ⟨S.freshI, S.freshS⟩) (fun b e => e ▸ ⟨_, Heap.get?_push_size _ rfl⟩) _ rfl).2
  have hk := t₁.keep s.heap.objs.size _ (fun h => h.elim) S.freshS (Heap.get?_push_size _ rfl)
  have kl : ks.length = (ps.map (·.2)).length := by
    have a := v₁.length
    simp only [List.length_map] at a ⊢
    exact a.symm
  refine ⟨ks.zip (ps.map (·.2)), str_keys v₁, ⟨_, #[], 0, hk, ⟨rfl, rfl, rfl⟩, rfl, (fun _ he => by simp at he), Pairs.nil, List.nodup_nil⟩, fun h' hd hs => ?_⟩
  rw [merged_nodup (by simpa [zip_fst kl.symm] using nd)] at hd
  obtain ⟨o, es, ep, ho, ex, hdat, hk', hp, _⟩ := hd
  have eo := exact_dict ex hdat
  subst eo
  obtain ⟨ka, ev⟩ := KA.of hp fun e he => hk' e (by simpa using he)
  rw [List.nil_append, zip_fst kl.symm] at ka
  have e2 : (ks.zip (ps.map (·.2))).map (·.2) = ps.map (·.2) := by
    rw [List.map_snd_zip]; omega
  rw [List.nil_append, e2] at ev
  have hc : CR cx.w.params I₁ (dictOf es.toList ep) (.dict ks (Ps.map (·.2))) := ⟨_, _, rfl, ka, by rw [ev]; exact v₂⟩
  obtain ⟨T', S'⟩ := dict_fill ((Tr.pushH _ _).trans t₁) S₁ d1 hI hσ hs ho hc (s₁.toks + ps.length)
  exact ⟨I₁, _, _, T', S', vr_raw, q _ hσ⟩

theorem meth_get {a : Addr} {ks : List Int} {Vs : List Val} {Q : Val → List Val → Sto → Prop} (ha : σ a = some (.nd ks Vs)) (q : Q (.raw (.builtin "dict.get")) [.raw (.ref a)] σ) : WpMeth cx k "get" (.raw (.ref a)) σ Q := fun A I s v pl R S hv => by
  cases un_raw hv
  obtain ⟨o, ho, es, n, rfl, kk, r⟩ := S.cell a _ ha
  exact getMethod_builtin (T := "dict") ⟨_, ho, rfl⟩ PySem.F.plainAttrs_dict PySem.F.slot_dict_get PySem.F.type_dict_get (fun b e => by cases e; exact ⟨_, ho, rfl⟩) ⟨I, σ, .raw (.builtin "dict.get"), [.raw (.ref a)], Tr.refl .., S, vr_raw, ⟨vr_raw, trivial⟩, q⟩
theorem c_get {a : Addr} {ks : List Int} {Vs : List Val} {x : Int} {W : Val} (ha : σ a = some (.nd ks Vs)) (hs : (a == sysModules) = false) (nd : ks.Nodup) (hl : ks.length = Vs.length) (q : Q ((lookV ks Vs x).getD W) σ) : WpCall cx k (.raw (.builtin "dict.get")) [.raw (.ref a), .int x, W] σ Q := fun A I s fv vs R S hf hargs => by
  cases un_raw hf
  obtain ⟨v, vs, rfl, hv, hargs⟩ := hargs.cons_inv
  obtain ⟨u, w, rfl, hu, hw⟩ := two_args hargs
  · skip
    cases un_raw hv
    obtain ⟨t, rfl⟩ := un_int hu
    obtain ⟨o, ho, es, n, rfl, kk, r⟩ := S.cell a _ ha
    have hd := KI.dictOf (prog := cx.prog) (w := cx.w) ho kk nd
    refine call_meetsIn F.slot_dict_get hd.typeIs F.entry_dict_get (F.args_dict_get_3 _ _ _) (meets_dict_get_default (intKind cx.prog cx.w) a (intKind_is _ _ x t) hs w) ⟨_, hd.mapOf, ?_⟩
    cases e : lookV ks Vs x with
    | none =>
      rw [valueAt_none r hl e]
      rw [e] at q
      exact Post.tok S hw q _
    | some V =>
      obtain ⟨z, hz, vz⟩ := valueAt_zip r e
      rw [hz]
      rw [e] at q
      exact Post.tok S vz q _

@[reducible] noncomputable def kSe3 (cx : Cx) (k : Nat) (m : Loc) (V O : Val) (Q : Fl → Loc → Sto → Prop) : Val → Sto → Prop := fun U σ => WpSet cx k O U V σ fun σ₄ => Q .next m σ₄
@[reducible] noncomputable def kSe2 (cx : Cx) (k : Nat) (m : Loc) (i : Expr) (V : Val) (Q : Fl → Loc → Sto → Prop) : Val → Sto → Prop := fun O σ => WpE cx k m σ i (kSe3 cx k m V O Q)
@[reducible] noncomputable def kSe1 (cx : Cx) (k : Nat) (m : Loc) (o i : Expr) (Q : Fl → Loc → Sto → Prop) : Val → Sto → Prop := fun V σ => WpE cx k m σ o (kSe2 cx k m i V Q)
theorem wps_set {o i value : Expr} {pos pos' : Pos} {Q : Fl → Loc → Sto → Prop}
    (h : WpE cx k m σ value (kSe1 cx k m o i Q))
    (hs : ∀ env, swapsWith value (some (.Subscript o i pos')) pos.line env = pure false := by intro env; rfl) :
    WpS cx k m σ (.Assign [.Subscript o i pos'] value pos) Q := fun A env I s R S F =>
  wpAny_Assign_Subscript (wv (h A env I s R S F) fun v s₁ I₁ σ₁ V t₁ S₁ v₁ q₁ => wv (q₁ A env I₁ s₁ R S₁ (F.step0 t₁)) fun ov s₂ I₂ σ₂ O t₂ S₂ v₂ q₂ =>
    wv (q₂ A env I₂ s₂ R S₂ ((F.step0 t₁).step0 t₂)) fun iv s₃ I₃ σ₃ U t₃ S₃ v₃ q₃ => wfrom (q₃ A I₃ s₃ ov iv v R S₃ (v₂.mono t₃.le) v₃ (v₁.mono (t₂.le.trans t₃.le))) fun _ s₄ ⟨I₄, σ₄, t₄, S₄, q₄⟩ =>
      ⟨I₄, σ₄, .next, m, (t₁.trans (t₂.trans (t₃.trans t₄))).of0, S₄, trivial, (((F.step0 t₁).step0 t₂).step0 t₃).step0 t₄, rfl, q₄⟩) (hs env)
noncomputable def WpSetA (cx : Cx) (k : Nat) (name : Str) (O V : Val) (σ : Sto) (Q : Sto → Prop) : Prop :=
  ∀ A I s o v, Room A k → St cx I σ s → VR cx.w.params I o O → VR cx.w.params I v V → wpAny (Md cx) A (setAttr o name v) (fun _ s' => PostU cx I σ s Q s') Bot s
@[reducible] noncomputable def kSa2 (cx : Cx) (k : Nat) (m : Loc) (attr : Str) (V : Val) (Q : Fl → Loc → Sto → Prop) : Val → Sto → Prop := fun O σ => WpSetA cx k attr O V σ fun σ₃ => Q .next m σ₃
@[reducible] noncomputable def kSa1 (cx : Cx) (k : Nat) (m : Loc) (o : Expr) (attr : Str) (Q : Fl → Loc → Sto → Prop) : Val → Sto → Prop := fun V σ => WpE cx k m σ o (kSa2 cx k m attr V Q)
theorem wps_setA {o value : Expr} {attr : Str} {pos pos' : Pos} {Q : Fl → Loc → Sto → Prop}
    (h : WpE cx k m σ value (kSa1 cx k m o attr Q))
    (hs : ∀ env, swapsWith value (some (.Attribute o attr pos')) pos.line env = pure false := by intro env; rfl) :
    WpS cx k m σ (.Assign [.Attribute o attr pos'] value pos) Q := fun A env I s R S F =>
  plainObj_wpAny_Assign_Attribute (wv (h A env I s R S F) fun v s₁ I₁ σ₁ V t₁ S₁ v₁ q₁ => wv (q₁ A env I₁ s₁ R S₁ (F.step0 t₁)) fun ov s₂ I₂ σ₂ O t₂ S₂ v₂ q₂ =>
    wfrom (q₂ A I₂ s₂ ov v R S₂ v₂ (v₁.mono t₂.le)) fun _ s₃ ⟨I₃, σ₃, t₃, S₃, q₃⟩ => ⟨I₃, σ₃, .next, m, (t₁.trans (t₂.trans t₃)).of0, S₃, trivial, ((F.step0 t₁).step0 t₂).step0 t₃, rfl, q₃⟩) (hs env)
end
section
open Builtin Builtin.ObjectAttr

/-- a class of the text, plain in all ways -/
structure Cls (cx : Cx) (C : Addr) : Prop where
  dict : hasDictIn cx.K C = true
  ga : findIn cx.K (.ref C) "__getattribute__" = some (some (.builtin "object.__getattribute__"))
  gn : findIn cx.K (.ref C) "__getattr__" = some none
  sa : findIn cx.K (.ref C) "__setattr__" = some (some (.builtin "object.__setattr__"))
  over : plainOver cx.K C = true
/-- name x is that of instances alone -/
noncomputable def OwnName (cx : Cx) (C : Addr) (x : Str) : Prop := findIn cx.K (.ref C) x = some none

inductive LookA : List Str → List Val → Str → Val → Prop
  | here {x : Str} {V : Val} {ns : List Str} {Vs : List Val} : LookA (x :: ns) (V :: Vs) x V
  | there {y x : Str} {V W : Val} {ns : List Str} {Vs : List Val} : (y == x) = false → LookA ns Vs x V → LookA (y :: ns) (W :: Vs) x V
inductive NotA : List Str → Str → Prop
  | nil {x : Str} : NotA [] x
  | cons {y x : Str} {ns : List Str} : (y == x) = false → NotA ns x → NotA (y :: ns) x
inductive SetA : List Str → List Val → Str → Val → List Str → List Val → Prop
  | here {x : Str} {V W : Val} {ns : List Str} {Vs : List Val} : SetA (x :: ns) (V :: Vs) x W (x :: ns) (W :: Vs)
  | there {y x : Str} {V W : Val} {ns ns' : List Str} {Vs Vs' : List Val} : (y == x) = false → SetA ns Vs x W ns' Vs' → SetA (y :: ns) (V :: Vs) x W (y :: ns') (V :: Vs')
  | new {x : Str} {W : Val} : SetA [] [] x W [x] [W]

theorem KA.plain {P : Params} {es : List DictEntry} {ns : List Str} (h : KA P es ns) : es.any (·.refKey) = false := by
  induction ns generalizing es with
  | nil => rw [h.nil_inv]; rfl
  | cons x xs ih =>
    obtain ⟨e, r, rfl, ⟨t, h1⟩, _, h3⟩ := h.cons_inv
    rw [List.any_cons, ih h3]
    simp [DictEntry.refKey, h1]
theorem look_find {P : Params} {I : Im} {ns : List Str} {Vs : List Val} {x : Str} {V : Val} (h : LookA ns Vs x V) {es : List DictEntry} (k : KA P es ns) (r : VRs P I (es.map (·.val)) Vs) : ∃ e, es.find? (·.key.isStr x) = some e ∧ VR P I e.val V := by
  induction h generalizing es with
  | here =>
    obtain ⟨e, es, rfl, ⟨t, h1⟩, _, _⟩ := k.cons_inv
    exact ⟨e, by simp [h1, Value.isStr], r.1⟩
  | there hne _ ih =>
    obtain ⟨e, es, rfl, ⟨t, h1⟩, _, k⟩ := k.cons_inv
    obtain ⟨e', a, b⟩ := ih k r.2
    exact ⟨e', by rw [List.find?_cons, h1]; simp only [Value.isStr, hne]; exact a, b⟩
theorem look_getL {P : Params} {I : Im} {ns : List Str} {Vs : List Val} {x : Str} {V : Val} (h : LookA ns Vs x V) {es : List DictEntry} (k : KA P es ns) (r : VRs P I (es.map (·.val)) Vs) : ∃ v, getL x es = some (some v) ∧ VR P I v V := by
  obtain ⟨e, a, b⟩ := look_find h k r
  exact ⟨e.val, by unfold getL; rw [a], b⟩
theorem not_find {P : Params} {ns : List Str} {x : Str} (h : NotA ns x) {es : List DictEntry} (k : KA P es ns) : es.find? (·.key.isStr x) = none := by
  induction h generalizing es with
  | nil => rw [k.nil_inv]; rfl
  | cons hne _ ih =>
    obtain ⟨e, es, rfl, ⟨t, h1⟩, _, k⟩ := k.cons_inv
    rw [List.find?_cons, h1]; simp only [Value.isStr, hne]; exact ih k
theorem not_getL {P : Params} {ns : List Str} {x : Str} (h : NotA ns x) {es : List DictEntry} (k : KA P es ns) : getL x es = some none := by
  unfold getL
  rw [not_find h k, k.plain]
  rfl
theorem set_putL {P : Params} {I : Im} {ns ns' : List Str} {Vs Vs' : List Val} {x : Str} {W : Val} {v : Value} {t : Tok} (vr : VR P I v W) (h : SetA ns Vs x W ns' Vs') {es : List DictEntry} (k : KA P es ns) (r : VRs P I (es.map (·.val)) Vs) :
    KA P (putL x (PyData.keyHash P x) (.str x t) v es) ns' ∧ VRs P I ((putL x (PyData.keyHash P x) (.str x t) v es).map (·.val)) Vs' := by
  induction h generalizing es with
  | here =>
    obtain ⟨e, es, rfl, ⟨t', h1⟩, h2, k⟩ := k.cons_inv
    unfold putL
    rw [if_pos (by simp [h1, Value.isStr])]
    exact ⟨⟨⟨t', h1⟩, h2, k⟩, ⟨vr, r.2⟩⟩
  | there hne _ ih =>
    obtain ⟨e, es, rfl, ⟨t', h1⟩, h2, k⟩ := k.cons_inv
    obtain ⟨a, b⟩ := ih vr k r.2
    unfold putL
    rw [if_neg (by simp [h1, Value.isStr, hne])]
    exact ⟨⟨⟨t', h1⟩, h2, a⟩, ⟨r.1, b⟩⟩
  | new =>
    rw [k.nil_inv]
    exact ⟨⟨⟨t, rfl⟩, rfl, trivial⟩, ⟨vr, trivial⟩⟩
theorem set_len {ns ns' : List Str} {Vs Vs' : List Val} {x : Str} {W : Val} (h : SetA ns Vs x W ns' Vs') : ns'.length ≤ ns.length + 1 := by
  induction h with
  | here => simp
  | there _ _ ih => simp only [List.length_cons]; omega
  | new => simp

noncomputable def okV : Val → Bool
  | .raw (.ref _) => true
  | .raw _ => false
  | .unbound => false
  | _ => true
theorem handed_of {P : Params} {I : Im} {v : Value} {V : Val} (h : VR P I v V) (ok : okV V = true) : handedIn v = true := by
  cases V with
  | none => cases un_none h; rfl
  | bool b => cases un_bool h; rfl
  | int i => obtain ⟨t, rfl⟩ := un_int h; rfl
  | str x => obtain ⟨t, rfl⟩ := un_str h; rfl
  | bytes b => obtain ⟨t, rfl⟩ := un_bytes h; rfl
  | tup vs => obtain ⟨a, _, _, rfl, _⟩ := un_tup h; rfl
  | lst vs => obtain ⟨a, _, _, rfl, _⟩ := un_lst h; rfl
  | obj C ns vs => obtain ⟨a, _, _, _, rfl, _⟩ := un_obj h; rfl
  | rng n => obtain ⟨a, _, _, _, rfl, _⟩ := un_rng h; rfl
  | raw w => cases un_raw h; cases v <;> first | rfl | cases ok
  | unbound => cases ok

section
variable {cx : Cx} {k : Nat} {m : Loc} {σ : Sto} {Q : Val → Sto → Prop}
theorem attr_core {I : Im} {s : Shared} {A : Around} {a d C : Addr} {es : List DictEntry} {n : Nat} {ns : List Str} {Vs : List Val} {name : Str} {V : Val} {expr : Bool} (S : St cx I σ s) (hC : Cls cx C) (hn : OwnName cx C name) (ha : s.heap.get? a = some (instObj C d)) (hd : s.heap.get? d = some (dictOf es n)) (kk : KA cx.w.params es ns) (r : VRs cx.w.params I (es.map (·.val)) Vs)
    (hl : LookA ns Vs name V) (ok : okV V = true) (q : Q V σ) : wpAny (Md cx) A (getAttr (.ref a) name expr) (Post cx I σ s Q) Bot s := by
  obtain ⟨v, gl, vr⟩ := look_getL hl kk r
  have J : InstAt s.heap a (instObj C d) C (some (dictOf es n)) := ⟨ha, rfl, rfl, hd⟩
  exact get_value (K := cx.K) S.kin J hC.ga (findObj_own (K := cx.K) hC.dict hn rfl gl) (handed_of vr ok) (Post.tok S vr q _)
theorem attr_obj {C : Addr} {ns : List Str} {Vs : List Val} {name : Str} {V : Val} (hC : Cls cx C) (hn : OwnName cx C name) (hl : LookA ns Vs name V) (ok : okV V = true) (q : Q V σ) : Wp1 cx k (fun v => getAttr v name true) (.obj C ns Vs) σ Q := fun A I s v R S hv => by
  obtain ⟨a, d, es, n, rfl, ha, hd, kk, r⟩ := un_obj hv
  exact attr_core S hC hn (S.sub _ _ ha) (S.sub _ _ hd) kk r hl ok q
theorem attr_inst {a d C : Addr} {ns : List Str} {Vs : List Val} {name : Str} {V : Val} (ha : σ a = some (.inst C d)) (hd : σ d = some (.dict ns Vs)) (hC : Cls cx C) (hn : OwnName cx C name) (hl : LookA ns Vs name V) (ok : okV V = true) (q : Q V σ) : Wp1 cx k (fun v => getAttr v name true) (.raw (.ref a)) σ Q := fun A I s v R S hv => by
  cases un_raw hv
  obtain ⟨o, ho, e⟩ := S.cell a _ ha
  have e : o = instObj C d := e
  subst e
  obtain ⟨o, hd', es, n, rfl, kk, r⟩ := S.cell d _ hd
  exact attr_core S hC hn ho hd' kk r hl ok q
theorem seta_inst {a d C : Addr} {ns ns' : List Str} {Vs Vs' : List Val} {name : Str} {V : Val} {Q : Sto → Prop} (ha : σ a = some (.inst C d)) (hd : σ d = some (.dict ns Vs)) (hC : Cls cx C) (hn : OwnName cx C name) (hl : SetA ns Vs name V ns' Vs') (hz : ns.length ≤ 900) (q : Q (σ.set d (.dict ns' Vs'))) : WpSetA cx k name (.raw (.ref a)) V σ Q := fun A I s o v R S ho hv => by
  cases un_raw ho
  obtain ⟨o, ho, e⟩ := S.cell a _ ha
  have e : o = instObj C d := e
  subst e
  obtain ⟨o, hd', es, n, rfl, kk, r⟩ := S.cell d _ hd
  have J : InstAt s.heap a (instObj C d) C (some (dictOf es n)) := ⟨ho, rfl, rfl, hd'⟩
  obtain ⟨k', r'⟩ := set_putL (t := s.toks + 1) hv hl kk r
  have hlen := set_len hl
  have el := k'.length
  have ht : takerIn cx.K C name = some none := by unfold takerIn; rw [show findIn cx.K (.ref C) name = some none from hn]; rfl
  refine set_plain (K := cx.K) S.kin J hC.sa (osa_open (s := { s with toks := s.toks + 1 }) (K := cx.K) S.kin J hC.over ht fun b => ?_)
  obtain ⟨cd, hc, hdict⟩ := any_some hC.dict
  have eo : Obj.putName name (PyData.keyHash cx.w.params name) (.str name (s.toks + 1)) v (dictOf es n) = dictOf (putL name (PyData.keyHash cx.w.params name) (.str name (s.toks + 1)) v es) (putN name es n) := putName_dict ..
  have hD' : (s.heap.update d (Obj.putName name (PyData.keyHash cx.w.params name) (.str name (s.toks + 1)) v)).get? d = some (dictOf (putL name (PyData.keyHash cx.w.params name) (.str name (s.toks + 1)) v es) (putN name es n)) := by
    rw [Heap.get?_update_self _ hd' (by rw [eo]; rfl), eo]
  have hcr : CR cx.w.params I (dictOf (putL name (PyData.keyHash cx.w.params name) (.str name (s.toks + 1)) v es) (putN name es n)) (.dict ns' Vs') := ⟨_, _, rfl, k', r'⟩
  have tr := Tr.upd (s := s) (I := I) (c' := .dict ns' Vs') hd (Heap.SameBut.update ..) hD' Own0
  have S' := S.upd hd (Heap.SameBut.update ..) hD' hcr
  show wpAny _ _ (storeInOwnDict (.ref a) (.ref C) (.str name s.toks) name v b) _ _ _
  refine wpAny_bind (wpAny_pure (wpAny_bind (wpAny_bind (wpAny_loadPart ho (wpAny_bind ((looks_clsIn (K := cx.K) (h := ({ s with toks := s.toks + 1 } : Shared).heap) S.kin hc).here (s := { s with toks := s.toks + 1 }) ?_))))))
  rw [hdict]
  refine wpAny_pure (a := some d) (wpAny_bind (wpAny_pure (wpAny_bind ?_)))
  unfold nsSet
  refine wpAny_bind (wpAny_bind (wpAny_askSetting (wpAny_pure (wpAny_bind (wpAny_mkText (wpAny_bind (wpAny_loadPart hd' ?_)))))))
  dsimp only
  have c : (!(List.toArray es).any (·.key.isStr name) && (List.toArray es).any (·.refKey)) = false := by
    rw [← Array.any_toList, ← Array.any_toList]
    have := kk.plain
    simp only [this, Bool.and_false]
  rw [aRefKeyMayBeTheName_at, c]
  refine wpAny_updatePart hd' ?_
  refine wpAny_bind (wpAny_lookBehind hD' (pastItsLine_dict (by rw [List.size_toArray, sizeLine_eq]; omega)) ?_)
  exact wpAny_pure (show _ from ⟨I, _, tr.toks _, S'.toks _, q⟩)

/-- C has the method name, the function f -/
structure Mth (cx : Cx) (C : Addr) (name : Str) (f : Addr) : Prop where
  has : findIn cx.K (.ref C) name = some (some (.ref f))
  fn : typeIn cx.K (.ref f) = some (.type "function")
theorem meth_obj {C f : Addr} {ns : List Str} {Vs : List Val} {name : Str} {Q : Val → List Val → Sto → Prop} (hC : Cls cx C) (hm : Mth cx C name f) (hl : NotA ns name) (q : Q (.raw (.ref f)) [.obj C ns Vs] σ) : WpMeth cx k name (.obj C ns Vs) σ Q := fun A I s v pl R S hv => by
  obtain ⟨a, d, es, n, rfl, ha, hd, kk, r⟩ := un_obj hv
  have J : InstAt s.heap a (instObj C d) C (some (dictOf es n)) := ⟨S.sub _ _ ha, rfl, rfl, S.sub _ _ hd⟩
  refine method_fn (K := cx.K) S.kin J hC.ga hC.gn hm.has hm.fn ?_ ⟨I, σ, .raw (.ref f), [.obj C ns Vs], Tr.refl .., S, vr_raw, ⟨hv, trivial⟩, q⟩
  show (lookIn name (dictOf es n)).map _ = _
  rw [lookIn_dict, not_getL hl kk]
  rfl

theorem room_type {A : Around} {C : Addr} {vals : List Value} {kw : List (Str × Value)} (R : Room A (k + 1)) : Room (A.under (.builtin "type.__call__" ⟨.ref C :: vals, kw⟩)) k := by
  have e1 : (A.under (.builtin "type.__call__" ⟨.ref C :: vals, kw⟩)).depth = A.depth + 1 := rfl
  have e2 : (A.under (.builtin "type.__call__" ⟨.ref C :: vals, kw⟩)).units = A.units + 1 := rfl
  exact ⟨R.hand, by have := R.depth; omega, by have := R.units; omega⟩
theorem c_class {C fI : Addr} {args : List Val} (hm : makesIn cx.K C = true) (hi : Mth cx C "__init__" fI)
    (h : ∀ x d, σ x = none → σ d = none → x ≠ d → WpCode cx k (.raw (.ref fI)) (.raw (.ref x) :: args) ((σ.set d (.dict [] [])).set x (.inst C d)) fun V σ' => V = .none ∧ Q (.raw (.ref x)) σ') :
    WpCode cx (k + 1) (.raw (.ref C)) args σ Q := fun A I s fv vs R S hf hv => by
  cases un_raw hf
  obtain ⟨hh, g, d, t, os⟩ := s
  refine make_core (makes_of (K := cx.K) S.kin hm) (looks_findIn S.kin hi.has) (fun self => bind_fn S.kin self hi.fn) (.inl rfl) ?_
  have S₁ := S.pushS emptyDict (.dict [] []) ⟨[], 0, rfl, trivial, trivial⟩
  have T₁ := Tr.pushS S emptyDict (.dict [] []) Own0
  have S₂ := S₁.pushS (instObj C hh.objs.size) (.inst C hh.objs.size) rfl
  have T₂ := Tr.pushS S₁ (instObj C hh.objs.size) (.inst C hh.objs.size) Own0
  dsimp only at S₁ T₁ S₂ T₂
  rw [Heap.size_push] at S₂ T₂
  have hx : σ (hh.objs.size + 1) = none := by
    cases q : σ (hh.objs.size + 1) with
    | none => rfl
    | some c => exact absurd (S.ltσ q) (Nat.not_lt.mpr (Nat.le_succ _))
  refine codeAny_mono (h (hh.objs.size + 1) hh.objs.size hx S.freshS (Nat.succ_ne_self _) _ I _ (.ref fI) (.ref (hh.objs.size + 1) :: vs) (room_type R) S₂ vr_raw ⟨vr_raw, hv⟩) fun r s' z => ?_
  rcases r with e | (v | _ | _ | _)
  · exact z
  all_goals first | exact z.elim | skip
  obtain ⟨I', σ', V, t', S', vr, e, q⟩ := z
  subst e
  exact ⟨un_none vr, I', σ', .raw (.ref (hh.objs.size + 1)), (T₁.trans T₂).trans t', S', vr_raw, q⟩
end
end

noncomputable def stAt (n : Nat) : Stmt := ((PySem.Challenge.pw_og0279_01).main.body[n]?).getD (.Pass ⟨0, 0, 0, 0⟩)
noncomputable def bodyOf : Stmt → List Stmt
  | .FunctionDef _ _ b _ _ _ _ _ _ _ => b
  | .ClassDef _ _ _ b _ _ _ _ _ _ _ => b
  | _ => []
noncomputable def parsOf : Stmt → Arguments
  | .FunctionDef _ a _ _ _ _ _ _ _ _ => a
  | _ => ⟨[], [], none, [], [], none, []⟩
noncomputable def scopeOf : Stmt → Scope
  | .FunctionDef _ _ _ _ _ _ s _ _ _ => s
  | _ => { kind := .function, names := [], isGenerator := false, isCoroutine := false, more := [] }
noncomputable def stIn (n j : Nat) : Stmt := ((bodyOf (stAt n))[j]?).getD (.Pass ⟨0, 0, 0, 0⟩)
noncomputable abbrev Fn (cx : Cx) (f : Addr) (name : Str) (n : Nat) (dV : Value) : Prop := FnIs cx f name name (parsOf (stAt n)) (bodyOf (stAt n)) (scopeOf (stAt n)) dV

noncomputable def penV : Val := .tup [.int 0, .int (-1), .int (-1), .int (-1), .int 0]
noncomputable def penD : PyData := .tuple [.int 0, .int (-1), .int (-1), .int (-1), .int 0]
noncomputable def cv (c : List Int × Int) : Val := .tup [.tup (c.1.map .int), .int c.2, penV, .bool false]
noncomputable def cd (c : List Int × Int) : PyData := .tuple [.tuple (c.1.map .int), .int c.2, penD, .bool false]
theorem penV_vd : penV = vd penD := by simp [penV, penD, vd, vds]
theorem cv_vd (c : List Int × Int) : cv c = vd (cd c) := by simp [cv, cd, vd, vds, penV_vd, vds_ints]

/-- a loop's word, shut -/
noncomputable def Hold (p : Prop) : Prop := p
theorem Hold.mk {p : Prop} (h : p) : Hold p := h
theorem if_f {A B : Prop} (h : B) : if false = true then A else B := by rw [if_neg Bool.false_ne_true]; exact h
theorem if_t {A B : Prop} (h : A) : if true = true then A else B := by rw [if_pos rfl]; exact h
theorem if_nf {A B : Prop} (h : A) : if (!false) = true then A else B := if_t h
theorem if_nt {A B : Prop} (h : B) : if (!true) = true then A else B := if_f h
theorem small_len {α β : Type} {f : α → β} {l : List α} (h : l.length ≤ 900) : (l.map f).length < 1000000 := by rw [List.length_map]; exact Nat.lt_of_le_of_lt h (by decide)
theorem if_b {b : Bool} {A B : Prop} (ht : b = true → A) (hf : b = false → B) : if b = true then A else B := by
  cases b with
  | true => exact if_t (ht rfl)
  | false => exact if_f (hf rfl)
section
variable {cx : Cx} {k : Nat} {σ : Sto} {Q : Val → Sto → Prop}
theorem shaped_ints (l : List Int) : SeqAt.shaped (.tuple (l.map .int)) = true := by
  have h1 := canLay_ints l
  have h2 := depth_ints l
  unfold SeqAt.shaped
  rw [PyData.canLay0, h1, PyData.depth]
  simp
  omega
theorem eqv_nil (l : List Int) : PyData.eqv (.tuple (l.map .int)) (.tuple []) = l.isEmpty := by
  cases l with
  | nil => rfl
  | cons x l => rfl
theorem p_eqt {l : List Int} (q : Q (.bool l.isEmpty) σ) : Wp2 cx k (compareOp .Eq) (.tup (l.map .int)) (.tup []) σ Q :=
  p_eqd (d := .tuple (l.map .int)) (e := .tuple []) (.inl (by rw [vd, vds_ints])) (.inl rfl) (shaped_ints l) (by decide) (by rw [eqv_nil]; exact q)
theorem p_net {l : List Int} (q : Q (.bool (!l.isEmpty)) σ) : Wp2 cx k (compareOp .NotEq) (.tup (l.map .int)) (.tup []) σ Q :=
  p_ned (d := .tuple (l.map .int)) (e := .tuple []) (.inl (by rw [vd, vds_ints])) (.inl rfl) (shaped_ints l) (by decide) (by rw [eqv_nil]; exact q)
end

set_option genInjectivity false
set_option genSizeOf false
noncomputable def lawCodes : List Int := [97, 97, 98, 32, 45, 40, 41, 91, 93, 19968, 0, 769]
/-- what the text's top has left -/
structure Top0 (cx : Cx) where
  f_erased_pen : Addr
  g_erased_pen : GV cx (Str.ofString "erased_pen") (.raw (.ref f_erased_pen))
  h_erased_pen : Fn cx f_erased_pen (Str.ofString "erased_pen") 9 .none
  f_blank_cell : Addr
  g_blank_cell : GV cx (Str.ofString "blank_cell") (.raw (.ref f_blank_cell))
  h_blank_cell : Fn cx f_blank_cell (Str.ofString "blank_cell") 10 .none
  f_is_blank : Addr
  g_is_blank : GV cx (Str.ofString "is_blank") (.raw (.ref f_is_blank))
  h_is_blank : Fn cx f_is_blank (Str.ofString "is_blank") 11 .none
  f_view_width : Addr
  g_view_width : GV cx (Str.ofString "view_width") (.raw (.ref f_view_width))
  h_view_width : Fn cx f_view_width (Str.ofString "view_width") 14 .none
  f_cell_codes : Addr
  g_cell_codes : GV cx (Str.ofString "cell_codes") (.raw (.ref f_cell_codes))
  h_cell_codes : Fn cx f_cell_codes (Str.ofString "cell_codes") 15 .none
  f_view_codes : Addr
  g_view_codes : GV cx (Str.ofString "view_codes") (.raw (.ref f_view_codes))
  h_view_codes : Fn cx f_view_codes (Str.ofString "view_codes") 16 .none
  f_copy_signs : Addr
  g_copy_signs : GV cx (Str.ofString "copy_signs") (.raw (.ref f_copy_signs))
  h_copy_signs : Fn cx f_copy_signs (Str.ofString "copy_signs") 20 .none
  f_copy_index : Addr
  g_copy_index : GV cx (Str.ofString "copy_index") (.raw (.ref f_copy_index))
  h_copy_index : Fn cx f_copy_index (Str.ofString "copy_index") 21 .none
  f_copy_sort : Addr
  g_copy_sort : GV cx (Str.ofString "copy_sort") (.raw (.ref f_copy_sort))
  h_copy_sort : Fn cx f_copy_sort (Str.ofString "copy_sort") 22 .none
  f_next_word : Addr
  g_next_word : GV cx (Str.ofString "next_word") (.raw (.ref f_next_word))
  h_next_word : Fn cx f_next_word (Str.ofString "next_word") 23 .none
  f_next_word_end : Addr
  g_next_word_end : GV cx (Str.ofString "next_word_end") (.raw (.ref f_next_word_end))
  h_next_word_end : Fn cx f_next_word_end (Str.ofString "next_word_end") 24 .none
  f_previous_word : Addr
  g_previous_word : GV cx (Str.ofString "previous_word") (.raw (.ref f_previous_word))
  h_previous_word : Fn cx f_previous_word (Str.ofString "previous_word") 25 .none
  f_matching_bracket : Addr
  g_matching_bracket : GV cx (Str.ofString "matching_bracket") (.raw (.ref f_matching_bracket))
  h_matching_bracket : Fn cx f_matching_bracket (Str.ofString "matching_bracket") 26 .none
  f_jump_place : Addr
  g_jump_place : GV cx (Str.ofString "jump_place") (.raw (.ref f_jump_place))
  h_jump_place : Fn cx f_jump_place (Str.ofString "jump_place") 27 .none
  f_line_blanks : Addr
  g_line_blanks : GV cx (Str.ofString "line_blanks") (.raw (.ref f_line_blanks))
  h_line_blanks : Fn cx f_line_blanks (Str.ofString "line_blanks") 30 .none
  f_line_slice : Addr
  g_line_slice : GV cx (Str.ofString "line_slice") (.raw (.ref f_line_slice))
  h_line_slice : Fn cx f_line_slice (Str.ofString "line_slice") 31 .none
  f_line_of : Addr
  g_line_of : GV cx (Str.ofString "line_of") (.raw (.ref f_line_of))
  d_line_of : Value
  v_line_of : VR cx.w.params cx.h₀.get? d_line_of (.tup [.bool false, .str (Str.ofString "single")])
  h_line_of : Fn cx f_line_of (Str.ofString "line_of") 34 d_line_of
  f_law_deck : Addr
  g_law_deck : GV cx (Str.ofString "_law_deck") (.raw (.ref f_law_deck))
  h_law_deck : Fn cx f_law_deck (Str.ofString "_law_deck") 40 .none
  f_law_draw : Addr
  g_law_draw : GV cx (Str.ofString "_law_draw") (.raw (.ref f_law_draw))
  h_law_draw : Fn cx f_law_draw (Str.ofString "_law_draw") 41 .none
  f_law_row : Addr
  g_law_row : GV cx (Str.ofString "_law_row") (.raw (.ref f_law_row))
  h_law_row : Fn cx f_law_row (Str.ofString "_law_row") 42 .none
  f_law_signs : Addr
  g_law_signs : GV cx (Str.ofString "_law_signs") (.raw (.ref f_law_signs))
  h_law_signs : Fn cx f_law_signs (Str.ofString "_law_signs") 43 .none
  f_law_sort : Addr
  g_law_sort : GV cx (Str.ofString "_law_sort") (.raw (.ref f_law_sort))
  h_law_sort : Fn cx f_law_sort (Str.ofString "_law_sort") 44 .none
  f_law_at : Addr
  g_law_at : GV cx (Str.ofString "_law_at") (.raw (.ref f_law_at))
  h_law_at : Fn cx f_law_at (Str.ofString "_law_at") 45 .none
  f_law_words : Addr
  g_law_words : GV cx (Str.ofString "_law_words") (.raw (.ref f_law_words))
  h_law_words : Fn cx f_law_words (Str.ofString "_law_words") 46 .none
  f_law_bracket : Addr
  g_law_bracket : GV cx (Str.ofString "_law_bracket") (.raw (.ref f_law_bracket))
  h_law_bracket : Fn cx f_law_bracket (Str.ofString "_law_bracket") 47 .none
  f_law_jump : Addr
  g_law_jump : GV cx (Str.ofString "_law_jump") (.raw (.ref f_law_jump))
  h_law_jump : Fn cx f_law_jump (Str.ofString "_law_jump") 48 .none
  f_law_view : Addr
  g_law_view : GV cx (Str.ofString "_law_view") (.raw (.ref f_law_view))
  h_law_view : Fn cx f_law_view (Str.ofString "_law_view") 49 .none
  c_View : Addr
  g_View : GV cx (Str.ofString "View") (.raw (.ref c_View))
  k_View : Cls cx c_View
  m_View : makesIn cx.K c_View = true
  p_View : keepIn cx.K (.ref c_View) = true
  o_View_history : OwnName cx c_View (Str.ofString "history")
  o_View_grid : OwnName cx c_View (Str.ofString "grid")
  f_View_init : Addr
  n_View_init : Mth cx c_View (Str.ofString "__init__") f_View_init
  h_View_init : FnIs cx f_View_init (Str.ofString "__init__") (Str.ofString "View.__init__") (parsOf (stIn 13 0)) (bodyOf (stIn 13 0)) (scopeOf (stIn 13 0)) .none
  f_View_above : Addr
  n_View_above : Mth cx c_View (Str.ofString "above") f_View_above
  h_View_above : FnIs cx f_View_above (Str.ofString "above") (Str.ofString "View.above") (parsOf (stIn 13 1)) (bodyOf (stIn 13 1)) (scopeOf (stIn 13 1)) .none
  f_View_rows : Addr
  n_View_rows : Mth cx c_View (Str.ofString "rows") f_View_rows
  h_View_rows : FnIs cx f_View_rows (Str.ofString "rows") (Str.ofString "View.rows") (parsOf (stIn 13 2)) (bodyOf (stIn 13 2)) (scopeOf (stIn 13 2)) .none
  f_View_line : Addr
  n_View_line : Mth cx c_View (Str.ofString "line") f_View_line
  h_View_line : FnIs cx f_View_line (Str.ofString "line") (Str.ofString "View.line") (parsOf (stIn 13 3)) (bodyOf (stIn 13 3)) (scopeOf (stIn 13 3)) .none
  f_View_is_joined : Addr
  n_View_is_joined : Mth cx c_View (Str.ofString "is_joined") f_View_is_joined
  h_View_is_joined : FnIs cx f_View_is_joined (Str.ofString "is_joined") (Str.ofString "View.is_joined") (parsOf (stIn 13 4)) (bodyOf (stIn 13 4)) (scopeOf (stIn 13 4)) .none
  c_Line : Addr
  g_Line : GV cx (Str.ofString "Line") (.raw (.ref c_Line))
  k_Line : Cls cx c_Line
  m_Line : makesIn cx.K c_Line = true
  p_Line : keepIn cx.K (.ref c_Line) = true
  o_Line_cells : OwnName cx c_Line (Str.ofString "cells")
  o_Line_is_wrapped : OwnName cx c_Line (Str.ofString "is_wrapped")
  o_Line_size : OwnName cx c_Line (Str.ofString "size")
  f_Line_init : Addr
  n_Line_init : Mth cx c_Line (Str.ofString "__init__") f_Line_init
  h_Line_init : FnIs cx f_Line_init (Str.ofString "__init__") (Str.ofString "Line.__init__") (parsOf (stIn 33 0)) (bodyOf (stIn 33 0)) (scopeOf (stIn 33 0)) .none
  c_Grid : Addr
  g_Grid : GV cx (Str.ofString "Grid") (.raw (.ref c_Grid))
  k_Grid : Cls cx c_Grid
  m_Grid : makesIn cx.K c_Grid = true
  p_Grid : keepIn cx.K (.ref c_Grid) = true
  o_Grid_rows : OwnName cx c_Grid (Str.ofString "rows")
  o_Grid_columns : OwnName cx c_Grid (Str.ofString "columns")
  o_Grid_lines : OwnName cx c_Grid (Str.ofString "lines")
  f_Grid_init : Addr
  n_Grid_init : Mth cx c_Grid (Str.ofString "__init__") f_Grid_init
  h_Grid_init : FnIs cx f_Grid_init (Str.ofString "__init__") (Str.ofString "Grid.__init__") (parsOf (stIn 36 0)) (bodyOf (stIn 36 0)) (scopeOf (stIn 36 0)) .none
  g_NO_COLOUR : GV cx (Str.ofString "NO_COLOUR") (.int (-1))
  g_PLAIN : GV cx (Str.ofString "PLAIN") (penV)
  g_BACK : GV cx (Str.ofString "BACK") (.int 2)
  g_LINE_FEED : GV cx (Str.ofString "LINE_FEED") (.int 10)
  g_BLANK : GV cx (Str.ofString "BLANK") (.int 32)
  g_OPENERS : GV cx (Str.ofString "OPENERS") (.bytes #[40, 91, 123])
  g_CLOSERS : GV cx (Str.ofString "CLOSERS") (.bytes #[41, 93, 125])
  g_LINE_SIZES : GV cx (Str.ofString "LINE_SIZES") (.tup [.str (Str.ofString "single"), .str (Str.ofString "wide"), .str (Str.ofString "top"), .str (Str.ofString "bottom")])
  g_law_pen : GV cx (Str.ofString "_law_pen") (penV)
  g_law_codes : GV cx (Str.ofString "_law_codes") (.tup (lawCodes.map .int))
  b_len : GV cx (Str.ofString "len") (.raw (.builtin "len"))
  b_min : GV cx (Str.ofString "min") (.raw (.builtin "min"))
  b_max : GV cx (Str.ofString "max") (.raw (.builtin "max"))
  b_int : GV cx (Str.ofString "int") (.raw (.type "int"))
  b_range : GV cx (Str.ofString "range") (.raw (.type "range"))
  b_list : GV cx (Str.ofString "list") (.raw (.type "list"))
  b_tuple : GV cx (Str.ofString "tuple") (.raw (.type "tuple"))
  b_enumerate : GV cx (Str.ofString "enumerate") (.raw (.type "enumerate"))
@[reducible] noncomputable def cpL (T : Top0 cx) : List (Str × Val) := [((Str.ofString "len"), .raw (.builtin "len")), ((Str.ofString "min"), .raw (.builtin "min")), ((Str.ofString "max"), .raw (.builtin "max")), ((Str.ofString "int"), .raw (.type "int")), ((Str.ofString "range"), .raw (.type "range")), ((Str.ofString "list"), .raw (.type "list")), ((Str.ofString "tuple"), .raw (.type "tuple")), ((Str.ofString "enumerate"), .raw (.type "enumerate")), ((Str.ofString "erased_pen"), .raw (.ref T.f_erased_pen)), ((Str.ofString "blank_cell"), .raw (.ref T.f_blank_cell)), ((Str.ofString "is_blank"), .raw (.ref T.f_is_blank)), ((Str.ofString "view_width"), .raw (.ref T.f_view_width)), ((Str.ofString "cell_codes"), .raw (.ref T.f_cell_codes)), ((Str.ofString "view_codes"), .raw (.ref T.f_view_codes)), ((Str.ofString "copy_signs"), .raw (.ref T.f_copy_signs)), ((Str.ofString "copy_index"), .raw (.ref T.f_copy_index)), ((Str.ofString "copy_sort"), .raw (.ref T.f_copy_sort)), ((Str.ofString "next_word"), .raw (.ref T.f_next_word)), ((Str.ofString "next_word_end"), .raw (.ref T.f_next_word_end)), ((Str.ofString "previous_word"), .raw (.ref T.f_previous_word)), ((Str.ofString "matching_bracket"), .raw (.ref T.f_matching_bracket)), ((Str.ofString "jump_place"), .raw (.ref T.f_jump_place)), ((Str.ofString "line_blanks"), .raw (.ref T.f_line_blanks)), ((Str.ofString "line_slice"), .raw (.ref T.f_line_slice)), ((Str.ofString "line_of"), .raw (.ref T.f_line_of)), ((Str.ofString "_law_deck"), .raw (.ref T.f_law_deck)), ((Str.ofString "_law_draw"), .raw (.ref T.f_law_draw)), ((Str.ofString "_law_row"), .raw (.ref T.f_law_row)), ((Str.ofString "_law_signs"), .raw (.ref T.f_law_signs)), ((Str.ofString "_law_sort"), .raw (.ref T.f_law_sort)), ((Str.ofString "_law_at"), .raw (.ref T.f_law_at)), ((Str.ofString "_law_words"), .raw (.ref T.f_law_words)), ((Str.ofString "_law_bracket"), .raw (.ref T.f_law_bracket)), ((Str.ofString "_law_jump"), .raw (.ref T.f_law_jump)), ((Str.ofString "_law_view"), .raw (.ref T.f_law_view)), ((Str.ofString "View"), .raw (.ref T.c_View)), ((Str.ofString "Line"), .raw (.ref T.c_Line)), ((Str.ofString "Grid"), .raw (.ref T.c_Grid))]
@[reducible] noncomputable def gvL (T : Top0 cx) : List (Str × Val) := [((Str.ofString "len"), .raw (.builtin "len")), ((Str.ofString "min"), .raw (.builtin "min")), ((Str.ofString "max"), .raw (.builtin "max")), ((Str.ofString "int"), .raw (.type "int")), ((Str.ofString "range"), .raw (.type "range")), ((Str.ofString "list"), .raw (.type "list")), ((Str.ofString "tuple"), .raw (.type "tuple")), ((Str.ofString "enumerate"), .raw (.type "enumerate")), ((Str.ofString "erased_pen"), .raw (.ref T.f_erased_pen)), ((Str.ofString "blank_cell"), .raw (.ref T.f_blank_cell)), ((Str.ofString "is_blank"), .raw (.ref T.f_is_blank)), ((Str.ofString "view_width"), .raw (.ref T.f_view_width)), ((Str.ofString "cell_codes"), .raw (.ref T.f_cell_codes)), ((Str.ofString "view_codes"), .raw (.ref T.f_view_codes)), ((Str.ofString "copy_signs"), .raw (.ref T.f_copy_signs)), ((Str.ofString "copy_index"), .raw (.ref T.f_copy_index)), ((Str.ofString "copy_sort"), .raw (.ref T.f_copy_sort)), ((Str.ofString "next_word"), .raw (.ref T.f_next_word)), ((Str.ofString "next_word_end"), .raw (.ref T.f_next_word_end)), ((Str.ofString "previous_word"), .raw (.ref T.f_previous_word)), ((Str.ofString "matching_bracket"), .raw (.ref T.f_matching_bracket)), ((Str.ofString "jump_place"), .raw (.ref T.f_jump_place)), ((Str.ofString "line_blanks"), .raw (.ref T.f_line_blanks)), ((Str.ofString "line_slice"), .raw (.ref T.f_line_slice)), ((Str.ofString "line_of"), .raw (.ref T.f_line_of)), ((Str.ofString "_law_deck"), .raw (.ref T.f_law_deck)), ((Str.ofString "_law_draw"), .raw (.ref T.f_law_draw)), ((Str.ofString "_law_row"), .raw (.ref T.f_law_row)), ((Str.ofString "_law_signs"), .raw (.ref T.f_law_signs)), ((Str.ofString "_law_sort"), .raw (.ref T.f_law_sort)), ((Str.ofString "_law_at"), .raw (.ref T.f_law_at)), ((Str.ofString "_law_words"), .raw (.ref T.f_law_words)), ((Str.ofString "_law_bracket"), .raw (.ref T.f_law_bracket)), ((Str.ofString "_law_jump"), .raw (.ref T.f_law_jump)), ((Str.ofString "_law_view"), .raw (.ref T.f_law_view)), ((Str.ofString "View"), .raw (.ref T.c_View)), ((Str.ofString "Line"), .raw (.ref T.c_Line)), ((Str.ofString "Grid"), .raw (.ref T.c_Grid)), ((Str.ofString "NO_COLOUR"), .int (-1)), ((Str.ofString "PLAIN"), penV), ((Str.ofString "BACK"), .int 2), ((Str.ofString "LINE_FEED"), .int 10), ((Str.ofString "BLANK"), .int 32), ((Str.ofString "OPENERS"), .bytes #[40, 91, 123]), ((Str.ofString "CLOSERS"), .bytes #[41, 93, 125]), ((Str.ofString "LINE_SIZES"), .tup [.str (Str.ofString "single"), .str (Str.ofString "wide"), .str (Str.ofString "top"), .str (Str.ofString "bottom")]), ((Str.ofString "_law_pen"), penV), ((Str.ofString "_law_codes"), .tup (lawCodes.map .int))]
theorem Top0.gv (T : Top0 cx) {x : Str} {V : Val} (h : (gvL T).lookup x = some V) : GV cx x V :=
  GVs.all (l := gvL T) ⟨T.b_len, T.b_min, T.b_max, T.b_int, T.b_range, T.b_list, T.b_tuple, T.b_enumerate, T.g_erased_pen, T.g_blank_cell, T.g_is_blank, T.g_view_width, T.g_cell_codes, T.g_view_codes, T.g_copy_signs, T.g_copy_index, T.g_copy_sort, T.g_next_word, T.g_next_word_end, T.g_previous_word, T.g_matching_bracket, T.g_jump_place, T.g_line_blanks, T.g_line_slice, T.g_line_of, T.g_law_deck, T.g_law_draw, T.g_law_row, T.g_law_signs, T.g_law_sort, T.g_law_at, T.g_law_words, T.g_law_bracket, T.g_law_jump, T.g_law_view, T.g_View, T.g_Line, T.g_Grid, T.g_NO_COLOUR, T.g_PLAIN, T.g_BACK, T.g_LINE_FEED, T.g_BLANK, T.g_OPENERS, T.g_CLOSERS, T.g_LINE_SIZES, T.g_law_pen, T.g_law_codes, trivial⟩ _ (mem_of_lookup h)
theorem Top0.kp (T : Top0 cx) {x : Str} {V : Val} (h : (cpL T).lookup x = some V) : KpN cx x V :=
  KpNs.all (l := cpL T) ⟨kp_builtin, kp_builtin, kp_builtin, kp_type, kp_type, kp_type, kp_type, kp_type, kp_fn T.h_erased_pen, kp_fn T.h_blank_cell, kp_fn T.h_is_blank, kp_fn T.h_view_width, kp_fn T.h_cell_codes, kp_fn T.h_view_codes, kp_fn T.h_copy_signs, kp_fn T.h_copy_index, kp_fn T.h_copy_sort, kp_fn T.h_next_word, kp_fn T.h_next_word_end, kp_fn T.h_previous_word, kp_fn T.h_matching_bracket, kp_fn T.h_jump_place, kp_fn T.h_line_blanks, kp_fn T.h_line_slice, kp_fn T.h_line_of, kp_fn T.h_law_deck, kp_fn T.h_law_draw, kp_fn T.h_law_row, kp_fn T.h_law_signs, kp_fn T.h_law_sort, kp_fn T.h_law_at, kp_fn T.h_law_words, kp_fn T.h_law_bracket, kp_fn T.h_law_jump, kp_fn T.h_law_view, kp_K T.p_View, kp_K T.p_Line, kp_K T.p_Grid, trivial⟩ _ (mem_of_lookup h)
local macro_rules | `(tactic| walk_at "mem") => `(tactic| with_reducible (first
  | exact List.mem_cons_self
  | (refine List.mem_cons_of_mem _ ?_; walk_at "mem")))
local macro_rules | `(tactic| walk_at "upd1") => `(tactic| with_reducible first | exact Upd.n0 | exact Upd.n1 | exact Upd.n2 | exact Upd.n3 | exact Upd.n4 | exact Upd.n5 | exact Upd.n6 | exact Upd.n7 | exact Upd.n8 | exact Upd.n9 | exact Upd.n10 | exact Upd.n11 | exact Upd.n12 | exact Upd.n13 | exact Upd.n14 | exact Upd.n15)
local macro_rules | `(tactic| walk_at "upd") => `(tactic| ((try dsimp only); walk_at "upd1"))
local macro_rules | `(tactic| walk_at "frame") => `(tactic| simp only [List.zip_cons_cons, List.zip_nil_left, List.zip_nil_right, List.map_cons, List.map_nil, List.cons_append, List.nil_append, List.append_nil])
local macro_rules | `(tactic| walk_at "args") => `(tactic| (first
  | exact args1 (by intros; kernel_rfl)
  | exact args2 (by intros; kernel_rfl)
  | exact args3 (by intros; kernel_rfl)
  | exact args4 (by intros; kernel_rfl)
  | exact args5 (by intros; kernel_rfl)))
local macro_rules | `(tactic| walk_at "oks") => `(tactic| ((try simp only [names, List.map_cons, List.map_nil]); decide +kernel))
local macro_rules | `(tactic| walk_at "look") => `(tactic| (first
  | exact LookA.here
  | ((refine' LookA.there ?n ?r); (case n => decide); (case r => walk_at "look"))))
local macro_rules | `(tactic| walk_at "seta") => `(tactic| (first
  | exact SetA.here
  | exact SetA.new
  | ((refine' SetA.there ?n ?r); (case n => decide); (case r => walk_at "seta"))))
local macro_rules | `(tactic| walk_at "nota") => `(tactic| (first
  | exact NotA.nil
  | (refine NotA.cons ?_ ?_; (focus decide); (focus (walk_at "nota")))))
local macro_rules | `(tactic| walk_at "caps") => `(tactic| (first
  | exact List.forall_mem_nil _
  | (refine List.forall_mem_cons.mpr ⟨Or.inl ?_, ?_⟩; (focus ((try dsimp only); walk_at "mem")); (focus (walk_at "caps")))
  | (refine List.forall_mem_cons.mpr ⟨Or.inr ?_, ?_⟩; (focus ((try dsimp only); walk_at "mem")); (focus (walk_at "caps")))))
local macro_rules | `(tactic| walk_at "keys") => `(tactic| ((simp only [names, List.map_cons, List.map_nil]); decide))
local macro_rules | `(tactic| walk_at "gv") => `(tactic| (first | exact trivial | (refine And.intro ?_ ?_; (focus exact Top0.gv ‹Top0 _› (by kernel_rfl)); walk_at "gv")))
local macro_rules | `(tactic| walk_at "attr") => `(tactic| ((first
  | (refine' attr_obj (Top0.k_View _) (Top0.o_View_history _) ?l ?o ?q)
  | (refine' attr_obj (Top0.k_View _) (Top0.o_View_grid _) ?l ?o ?q)
  | (refine' attr_obj (Top0.k_Line _) (Top0.o_Line_cells _) ?l ?o ?q)
  | (refine' attr_obj (Top0.k_Line _) (Top0.o_Line_is_wrapped _) ?l ?o ?q)
  | (refine' attr_obj (Top0.k_Line _) (Top0.o_Line_size _) ?l ?o ?q)
  | (refine' attr_obj (Top0.k_Grid _) (Top0.o_Grid_rows _) ?l ?o ?q)
  | (refine' attr_obj (Top0.k_Grid _) (Top0.o_Grid_columns _) ?l ?o ?q)
  | (refine' attr_obj (Top0.k_Grid _) (Top0.o_Grid_lines _) ?l ?o ?q)); (case l => walk_at "look"); (case o => rfl); (try dsimp only)))
local macro_rules | `(tactic| walk_at "meth") => `(tactic| ((first
  | (refine meth_obj (Top0.k_View _) (Top0.n_View_above _) ?_ (And.intro (kp_fn (Top0.h_View_above ‹Top0 _›)) ?_))
  | (refine meth_obj (Top0.k_View _) (Top0.n_View_rows _) ?_ (And.intro (kp_fn (Top0.h_View_rows ‹Top0 _›)) ?_))
  | (refine meth_obj (Top0.k_View _) (Top0.n_View_line _) ?_ (And.intro (kp_fn (Top0.h_View_line ‹Top0 _›)) ?_))
  | (refine meth_obj (Top0.k_View _) (Top0.n_View_is_joined _) ?_ (And.intro (kp_fn (Top0.h_View_is_joined ‹Top0 _›)) ?_))); (focus (walk_at "nota")); (try dsimp only)))
local macro_rules | `(tactic| walk_at "w") => `(tactic| with_reducible first
  | (refine' wpe_loc (V := ?V) ?hm ?hu ?q; (case hm => (repeat (first | exact List.mem_cons_self | refine List.mem_cons_of_mem _ ?_)); done); (case hu => (first | with_unfolding_all exact rfl | assumption)))
  | (refine' wpe_glo (V := ?V) ?hm ?hu ?q; (case hm => (repeat (first | exact List.mem_cons_self | refine List.mem_cons_of_mem _ ?_)); done); (case hu => (first | with_unfolding_all exact rfl | assumption)))
  | refine wpe_int ?_
  | ((refine wpe_slice ?_ ?_); rotate_left; focus with_unfolding_all (intro _ _; rfl))
  | refine wpe_sub ?_
  | refine wpe_binop ?_
  | ((refine wpe_cmp ?_ ?_); rotate_left; focus with_unfolding_all rfl)
  | ((refine wpt_cmp ?_ ?_); rotate_left; focus with_unfolding_all rfl)
  | refine Exists.intro _ (And.intro rfl ?_)
  | (refine' Exists.intro ?w (And.intro ?u ?r); (case u => walk_at "upd1"))
  | (refine wps_consK ?_; intro K hK)
  | refine kWb_ret ?_
  | refine Kn.nx (by assumption) _ _ ?_
  | refine Kn.re (by assumption) _ _ _ ?_
  | (refine' wpe_call (fV := ?V) ?hm ?hu ?kp ?h ?ha; (case hm => (repeat (first | exact List.mem_cons_self | refine List.mem_cons_of_mem _ ?_)); done); (case hu => (first | with_unfolding_all exact rfl | assumption)); (case kp => exact Top0.kp ‹Top0 _› (by kernel_rfl)); (case ha => with_unfolding_all rfl))
  | ((refine wpl_cons ?_ ?_); rotate_left; focus with_unfolding_all rfl)
  | refine wpl_nil ?_
  | ((refine wps_assign ?_ ?_); rotate_left; focus with_unfolding_all rfl)
  | (refine' wps_aug (W := ?W) ?hm ?hu ?q; (case hm => (repeat (first | exact List.mem_cons_self | refine List.mem_cons_of_mem _ ?_)); done); (case hu => (first | with_unfolding_all exact rfl | assumption)))
  | refine wps_if ?_
  | refine wps_ret ?_
  | ((refine wps_expr ?_ ?_); rotate_left; focus with_unfolding_all rfl)
  | ((refine wps_setA ?_ ?_); rotate_left; focus with_unfolding_all (intro env; rfl))
  | ((refine wps_set ?_ ?_); rotate_left; focus with_unfolding_all (intro env; rfl))
  | refine wps_nil ?_
  | refine wpe_str ?_
  | refine wpe_bytes ?_
  | refine wpe_none ?_
  | refine wpe_bool ?_
  | refine wpe_unary ?_
  | refine wpe_boolop ?_
  | refine bo_one ?_
  | refine bo_and ?_
  | refine wpe_ifexp ?_
  | refine wpe_tuple ?_
  | ((refine wpe_attr ?_ ?_); rotate_left; focus with_unfolding_all (intro env; rfl))
  | ((refine wpe_meth ?_ ?_ ?_ ?_ ?_); rotate_left; (focus with_unfolding_all rfl); (focus decide); (focus with_unfolding_all rfl); focus with_unfolding_all (intro env; rfl))
  | refine part_none ?_
  | refine part_some ?_
  | ((refine wpt_chain ?_ ?_); rotate_left; focus with_unfolding_all rfl)
  | refine wpt_not ?_
  | refine wpt_bool ?_
  | refine all_nil_and ?_
  | refine all_nil_or ?_
  | refine all_and ?_
  | refine all_or ?_
  | ((refine wpt_val ?_ ?_); rotate_left; focus with_unfolding_all rfl)
  | refine p_add ?_
  | refine p_sub ?_
  | refine p_iadd ?_
  | refine p_isub ?_
  | refine p_neg ?_
  | refine p_eq ?_
  | refine p_ne ?_
  | refine p_lt ?_
  | refine p_le ?_
  | refine p_gt ?_
  | refine c_max ?_
  | refine c_min ?_
  | refine c_int ?_
  | refine c_intb ?_
  | refine c_range ?_
  | refine And.intro rfl ?_
  | refine if_f ?_
  | refine if_t ?_
  | refine if_nf ?_
  | refine if_nt ?_
  | exact rfl
  | (refine And.intro ?_ ?_; (focus ((try simp only [List.length_cons, List.length_nil, List.length_map, List.length_append, List.length_replicate]); (first | decide | omega)))))
local macro_rules | `(tactic| walk_at "ww") => `(tactic| ((try dsimp only); repeat (walk_at "w")))
local macro_rules | `(tactic| walk_at "st") => `(tactic| (first | (refine wps_consK ?_; intro K hK) | (refine Kn.nx (by assumption) _ _ (wps_consK ?_); intro K hK)))
section
variable {cx : Cx} {k : Nat} {σ : Sto} {Q : Val → Sto → Prop}
theorem f_is_blank {f : Addr} (hf : Fn cx f "is_blank" 11 .none) {c : List Int × Int} (q : Q (.bool (c.1.isEmpty && decide (c.2 = 1))) σ) : WpCode cx (k + 1) (.raw (.ref f)) [cv c] σ Q := by
  refine enter hf ["cell"] [] [] [] rfl (by walk_at "args") (by decide +kernel) trivial ?_
  walk_at "frame"
  walk_at "st"
  walk_at "ww"
  refine sub_at Sq.tup (by decide) (by decide) rfl ?_
  walk_at "ww"
  refine p_eqt ?_
  walk_at "ww"
  refine if_b (fun h => ?_) fun h => ?_
  · walk_at "ww"
    refine sub_at Sq.tup (by decide) (by decide) rfl ?_
    walk_at "ww"
    simpa [h] using q
  · walk_at "ww"
    simpa [h] using q
end
section
variable {cx : Cx} {k : Nat} {σ : Sto} {Q : Val → Sto → Prop}
theorem f_erased_pen (T : Top0 cx) (q : Q penV σ) : WpCode cx (k + 1) (.raw (.ref T.f_erased_pen)) [penV] σ Q := by
  refine enter T.h_erased_pen [Str.ofString "pen"] [] [(Str.ofString "NO_COLOUR", .int (-1)), (Str.ofString "BACK", .int 2)] [] rfl (by walk_at "args") (by walk_at "oks") (by walk_at "gv") ?_
  walk_at "frame"
  walk_at "st"
  walk_at "ww"
  refine sub_at (Sq.tup (Vs := [.int 0, .int (-1), .int (-1), .int (-1), .int 0])) (by decide) (by decide) rfl ?_
  walk_at "ww"
  exact q
theorem f_blank_cell (T : Top0 cx) (q : Q (cv ([], 1)) σ) : WpCode cx (k + 2) (.raw (.ref T.f_blank_cell)) [penV] σ Q := by
  refine enter T.h_blank_cell [Str.ofString "pen"] [] [(Str.ofString "erased_pen", .raw (.ref T.f_erased_pen))] [] rfl (by walk_at "args") (by walk_at "oks") (by walk_at "gv") ?_
  walk_at "frame"
  walk_at "st"
  walk_at "ww"
  refine (f_erased_pen T ?_).call
  walk_at "ww"
  exact q
theorem f_line_blanks (T : Top0 cx) {n : Int} (h0 : 0 ≤ n) (h1 : n ≤ 1000) (q : Q (.lst (List.replicate n.toNat (cv ([], 1)))) σ) : WpCode cx (k + 3) (.raw (.ref T.f_line_blanks)) [.int n, penV] σ Q := by
  refine enter T.h_line_blanks [Str.ofString "many", Str.ofString "pen"] [] [(Str.ofString "blank_cell", .raw (.ref T.f_blank_cell)), (Str.ofString "max", .raw (.builtin "max"))] [] rfl (by walk_at "args") (by walk_at "oks") (by walk_at "gv") ?_
  walk_at "frame"
  walk_at "st"
  walk_at "ww"
  refine wpe_list ?_
  walk_at "ww"
  refine (f_blank_cell T ?_).call
  walk_at "ww"
  rw [show max 0 n = n by omega]
  refine p_mull h0 h1 ?_
  walk_at "ww"
  exact q
/-- a row's cells as data -/
theorem shaped_cells (l : List (List Int × Int)) : SeqAt.shaped (.list (l.map cd)) = true := by
  have c1 : ∀ c : List Int × Int, PyData.canLay0 (cd c) = true := fun c => by
    have := canLay_ints c.1
    simp [cd, penD, PyData.canLay0, PyData.canLayAll0, this]
  have c2 : ∀ c : List Int × Int, PyData.depth (cd c) ≤ 3 := fun c => by
    have := depth_ints c.1
    simp only [cd, penD, PyData.depth, PyData.depthAll]
    exact Nat.succ_le_succ (Nat.max_le.mpr ⟨Nat.succ_le_succ this, by decide⟩)
  have h1 : ∀ l : List (List Int × Int), PyData.canLayAll0 (l.map cd) = true := by
    intro l
    induction l with
    | nil => rfl
    | cons c l ih => rw [List.map_cons, PyData.canLayAll0, c1, ih]; rfl
  have h2 : ∀ l : List (List Int × Int), PyData.depthAll (l.map cd) ≤ 3 := by
    intro l
    induction l with
    | nil => simp [PyData.depthAll]
    | cons c l ih => rw [List.map_cons, PyData.depthAll]; have := c2 c; omega
  unfold SeqAt.shaped
  rw [PyData.canLay0, h1, PyData.depth]
  have := h2 l
  simp
  omega
theorem vds_cells : ∀ l : List (List Int × Int), vds (l.map cd) = l.map cv
  | [] => rfl
  | c :: l => by rw [List.map_cons, vds, vds_cells l, List.map_cons, cv_vd]
theorem eqv_nil_list (l : List PyData) : PyData.eqv (.list l) (.list []) = l.isEmpty := by
  cases l with
  | nil => rfl
  | cons x l => rfl
theorem p_ncl {l : List (List Int × Int)} (q : Q (.bool (!l.isEmpty)) σ) : Wp2 cx k (compareOp .NotEq) (.lst (l.map cv)) (.lst []) σ Q :=
  p_ned (d := .list (l.map cd)) (e := .list []) (.inl (by rw [vd, vds_cells])) (.inl rfl) (shaped_cells l) (by decide) (by rw [eqv_nil_list]; simpa using q)
noncomputable def headW (l : List (List Int × Int)) : Option Int := l.head?.map (·.2)
noncomputable def lastW (l : List (List Int × Int)) : Option Int := l.getLast?.map (·.2)
theorem snoc_of {α : Type} (l : List α) (h : l ≠ []) : ∃ l2 d, l = l2 ++ [d] := ⟨l.dropLast, l.getLast h, (List.dropLast_concat_getLast h).symm⟩
theorem f_line_slice (T : Top0 cx) {l : List (List Int × Int)} (hz : l.length ≤ 1000) (h1 : headW l ≠ some 0) (h2 : lastW l ≠ some 2) (q : Q (.lst (l.map cv)) σ) : WpCode cx (k + 3) (.raw (.ref T.f_line_slice)) [.lst (l.map cv), .int 0, .int (l.length - 1)] σ Q := by
  refine enter T.h_line_slice [Str.ofString "cells", Str.ofString "left", Str.ofString "right"] [Str.ofString "found"] [(Str.ofString "list", .raw (.type "list")), (Str.ofString "max", .raw (.builtin "max")), (Str.ofString "blank_cell", .raw (.ref T.f_blank_cell))] [] rfl (by walk_at "args") (by walk_at "oks") (by walk_at "gv") ?_
  walk_at "frame"
  walk_at "st"
  walk_at "ww"
  rw [show max (0 : Int) 0 = 0 by decide, show max 0 ((l.length : Int) - 1 + 1) = ((l.map cv).length : Int) by rw [List.length_map]; omega]
  refine ⟨_, fun I vs h => pick_all h, ?_⟩
  walk_at "ww"
  refine c_list (by rw [List.length_map]; exact hz) ?_
  walk_at "ww"
  refine wpe_list ?_
  walk_at "ww"
  refine p_ncl ?_
  walk_at "ww"
  refine if_b (fun h => ?_) fun h => ?_
  · obtain ⟨c, l', rfl⟩ : ∃ c l', l = c :: l' := by
      cases l with
      | nil => simp at h
      | cons c l' => exact ⟨c, l', rfl⟩
    have hc : c.2 ≠ 0 := fun e => h1 (by rw [← e]; rfl)
    walk_at "ww"
    refine sub_at Sq.lst (by decide) (by decide) (W := cv c) rfl ?_
    walk_at "ww"
    refine sub_at Sq.tup (by decide) (by decide) rfl ?_
    walk_at "ww"
    rw [decide_eq_false hc]
    walk_at "ww"
    refine wpe_list ?_
    walk_at "ww"
    refine p_ncl ?_
    walk_at "ww"
    rw [h]
    walk_at "ww"
    obtain ⟨l2, d, e⟩ := snoc_of (c :: l') (List.cons_ne_nil _ _)
    have hd : d.2 ≠ 2 := fun e' => h2 (by rw [e]; simp [lastW, e'])
    have ev : Val.lst ((c :: l').map cv) = Val.lst (l2.map cv ++ [cv d]) := by rw [e]; simp
    rw [ev]
    refine sub_last Sq.lst ?_ ?_
    · rw [e] at hz; simp at hz ⊢; omega
    walk_at "ww"
    refine sub_at Sq.tup (by decide) (by decide) rfl ?_
    walk_at "ww"
    rw [decide_eq_false hd]
    walk_at "ww"
    rw [← ev]
    exact q
  · walk_at "ww"
    refine wpe_list ?_
    walk_at "ww"
    refine p_ncl ?_
    walk_at "ww"
    rw [h]
    walk_at "ww"
    exact q
end
section
variable {cx : Cx} {k : Nat} {σ : Sto} {Q : Val → Sto → Prop}
noncomputable abbrev s_cells := Str.ofString "cells"
noncomputable abbrev s_wrap := Str.ofString "is_wrapped"
noncomputable abbrev s_size := Str.ofString "size"
theorem f_Line_init (T : Top0 cx) {x d : Addr} {n : Int} (hx : σ x = some (.inst T.c_Line d)) (hd : σ d = some (.dict [] [])) (hne : x ≠ d) (h0 : 0 ≤ n) (h1 : n ≤ 1000)
    (q : Q .none (σ.set d (.dict [s_cells, s_wrap, s_size] [.lst (List.replicate n.toNat (cv ([], 1))), .bool false, .str (Str.ofString "single")]))) :
    WpCode cx (k + 4) (.raw (.ref T.f_Line_init)) [.raw (.ref x), .int n, penV] σ Q := by
  refine enter T.h_Line_init [Str.ofString "self", Str.ofString "columns", Str.ofString "pen"] [] [(Str.ofString "line_blanks", .raw (.ref T.f_line_blanks)), (Str.ofString "LINE_SIZES", .tup [.str (Str.ofString "single"), .str (Str.ofString "wide"), .str (Str.ofString "top"), .str (Str.ofString "bottom")])] [] rfl (by walk_at "args") (by walk_at "oks") (by walk_at "gv") ?_
  walk_at "frame"
  walk_at "st"
  walk_at "ww"
  refine (f_line_blanks T h0 h1 ?_).call
  walk_at "ww"
  refine seta_inst hx hd T.k_Line T.o_Line_cells (by walk_at "seta") (by decide) ?_
  walk_at "ww"
  refine seta_inst (by rw [Sto.set_ne _ _ hne]; exact hx) (Sto.set_self ..) T.k_Line T.o_Line_is_wrapped (by walk_at "seta") (by decide) ?_
  rw [Sto.set_set]
  walk_at "ww"
  refine sub_at Sq.tup (by decide) (by decide) rfl ?_
  walk_at "ww"
  refine seta_inst (by rw [Sto.set_ne _ _ hne]; exact hx) (Sto.set_self ..) T.k_Line T.o_Line_size (by walk_at "seta") (by decide) ?_
  rw [Sto.set_set]
  walk_at "ww"
  exact q

theorem fz_obj {cx : Cx} {σ σ' : Sto} {x d C : Addr} {ns : List Str} {Vs : List Val} (hx : σ x = none) (hd : σ d = none) (hx' : σ' x = some (.inst C d)) (hd' : σ' d = some (.dict ns Vs)) (hf : ∀ b, b ≠ x → b ≠ d → σ' b = σ b) :
    Fz cx σ' (.raw (.ref x)) (.obj C ns Vs) σ := by
  refine ⟨[x, d], shift_obj hx' hd' (shifts_id Vs), fun b c hb => ?_⟩
  have h1 : b ≠ x := fun e => by subst e; rw [hx] at hb; cases hb
  have h2 : b ≠ d := fun e => by subst e; rw [hd] at hb; cases hb
  exact ⟨by rw [hf b h1 h2]; exact hb, by simp [h1, h2]⟩
/-- a row of the grid -/
noncomputable def lineV (T : Top0 cx) (r : List (List Int × Int) × Bool) : Val := .obj T.c_Line [s_cells, s_wrap, s_size] [.lst (r.1.map cv), .bool r.2, .str (Str.ofString "single")]
theorem f_line_of (T : Top0 cx) {l : List (List Int × Int)} {b : Bool} (hz : l.length ≤ 1000) (h1 : headW l ≠ some 0) (h2 : lastW l ≠ some 2) (q : Q (lineV T (l, b)) σ) : WpCode cx (k + 6) (.raw (.ref T.f_line_of)) [.lst (l.map cv), .bool b] σ Q := by
  obtain ⟨a, vs, n, ed, ha, r⟩ := un_tup T.v_line_of
  refine enterB T.h_line_of [s_cells, s_wrap, s_size] [Str.ofString "found"] [(Str.ofString "Line", .raw (.ref T.c_Line)), (Str.ofString "PLAIN", penV), (Str.ofString "line_slice", .raw (.ref T.f_line_slice)), (Str.ofString "len", .raw (.builtin "len"))] [] (Bs := [.lst (l.map cv), .bool b, .str (Str.ofString "single")]) rfl ?_ (by walk_at "oks") (by walk_at "gv") ?_
  · intro I s us S hus
    obtain ⟨v0, v1, rfl, r0, r1⟩ := two_args r
    obtain ⟨u0, u1, rfl, q0, q1⟩ := two_args hus
    · skip
      refine ⟨[u0, u1, v1], ⟨q0, q1, r1.mono S.base, trivial⟩, fun kV doc pm an cdv ct => ?_⟩
      have ha' := S.sub _ _ (S.base _ _ ha)
      refine BindsTo.of_defaults (T := a) (items := #[v0, v1]) (n := n) ?_ ha' rfl rfl rfl
      exact ed
  walk_at "frame"
  walk_at "st"
  walk_at "ww"
  refine (c_class T.m_Line T.n_Line_init fun x d hx hd hne => ?_).call
  refine f_Line_init T (Sto.set_self ..) (by rw [Sto.set_ne _ _ (Ne.symm hne)]; exact Sto.set_self ..) hne (by decide) (by decide) ?_
  walk_at "ww"
  generalize hσ₁ : ((σ.set d (Cell.dict [] [])).set x (Cell.inst T.c_Line d)).set d (Cell.dict [s_cells, s_wrap, s_size] [.lst (List.replicate (Int.toNat 0) (cv ([], 1))), .bool false, .str (Str.ofString "single")]) = σ₁
  have x1 : σ₁ x = some (.inst T.c_Line d) := by rw [← hσ₁, Sto.set_ne _ _ hne, Sto.set_self]
  have d1 : σ₁ d = some (.dict [s_cells, s_wrap, s_size] [.lst (List.replicate (Int.toNat 0) (cv ([], 1))), .bool false, .str (Str.ofString "single")]) := by rw [← hσ₁, Sto.set_self]
  have f1 : ∀ b, b ≠ x → b ≠ d → σ₁ b = σ b := fun b h1 h2 => by rw [← hσ₁, Sto.set_ne _ _ h2, Sto.set_ne _ _ h1, Sto.set_ne _ _ h2]
  clear hσ₁
  refine c_len SqL.lst (by rw [List.length_map]; omega) ?_
  rw [List.length_map]
  walk_at "ww"
  refine (f_line_slice T hz h1 h2 ?_).call
  walk_at "ww"
  refine seta_inst x1 d1 T.k_Line T.o_Line_cells (by walk_at "seta") (by decide) ?_
  walk_at "ww"
  refine seta_inst (by rw [Sto.set_ne _ _ hne]; exact x1) (Sto.set_self ..) T.k_Line T.o_Line_is_wrapped (by walk_at "seta") (by decide) ?_
  rw [Sto.set_set]
  walk_at "ww"
  refine seta_inst (by rw [Sto.set_ne _ _ hne]; exact x1) (Sto.set_self ..) T.k_Line T.o_Line_size (by walk_at "seta") (by decide) ?_
  rw [Sto.set_set]
  refine Kn.nx (by assumption) _ _ (wps_cons (wps_ret (wpe_fz ?_)))
  walk_at "ww"
  exact ⟨_, σ, fz_obj hx hd (by rw [Sto.set_ne _ _ hne]; exact x1) (Sto.set_self ..) fun b h1 h2 => by rw [Sto.set_ne _ _ h2]; exact f1 b h1 h2, q⟩
theorem upFrom_len : ∀ (i : Int) (n : Nat), (upFrom i n).length = n
  | _, 0 => rfl
  | i, n + 1 => by rw [upFrom, List.length_cons, upFrom_len]
noncomputable abbrev s_rows := Str.ofString "rows"
noncomputable abbrev s_columns := Str.ofString "columns"
noncomputable abbrev s_lines := Str.ofString "lines"
theorem f_Grid_init (T : Top0 cx) {x d : Addr} {n c : Nat} (hx : σ x = some (.inst T.c_Grid d)) (hd : σ d = some (.dict [] [])) (hne : x ≠ d) (h0 : 1 ≤ n) (h1 : n ≤ 100) (h2 : 1 ≤ c) (h3 : c ≤ 100)
    (q : ∀ L Vs, Vs.length = n → σ L = none → Q .none ((σ.set L (.list Vs)).set d (.dict [s_rows, s_columns, s_lines] [.int n, .int c, .raw (.ref L)]))) :
    WpCode cx (k + 6) (.raw (.ref T.f_Grid_init)) [.raw (.ref x), .int n, .int c] σ Q := by
  refine enter T.h_Grid_init [Str.ofString "self", s_rows, s_columns] [] [(Str.ofString "range", .raw (.type "range"))] [s_columns] rfl (by walk_at "args") (by walk_at "oks") (by walk_at "gv") ?_
  walk_at "frame"
  walk_at "st"
  walk_at "ww"
  rw [decide_eq_false (by omega)]
  walk_at "ww"
  rw [decide_eq_false (by omega)]
  walk_at "ww"
  refine seta_inst hx hd T.k_Grid T.o_Grid_rows (by walk_at "seta") (by decide) ?_
  walk_at "ww"
  refine seta_inst (by rw [Sto.set_ne _ _ hne]; exact hx) (Sto.set_self ..) T.k_Grid T.o_Grid_columns (by walk_at "seta") (by decide) ?_
  rw [Sto.set_set]
  walk_at "ww"
  refine wpe_comp [Str.ofString "row"] [(s_columns, .int c)] [(Str.ofString "Line", .raw (.ref T.c_Line)), (Str.ofString "PLAIN", penV)] (by walk_at "oks") (by walk_at "caps") (by walk_at "keys") (by walk_at "gv") (tt := false) (fun h => nomatch h) ?_
  refine wit_rng ?_
  walk_at "ww"
  refine ⟨by rw [upFrom_len]; omega, fun l acc τ => τ = σ.set d (.dict [s_rows, s_columns] [.int n, .int c]) ∧ acc.length + l.length = n, ⟨rfl, by rw [upFrom_len]; simp⟩, ⟨fun _ _ _ _ => trivial, ?_⟩, ?_⟩
  · rintro v l acc τ ⟨rfl, hl⟩
    refine wpa_name .here (ifs_nil (if_t ?_))
    refine wpe_fz ?_
    walk_at "frame"
    walk_at "ww"
    refine (c_class T.m_Line T.n_Line_init fun y e hy he hye => ?_).call
    refine f_Line_init T (Sto.set_self ..) (by rw [Sto.set_ne _ _ (Ne.symm hye)]; exact Sto.set_self ..) hye (by omega) (by omega) ?_
    refine ⟨rfl, _, σ.set d (.dict [s_rows, s_columns] [.int n, .int c]), fz_obj (C := T.c_Line) hy he ?_ (Sto.set_self ..) (fun b b1 b2 => ?_), rfl, ?_⟩
    · rw [Sto.set_ne _ _ hye, Sto.set_self]
    · rw [Sto.set_ne _ _ b2, Sto.set_ne _ _ b1, Sto.set_ne _ _ b2]
    · simp only [List.length_append, List.length_cons, List.length_nil] at hl ⊢; omega
  · rintro acc τ ⟨rfl, hl⟩ L hL
    have hLx : x ≠ L := fun e => by subst e; rw [Sto.set_ne _ _ hne, hx] at hL; cases hL
    have hLd : d ≠ L := fun e => by subst e; rw [Sto.set_self] at hL; cases hL
    have hL0 : σ L = none := by rw [Sto.set_ne _ _ (Ne.symm hLd)] at hL; exact hL
    walk_at "ww"
    refine seta_inst (by rw [Sto.set_ne _ _ hLx, Sto.set_ne _ _ hne]; exact hx) (by rw [Sto.set_ne _ _ hLd]; exact Sto.set_self ..) T.k_Grid T.o_Grid_lines (by walk_at "seta") (by decide) ?_
    walk_at "ww"
    have := q L acc (by simpa using hl) hL0
    rw [Sto.set_comm _ _ _ hLd, Sto.set_set] at *
    exact this
noncomputable abbrev s_history := Str.ofString "history"
noncomputable abbrev s_grid := Str.ofString "grid"
theorem f_View_init (T : Top0 cx) {x d : Addr} {G : Val} (hG : bnd G = true) (hx : σ x = some (.inst T.c_View d)) (hd : σ d = some (.dict [] [])) (hne : x ≠ d)
    (q : Q .none (σ.set d (.dict [s_history, s_grid] [.none, G]))) : WpCode cx (k + 1) (.raw (.ref T.f_View_init)) [.raw (.ref x), .none, G] σ Q := by
  refine enter T.h_View_init [Str.ofString "self", s_history, s_grid] [] [] [] rfl (by walk_at "args") (by walk_at "oks") (by walk_at "gv") ?_
  walk_at "frame"
  walk_at "st"
  walk_at "ww"
  refine seta_inst hx hd T.k_View T.o_View_history (by walk_at "seta") (by decide) ?_
  walk_at "ww"
  refine seta_inst (by rw [Sto.set_ne _ _ hne]; exact hx) (Sto.set_self ..) T.k_View T.o_View_grid (by walk_at "seta") (by decide) ?_
  rw [Sto.set_set]
  walk_at "ww"
  exact q
noncomputable def gridV (T : Top0 cx) (c : Int) (rs : List (List (List Int × Int) × Bool)) : Val := .obj T.c_Grid [s_rows, s_columns, s_lines] [.int rs.length, .int c, .lst (rs.map (lineV T))]
noncomputable def viewV (T : Top0 cx) (c : Int) (rs : List (List (List Int × Int) × Bool)) : Val := .obj T.c_View [s_history, s_grid] [.none, gridV T c rs]
noncomputable def rowV (r : List (List Int × Int)) : Val := .lst (r.map cv)
theorem enums_cons {v : Val} {l : List Val} {α : Type} {f : α → Val} {rs : List α} {j : Nat} (h : v :: l = enums j ((rs.drop j).map f)) : ∃ r, rs[j]? = some r ∧ j < rs.length ∧ v = .tup [.int j, f r] ∧ l = enums ((j + 1 : Nat) : Int) ((rs.drop (j + 1)).map f) := by
  by_cases hj : j < rs.length
  · rw [List.drop_eq_getElem_cons hj, List.map_cons, enums] at h
    obtain ⟨h1, h2⟩ := List.cons.inj h
    exact ⟨rs[j], List.getElem?_eq_getElem hj, hj, h1, by rw [h2]; rfl⟩
  · rw [List.drop_eq_nil_of_le (Nat.not_lt.mp hj)] at h
    cases h
theorem enums_nil {α : Type} {f : α → Val} {rs : List α} {j : Nat} (h : [] = enums j ((rs.drop j).map f)) : rs.length ≤ j := by
  by_cases hj : j < rs.length
  · rw [List.drop_eq_getElem_cons hj, List.map_cons, enums] at h
    cases h
  · exact Nat.not_lt.mp hj
theorem f_law_view (T : Top0 cx) {c : Nat} {rs : List (List (List Int × Int) × Bool)} (h0 : 1 ≤ rs.length) (h1 : rs.length ≤ 100) (h2 : 1 ≤ c) (h3 : c ≤ 100) (hr : ∀ r ∈ rs, r.1.length ≤ 1000 ∧ headW r.1 ≠ some 0 ∧ lastW r.1 ≠ some 2) (q : Q (viewV T c rs) σ) :
    WpCode cx (k + 8) (.raw (.ref T.f_law_view)) [.lst (rs.map fun r => rowV r.1), .lst (rs.map fun r => .bool r.2), .int c] σ Q := by
  refine enter T.h_law_view [s_rows, Str.ofString "joined", s_columns] [s_grid, Str.ofString "row", s_cells] [(Str.ofString "Grid", .raw (.ref T.c_Grid)), (Str.ofString "len", .raw (.builtin "len")), (Str.ofString "enumerate", .raw (.type "enumerate")), (Str.ofString "line_of", .raw (.ref T.f_line_of)), (Str.ofString "list", .raw (.type "list")), (Str.ofString "View", .raw (.ref T.c_View))] [] rfl (by walk_at "args") (by walk_at "oks") (by walk_at "gv") ?_
  walk_at "frame"
  walk_at "st"
  walk_at "ww"
  refine c_len SqL.lst (by rw [List.length_map]; omega) ?_
  rw [List.length_map]
  walk_at "ww"
  refine (c_class T.m_Grid T.n_Grid_init fun x d hx hd hne => ?_).call
  refine f_Grid_init T (Sto.set_self ..) (by rw [Sto.set_ne _ _ (Ne.symm hne)]; exact Sto.set_self ..) hne h0 h1 h2 h3 fun L Vs hVs hL => ⟨rfl, ?_⟩
  generalize hσ₁ : ((((σ.set d (Cell.dict [] [])).set x (Cell.inst T.c_Grid d)).set L (Cell.list Vs)).set d (Cell.dict [s_rows, s_columns, s_lines] [.int rs.length, .int c, .raw (.ref L)])) = σ₁
  have hLx : L ≠ x := fun e => by subst e; rw [Sto.set_self] at hL; cases hL
  have hLd : L ≠ d := fun e => by subst e; rw [Sto.set_ne _ _ (Ne.symm hne), Sto.set_self] at hL; cases hL
  have hL0 : σ L = none := by rw [Sto.set_ne _ _ hLx, Sto.set_ne _ _ hLd] at hL; exact hL
  have x1 : σ₁ x = some (.inst T.c_Grid d) := by rw [← hσ₁, Sto.set_ne _ _ hne, Sto.set_ne _ _ (Ne.symm hLx), Sto.set_self]
  have d1 : σ₁ d = some (.dict [s_rows, s_columns, s_lines] [.int rs.length, .int c, .raw (.ref L)]) := by rw [← hσ₁, Sto.set_self]
  have L1 : σ₁ L = some (.list Vs) := by rw [← hσ₁, Sto.set_ne _ _ hLd, Sto.set_self]
  have f1 : ∀ b, b ≠ x → b ≠ d → b ≠ L → σ₁ b = σ b := fun b h1 h2 h3 => by rw [← hσ₁, Sto.set_ne _ _ h2, Sto.set_ne _ _ h3, Sto.set_ne _ _ h1, Sto.set_ne _ _ h2]
  clear hσ₁
  walk_at "ww"
  refine wps_for (tt := true) (fun _ => ⟨_, _, _, rfl⟩) ?_
  refine wit_enum (Or.inr (by walk_at "mem")) ?_
  walk_at "ww"
  refine ⟨fun l m τ => ∃ A B Ws j, j ≤ rs.length ∧ l = enums j ((rs.drop j).map fun r => rowV r.1) ∧ m = ⟨[(s_rows, .lst (rs.map fun r => rowV r.1)), (Str.ofString "joined", .lst (rs.map fun r => .bool r.2)), (s_columns, .int c), (s_grid, .raw (.ref x)), (Str.ofString "row", A), (s_cells, B)],
    [(Str.ofString "Grid", .raw (.ref T.c_Grid)), (Str.ofString "len", .raw (.builtin "len")), (Str.ofString "enumerate", .raw (.type "enumerate")), (Str.ofString "line_of", .raw (.ref T.f_line_of)), (Str.ofString "list", .raw (.type "list")), (Str.ofString "View", .raw (.ref T.c_View))], []⟩ ∧
    τ x = some (.inst T.c_Grid d) ∧ τ d = some (.dict [s_rows, s_columns, s_lines] [.int rs.length, .int c, .raw (.ref L)]) ∧ τ L = some (.list Ws) ∧ Ws.length = rs.length ∧ Ws.take j = (rs.take j).map (lineV T) ∧ ∀ b, b ≠ x → b ≠ d → b ≠ L → τ b = σ b,
    ⟨.unbound, .unbound, Vs, 0, Nat.zero_le _, by simp, rfl, x1, d1, L1, hVs, by simp, f1⟩, fun _ _ _ _ => trivial, ?_, ?_⟩
  · rintro v l m τ _ ⟨A, B, Ws, j, hj, hl, rfl, xt, dt, Lt, hWs, htk, ft⟩
    obtain ⟨r, hr', hlt, rfl, rfl⟩ := enums_cons hl
    obtain ⟨z1, z2, z3⟩ := hr r (List.mem_of_getElem? hr')
    refine wpa_tuple (wpal_cons (wpa_name (by walk_at "upd") (wpal_cons (wpa_name (by walk_at "upd") (wpal_nil ?_)))))
    walk_at "ww"
    refine c_list (by rw [List.length_map]; exact z1) ?_
    walk_at "ww"
    refine sub_at Sq.lst (by omega) (by omega) (W := .bool r.2) (by simp [hr']) ?_
    walk_at "ww"
    refine (f_line_of T z1 z2 z3 ?_).call
    walk_at "ww"
    refine' attr_inst xt dt T.k_Grid T.o_Grid_lines ?l ?o ?q
    case l => walk_at "look"
    case o => rfl
    walk_at "ww"
    refine set_list Lt (by omega) (by omega) (by omega) ?_
    walk_at "ww"
    refine ⟨_, _, _, j + 1, hlt, rfl, rfl, ?_, ?_, Sto.set_self .., ?_, ?_, fun b b1 b2 b3 => ?_⟩
    · rw [Sto.set_ne _ _ (Ne.symm hLx)]; exact xt
    · rw [Sto.set_ne _ _ (Ne.symm hLd)]; exact dt
    · rw [List.length_set]; exact hWs
    · rw [List.take_add_one, List.take_add_one, hr', List.map_append, Int.toNat_natCast, List.getElem?_set_self (by omega)]
      have e : (Ws.set j (lineV T (r.1, r.2))).take j = Ws.take j := by
        apply List.ext_getElem?
        intro i
        by_cases hi : i < j
        · rw [List.getElem?_take_of_lt hi, List.getElem?_take_of_lt hi, List.getElem?_set_ne (by omega)]
        · rw [List.getElem?_take_eq_none (by omega), List.getElem?_take_eq_none (by omega)]
      rw [e, htk]
      rfl
    · rw [Sto.set_ne _ _ b3]; exact ft b b1 b2 b3
  · rintro m τ _ ⟨A, B, Ws, j, hj, hl, rfl, xt, dt, Lt, hWs, htk, ft⟩
    have hj' := enums_nil hl
    have ej : j = rs.length := by omega
    subst ej
    rw [List.take_length] at htk
    have eW : Ws = rs.map (lineV T) := by rw [← htk, ← hWs, List.take_length]
    subst eW
    refine Kn.nx (by assumption) _ _ (wps_cons (wps_ret (wpe_fz ?_)))
    walk_at "w"
    walk_at "w"
    walk_at "w"
    walk_at "w"
    refine wpe_fz ?_
    walk_at "w"
    refine ⟨gridV T c rs, σ, ⟨_, shift_obj xt dt (shifts_cons (shift_id _) (shifts_cons (shift_id _) (shifts_cons (shift_lst Lt (shifts_id _)) shifts_nil))), fun b e hb => ?_⟩, ?_⟩
    · have b1 : b ≠ x := fun e => by subst e; rw [hx] at hb; cases hb
      have b2 : b ≠ d := fun e => by subst e; rw [hd] at hb; cases hb
      have b3 : b ≠ L := fun e => by subst e; rw [hL0] at hb; cases hb
      exact ⟨by rw [ft b b1 b2 b3]; exact hb, by simp [b1, b2, b3]⟩
    walk_at "ww"
    refine (c_class T.m_View T.n_View_init fun y e hy he hye => ?_).call
    refine f_View_init T rfl (Sto.set_self ..) (by rw [Sto.set_ne _ _ (Ne.symm hye)]; exact Sto.set_self ..) hye ⟨rfl, ?_⟩
    refine ⟨viewV T c rs, σ, fz_obj (C := T.c_View) hy he ?_ (Sto.set_self ..) (fun b b1 b2 => ?_), q⟩
    · rw [Sto.set_ne _ _ hye, Sto.set_self]
    · rw [Sto.set_ne _ _ b2, Sto.set_ne _ _ b1, Sto.set_ne _ _ b2]
end
noncomputable abbrev CellT := List Int × Int
noncomputable abbrev RowT := List CellT × Bool
noncomputable def WfRows (rs : List RowT) : Prop := ∀ i r, rs[i]? = some r → r.2 = true → i + 1 < rs.length
noncomputable def blankC (c : CellT) : Bool := c.1.isEmpty && decide (c.2 = 1)
noncomputable def strip (cells : List CellT) : Nat → Nat
  | 0 => 0
  | n + 1 => match cells[n]? with
    | some c => if blankC c then strip cells n else n + 1
    | none => n + 1
noncomputable def rowWidth (r : RowT) : Nat := if r.2 then r.1.length else strip r.1 r.1.length
theorem strip_le (cells : List CellT) : ∀ n, strip cells n ≤ n
  | 0 => Nat.le_refl _
  | n + 1 => by
    unfold strip
    cases cells[n]? with
    | none => exact Nat.le_refl _
    | some c =>
      dsimp only
      split
      · exact Nat.le_succ_of_le (strip_le cells n)
      · exact Nat.le_refl _
theorem rowWidth_le (r : RowT) : rowWidth r ≤ r.1.length := by
  unfold rowWidth
  split
  · exact Nat.le_refl _
  · exact strip_le _ _
section
variable {cx : Cx} {k : Nat} {σ : Sto} {Q : Val → Sto → Prop}
theorem f_View_above (T : Top0 cx) {c : Int} {rs : List RowT} (q : Q (.int 0) σ) : WpCode cx (k + 1) (.raw (.ref T.f_View_above)) [viewV T c rs] σ Q := by
  refine enter T.h_View_above [Str.ofString "self"] [] [(Str.ofString "len", .raw (.builtin "len"))] [] rfl (by walk_at "args") (by walk_at "oks") (by walk_at "gv") ?_
  walk_at "frame"
  walk_at "st"
  walk_at "ww"
  walk_at "attr"
  walk_at "ww"
  refine p_is_none_none ?_
  walk_at "ww"
  exact q
theorem f_View_rows (T : Top0 cx) {c : Int} {rs : List RowT} (hz : rs.length ≤ 1000) (q : Q (.int rs.length) σ) : WpCode cx (k + 2) (.raw (.ref T.f_View_rows)) [viewV T c rs] σ Q := by
  refine enter T.h_View_rows [Str.ofString "self"] [] [(Str.ofString "len", .raw (.builtin "len"))] [] rfl (by walk_at "args") (by walk_at "oks") (by walk_at "gv") ?_
  walk_at "frame"
  walk_at "st"
  walk_at "ww"
  walk_at "meth"
  walk_at "ww"
  refine (f_View_above T ?_).call
  walk_at "ww"
  walk_at "attr"
  walk_at "ww"
  walk_at "attr"
  walk_at "ww"
  refine c_len SqL.lst (by rw [List.length_map]; omega) ?_
  rw [List.length_map]
  walk_at "ww"
  simpa using q
theorem f_View_line (T : Top0 cx) {c : Int} {rs : List RowT} {i : Nat} {r : RowT} (hr : rs[i]? = some r) (hz : rs.length ≤ 1000) (q : Q (lineV T r) σ) : WpCode cx (k + 2) (.raw (.ref T.f_View_line)) [viewV T c rs, .int i] σ Q := by
  have hi : i < rs.length := (List.getElem?_eq_some_iff.mp hr).1
  refine enter T.h_View_line [Str.ofString "self", Str.ofString "row"] [Str.ofString "above"] [] [] rfl (by walk_at "args") (by walk_at "oks") (by walk_at "gv") ?_
  walk_at "frame"
  walk_at "st"
  walk_at "ww"
  walk_at "meth"
  walk_at "ww"
  refine (f_View_above T ?_).call
  walk_at "ww"
  rw [decide_eq_false (by omega)]
  walk_at "ww"
  walk_at "attr"
  walk_at "ww"
  walk_at "attr"
  walk_at "ww"
  refine sub_at Sq.lst (by omega) (by omega) (W := lineV T r) (by simp [hr]) ?_
  walk_at "ww"
  exact q
theorem f_View_is_joined (T : Top0 cx) {c : Int} {rs : List RowT} {i : Nat} {r : RowT} (hw : WfRows rs) (hr : rs[i]? = some r) (hz : rs.length ≤ 1000) (q : Q (.bool r.2) σ) : WpCode cx (k + 3) (.raw (.ref T.f_View_is_joined)) [viewV T c rs, .int i] σ Q := by
  have hi : i < rs.length := (List.getElem?_eq_some_iff.mp hr).1
  refine enter T.h_View_is_joined [Str.ofString "self", Str.ofString "row"] [] [] [] rfl (by walk_at "args") (by walk_at "oks") (by walk_at "gv") ?_
  walk_at "frame"
  walk_at "st"
  walk_at "w"
  walk_at "w"
  walk_at "w"
  refine wpe_chain ?_
  walk_at "ww"
  rw [decide_eq_true (by omega)]
  walk_at "ww"
  walk_at "meth"
  walk_at "ww"
  refine (f_View_rows T hz ?_).call
  walk_at "ww"
  refine if_b (fun h => ?_) fun h => ?_
  · walk_at "ww"
    walk_at "meth"
    walk_at "ww"
    refine (f_View_line T hr hz ?_).call
    walk_at "ww"
    walk_at "attr"
    walk_at "ww"
    exact q
  · walk_at "ww"
    have e : r.2 = false := by
      cases hb : r.2 with
      | false => rfl
      | true =>
        have := hw i r hr hb
        have := of_decide_eq_false h
        omega
    rw [e] at q
    exact q
end
noncomputable def cellCodes (c : CellT) : List Int := if c.2 = 0 then [] else if c.1.isEmpty then [32] else c.1
/-- a joined row is filled to its end -/
noncomputable def Filled (rs : List RowT) : Prop := ∀ r ∈ rs, r.2 = true → ∃ l d, r.1 = l ++ [d] ∧ blankC d = false
section
variable {cx : Cx} {k : Nat} {σ : Sto} {Q : Val → Sto → Prop}
theorem f_cell_codes (T : Top0 cx) {c : CellT} (q : Q (.tup ((cellCodes c).map .int)) σ) : WpCode cx (k + 1) (.raw (.ref T.f_cell_codes)) [cv c] σ Q := by
  refine enter T.h_cell_codes [Str.ofString "cell"] [] [(Str.ofString "BLANK", .int 32)] [] rfl (by walk_at "args") (by walk_at "oks") (by walk_at "gv") ?_
  walk_at "frame"
  walk_at "st"
  walk_at "ww"
  refine sub_at Sq.tup (by decide) (by decide) rfl ?_
  walk_at "ww"
  refine if_b (fun h => ?_) fun h => ?_
  · walk_at "ww"
    simpa [cellCodes, of_decide_eq_true h] using q
  · walk_at "ww"
    refine sub_at Sq.tup (by decide) (by decide) rfl ?_
    walk_at "ww"
    refine p_net ?_
    walk_at "ww"
    refine if_b (fun h' => ?_) fun h' => ?_
    · walk_at "ww"
      refine sub_at Sq.tup (by decide) (by decide) rfl ?_
      walk_at "ww"
      have e : cellCodes c = c.1 := by
        unfold cellCodes
        rw [if_neg (of_decide_eq_false h), if_neg (by simpa using h')]
      rw [e] at q
      exact q
    · walk_at "ww"
      have e : cellCodes c = [32] := by
        unfold cellCodes
        rw [if_neg (of_decide_eq_false h), if_pos (by simpa using h')]
      rw [e] at q
      exact q
theorem f_view_width (T : Top0 cx) {c : Int} {rs : List RowT} {i : Nat} {r : RowT} (hw : WfRows rs) (hf : Filled rs) (hr : rs[i]? = some r) (hz : rs.length ≤ 1000) (hz' : ∀ r ∈ rs, r.1.length ≤ 1000) (q : Q (.int (rowWidth r)) σ) : WpCode cx (k + 4) (.raw (.ref T.f_view_width)) [viewV T c rs, .int i] σ Q := by
  have hi : i < rs.length := (List.getElem?_eq_some_iff.mp hr).1
  have hrz := hz' r (List.mem_of_getElem? hr)
  refine enter T.h_view_width [Str.ofString "view", Str.ofString "row"] [s_cells, Str.ofString "behind", Str.ofString "is_free", Str.ofString "last"] [(Str.ofString "is_blank", .raw (.ref T.f_is_blank)), (Str.ofString "len", .raw (.builtin "len")), (Str.ofString "int", .raw (.type "int"))] [] rfl (by walk_at "args") (by walk_at "oks") (by walk_at "gv") ?_
  walk_at "frame"
  walk_at "st"
  walk_at "ww"
  walk_at "meth"
  walk_at "ww"
  refine (f_View_line T hr hz ?_).call
  walk_at "ww"
  walk_at "attr"
  walk_at "ww"
  walk_at "meth"
  walk_at "ww"
  refine (f_View_is_joined T hw hr hz ?_).call
  walk_at "ww"
  refine if_b (fun h => ?_) fun h => ?_
  · obtain ⟨l, d, e, hb⟩ := hf r (List.mem_of_getElem? hr) h
    obtain ⟨r2, hr2⟩ : ∃ r2, rs[i + 1]? = some r2 := ⟨_, List.getElem?_eq_getElem (hw i r hr h)⟩
    walk_at "ww"
    walk_at "meth"
    walk_at "ww"
    rw [show ((i : Int) + 1) = ((i + 1 : Nat) : Int) by omega]
    refine (f_View_line T hr2 hz ?_).call
    walk_at "ww"
    walk_at "attr"
    walk_at "ww"
    refine wpe_list ?_
    walk_at "ww"
    refine p_ncl ?_
    walk_at "ww"
    rw [show (!(r.1).isEmpty) = true by rw [e]; simp]
    walk_at "ww"
    have ev : Val.lst (r.1.map cv) = Val.lst (l.map cv ++ [cv d]) := by rw [e]; simp
    rw [ev]
    refine sub_last Sq.lst ?_ ?_
    · rw [e] at hrz; simp at hrz ⊢; omega
    walk_at "ww"
    refine (f_is_blank (T.h_is_blank) ?_).call
    walk_at "ww"
    rw [show (d.1.isEmpty && decide (d.2 = 1)) = false from hb]
    walk_at "ww"
    refine c_len SqL.lst ?_ ?_
    · rw [e] at hrz; simp at hrz ⊢; omega
    walk_at "ww"
    have er : rowWidth r = r.1.length := by unfold rowWidth; rw [if_pos h]
    rw [er] at q
    rw [e] at q
    simpa using q
  · walk_at "ww"
    refine c_len SqL.lst (by rw [List.length_map]; omega) ?_
    rw [List.length_map]
    walk_at "ww"
    have er : rowWidth r = strip r.1 r.1.length := by unfold rowWidth; rw [if_neg (by simp [h])]
    rw [er] at q
    refine wps_while (fun n m τ => n ≤ r.1.length ∧ strip r.1 n = strip r.1 r.1.length ∧ τ = σ ∧ m = ⟨[(Str.ofString "view", viewV T c rs), (Str.ofString "row", .int i), (s_cells, .lst (r.1.map cv)), (Str.ofString "behind", .unbound), (Str.ofString "is_free", .unbound), (Str.ofString "last", .int n)], [(Str.ofString "is_blank", .raw (.ref T.f_is_blank)), (Str.ofString "len", .raw (.builtin "len")), (Str.ofString "int", .raw (.type "int"))], []⟩) r.1.length ⟨Nat.le_refl _, rfl, rfl, rfl⟩ ?_
    rintro n m τ _ ⟨hn, hs, rfl, rfl⟩
    walk_at "ww"
    refine if_b (fun h0 => ?_) fun h0 => ?_
    · have h0 := of_decide_eq_true h0
      obtain ⟨n, rfl⟩ : ∃ n', n = n' + 1 := ⟨n - 1, by omega⟩
      obtain ⟨d, hd⟩ : ∃ d, r.1[n]? = some d := ⟨_, List.getElem?_eq_getElem (by omega)⟩
      walk_at "ww"
      refine sub_at Sq.lst (by omega) (by omega) (W := cv d) ?_ ?_
      · rw [show (((n + 1 : Nat) : Int) - 1).toNat = n by omega]; simp [hd]
      walk_at "ww"
      refine (f_is_blank (T.h_is_blank) ?_).call
      walk_at "ww"
      refine if_b (fun hb => ?_) fun hb => ?_
      · walk_at "ww"
        refine ⟨n, Nat.lt_succ_self _, by omega, ?_, rfl, ?_⟩
        · rw [← hs]
          show _ = strip r.1 (n + 1)
          conv => rhs; unfold strip
          rw [hd]
          dsimp only
          rw [if_pos (show blankC d = true from hb)]
        · rw [show (((n + 1 : Nat) : Int) - 1) = n by omega]
      · walk_at "ww"
        have e : strip r.1 (n + 1) = n + 1 := by
          conv => lhs; unfold strip
          rw [hd]
          dsimp only
          rw [if_neg (by rw [show blankC d = false from hb]; decide)]
        rw [← hs, e] at q
        exact q
    · walk_at "ww"
      have h0 := of_decide_eq_false h0
      have e : n = 0 := by omega
      subst e
      rw [← hs] at q
      exact q
end
noncomputable abbrev TripT := Int × Int × Int
noncomputable def tv (t : TripT) : Val := .tup [.int t.1, .int t.2.1, .int t.2.2]
noncomputable def cellTrips (i : Int) : Int → List CellT → List TripT
  | _, [] => []
  | j, c :: cs => (cellCodes c).map (fun code => (code, i, j)) ++ cellTrips i (j + 1) cs
noncomputable def rowTrips (i : Int) (r : RowT) : List TripT := cellTrips i 0 (r.1.take (rowWidth r)) ++ if r.2 then [] else [(10, i, (rowWidth r : Int))]
noncomputable def rowsTrips : Int → List RowT → List TripT
  | _, [] => []
  | i, r :: rs => rowTrips i r ++ rowsTrips (i + 1) rs
theorem upFrom_cons {v : Val} {l : List Val} {j n : Nat} (h : v :: l = upFrom (j : Int) (n - j)) : j < n ∧ v = .int j ∧ l = upFrom ((j + 1 : Nat) : Int) (n - (j + 1)) := by
  by_cases hj : j < n
  · rw [sub_back hj, upFrom] at h
    obtain ⟨h1, h2⟩ := List.cons.inj h
    exact ⟨hj, h1, h2⟩
  · rw [Nat.sub_eq_zero_of_le (Nat.not_lt.mp hj)] at h
    cases h
theorem upFrom_nil {j n : Nat} (h : [] = upFrom (j : Int) (n - j)) : n ≤ j := by
  by_cases hj : j < n
  · rw [sub_back hj, upFrom] at h
    cases h
  · omega
section
variable {cx : Cx} {k : Nat} {σ : Sto} {Q : Val → Sto → Prop}
theorem f_view_codes (T : Top0 cx) {c : Int} {rs : List RowT} (hw : WfRows rs) (hf : Filled rs) (hz : rs.length ≤ 100) (hz' : ∀ r ∈ rs, r.1.length ≤ 100) (ht : (rowsTrips 0 rs).length ≤ 900) (q : Q (.lst ((rowsTrips 0 rs).map tv)) σ) :
    WpCode cx (k + 5) (.raw (.ref T.f_view_codes)) [viewV T c rs] σ Q := by
  refine enter T.h_view_codes [Str.ofString "view"] [Str.ofString "found", Str.ofString "row", Str.ofString "width", Str.ofString "column", Str.ofString "cell"]
    [(Str.ofString "range", .raw (.type "range")), (Str.ofString "view_width", .raw (.ref T.f_view_width)), (Str.ofString "enumerate", .raw (.type "enumerate")), (Str.ofString "cell_codes", .raw (.ref T.f_cell_codes)), (Str.ofString "LINE_FEED", .int 10)] [Str.ofString "row", Str.ofString "column"] rfl (by walk_at "args") (by walk_at "oks") (by walk_at "gv") ?_
  walk_at "frame"
  walk_at "st"
  walk_at "w"
  refine wpe_listm ?_
  walk_at "ww"
  intro a ha
  walk_at "ww"
  refine wps_for (tt := false) (fun h => nomatch h) ?_
  refine wit_rng ?_
  walk_at "ww"
  walk_at "meth"
  walk_at "ww"
  refine (f_View_rows T (by omega) ?_).call
  walk_at "ww"
  refine ⟨fun l m τ => ∃ A B C D j acc, j ≤ rs.length ∧ l = upFrom (j : Int) (rs.length - j) ∧ acc ++ rowsTrips j (rs.drop j) = rowsTrips 0 rs ∧ τ = σ.set a (.list (acc.map tv)) ∧
    m = ⟨[(Str.ofString "view", viewV T c rs), (Str.ofString "found", .raw (.ref a)), (Str.ofString "row", A), (Str.ofString "width", B), (Str.ofString "column", C), (Str.ofString "cell", D)],
      [(Str.ofString "range", .raw (.type "range")), (Str.ofString "view_width", .raw (.ref T.f_view_width)), (Str.ofString "enumerate", .raw (.type "enumerate")), (Str.ofString "cell_codes", .raw (.ref T.f_cell_codes)), (Str.ofString "LINE_FEED", .int 10)], [Str.ofString "row", Str.ofString "column"]⟩,
    ⟨.unbound, .unbound, .unbound, .unbound, 0, [], Nat.zero_le _, rfl, rfl, rfl, rfl⟩, fun _ _ _ _ => trivial, ?_, ?_⟩
  · rintro v l m τ _ ⟨A, B, C, D, j, acc, hj, hl, hacc, rfl, rfl⟩
    obtain ⟨hlt, rfl, rfl⟩ := upFrom_cons hl
    obtain ⟨r, hr⟩ : ∃ r, rs[j]? = some r := ⟨_, List.getElem?_eq_getElem hlt⟩
    have hdrop : rs.drop j = r :: rs.drop (j + 1) := by
      rw [List.drop_eq_getElem_cons hlt]
      congr 1
      exact Option.some.inj ((List.getElem?_eq_getElem hlt).symm.trans hr)
    refine wpa_name (by walk_at "upd") ?_
    walk_at "ww"
    refine (f_view_width T hw hf hr (by omega) (fun r hr => Nat.le_trans (hz' r hr) (by decide)) ?_).call
    walk_at "ww"
    refine wps_for (tt := true) (fun _ => ⟨_, _, _, rfl⟩) ?_
    refine wit_enum (Or.inr (by walk_at "mem")) ?_
    walk_at "ww"
    walk_at "meth"
    walk_at "ww"
    refine (f_View_line T hr (by omega) ?_).call
    walk_at "ww"
    walk_at "attr"
    have hrz := hz' r (List.mem_of_getElem? hr)
    walk_at "ww"
    refine ⟨_, fun I vs h => pick_upto (by omega) h, ?_⟩
    rw [Int.toNat_natCast, ← List.map_take]
    walk_at "ww"
    have tot : acc ++ (cellTrips j 0 (r.1.take (rowWidth r)) ++ ((if r.2 then [] else [(10, (j : Int), (rowWidth r : Int))]) ++ rowsTrips ((j + 1 : Nat) : Int) (rs.drop (j + 1)))) = rowsTrips 0 rs := by
      rw [← hacc, hdrop]
      show _ = acc ++ (rowTrips j r ++ rowsTrips ((j : Int) + 1) (rs.drop (j + 1)))
      unfold rowTrips
      rw [List.append_assoc]
      rfl
    generalize hcs : r.1.take (rowWidth r) = cs at tot ⊢
    have lcs : cs.length ≤ 100 := by rw [← hcs, List.length_take]; omega
    have lt : ∀ {x y : List TripT}, acc ++ (x ++ y) = rowsTrips 0 rs → acc.length + x.length ≤ 900 := fun {x y} e => by
      have := congrArg List.length e
      simp only [List.length_append] at this
      omega
    refine ⟨fun l m τ => ∃ C D jj acc2, jj ≤ cs.length ∧ l = enums (jj : Int) ((cs.drop jj).map cv) ∧ acc2 ++ cellTrips j jj (cs.drop jj) = cellTrips j 0 cs ∧ τ = σ.set a (.list ((acc ++ acc2).map tv)) ∧
      m = ⟨[(Str.ofString "view", viewV T c rs), (Str.ofString "found", .raw (.ref a)), (Str.ofString "row", .int j), (Str.ofString "width", .int (rowWidth r)), (Str.ofString "column", C), (Str.ofString "cell", D)],
        [(Str.ofString "range", .raw (.type "range")), (Str.ofString "view_width", .raw (.ref T.f_view_width)), (Str.ofString "enumerate", .raw (.type "enumerate")), (Str.ofString "cell_codes", .raw (.ref T.f_cell_codes)), (Str.ofString "LINE_FEED", .int 10)], [Str.ofString "row", Str.ofString "column"]⟩,
      ⟨C, D, 0, [], Nat.zero_le _, rfl, rfl, by rw [List.append_nil], rfl⟩, fun _ _ _ _ => trivial, ?_, ?_⟩
    · rintro v l m τ _ ⟨C, D, jj, acc2, hjj, hl, hacc2, rfl, rfl⟩
      obtain ⟨d, hd, hlt2, rfl, rfl⟩ := enums_cons hl
      have hdrop2 : cs.drop jj = d :: cs.drop (jj + 1) := by
        rw [List.drop_eq_getElem_cons hlt2]
        congr 1
        exact Option.some.inj ((List.getElem?_eq_getElem hlt2).symm.trans hd)
      have hacc3 : (acc2 ++ (cellCodes d).map (fun code => (code, (j : Int), (jj : Int)))) ++ cellTrips j ((jj + 1 : Nat) : Int) (cs.drop (jj + 1)) = cellTrips j 0 cs := by
        rw [← hacc2, hdrop2, List.append_assoc]
        rfl
      refine wpa_tuple (wpal_cons (wpa_name (by walk_at "upd") (wpal_cons (wpa_name (by walk_at "upd") (wpal_nil ?_)))))
      walk_at "w"
      walk_at "w"
      walk_at "w"
      walk_at "w"
      refine meth_list (Sto.set_self ..) PySem.F.slot_list_extend PySem.F.type_list_extend ⟨kp_builtin, ?_⟩
      walk_at "w"
      refine wpe_fz (wpe_comp [Str.ofString "code"] [(Str.ofString "row", .int j), (Str.ofString "column", .int jj)] [] (by walk_at "oks") (by walk_at "caps") (by walk_at "keys") trivial (tt := false) (fun h => nomatch h) ?_)
      refine wit_tup ?_
      walk_at "ww"
      refine (f_cell_codes T ?_).call
      refine ⟨_, rfl, ?_, fun l ac τ => Hold (τ = σ.set a (.list ((acc ++ acc2).map tv)) ∧ ∃ done rest, cellCodes d = done ++ rest ∧ l = rest.map .int ∧ ac = done.map (fun code => tv (code, (j : Int), (jj : Int)))), Hold.mk ⟨rfl, [], _, rfl, rfl, rfl⟩, ⟨fun _ _ _ _ => trivial, ?_⟩, ?_⟩
      · rw [List.length_map]
        have := lt (x := cellTrips j 0 cs) tot
        rw [← hacc3] at this
        simp only [List.length_append, List.length_map] at this
        omega
      · rintro v l ac τ ⟨rfl, done, rest, e1, e2, rfl⟩
        cases rest with
        | nil => cases e2
        | cons x rest =>
          obtain ⟨rfl, rfl⟩ := List.cons.inj e2
          refine wpa_name .here (ifs_nil (if_t ?_))
          walk_at "frame"
          walk_at "ww"
          exact Hold.mk ⟨rfl, done ++ [x], rest, by rw [e1]; simp, rfl, by simp [tv]⟩
      · rintro ac τ ⟨rfl, done, rest, e1, e2, rfl⟩ L hL
        have er : rest = [] := by cases rest with
          | nil => rfl
          | cons _ _ => cases e2
        subst er
        rw [List.append_nil] at e1
        subst e1
        refine ⟨_, σ.set a (.list ((acc ++ acc2).map tv)), fz_lst hL, ?_⟩
        walk_at "ww"
        refine c_extend (Sto.set_self ..) ?_ ?_
        · have := lt (x := cellTrips j 0 cs) tot
          rw [← hacc3] at this
          simp only [List.length_append, List.length_map] at this ⊢
          omega
        refine ⟨rfl, ?_⟩
        walk_at "ww"
        refine ⟨_, _, jj + 1, acc2 ++ (cellCodes d).map (fun code => (code, (j : Int), (jj : Int))), hlt2, rfl, hacc3, ?_, rfl⟩
        rw [Sto.set_set]
        congr 2
        simp [Function.comp_def]
    · rintro m τ _ ⟨C, D, jj, acc2, hjj, hl, hacc2, rfl, rfl⟩
      have hge := enums_nil hl
      rw [List.drop_eq_nil_of_le hge] at hacc2
      have e2 : acc2 = cellTrips j 0 cs := by rw [← hacc2]; simp [cellTrips]
      subst e2
      walk_at "ww"
      walk_at "meth"
      walk_at "ww"
      refine (f_View_is_joined T hw hr (by omega) ?_).call
      walk_at "ww"
      refine if_b (fun h => ?_) fun h => ?_
      · have h : r.2 = false := by simpa using h
        rw [h] at tot
        walk_at "w"
        walk_at "w"
        walk_at "w"
        walk_at "w"
        refine meth_list (Sto.set_self ..) PySem.F.slot_list_append PySem.F.type_list_append ⟨kp_builtin, ?_⟩
        walk_at "ww"
        have lz := lt (x := cellTrips j 0 cs) tot
        refine c_append (Sto.set_self ..) (by simp only [List.length_append, List.length_map]; omega) ⟨rfl, ?_⟩
        walk_at "ww"
        refine ⟨_, _, _, _, j + 1, acc ++ cellTrips j 0 cs ++ [(10, (j : Int), (rowWidth r : Int))], hlt, rfl, ?_, ?_, rfl⟩
        · rw [← tot]; simp
        · rw [Sto.set_set]; simp [tv]
      · have h : r.2 = true := by simpa using h
        rw [h] at tot
        walk_at "ww"
        refine ⟨_, _, _, _, j + 1, acc ++ cellTrips j 0 cs, hlt, rfl, ?_, rfl, rfl⟩
        rw [← tot]; simp
  · rintro m τ _ ⟨A, B, C, D, j, acc, hj, hl, hacc, rfl, rfl⟩
    have hge := upFrom_nil hl
    rw [List.drop_eq_nil_of_le hge] at hacc
    have e2 : acc = rowsTrips 0 rs := by rw [← hacc]; simp [rowsTrips]
    subst e2
    refine Kn.nx (by assumption) _ _ (wps_cons (wps_ret (wpe_fz ?_)))
    walk_at "ww"
    exact ⟨_, σ, fz_lst ha, q⟩
end
noncomputable abbrev SignT := (Int × Int) × Int
noncomputable def sg (s : SignT) : Val := .tup [pl s.1, .int s.2]
noncomputable def sd (s : SignT) : PyData := .tuple [.tuple [.int s.1.1, .int s.1.2], .int s.2]
theorem sg_vd (s : SignT) : sg s = vd (sd s) := by simp [sg, sd, vd, vds, pl]
theorem vds_signs : ∀ l : List SignT, vds (l.map sd) = l.map sg
  | [] => rfl
  | s :: l => by rw [List.map_cons, vds, vds_signs l, List.map_cons, sg_vd]
noncomputable def pushS (acc : List SignT) (t : TripT) : List SignT := if acc.getLast?.map (·.1) = some (t.2.1, t.2.2) then acc else acc ++ [((t.2.1, t.2.2), t.1)]
noncomputable def dedup (ts : List TripT) : List SignT := ts.foldl pushS []
theorem shaped_signs (l : List SignT) : SeqAt.shaped (.list (l.map sd)) = true := by
  have h1 : ∀ l : List SignT, PyData.canLayAll0 (l.map sd) = true := by
    intro l
    induction l with
    | nil => rfl
    | cons c l ih => rw [List.map_cons, PyData.canLayAll0, ih]; rfl
  have h2 : ∀ l : List SignT, PyData.depthAll (l.map sd) ≤ 3 := by
    intro l
    induction l with
    | nil => simp [PyData.depthAll]
    | cons c l ih => rw [List.map_cons, PyData.depthAll]; simp only [sd, PyData.depth, PyData.depthAll]; omega
  unfold SeqAt.shaped
  rw [PyData.canLay0, h1, PyData.depth]
  have := h2 l
  simp
  omega
section
variable {cx : Cx} {k : Nat} {σ : Sto} {Q : Val → Sto → Prop}
theorem p_eqs_mut {a : Addr} {l : List SignT} (ha : σ a = some (.list (l.map sg))) (q : Q (.bool l.isEmpty) σ) : Wp2 cx k (compareOp .Eq) (.raw (.ref a)) (.lst []) σ Q :=
  p_eqd (d := .list (l.map sd)) (e := .list []) (.inr ⟨a, _, rfl, by rw [vds_signs]; exact ha, rfl⟩) (.inl rfl) (shaped_signs l) (by decide) (by rw [eqv_nil_list]; simpa using q)
theorem eqv_pair (p q : Int × Int) : PyData.eqv (.tuple [.int p.1, .int p.2]) (.tuple [.int q.1, .int q.2]) = decide (p = q) := by
  have e : PyData.eqv (.tuple [.int p.1, .int p.2]) (.tuple [.int q.1, .int q.2]) = ((p.1 == q.1) && ((p.2 == q.2) && true)) := rfl
  rw [e]
  obtain ⟨a, b⟩ := p; obtain ⟨c, d⟩ := q
  by_cases h1 : a = c <;> by_cases h2 : b = d <;> simp [h1, h2]
theorem p_nep {p q : Int × Int} (hq : Q (.bool (!decide (p = q))) σ) : Wp2 cx k (compareOp .NotEq) (pl p) (pl q) σ Q :=
  p_ned (d := .tuple [.int p.1, .int p.2]) (e := .tuple [.int q.1, .int q.2]) (.inl rfl) (.inl rfl) rfl rfl (by rw [eqv_pair]; exact hq)
end
section
variable {cx : Cx} {k : Nat} {σ : Sto} {Q : Val → Sto → Prop}
theorem f_copy_signs (T : Top0 cx) {c : Int} {rs : List RowT} (hw : WfRows rs) (hf : Filled rs) (hz : rs.length ≤ 100) (hz' : ∀ r ∈ rs, r.1.length ≤ 100) (ht : (rowsTrips 0 rs).length ≤ 900) (q : Q (.lst ((dedup (rowsTrips 0 rs)).map sg)) σ) :
    WpCode cx (k + 6) (.raw (.ref T.f_copy_signs)) [viewV T c rs] σ Q := by
  refine enter T.h_copy_signs [Str.ofString "view"] [Str.ofString "found", Str.ofString "code", Str.ofString "row", Str.ofString "column"] [(Str.ofString "view_codes", .raw (.ref T.f_view_codes))] [] rfl (by walk_at "args") (by walk_at "oks") (by walk_at "gv") ?_
  walk_at "frame"
  walk_at "st"
  walk_at "w"
  refine wpe_listm ?_
  walk_at "ww"
  intro a ha
  walk_at "ww"
  refine wps_for (tt := false) (fun h => nomatch h) ?_
  refine wit_lst ?_
  walk_at "ww"
  refine (f_view_codes T hw hf hz hz' ht ?_).call
  refine ⟨_, rfl, fun l m τ => Hold (∃ A B C done rest, rowsTrips 0 rs = done ++ rest ∧ l = rest.map tv ∧ τ = σ.set a (.list ((dedup done).map sg)) ∧ (dedup done).length ≤ done.length ∧
    m = ⟨[(Str.ofString "view", viewV T c rs), (Str.ofString "found", .raw (.ref a)), (Str.ofString "code", A), (Str.ofString "row", B), (Str.ofString "column", C)], [(Str.ofString "view_codes", .raw (.ref T.f_view_codes))], []⟩),
    Hold.mk ⟨.unbound, .unbound, .unbound, [], _, rfl, rfl, rfl, Nat.le_refl _, rfl⟩, fun _ _ _ _ => trivial, ?_, ?_⟩
  · rintro v l m τ _ ⟨A, B, C, done, rest, e1, e2, rfl, hlen, rfl⟩
    cases rest with
    | nil => cases e2
    | cons t rest =>
      obtain ⟨rfl, rfl⟩ := List.cons.inj e2
      have hd : dedup (done ++ [t]) = pushS (dedup done) t := by unfold dedup; rw [List.foldl_append]; rfl
      have hdl : (dedup done).length ≤ 900 := by have := congrArg List.length e1; simp at this; omega
      refine wpa_tuple (wpal_cons (wpa_name (by walk_at "upd") (wpal_cons (wpa_name (by walk_at "upd") (wpal_cons (wpa_name (by walk_at "upd") (wpal_nil ?_)))))))
      have fin : ∀ τ, τ = σ.set a (.list ((dedup (done ++ [t])).map sg)) → (dedup (done ++ [t])).length ≤ (done ++ [t]).length → Hold (∃ A B C done rest', rowsTrips 0 rs = done ++ rest' ∧ rest.map tv = rest'.map tv ∧ τ = σ.set a (.list ((dedup done).map sg)) ∧ (dedup done).length ≤ done.length ∧
          (⟨[(Str.ofString "view", viewV T c rs), (Str.ofString "found", .raw (.ref a)), (Str.ofString "code", .int t.1), (Str.ofString "row", .int t.2.1), (Str.ofString "column", .int t.2.2)], [(Str.ofString "view_codes", .raw (.ref T.f_view_codes))], []⟩ : Loc) =
          ⟨[(Str.ofString "view", viewV T c rs), (Str.ofString "found", .raw (.ref a)), (Str.ofString "code", A), (Str.ofString "row", B), (Str.ofString "column", C)], [(Str.ofString "view_codes", .raw (.ref T.f_view_codes))], []⟩) := fun τ e h => ⟨_, _, _, done ++ [t], rest, by rw [e1]; simp, rfl, e, h, rfl⟩
      walk_at "ww"
      refine wpe_list ?_
      walk_at "ww"
      refine p_eqs_mut (Sto.set_self ..) ?_
      walk_at "ww"
      refine if_b (fun h => if_t ?_) fun h => ?_
      · have hp : pushS (dedup done) t = dedup done ++ [((t.2.1, t.2.2), t.1)] := by
          have : dedup done = [] := by simpa using h
          unfold pushS
          rw [this]
          simp
        walk_at "w"
        walk_at "w"
        walk_at "w"
        walk_at "w"
        refine meth_list (Sto.set_self ..) PySem.F.slot_list_append PySem.F.type_list_append ⟨kp_builtin, ?_⟩
        walk_at "ww"
        refine c_append (Sto.set_self ..) (by rw [List.length_map]; omega) ⟨rfl, ?_⟩
        walk_at "ww"
        refine fin _ ?_ ?_
        · rw [Sto.set_set, hd, hp]; simp [sg, pl]
        · rw [hd, hp]; simp only [List.length_append, List.length_cons, List.length_nil]; omega
      · walk_at "ww"
        obtain ⟨l2, s, e⟩ := snoc_of (dedup done) (by simpa using h)
        have ev : (dedup done).map sg = l2.map sg ++ [sg s] := by rw [e]; simp
        refine sub_last (Sq.mut (by rw [Sto.set_self, ev])) ?_ ?_
        · rw [e] at hdl; simp at hdl ⊢; omega
        walk_at "ww"
        refine sub_at Sq.tup (by decide) (by decide) rfl ?_
        walk_at "ww"
        refine p_nep (q := (t.2.1, t.2.2)) ?_
        walk_at "ww"
        refine if_b (fun h2 => ?_) fun h2 => ?_
        · have hp : pushS (dedup done) t = dedup done ++ [((t.2.1, t.2.2), t.1)] := by
            unfold pushS
            rw [if_neg]
            rw [e]
            simpa using h2
          walk_at "ww"
          refine meth_list (Sto.set_self ..) PySem.F.slot_list_append PySem.F.type_list_append ⟨kp_builtin, ?_⟩
          walk_at "ww"
          refine c_append (Sto.set_self ..) (by rw [List.length_map]; omega) ⟨rfl, ?_⟩
          walk_at "ww"
          refine fin _ ?_ ?_
          · rw [Sto.set_set, hd, hp]; simp [sg, pl]
          · rw [hd, hp]; simp only [List.length_append, List.length_cons, List.length_nil]; omega
        · have hp : pushS (dedup done) t = dedup done := by
            unfold pushS
            rw [if_pos]
            rw [e]
            simpa using h2
          walk_at "ww"
          exact fin _ (by rw [hd, hp]) (by rw [hd, hp]; simp only [List.length_append, List.length_cons, List.length_nil]; omega)
  · rintro m τ _ ⟨A, B, C, done, rest, e1, e2, rfl, hlen, rfl⟩
    have er : rest = [] := by cases rest with
      | nil => rfl
      | cons _ _ => cases e2
    subst er
    rw [List.append_nil] at e1
    refine Kn.nx (by assumption) _ _ (wps_cons (wps_ret (wpe_fz ?_)))
    walk_at "ww"
    rw [e1] at q
    exact ⟨_, σ, fz_lst ha, q⟩
end
noncomputable def sAt (signs : List SignT) (i : Nat) : SignT := signs.getD i ((0, 0), 10)
noncomputable def lawAt (signs : List SignT) (p : Int × Int) : Nat := match signs.findIdx? (fun s => !ltP s.1 p) with
  | some i => i
  | none => signs.length - 1
noncomputable def Mono (signs : List SignT) : Prop := ∀ i j, i ≤ j → j < signs.length → ∀ p, ltP (sAt signs j).1 p = true → ltP (sAt signs i).1 p = true
theorem sAt_get {signs : List SignT} {i : Nat} (h : i < signs.length) : signs[i]? = some (sAt signs i) := by
  unfold sAt
  rw [List.getD_eq_getElem?_getD, List.getElem?_eq_getElem h]
  rfl
theorem lawAt_of {signs : List SignT} {p : Int × Int} {low : Nat} (hl : low ≤ signs.length) (h1 : ∀ i, i < low → ltP (sAt signs i).1 p = true) (h2 : ∀ i, low ≤ i → i < signs.length → ltP (sAt signs i).1 p = false) : lawAt signs p = min low (signs.length - 1) := by
  unfold lawAt
  cases h : signs.findIdx? (fun s => !ltP s.1 p) with
  | some i =>
    obtain ⟨hi, a, b⟩ := List.findIdx?_eq_some_iff_getElem.mp h
    have ei : signs[i] = sAt signs i := Option.some.inj ((List.getElem?_eq_getElem hi).symm.trans (sAt_get hi))
    dsimp only
    rw [ei] at a
    have : i = low := by
      rcases Nat.lt_trichotomy i low with q | q | q
      · rw [h1 i q] at a; cases a
      · exact q
      · have hlow : low < signs.length := by omega
        have := b low q
        have el : signs[low] = sAt signs low := Option.some.inj ((List.getElem?_eq_getElem hlow).symm.trans (sAt_get hlow))
        rw [el, h2 low (Nat.le_refl _) hlow] at this
        exact absurd rfl this
    omega
  | none =>
    dsimp only
    have hn := List.findIdx?_eq_none_iff.mp h
    have : low = signs.length := by
      rcases Nat.lt_or_ge low signs.length with q | q
      · have := hn (sAt signs low) (List.mem_of_getElem? (sAt_get q))
        rw [h2 low (Nat.le_refl _) q] at this
        cases this
      · omega
    omega
noncomputable def srt (b : Array UInt8) (code : Int) : Nat := if code = 32 ∨ code = 10 then 0 else if code < 128 ∧ b.contains code.toNat.toUInt8 = true then 1 else 2
noncomputable def srtS : Nat → Str
  | 0 => Str.ofString "blank"
  | 1 => Str.ofString "separator"
  | _ => Str.ofString "word"
structure SV (rs : List RowT) (signs : List SignT) : Prop where
  wf : WfRows rs
  fl : Filled rs
  len : rs.length ≤ 100
  rowlen : ∀ r ∈ rs, r.1.length ≤ 100
  trips : (rowsTrips 0 rs).length ≤ 900
  eq : dedup (rowsTrips 0 rs) = signs
  ne : 1 ≤ signs.length
  mono : Mono signs
  codes : ∀ i, i < signs.length → 0 ≤ (sAt signs i).2
  small : signs.length ≤ 900
section
variable {cx : Cx} {k : Nat} {σ : Sto} {Q : Val → Sto → Prop}
theorem sub_sign {sl : Expr} {signs : List SignT} {i : Int} (h0 : 0 ≤ i) (h1 : i < signs.length) (hz : signs.length ≤ 900) (q : Q (sg (sAt signs i.toNat)) σ) (h : plainSl sl := by intro _ _; rfl) : WpSub cx k sl (.lst (signs.map sg)) (.int i) σ Q :=
  sub_at Sq.lst h0 (by omega) (W := sg (sAt signs i.toNat)) (by rw [List.getElem?_map, sAt_get (by omega)]; rfl) q h
theorem sub_signN {sl : Expr} {signs : List SignT} {j : Nat} (h1 : j < signs.length) (hz : signs.length ≤ 900) (q : Q (sg (sAt signs j)) σ) (h : plainSl sl := by intro _ _; rfl) : WpSub cx k sl (.lst (signs.map sg)) (.int j) σ Q :=
  sub_sign (by omega) (by omega) hz (by rw [Int.toNat_natCast]; exact q) h
theorem f_copy_index (T : Top0 cx) {signs : List SignT} {p : Int × Int} (ne : 1 ≤ signs.length) (hm : Mono signs) (hz : signs.length ≤ 900) (q : Q (.int (lawAt signs p)) σ) : WpCode cx (k + 1) (.raw (.ref T.f_copy_index)) [.lst (signs.map sg), pl p] σ Q := by
  refine enter T.h_copy_index [Str.ofString "signs", Str.ofString "place"] [Str.ofString "low", Str.ofString "high", Str.ofString "middle"] [(Str.ofString "len", .raw (.builtin "len")), (Str.ofString "min", .raw (.builtin "min"))] [] rfl (by walk_at "args") (by walk_at "oks") (by walk_at "gv") ?_
  walk_at "frame"
  walk_at "st"
  refine wps_two (by decide) ?_ (by intro vs k p h; cases h; rfl)
  walk_at "ww"
  refine c_len SqL.lst (small_len hz) ?_
  rw [List.length_map]
  walk_at "ww"
  refine ⟨_, _, _, _, rfl, by walk_at "upd", by walk_at "upd", ?_⟩
  walk_at "ww"
  refine wps_while (fun n m τ => Hold (∃ lo hi C, n = hi - lo ∧ lo ≤ hi ∧ hi ≤ signs.length ∧ (∀ i, i < lo → ltP (sAt signs i).1 p = true) ∧ (∀ i, hi ≤ i → i < signs.length → ltP (sAt signs i).1 p = false) ∧ τ = σ ∧
    m = ⟨[(Str.ofString "signs", .lst (signs.map sg)), (Str.ofString "place", pl p), (Str.ofString "low", .int (lo : Nat)), (Str.ofString "high", .int (hi : Nat)), (Str.ofString "middle", C)], [(Str.ofString "len", .raw (.builtin "len")), (Str.ofString "min", .raw (.builtin "min"))], []⟩))
    signs.length (Hold.mk ⟨0, signs.length, .unbound, rfl, Nat.zero_le _, Nat.le_refl _, (fun i h => absurd h (Nat.not_lt_zero i)), (fun i h h' => absurd h' (Nat.not_lt.mpr h)), rfl, rfl⟩) ?_
  rintro n m τ _ ⟨lo, hi, C, rfl, hlh, hhn, b1, b2, rfl, rfl⟩
  walk_at "ww"
  refine if_b (fun h => ?_) fun h => ?_
  · have h := of_decide_eq_true h
    walk_at "ww"
    refine p_fdiv ?_ (by decide)
    walk_at "ww"
    obtain ⟨mid, em⟩ : ∃ mid : Nat, ((lo : Int) + (hi : Int)) / 2 = (mid : Int) := ⟨(lo + hi) / 2, half_nat lo hi⟩
    rw [em]
    have m1 := mid_lo h em
    have m2 := mid_hi h em
    refine sub_signN (Nat.lt_of_lt_of_le m2 hhn) hz ?_
    walk_at "ww"
    refine sub_at Sq.tup (by decide) (by decide) rfl ?_
    walk_at "ww"
    refine p_ltp ?_
    walk_at "ww"
    refine if_b (fun hc => ?_) fun hc => ?_
    · walk_at "ww"
      refine ⟨hi - (mid + 1), low_dec m1 m2, Hold.mk ⟨mid + 1, hi, _, rfl, m2, hhn, fun i hi' => ?_, b2, rfl, rfl⟩⟩
      exact hm i mid (Nat.le_of_lt_succ hi') (Nat.lt_of_lt_of_le m2 hhn) p hc
    · walk_at "ww"
      refine ⟨mid - lo, high_dec m1 m2, Hold.mk ⟨lo, mid, _, rfl, m1, Nat.le_trans (Nat.le_of_lt m2) hhn, b1, fun i hi' hi2 => ?_, rfl, rfl⟩⟩
      cases hx : ltP (sAt signs i).1 p with
      | false => rfl
      | true => rw [hm mid i hi' hi2 p hx] at hc; cases hc
  · have h := of_decide_eq_false h
    have e : lo = hi := by omega
    subst e
    walk_at "ww"
    refine c_len SqL.lst (small_len hz) ?_
    rw [List.length_map]
    walk_at "ww"
    rw [lawAt_of hhn b1 b2] at q
    rw [min_pred ne]
    exact q
theorem f_copy_sort (T : Top0 cx) {b : Array UInt8} {code : Int} (h0 : 0 ≤ code) (q : Q (.str (srtS (srt b code))) σ) : WpCode cx (k + 1) (.raw (.ref T.f_copy_sort)) [.int code, .bytes b] σ Q := by
  refine enter T.h_copy_sort [Str.ofString "code", Str.ofString "separators"] [] [(Str.ofString "BLANK", .int 32), (Str.ofString "LINE_FEED", .int 10)] [] rfl (by walk_at "args") (by walk_at "oks") (by walk_at "gv") ?_
  walk_at "frame"
  walk_at "st"
  walk_at "ww"
  refine p_in (l := [32, 10]) ?_
  walk_at "ww"
  refine if_b (fun h => ?_) fun h => ?_
  · walk_at "ww"
    have e : srt b code = 0 := by unfold srt; rw [if_pos (by simpa using h)]
    rw [e] at q
    exact q
  · walk_at "ww"
    have hn : ¬(code = 32 ∨ code = 10) := by simpa using h
    refine if_b (fun h1 => ?_) fun h1 => ?_
    · have h1 := of_decide_eq_true h1
      walk_at "ww"
      refine p_inb ?_ h0 (by omega)
      walk_at "ww"
      refine if_b (fun h2 => ?_) fun h2 => ?_
      · walk_at "ww"
        have e : srt b code = 1 := by unfold srt; rw [if_neg hn, if_pos ⟨h1, h2⟩]
        rw [e] at q
        exact q
      · walk_at "ww"
        have e : srt b code = 2 := by unfold srt; rw [if_neg hn, if_neg (fun h => by rw [h2] at h; exact absurd h.2 (by decide))]
        rw [e] at q
        exact q
    · walk_at "ww"
      have e : srt b code = 2 := by unfold srt; rw [if_neg hn, if_neg (fun h => of_decide_eq_false h1 h.1)]
      rw [e] at q
      exact q
end
noncomputable def up (p : Nat → Bool) : Nat → Nat → Nat
  | 0, a => a
  | f + 1, a => if p a then up p f (a + 1) else a
theorem up_go {p : Nat → Bool} {n a : Nat} (h : a < n) (hp : p a = true) : up p (n - a) a = up p (n - (a + 1)) (a + 1) := by
  rw [sub_back h, up, if_pos hp]
theorem up_stop {p : Nat → Bool} {n a : Nat} (h : a < n) (hp : p a = false) : up p (n - a) a = a := by
  rw [sub_back h, up, if_neg (by rw [hp]; decide)]
theorem up_end {p : Nat → Bool} {n a : Nat} (h : n ≤ a) : up p (n - a) a = a := by
  rw [Nat.sub_eq_zero_of_le h]; rfl
noncomputable abbrev sr (signs : List SignT) (b : Array UInt8) (j : Nat) : Nat := srt b (sAt signs j).2
theorem srt_le (b : Array UInt8) (c : Int) : srt b c ≤ 2 := by
  unfold srt; split
  · decide
  · split <;> decide
theorem srtS_inj {x y : Nat} (hx : x ≤ 2) (hy : y ≤ 2) : srtS x = srtS y ↔ x = y := by
  have h01 : srtS 0 ≠ srtS 1 := by decide
  have h02 : srtS 0 ≠ srtS 2 := by decide
  have h12 : srtS 1 ≠ srtS 2 := by decide
  match x, y, hx, hy with
  | 0, 0, _, _ => simp
  | 1, 1, _, _ => simp
  | 2, 2, _, _ => simp
  | 0, 1, _, _ => simpa using h01
  | 0, 2, _, _ => simpa using h02
  | 1, 0, _, _ => simpa using h01.symm
  | 1, 2, _, _ => simpa using h12
  | 2, 0, _, _ => simpa using h02.symm
  | 2, 1, _, _ => simpa using h12.symm
theorem dec_srtS {x y : Nat} (hx : x ≤ 2) (hy : y ≤ 2) : decide (srtS x = srtS y) = decide (x = y) := decide_eq_decide.mpr (srtS_inj hx hy)
noncomputable def runP (signs : List SignT) (b : Array UInt8) (s : Nat) (j : Nat) : Bool := decide (s ≠ 0) && decide (sr signs b j = s)
noncomputable def blkP (signs : List SignT) (b : Array UInt8) (j : Nat) : Bool := decide (sr signs b j = 0)
noncomputable def nwIdx (signs : List SignT) (b : Array UInt8) (a : Nat) : Nat :=
  let a1 := up (runP signs b (sr signs b a)) (signs.length - a) a
  let a2 := up (blkP signs b) (signs.length - a1) a1
  min a2 (signs.length - 1)
theorem lawAt_lt {signs : List SignT} (p : Int × Int) (ne : 1 ≤ signs.length) : lawAt signs p < signs.length := by
  unfold lawAt
  cases h : signs.findIdx? (fun s => !ltP s.1 p) with
  | some i => exact (List.findIdx?_eq_some_iff_getElem.mp h).1
  | none => dsimp only; omega
section
variable {cx : Cx} {k : Nat} {σ : Sto} {Q : Val → Sto → Prop}
noncomputable abbrev s_signs := Str.ofString "signs"
noncomputable abbrev s_view := Str.ofString "view"
noncomputable abbrev s_place := Str.ofString "place"
noncomputable abbrev s_sep := Str.ofString "separators"
noncomputable abbrev s_at := Str.ofString "at"
theorem f_next_word (T : Top0 cx) {c : Int} {rs : List RowT} {signs : List SignT} {p : Int × Int} {b : Array UInt8} (S : SV rs signs) (q : Q (pl (sAt signs (nwIdx signs b (lawAt signs p))).1) σ) :
    WpCode cx (k + 7) (.raw (.ref T.f_next_word)) [viewV T c rs, pl p, .bytes b] σ Q := by
  refine enter T.h_next_word [s_view, s_place, s_sep] [s_signs, s_at, Str.ofString "sort"]
    [(Str.ofString "copy_signs", .raw (.ref T.f_copy_signs)), (Str.ofString "copy_index", .raw (.ref T.f_copy_index)), (Str.ofString "copy_sort", .raw (.ref T.f_copy_sort)), (Str.ofString "len", .raw (.builtin "len")), (Str.ofString "min", .raw (.builtin "min"))] [] rfl (by walk_at "args") (by walk_at "oks") (by walk_at "gv") ?_
  have ne := S.ne
  have sm := S.small
  have hlen : (signs.map sg).length < 1000000 := small_len S.small
  have a0 := lawAt_lt p ne
  generalize ha : lawAt signs p = a at q a0
  walk_at "frame"
  walk_at "st"
  walk_at "ww"
  refine (f_copy_signs T S.wf S.fl S.len S.rowlen S.trips ?_).call
  rw [S.eq]
  walk_at "ww"
  refine (f_copy_index T S.ne S.mono S.small ?_).call
  rw [ha]
  walk_at "ww"
  refine sub_signN (by first | assumption | omega) sm ?_
  walk_at "ww"
  refine sub_at Sq.tup (by decide) (by decide) rfl ?_
  walk_at "ww"
  refine (f_copy_sort T (S.codes a a0) ?_).call
  walk_at "ww"
  refine wps_whileK (fun n m τ => Hold (∃ j : Nat, n = signs.length - j ∧ j ≤ signs.length ∧ up (runP signs b (sr signs b a)) (signs.length - j) j = up (runP signs b (sr signs b a)) (signs.length - a) a ∧ τ = σ ∧
      m = ⟨[(s_view, viewV T c rs), (s_place, pl p), (s_sep, .bytes b), (s_signs, .lst (signs.map sg)), (s_at, .int j), (Str.ofString "sort", .str (srtS (sr signs b a)))],
      [(Str.ofString "copy_signs", .raw (.ref T.f_copy_signs)), (Str.ofString "copy_index", .raw (.ref T.f_copy_index)), (Str.ofString "copy_sort", .raw (.ref T.f_copy_sort)), (Str.ofString "len", .raw (.builtin "len")), (Str.ofString "min", .raw (.builtin "min"))], []⟩))
    (fun m τ => Hold (∃ j : Nat, j = up (runP signs b (sr signs b a)) (signs.length - a) a ∧ j ≤ signs.length ∧ τ = σ ∧
      m = ⟨[(s_view, viewV T c rs), (s_place, pl p), (s_sep, .bytes b), (s_signs, .lst (signs.map sg)), (s_at, .int j), (Str.ofString "sort", .str (srtS (sr signs b a)))],
      [(Str.ofString "copy_signs", .raw (.ref T.f_copy_signs)), (Str.ofString "copy_index", .raw (.ref T.f_copy_index)), (Str.ofString "copy_sort", .raw (.ref T.f_copy_sort)), (Str.ofString "len", .raw (.builtin "len")), (Str.ofString "min", .raw (.builtin "min"))], []⟩))
    (signs.length - a) (Hold.mk ⟨a, rfl, by omega, rfl, rfl, rfl⟩) ?_ ?_
  · rintro n m τ _ ⟨j, rfl, hj, e1, rfl, rfl⟩
    walk_at "ww"
    refine c_len SqL.lst hlen ?_
    rw [List.length_map]
    walk_at "ww"
    refine if_b (fun h => ?_) fun h => ?_
    · have h := of_decide_eq_true h
      have hj : j < signs.length := by omega
      walk_at "ww"
      refine p_nes ?_
      walk_at "ww"
      rw [show decide (srtS (sr signs b a) = Str.ofString "blank") = decide (sr signs b a = 0) from dec_srtS (y := 0) (srt_le _ _) (by decide)]
      refine if_b (fun h2 => ?_) fun h2 => ?_
      · walk_at "ww"
        refine sub_signN (by first | assumption | omega) sm ?_
        walk_at "ww"
        refine sub_at Sq.tup (by decide) (by decide) rfl ?_
        walk_at "ww"
        refine (f_copy_sort T (S.codes j hj) ?_).call
        walk_at "ww"
        refine p_eqs ?_
        walk_at "ww"
        rw [dec_srtS (srt_le _ _) (srt_le _ _)]
        refine if_b (fun h3 => ?_) fun h3 => ?_
        · walk_at "ww"
          refine ⟨_, ?_, Hold.mk ⟨j + 1, rfl, hj, ?_, rfl, rfl⟩⟩
          · omega
          · rw [← e1, up_go hj]
            unfold runP
            rw [show decide (sr signs b j = sr signs b a) = true from h3]
            simpa using h2
        · walk_at "ww"
          refine Hold.mk ⟨j, ?_, by omega, rfl, rfl⟩
          rw [← e1, up_stop hj]
          unfold runP
          rw [show decide (sr signs b j = sr signs b a) = false from h3, Bool.and_false]
      · walk_at "ww"
        refine Hold.mk ⟨j, ?_, by omega, rfl, rfl⟩
        rw [← e1, up_stop hj]
        unfold runP
        have : sr signs b a = 0 := by simpa using h2
        rw [this]; rfl
    · have h := of_decide_eq_false h
      walk_at "ww"
      refine Hold.mk ⟨j, ?_, by omega, rfl, rfl⟩
      rw [← e1, up_end (by omega)]
  · rintro m τ ⟨a1, e1, hj1, rfl, rfl⟩
    walk_at "ww"
    refine wps_whileK (fun n m τ' => Hold (∃ j : Nat, n = signs.length - j ∧ j ≤ signs.length ∧ up (blkP signs b) (signs.length - j) j = up (blkP signs b) (signs.length - a1) a1 ∧ τ' = τ ∧
        m = ⟨[(s_view, viewV T c rs), (s_place, pl p), (s_sep, .bytes b), (s_signs, .lst (signs.map sg)), (s_at, .int j), (Str.ofString "sort", .str (srtS (sr signs b a)))],
        [(Str.ofString "copy_signs", .raw (.ref T.f_copy_signs)), (Str.ofString "copy_index", .raw (.ref T.f_copy_index)), (Str.ofString "copy_sort", .raw (.ref T.f_copy_sort)), (Str.ofString "len", .raw (.builtin "len")), (Str.ofString "min", .raw (.builtin "min"))], []⟩))
      (fun m τ' => Hold (∃ j : Nat, j = up (blkP signs b) (signs.length - a1) a1 ∧ j ≤ signs.length ∧ τ' = τ ∧
        m = ⟨[(s_view, viewV T c rs), (s_place, pl p), (s_sep, .bytes b), (s_signs, .lst (signs.map sg)), (s_at, .int j), (Str.ofString "sort", .str (srtS (sr signs b a)))],
        [(Str.ofString "copy_signs", .raw (.ref T.f_copy_signs)), (Str.ofString "copy_index", .raw (.ref T.f_copy_index)), (Str.ofString "copy_sort", .raw (.ref T.f_copy_sort)), (Str.ofString "len", .raw (.builtin "len")), (Str.ofString "min", .raw (.builtin "min"))], []⟩))
      (signs.length - a1) (Hold.mk ⟨a1, rfl, by omega, rfl, rfl, rfl⟩) ?_ ?_
    · rintro n m τ' _ ⟨j, rfl, hj, e2, rfl, rfl⟩
      walk_at "ww"
      refine c_len SqL.lst hlen ?_
      rw [List.length_map]
      walk_at "ww"
      refine if_b (fun h => ?_) fun h => ?_
      · have h := of_decide_eq_true h
        have hj : j < signs.length := by omega
        walk_at "ww"
        refine sub_signN (by first | assumption | omega) sm ?_
        walk_at "ww"
        refine sub_at Sq.tup (by decide) (by decide) rfl ?_
        walk_at "ww"
        refine (f_copy_sort T (S.codes j hj) ?_).call
        walk_at "ww"
        refine p_eqs ?_
        walk_at "ww"
        rw [show decide (srtS (srt b (sAt signs j).2) = Str.ofString "blank") = blkP signs b j from dec_srtS (y := 0) (srt_le _ _) (by decide)]
        refine if_b (fun h3 => ?_) fun h3 => ?_
        · walk_at "ww"
          refine ⟨_, ?_, Hold.mk ⟨j + 1, rfl, hj, ?_, rfl, rfl⟩⟩
          · omega
          · rw [← e2, up_go hj h3]
        · walk_at "ww"
          refine Hold.mk ⟨j, ?_, by omega, rfl, rfl⟩
          rw [← e2, up_stop hj h3]
      · have h := of_decide_eq_false h
        walk_at "ww"
        refine Hold.mk ⟨j, ?_, by omega, rfl, rfl⟩
        rw [← e2, up_end (by omega)]
    · rintro m τ' ⟨a2, e2, hj2, rfl, rfl⟩
      walk_at "ww"
      refine c_len SqL.lst hlen ?_
      rw [List.length_map]
      walk_at "ww"
      rw [min_pred ne]
      refine sub_signN (min_pred_lt ne) sm ?_
      walk_at "ww"
      refine sub_at Sq.tup (by decide) (by decide) rfl ?_
      walk_at "ww"
      have e : nwIdx signs b a = min a2 (signs.length - 1) := by unfold nwIdx; dsimp only; rw [← e1, ← e2]
      rw [e] at q
      exact q
end
noncomputable def sameP (signs : List SignT) (b : Array UInt8) (j : Nat) : Bool := decide (sr signs b (j + 1) = sr signs b j)
noncomputable def neIdx (signs : List SignT) (b : Array UInt8) (a : Nat) : Nat :=
  let a1 := up (blkP signs b) (signs.length - (a + 1)) (a + 1)
  let a2 := up (sameP signs b) ((signs.length - 1) - a1) a1
  min a2 (signs.length - 1)
noncomputable def down (p : Nat → Bool) : Nat → Nat
  | 0 => 0
  | a + 1 => if p (a + 1) then down p a else a + 1
noncomputable def backP (signs : List SignT) (b : Array UInt8) (j : Nat) : Bool := decide (sr signs b (j - 1) = sr signs b j)
noncomputable def pwIdx (signs : List SignT) (b : Array UInt8) (p : Int × Int) (a : Nat) : Nat :=
  let s := if ltP (sAt signs a).1 p then a else a - 1
  down (backP signs b) (down (blkP signs b) s)
section
variable {cx : Cx} {k : Nat} {σ : Sto} {Q : Val → Sto → Prop}
theorem f_next_word_end (T : Top0 cx) {c : Int} {rs : List RowT} {signs : List SignT} {p : Int × Int} {b : Array UInt8} (S : SV rs signs) (q : Q (pl (sAt signs (neIdx signs b (lawAt signs p))).1) σ) :
    WpCode cx (k + 7) (.raw (.ref T.f_next_word_end)) [viewV T c rs, pl p, .bytes b] σ Q := by
  refine enter T.h_next_word_end [s_view, s_place, s_sep] [s_signs, s_at]
    [(Str.ofString "copy_signs", .raw (.ref T.f_copy_signs)), (Str.ofString "copy_index", .raw (.ref T.f_copy_index)), (Str.ofString "len", .raw (.builtin "len")), (Str.ofString "copy_sort", .raw (.ref T.f_copy_sort)), (Str.ofString "min", .raw (.builtin "min"))] [] rfl (by walk_at "args") (by walk_at "oks") (by walk_at "gv") ?_
  have ne := S.ne
  have sm := S.small
  have hlen : (signs.map sg).length < 1000000 := small_len S.small
  have a0 := lawAt_lt p ne
  generalize ha : lawAt signs p = a at q a0
  walk_at "frame"
  walk_at "st"
  walk_at "ww"
  refine (f_copy_signs T S.wf S.fl S.len S.rowlen S.trips ?_).call
  rw [S.eq]
  walk_at "ww"
  refine (f_copy_index T S.ne S.mono S.small ?_).call
  rw [ha]
  walk_at "ww"
  refine wps_whileK (fun n m τ' => Hold (∃ j : Nat, n = signs.length - j ∧ j ≤ signs.length ∧ up (blkP signs b) (signs.length - j) j = up (blkP signs b) (signs.length - (a + 1)) (a + 1) ∧ τ' = σ ∧
      m = ⟨[(s_view, viewV T c rs), (s_place, pl p), (s_sep, .bytes b), (s_signs, .lst (signs.map sg)), (s_at, .int j)],
      [(Str.ofString "copy_signs", .raw (.ref T.f_copy_signs)), (Str.ofString "copy_index", .raw (.ref T.f_copy_index)), (Str.ofString "len", .raw (.builtin "len")), (Str.ofString "copy_sort", .raw (.ref T.f_copy_sort)), (Str.ofString "min", .raw (.builtin "min"))], []⟩))
    (fun m τ' => Hold (∃ j : Nat, j = up (blkP signs b) (signs.length - (a + 1)) (a + 1) ∧ j ≤ signs.length ∧ τ' = σ ∧
      m = ⟨[(s_view, viewV T c rs), (s_place, pl p), (s_sep, .bytes b), (s_signs, .lst (signs.map sg)), (s_at, .int j)],
      [(Str.ofString "copy_signs", .raw (.ref T.f_copy_signs)), (Str.ofString "copy_index", .raw (.ref T.f_copy_index)), (Str.ofString "len", .raw (.builtin "len")), (Str.ofString "copy_sort", .raw (.ref T.f_copy_sort)), (Str.ofString "min", .raw (.builtin "min"))], []⟩))
    (signs.length - (a + 1)) (Hold.mk ⟨a + 1, rfl, by omega, rfl, rfl, rfl⟩) ?_ ?_
  · rintro n m τ' _ ⟨j, rfl, hj, e2, rfl, rfl⟩
    walk_at "ww"
    refine c_len SqL.lst hlen ?_
    rw [List.length_map]
    walk_at "ww"
    refine if_b (fun h => ?_) fun h => ?_
    · have h := of_decide_eq_true h
      have hj : j < signs.length := by omega
      walk_at "ww"
      refine sub_signN (by first | assumption | omega) sm ?_
      walk_at "ww"
      refine sub_at Sq.tup (by decide) (by decide) rfl ?_
      walk_at "ww"
      refine (f_copy_sort T (S.codes j hj) ?_).call
      walk_at "ww"
      refine p_eqs ?_
      walk_at "ww"
      rw [show decide (srtS (srt b (sAt signs j).2) = Str.ofString "blank") = blkP signs b j from dec_srtS (y := 0) (srt_le _ _) (by decide)]
      refine if_b (fun h3 => ?_) fun h3 => ?_
      · walk_at "ww"
        refine ⟨_, ?_, Hold.mk ⟨j + 1, rfl, hj, ?_, rfl, rfl⟩⟩
        · omega
        · rw [← e2, up_go hj h3]
      · walk_at "ww"
        refine Hold.mk ⟨j, ?_, by omega, rfl, rfl⟩
        rw [← e2, up_stop hj h3]
    · have h := of_decide_eq_false h
      walk_at "ww"
      refine Hold.mk ⟨j, ?_, by omega, rfl, rfl⟩
      rw [← e2, up_end (by omega)]
  · rintro m τ' ⟨a1, e1, hj1, rfl, rfl⟩
    walk_at "ww"
    refine wps_whileK (fun n m τ => Hold (∃ j : Nat, n = signs.length - j ∧ j ≤ signs.length ∧ up (sameP signs b) ((signs.length - 1) - j) j = up (sameP signs b) ((signs.length - 1) - a1) a1 ∧ τ = τ' ∧
        m = ⟨[(s_view, viewV T c rs), (s_place, pl p), (s_sep, .bytes b), (s_signs, .lst (signs.map sg)), (s_at, .int j)],
        [(Str.ofString "copy_signs", .raw (.ref T.f_copy_signs)), (Str.ofString "copy_index", .raw (.ref T.f_copy_index)), (Str.ofString "len", .raw (.builtin "len")), (Str.ofString "copy_sort", .raw (.ref T.f_copy_sort)), (Str.ofString "min", .raw (.builtin "min"))], []⟩))
      (fun m τ => Hold (∃ j : Nat, j = up (sameP signs b) ((signs.length - 1) - a1) a1 ∧ j ≤ signs.length ∧ τ = τ' ∧
        m = ⟨[(s_view, viewV T c rs), (s_place, pl p), (s_sep, .bytes b), (s_signs, .lst (signs.map sg)), (s_at, .int j)],
        [(Str.ofString "copy_signs", .raw (.ref T.f_copy_signs)), (Str.ofString "copy_index", .raw (.ref T.f_copy_index)), (Str.ofString "len", .raw (.builtin "len")), (Str.ofString "copy_sort", .raw (.ref T.f_copy_sort)), (Str.ofString "min", .raw (.builtin "min"))], []⟩))
      (signs.length - a1) (Hold.mk ⟨a1, rfl, by omega, rfl, rfl, rfl⟩) ?_ ?_
    · rintro n m τ _ ⟨j, rfl, hj, e2, rfl, rfl⟩
      walk_at "ww"
      refine c_len SqL.lst hlen ?_
      rw [List.length_map]
      walk_at "ww"
      refine if_b (fun h => ?_) fun h => ?_
      · have h := of_decide_eq_true h
        have hj1 : j + 1 < signs.length := by omega
        walk_at "ww"
        refine sub_sign (by omega) (by omega) sm ?_
        rw [show ((j : Int) + 1).toNat = j + 1 by omega]
        walk_at "ww"
        refine sub_at Sq.tup (by decide) (by decide) rfl ?_
        walk_at "ww"
        refine (f_copy_sort T (S.codes _ hj1) ?_).call
        walk_at "ww"
        refine sub_signN (by first | assumption | omega) sm ?_
        walk_at "ww"
        refine sub_at Sq.tup (by decide) (by decide) rfl ?_
        walk_at "ww"
        refine (f_copy_sort T (S.codes j (by omega)) ?_).call
        walk_at "ww"
        refine p_eqs ?_
        walk_at "ww"
        rw [show decide (srtS (srt b (sAt signs (j + 1)).2) = srtS (srt b (sAt signs j).2)) = sameP signs b j from dec_srtS (srt_le _ _) (srt_le _ _)]
        refine if_b (fun h3 => ?_) fun h3 => ?_
        · walk_at "ww"
          refine ⟨_, ?_, Hold.mk ⟨j + 1, rfl, by omega, ?_, rfl, rfl⟩⟩
          · omega
          · rw [← e2, up_go (by omega) h3]
        · walk_at "ww"
          refine Hold.mk ⟨j, ?_, by omega, rfl, rfl⟩
          rw [← e2, up_stop (by omega) h3]
      · have h := of_decide_eq_false h
        walk_at "ww"
        refine Hold.mk ⟨j, ?_, by omega, rfl, rfl⟩
        rw [← e2, up_end (by omega)]
    · rintro m τ ⟨a2, e2, hj2, rfl, rfl⟩
      walk_at "ww"
      refine c_len SqL.lst hlen ?_
      rw [List.length_map]
      walk_at "ww"
      rw [min_pred ne]
      refine sub_signN (min_pred_lt ne) sm ?_
      walk_at "ww"
      refine sub_at Sq.tup (by decide) (by decide) rfl ?_
      walk_at "ww"
      have e : neIdx signs b a = min a2 (signs.length - 1) := by unfold neIdx; dsimp only; rw [← e1, ← e2]
      rw [e] at q
      exact q
theorem f_previous_word (T : Top0 cx) {c : Int} {rs : List RowT} {signs : List SignT} {p : Int × Int} {b : Array UInt8} (S : SV rs signs) (q : Q (pl (sAt signs (pwIdx signs b p (lawAt signs p))).1) σ) :
    WpCode cx (k + 7) (.raw (.ref T.f_previous_word)) [viewV T c rs, pl p, .bytes b] σ Q := by
  refine enter T.h_previous_word [s_view, s_place, s_sep] [s_signs, s_at]
    [(Str.ofString "copy_signs", .raw (.ref T.f_copy_signs)), (Str.ofString "copy_index", .raw (.ref T.f_copy_index)), (Str.ofString "copy_sort", .raw (.ref T.f_copy_sort)), (Str.ofString "max", .raw (.builtin "max"))] [] rfl (by walk_at "args") (by walk_at "oks") (by walk_at "gv") ?_
  have ne := S.ne
  have sm := S.small
  have hlen : (signs.map sg).length < 1000000 := small_len S.small
  have a0 := lawAt_lt p ne
  generalize ha : lawAt signs p = a at q a0
  walk_at "frame"
  walk_at "st"
  walk_at "ww"
  refine (f_copy_signs T S.wf S.fl S.len S.rowlen S.trips ?_).call
  rw [S.eq]
  walk_at "ww"
  refine (f_copy_index T S.ne S.mono S.small ?_).call
  rw [ha]
  walk_at "ww"
  refine sub_signN (by first | assumption | omega) sm ?_
  walk_at "ww"
  refine sub_at Sq.tup (by decide) (by decide) rfl ?_
  walk_at "ww"
  refine p_gep ?_
  walk_at "ww"
  have rest : ∀ s : Int, -1 ≤ s → s < signs.length → s.toNat = (if ltP (sAt signs a).1 p then a else a - 1) → WpSs cx (k + 6) ⟨[(s_view, viewV T c rs), (s_place, pl p), (s_sep, .bytes b), (s_signs, .lst (signs.map sg)), (s_at, .int s)],
      [(Str.ofString "copy_signs", .raw (.ref T.f_copy_signs)), (Str.ofString "copy_index", .raw (.ref T.f_copy_index)), (Str.ofString "copy_sort", .raw (.ref T.f_copy_sort)), (Str.ofString "max", .raw (.builtin "max"))], []⟩ σ ((bodyOf (stAt 25)).drop 3)
      fun F _ σ' => match F with | .ret V => Q V σ' | .next => Q .none σ' | _ => False := by
    intro s hs1 hs2 es
    rw [show (pwIdx signs b p a) = down (backP signs b) (down (blkP signs b) s.toNat) by unfold pwIdx; rw [← es]] at q
    walk_at "st"
    refine wps_whileK (fun n m τ => Hold (∃ z : Int, n = z.toNat ∧ -1 ≤ z ∧ z < signs.length ∧ down (blkP signs b) z.toNat = down (blkP signs b) s.toNat ∧ τ = σ ∧
        m = ⟨[(s_view, viewV T c rs), (s_place, pl p), (s_sep, .bytes b), (s_signs, .lst (signs.map sg)), (s_at, .int z)],
        [(Str.ofString "copy_signs", .raw (.ref T.f_copy_signs)), (Str.ofString "copy_index", .raw (.ref T.f_copy_index)), (Str.ofString "copy_sort", .raw (.ref T.f_copy_sort)), (Str.ofString "max", .raw (.builtin "max"))], []⟩))
      (fun m τ => Hold (∃ z : Int, -1 ≤ z ∧ z < signs.length ∧ z.toNat = down (blkP signs b) s.toNat ∧ τ = σ ∧
        m = ⟨[(s_view, viewV T c rs), (s_place, pl p), (s_sep, .bytes b), (s_signs, .lst (signs.map sg)), (s_at, .int z)],
        [(Str.ofString "copy_signs", .raw (.ref T.f_copy_signs)), (Str.ofString "copy_index", .raw (.ref T.f_copy_index)), (Str.ofString "copy_sort", .raw (.ref T.f_copy_sort)), (Str.ofString "max", .raw (.builtin "max"))], []⟩))
      s.toNat (Hold.mk ⟨s, rfl, hs1, hs2, rfl, rfl, rfl⟩) ?_ ?_
    · rintro n m τ _ ⟨z, rfl, hz1, hz2, e2, rfl, rfl⟩
      walk_at "ww"
      refine if_b (fun h => ?_) fun h => ?_
      · have h := of_decide_eq_true h
        obtain ⟨j, rfl⟩ : ∃ j : Nat, z = ((j + 1 : Nat) : Int) := ⟨(z - 1).toNat, by omega⟩
        rw [Int.toNat_natCast] at *
        walk_at "ww"
        refine sub_signN (by first | assumption | omega) sm ?_
        walk_at "ww"
        refine sub_at Sq.tup (by decide) (by decide) rfl ?_
        walk_at "ww"
        refine (f_copy_sort T (S.codes _ (by omega)) ?_).call
        walk_at "ww"
        refine p_eqs ?_
        walk_at "ww"
        rw [show decide (srtS (srt b (sAt signs (j + 1)).2) = Str.ofString "blank") = blkP signs b (j + 1) from dec_srtS (y := 0) (srt_le _ _) (by decide)]
        refine if_b (fun h3 => ?_) fun h3 => ?_
        · walk_at "ww"
          refine ⟨_, ?_, Hold.mk ⟨((j + 1 : Nat) : Int) - 1, rfl, by omega, by omega, ?_, rfl, rfl⟩⟩
          · omega
          · rw [← e2, show (((j + 1 : Nat) : Int) - 1).toNat = j by omega, down, if_pos h3]
        · walk_at "ww"
          refine Hold.mk ⟨_, by omega, by omega, ?_, rfl, rfl⟩
          rw [← e2, Int.toNat_natCast, down, if_neg (by rw [h3]; decide)]
      · have h := of_decide_eq_false h
        walk_at "ww"
        refine Hold.mk ⟨z, by omega, by omega, ?_, rfl, rfl⟩
        rw [← e2, show z.toNat = 0 by omega]; rfl
    · rintro m τ ⟨z1, hz1, hz2, e1, rfl, rfl⟩
      rw [← e1] at q
      walk_at "ww"
      refine wps_whileK (fun n m τ' => Hold (∃ z : Int, n = z.toNat ∧ -1 ≤ z ∧ z < signs.length ∧ down (backP signs b) z.toNat = down (backP signs b) z1.toNat ∧ τ' = τ ∧
          m = ⟨[(s_view, viewV T c rs), (s_place, pl p), (s_sep, .bytes b), (s_signs, .lst (signs.map sg)), (s_at, .int z)],
          [(Str.ofString "copy_signs", .raw (.ref T.f_copy_signs)), (Str.ofString "copy_index", .raw (.ref T.f_copy_index)), (Str.ofString "copy_sort", .raw (.ref T.f_copy_sort)), (Str.ofString "max", .raw (.builtin "max"))], []⟩))
        (fun m τ' => Hold (∃ z : Int, -1 ≤ z ∧ z < signs.length ∧ z.toNat = down (backP signs b) z1.toNat ∧ τ' = τ ∧
          m = ⟨[(s_view, viewV T c rs), (s_place, pl p), (s_sep, .bytes b), (s_signs, .lst (signs.map sg)), (s_at, .int z)],
          [(Str.ofString "copy_signs", .raw (.ref T.f_copy_signs)), (Str.ofString "copy_index", .raw (.ref T.f_copy_index)), (Str.ofString "copy_sort", .raw (.ref T.f_copy_sort)), (Str.ofString "max", .raw (.builtin "max"))], []⟩))
        z1.toNat (Hold.mk ⟨z1, rfl, hz1, hz2, rfl, rfl, rfl⟩) ?_ ?_
      · rintro n m τ' _ ⟨z, rfl, hz1, hz2, e2, rfl, rfl⟩
        walk_at "ww"
        refine if_b (fun h => ?_) fun h => ?_
        · have h := of_decide_eq_true h
          obtain ⟨j, rfl⟩ : ∃ j : Nat, z = ((j + 1 : Nat) : Int) := ⟨(z - 1).toNat, by omega⟩
          rw [Int.toNat_natCast] at e2
          walk_at "ww"
          refine sub_sign (by omega) (by omega) sm ?_
          rw [show (((j + 1 : Nat) : Int) - 1).toNat = j by omega]
          walk_at "ww"
          refine sub_at Sq.tup (by decide) (by decide) rfl ?_
          walk_at "ww"
          refine (f_copy_sort T (S.codes _ (by omega)) ?_).call
          walk_at "ww"
          refine sub_signN (by first | assumption | omega) sm ?_
          walk_at "ww"
          refine sub_at Sq.tup (by decide) (by decide) rfl ?_
          walk_at "ww"
          refine (f_copy_sort T (S.codes _ (by omega)) ?_).call
          walk_at "ww"
          refine p_eqs ?_
          walk_at "ww"
          rw [show decide (srtS (srt b (sAt signs j).2) = srtS (srt b (sAt signs (j + 1)).2)) = backP signs b (j + 1) from dec_srtS (srt_le _ _) (srt_le _ _)]
          refine if_b (fun h3 => ?_) fun h3 => ?_
          · walk_at "ww"
            refine ⟨_, ?_, Hold.mk ⟨((j + 1 : Nat) : Int) - 1, rfl, by omega, by omega, ?_, rfl, rfl⟩⟩
            · omega
            · rw [← e2, show (((j + 1 : Nat) : Int) - 1).toNat = j by omega, down, if_pos h3]
          · walk_at "ww"
            refine Hold.mk ⟨_, by omega, by omega, ?_, rfl, rfl⟩
            rw [← e2, Int.toNat_natCast, down, if_neg (by rw [h3]; decide)]
        · have h := of_decide_eq_false h
          walk_at "ww"
          refine Hold.mk ⟨z, by omega, by omega, ?_, rfl, rfl⟩
          rw [← e2, show z.toNat = 0 by omega]; rfl
      · rintro m τ' ⟨z2, hz3, hz4, e3, rfl, rfl⟩
        rw [← e3] at q
        walk_at "ww"
        rw [show max z2 (0 : Int) = (z2.toNat : Int) by omega]
        refine sub_signN (by first | assumption | omega) sm ?_
        walk_at "ww"
        refine sub_at Sq.tup (by decide) (by decide) rfl ?_
        walk_at "ww"
        exact q
  refine if_b (fun h => ?_) fun h => ?_
  · have h : ltP (sAt signs a).1 p = false := by simpa using h
    walk_at "w"
    walk_at "w"
    walk_at "w"
    walk_at "w"
    walk_at "w"
    walk_at "w"
    exact rest _ (by omega) (by omega) (by rw [h]; simp)
  · have h : ltP (sAt signs a).1 p = true := by simpa using h
    walk_at "w"
    walk_at "w"
    walk_at "w"
    exact rest _ (by omega) (by omega) (by rw [h]; simp)
end
noncomputable def isBr (c : Int) : Bool := decide (c = 40) || decide (c = 41) || decide (c = 91) || decide (c = 93)
noncomputable def mateOf (c : Int) : Int := if c = 40 then 41 else if c = 41 then 40 else if c = 91 then 93 else 91
theorem isBr_or {c : Int} (h : isBr c = true) : c = 40 ∨ c = 41 ∨ c = 91 ∨ c = 93 := by
  unfold isBr at h
  simp only [Bool.or_eq_true, decide_eq_true_eq] at h
  exact or_assoc.mp (or_assoc.mp h)
noncomputable def goP (signs : List SignT) (j : Nat) : Bool := !decide ((sAt signs j).2 = 10) && !isBr (sAt signs j).2
noncomputable def optV : Option (Int × Int) → Val
  | none => .none
  | some p => pl p
noncomputable def scan (c m : Int) : Int → List SignT → Option (Int × Int)
  | _, [] => none
  | d, s :: l => if s.2 = c then scan c m (d + 1) l else if s.2 = m then (if d - 1 = 0 then some s.1 else scan c m (d - 1) l) else scan c m d l
/-- what is to be looked through, from z on -/
noncomputable def lane (signs : List SignT) (o : Bool) (z : Int) : List SignT := if o then signs.drop z.toNat else (signs.take (z + 1).toNat).reverse
noncomputable def stepZ (o : Bool) : Int := if o then 1 else -1
noncomputable def openB (c : Int) : Bool := decide (c = 40) || decide (c = 91)
noncomputable def brOf (signs : List SignT) (a : Nat) : Option (Int × Int) :=
  let j := up (goP signs) (signs.length - a) a
  let c := (sAt signs j).2
  if c = 10 then none else scan c (mateOf c) 0 (lane signs (openB c) j)
theorem lane_in {signs : List SignT} {o : Bool} {z : Int} (h0 : 0 ≤ z) (h1 : z < signs.length) : lane signs o z = sAt signs z.toNat :: lane signs o (z + stepZ o) := by
  obtain ⟨n, rfl⟩ : ∃ n : Nat, z = n := ⟨z.toNat, by omega⟩
  have hn : n < signs.length := by omega
  have e : signs[n] = sAt signs n := Option.some.inj ((List.getElem?_eq_getElem hn).symm.trans (sAt_get hn))
  cases o with
  | true =>
    unfold lane stepZ
    simp only [if_true]
    rw [Int.toNat_natCast, show ((n : Int) + 1).toNat = n + 1 by omega, List.drop_eq_getElem_cons hn, e]
  | false =>
    unfold lane stepZ
    simp only [Bool.false_eq_true, if_false]
    rw [Int.toNat_natCast, show ((n : Int) + 1).toNat = n + 1 by omega, show ((n : Int) + -1 + 1).toNat = n by omega, List.take_add_one, sAt_get hn]
    simp
theorem lane_out {signs : List SignT} {o : Bool} {z : Int} (h : ¬(0 ≤ z ∧ z < signs.length)) (h0 : o = true → 0 ≤ z) (h1 : o = false → z < signs.length) : lane signs o z = [] := by
  cases o with
  | true =>
    unfold lane
    simp only [if_true]
    have := h0 rfl
    exact List.drop_eq_nil_of_le (by omega)
  | false =>
    unfold lane
    simp only [Bool.false_eq_true, if_false]
    have := h1 rfl
    rw [show (z + 1).toNat = 0 by omega]
    rfl
structure SB (signs : List SignT) : Prop where
  last : (sAt signs (signs.length - 1)).2 = 10
  noc : ∀ i, i < signs.length → (sAt signs i).2 ≠ 123 ∧ (sAt signs i).2 ≠ 125
theorem has_all (c : Int) (h0 : 0 ≤ c) (h1 : c < 128) : (#[40, 91, 123] ++ #[41, 93, 125] : Array UInt8).contains c.toNat.toUInt8 = (isBr c || (decide (c = 123) || decide (c = 125))) := by
  have key : ∀ n : Fin 128, (#[40, 91, 123] ++ #[41, 93, 125] : Array UInt8).contains (n.val).toUInt8 = (isBr (n.val : Int) || (decide ((n.val : Int) = 123) || decide ((n.val : Int) = 125))) := by decide +kernel
  have := key ⟨c.toNat, by omega⟩
  dsimp only at this
  rw [show ((c.toNat : Nat) : Int) = c by omega] at this
  exact this
theorem has_open (c : Int) (h0 : 0 ≤ c) (h1 : c < 128) : (#[40, 91, 123] : Array UInt8).contains c.toNat.toUInt8 = (decide (c = 40) || decide (c = 91) || decide (c = 123)) := by
  have key : ∀ n : Fin 128, (#[40, 91, 123] : Array UInt8).contains (n.val).toUInt8 = (decide ((n.val : Int) = 40) || decide ((n.val : Int) = 91) || decide ((n.val : Int) = 123)) := by decide +kernel
  have := key ⟨c.toNat, by omega⟩
  dsimp only at this
  rw [show ((c.toNat : Nat) : Int) = c by omega] at this
  exact this
theorem up_lt {p : Nat → Bool} {n : Nat} (hl : p (n - 1) = false) : ∀ {a : Nat}, a < n → up p (n - a) a < n ∧ p (up p (n - a) a) = false := by
  intro a ha
  induction h : n - a generalizing a with
  | zero => exact absurd ha (Nat.not_lt.mpr (Nat.le_of_sub_eq_zero h))
  | succ f ih =>
    rw [up]
    cases hp : p a with
    | false => rw [if_neg (by decide)]; exact ⟨ha, hp⟩
    | true =>
      rw [if_pos rfl]
      have : a ≠ n - 1 := fun e => by rw [e, hl] at hp; cases hp
      exact ih (a := a + 1) (Nat.lt_of_le_of_ne ha fun e => this (Nat.eq_sub_of_add_eq e)) (Nat.succ.inj ((sub_back ha).symm.trans h))
section
variable {cx : Cx} {k : Nat} {σ : Sto} {Q : Val → Sto → Prop}
noncomputable def mbF (T : Top0 cx) : List (Str × Val) := [(Str.ofString "copy_signs", .raw (.ref T.f_copy_signs)), (Str.ofString "copy_index", .raw (.ref T.f_copy_index)), (Str.ofString "LINE_FEED", .int 10), (Str.ofString "OPENERS", .bytes #[40, 91, 123]), (Str.ofString "CLOSERS", .bytes #[41, 93, 125]), (Str.ofString "len", .raw (.builtin "len"))]
theorem f_matching_bracket (T : Top0 cx) {c : Int} {rs : List RowT} {signs : List SignT} {p : Int × Int} (S : SV rs signs) (B : SB signs) (q : Q (optV (brOf signs (lawAt signs p))) σ) :
    WpCode cx (k + 7) (.raw (.ref T.f_matching_bracket)) [viewV T c rs, pl p] σ Q := by
  refine enter T.h_matching_bracket [s_view, s_place] [s_signs, s_at, Str.ofString "code", Str.ofString "is_open", Str.ofString "mate", Str.ofString "step", Str.ofString "depth"]
    [(Str.ofString "copy_signs", .raw (.ref T.f_copy_signs)), (Str.ofString "copy_index", .raw (.ref T.f_copy_index)), (Str.ofString "LINE_FEED", .int 10), (Str.ofString "OPENERS", .bytes #[40, 91, 123]), (Str.ofString "CLOSERS", .bytes #[41, 93, 125]), (Str.ofString "len", .raw (.builtin "len"))] [] rfl (by walk_at "args") (by walk_at "oks") (by walk_at "gv") ?_
  have ne := S.ne
  have sm := S.small
  have hlen : (signs.map sg).length < 1000000 := small_len S.small
  have a0 := lawAt_lt p ne
  generalize ha : lawAt signs p = a at q a0
  have hgl : goP signs (signs.length - 1) = false := by unfold goP; rw [B.last]; rfl
  obtain ⟨jlt, jst⟩ := up_lt hgl a0
  walk_at "frame"
  walk_at "st"
  walk_at "ww"
  refine (f_copy_signs T S.wf S.fl S.len S.rowlen S.trips ?_).call
  rw [S.eq]
  walk_at "ww"
  refine (f_copy_index T S.ne S.mono S.small ?_).call
  rw [ha]
  walk_at "ww"
  refine wps_whileK (fun n m τ' => Hold (∃ j : Nat, n = signs.length - j ∧ j < signs.length ∧ up (goP signs) (signs.length - j) j = up (goP signs) (signs.length - a) a ∧ τ' = σ ∧
      m = ⟨[(s_view, viewV T c rs), (s_place, pl p), (s_signs, .lst (signs.map sg)), (s_at, .int j), (Str.ofString "code", .unbound), (Str.ofString "is_open", .unbound), (Str.ofString "mate", .unbound), (Str.ofString "step", .unbound), (Str.ofString "depth", .unbound)], mbF T, []⟩))
    (fun m τ' => Hold (∃ j : Nat, j = up (goP signs) (signs.length - a) a ∧ τ' = σ ∧
      m = ⟨[(s_view, viewV T c rs), (s_place, pl p), (s_signs, .lst (signs.map sg)), (s_at, .int j), (Str.ofString "code", .unbound), (Str.ofString "is_open", .unbound), (Str.ofString "mate", .unbound), (Str.ofString "step", .unbound), (Str.ofString "depth", .unbound)], mbF T, []⟩))
    (signs.length - a) (Hold.mk ⟨a, rfl, by omega, rfl, rfl, rfl⟩) ?_ ?_
  · rintro n m τ' _ ⟨j, rfl, hj, e2, rfl, rfl⟩
    unfold mbF
    refine WpT.mono (P := fun b τ => b = goP signs j ∧ τ = τ') ?_ ?_
    · walk_at "ww"
      refine sub_signN (by first | assumption | omega) sm ?_
      walk_at "ww"
      refine sub_at Sq.tup (by decide) (by decide) rfl ?_
      walk_at "ww"
      refine if_b (fun h => ?_) fun h => ?_
      · have h : (sAt signs j).2 ≠ 10 := by simpa using h
        walk_at "ww"
        refine sub_signN (by first | assumption | omega) sm ?_
        walk_at "ww"
        refine sub_at Sq.tup (by decide) (by decide) rfl ?_
        walk_at "ww"
        have g : goP signs j = !isBr (sAt signs j).2 := by unfold goP; simp [h]
        rw [g]
        refine if_b (fun h1 => ?_) fun h1 => ?_
        · have h1 := of_decide_eq_true h1
          walk_at "ww"
          refine sub_signN (by first | assumption | omega) sm ?_
          walk_at "ww"
          refine sub_at Sq.tup (by decide) (by decide) rfl ?_
          walk_at "ww"
          refine p_addb ?_ (by decide)
          walk_at "ww"
          refine p_inb ?_ (S.codes j hj) (by omega)
          rw [has_all _ (S.codes j hj) h1]
          obtain ⟨n1, n2⟩ := B.noc j hj
          rw [decide_eq_false n1, decide_eq_false n2]
          simp only [Bool.or_false]
          walk_at "ww"
          refine if_b (fun h2 => ?_) fun h2 => ?_
          · walk_at "ww"
            rw [h2]; exact ⟨rfl, by first | rfl | trivial⟩
          · walk_at "ww"
            rw [h2]; exact ⟨rfl, by first | rfl | trivial⟩
        · walk_at "ww"
          have h1 := of_decide_eq_false h1
          have : isBr (sAt signs j).2 = false := by
            unfold isBr
            rw [decide_eq_false (by omega), decide_eq_false (by omega), decide_eq_false (by omega), decide_eq_false (by omega)]; rfl
          rw [this]; exact ⟨rfl, by first | rfl | trivial⟩
      · have h : (sAt signs j).2 = 10 := by simpa using h
        walk_at "ww"
        unfold goP
        rw [h]; exact ⟨rfl, rfl⟩
    · rintro b τ ⟨rfl, rfl⟩
      refine if_b (fun hg => ?_) fun hg => ?_
      · have hne : j ≠ signs.length - 1 := fun e => by rw [e, hgl] at hg; cases hg
        walk_at "ww"
        refine c_len SqL.lst hlen ?_
        rw [List.length_map]
        walk_at "ww"
        rw [decide_eq_false (by omega)]
        walk_at "ww"
        refine ⟨_, ?_, Hold.mk ⟨j + 1, rfl, by omega, ?_, rfl, rfl⟩⟩
        · omega
        · rw [← e2, up_go hj hg]
      · exact Hold.mk ⟨j, by rw [← e2, up_stop hj hg], rfl, rfl⟩
  · rintro m τ' ⟨j, ej, rfl, rfl⟩
    rw [← ej] at jlt jst
    have hb : brOf signs a = if (sAt signs j).2 = 10 then none else scan (sAt signs j).2 (mateOf (sAt signs j).2) 0 (lane signs (openB (sAt signs j).2) j) := by unfold brOf; rw [← ej]
    rw [hb] at q
    unfold mbF
    walk_at "ww"
    refine sub_signN (by first | assumption | omega) sm ?_
    walk_at "ww"
    refine sub_at Sq.tup (by decide) (by decide) rfl ?_
    walk_at "ww"
    refine if_b (fun h => ?_) fun h => ?_
    · have h := of_decide_eq_true h
      rw [if_pos h] at q
      walk_at "ww"
      exact q
    · have h := of_decide_eq_false h
      rw [if_neg h] at q
      have hbr : isBr (sAt signs j).2 = true := by
        unfold goP at jst
        rw [decide_eq_false h] at jst
        simpa using jst
      have hc : (sAt signs j).2 = 40 ∨ (sAt signs j).2 = 41 ∨ (sAt signs j).2 = 91 ∨ (sAt signs j).2 = 93 := isBr_or hbr
      walk_at "ww"
      refine sub_signN (by first | assumption | omega) sm ?_
      walk_at "ww"
      refine sub_at Sq.tup (by decide) (by decide) rfl ?_
      walk_at "ww"
      refine p_inb ?_ (by omega) (by omega)
      rw [has_open _ (by omega) (by omega), decide_eq_false (B.noc j jlt).1, Bool.or_false, show (decide ((sAt signs j).2 = 40) || decide ((sAt signs j).2 = 91)) = openB (sAt signs j).2 from rfl]
      generalize (sAt signs j).2 = cc at *
      walk_at "w"
      walk_at "w"
      walk_at "w"
      walk_at "w"
      refine WpE.mono (Q := fun V τ => V = .int (mateOf cc) ∧ τ = τ') ?_ ?_
      · walk_at "ww"
        rcases hc with rfl | rfl | rfl | rfl
        all_goals
          first
          | refine if_t ?_
          | refine if_f ?_
          | (rw [show openB 40 = true by decide]; refine if_t ?_)
          | (rw [show openB 91 = true by decide]; refine if_t ?_)
          | (rw [show openB 41 = false by decide]; refine if_f ?_)
          | (rw [show openB 93 = false by decide]; refine if_f ?_)
          walk_at "ww"
          refine meth_bytes ⟨kp_builtin, ?_⟩
          walk_at "ww"
          refine c_find (by decide) (by decide) (by decide) ?_
          first
          | rw [show findAt #[40, 91, 123] 40 = 0 by decide +kernel]
          | rw [show findAt #[40, 91, 123] 91 = 1 by decide +kernel]
          | rw [show findAt #[41, 93, 125] 41 = 0 by decide +kernel]
          | rw [show findAt #[41, 93, 125] 93 = 1 by decide +kernel]
          refine sub_by _ (fun _ _ => rfl) (by decide) (by decide) (by decide) ?_
          exact ⟨rfl, rfl⟩
      · rintro V τ ⟨rfl, rfl⟩
        walk_at "w"
        walk_at "w"
        generalize ho : openB cc = o at q
        refine wps_consK fun K hK => (wps_two (by decide) (WpE.mono (Q := fun V τ' => V = .tup [.int (stepZ o), .int 0] ∧ τ' = τ) ?_ ?_) (by intro vs k p h; cases h; rfl))
        · walk_at "ww"
          cases o with
          | true => walk_at "ww"
          | false => walk_at "ww"
        · rintro V τ' ⟨rfl, rfl⟩
          refine ⟨_, _, _, _, rfl, by walk_at "upd", by walk_at "upd", ?_⟩
          walk_at "ww"
          refine wps_whileK (fun n m τ => Hold (∃ (z d : Int), n = (lane signs o z).length ∧ (o = true → 0 ≤ z) ∧ (o = false → z < signs.length) ∧ scan cc (mateOf cc) d (lane signs o z) = scan cc (mateOf cc) 0 (lane signs o j) ∧ τ = τ' ∧
              m = ⟨[(s_view, viewV T c rs), (s_place, pl p), (s_signs, .lst (signs.map sg)), (s_at, .int z), (Str.ofString "code", .int cc), (Str.ofString "is_open", .bool o), (Str.ofString "mate", .int (mateOf cc)), (Str.ofString "step", .int (stepZ o)), (Str.ofString "depth", .int d)], mbF T, []⟩))
            (fun m τ => Hold (scan cc (mateOf cc) 0 (lane signs o j) = none ∧ τ = τ' ∧ m.c = mbF T))
            _ (Hold.mk ⟨j, 0, rfl, (fun _ => by omega), (fun _ => by omega), rfl, rfl, rfl⟩) ?_ ?_
          · rintro n m τ _ ⟨z, d, rfl, z0, z1, es, rfl, rfl⟩
            unfold mbF
            refine WpT.mono (P := fun b τ'' => b = decide (0 ≤ z ∧ z < signs.length) ∧ τ'' = τ) ?_ ?_
            · walk_at "ww"
              refine if_b (fun h => ?_) fun h => ?_
              · have h := of_decide_eq_true h
                walk_at "ww"
                refine c_len SqL.lst hlen ?_
                rw [List.length_map]
                walk_at "ww"
                exact ⟨by simp [h], by first | rfl | trivial⟩
              · have h := of_decide_eq_false h
                exact ⟨by simp [h], by first | rfl | trivial⟩
            · rintro b τ'' ⟨rfl, rfl⟩
              refine if_b (fun hg => ?_) fun hg => ?_
              · obtain ⟨g0, g1⟩ := of_decide_eq_true hg
                rw [lane_in g0 g1] at es ⊢
                obtain ⟨g2, g3⟩ : (o = true → 0 ≤ z + stepZ o) ∧ (o = false → z + stepZ o < signs.length) := by
                  cases o with
                  | true => exact ⟨fun _ => (by simp only [stepZ, if_true]; omega), fun h => absurd h (by decide)⟩
                  | false => exact ⟨fun h => absurd h (by decide), fun _ => (by simp only [stepZ, Bool.false_eq_true, if_false]; omega)⟩
                walk_at "ww"
                refine sub_sign g0 g1 sm ?_
                walk_at "ww"
                refine sub_at Sq.tup (by decide) (by decide) rfl ?_
                walk_at "ww"
                rw [scan] at es
                refine if_b (fun h => ?_) fun h => ?_
                · have h := of_decide_eq_true h
                  rw [if_pos h] at es
                  walk_at "ww"
                  exact ⟨_, by simp, Hold.mk ⟨_, _, rfl, g2, g3, es, rfl, rfl⟩⟩
                · have h := of_decide_eq_false h
                  rw [if_neg h] at es
                  walk_at "ww"
                  refine sub_sign g0 g1 sm ?_
                  walk_at "ww"
                  refine sub_at Sq.tup (by decide) (by decide) rfl ?_
                  walk_at "ww"
                  refine if_b (fun h2 => ?_) fun h2 => ?_
                  · have h2 := of_decide_eq_true h2
                    rw [if_pos h2] at es
                    walk_at "ww"
                    refine if_b (fun h3 => ?_) fun h3 => ?_
                    · have h3 := of_decide_eq_true h3
                      rw [if_pos h3] at es
                      walk_at "ww"
                      refine sub_sign g0 g1 sm ?_
                      walk_at "ww"
                      refine sub_at Sq.tup (by decide) (by decide) rfl ?_
                      walk_at "ww"
                      rw [← es] at q
                      exact q
                    · have h3 := of_decide_eq_false h3
                      rw [if_neg h3] at es
                      walk_at "ww"
                      exact ⟨_, by simp, Hold.mk ⟨_, _, rfl, g2, g3, es, rfl, rfl⟩⟩
                  · have h2 := of_decide_eq_false h2
                    rw [if_neg h2] at es
                    walk_at "ww"
                    exact ⟨_, by simp, Hold.mk ⟨_, _, rfl, g2, g3, es, rfl, rfl⟩⟩
              · have g := of_decide_eq_false hg
                rw [lane_out g z0 z1, scan] at es
                exact Hold.mk ⟨es.symm, rfl, rfl⟩
          · rintro m τ ⟨es, rfl, _⟩
            rw [es] at q
            walk_at "ww"
            exact q
end
noncomputable def jwalk (signs : List SignT) (code s : Int) (near : Bool) : Nat → Int → Option (Int × Int)
  | 0, _ => none
  | f + 1, z => if 0 ≤ z ∧ z < signs.length ∧ (sAt signs z.toNat).2 ≠ 10 then
      (if (sAt signs z.toNat).2 = code then some (sAt signs (if near then z - s else z).toNat).1 else jwalk signs code s near f (z + s)) else none
noncomputable def hitP (signs : List SignT) (code z : Int) : Bool := decide (0 ≤ z ∧ z < signs.length ∧ (sAt signs z.toNat).2 = code)
noncomputable def jStart (signs : List SignT) (code s : Int) (near : Bool) (a : Nat) : Int := if near && hitP signs code (a + s) then a + s + s else a + s
noncomputable def jumpOf (signs : List SignT) (code : Int) (back near : Bool) (a : Nat) : Option (Int × Int) :=
  jwalk signs code (stepZ !back) near (signs.length + 3) (jStart signs code (stepZ !back) near a)
/-- how many turns are left -/
noncomputable def leftJ (signs : List SignT) (s z : Int) : Nat := if s = 1 then (signs.length - z).toNat else (z + 1).toNat
theorem jStart_ok {signs : List SignT} {code s : Int} {near : Bool} {a : Nat} (ha : a < signs.length) (hs : s = 1 ∨ s = -1) :
    0 ≤ jStart signs code s near a - s ∧ jStart signs code s near a - s < signs.length ∧ leftJ signs s (jStart signs code s near a) < signs.length + 3 := by
  unfold jStart
  by_cases h : (near && hitP signs code (a + s)) = true
  · rw [if_pos h]
    simp only [Bool.and_eq_true] at h
    have := of_decide_eq_true h.2
    unfold leftJ
    rcases hs with rfl | rfl <;> simp <;> omega
  · rw [if_neg h]
    unfold leftJ
    rcases hs with rfl | rfl <;> simp <;> omega
theorem stepZ_or (o : Bool) : stepZ o = 1 ∨ stepZ o = -1 := by cases o <;> simp [stepZ]
section
variable {cx : Cx} {k : Nat} {σ : Sto} {Q : Val → Sto → Prop}
noncomputable def jpF (T : Top0 cx) : List (Str × Val) := [(Str.ofString "copy_signs", .raw (.ref T.f_copy_signs)), (Str.ofString "copy_index", .raw (.ref T.f_copy_index)), (Str.ofString "LINE_FEED", .int 10), (Str.ofString "len", .raw (.builtin "len"))]
noncomputable def s_code := Str.ofString "code"
noncomputable def s_back := Str.ofString "is_back"
noncomputable def s_near := Str.ofString "is_near"
noncomputable def s_jumped := Str.ofString "jumped"
noncomputable def s_step := Str.ofString "step"
theorem f_jump_place (T : Top0 cx) {c : Int} {rs : List RowT} {signs : List SignT} {p : Int × Int} {code : Int} {back near : Bool} (S : SV rs signs) (q : Q (optV (jumpOf signs code back near (lawAt signs p))) σ) :
    WpCode cx (k + 7) (.raw (.ref T.f_jump_place)) [viewV T c rs, pl p, .tup [.int code, .bool back, .bool near]] σ Q := by
  refine enter T.h_jump_place [s_view, s_place, Str.ofString "jumped"] [Str.ofString "code", Str.ofString "is_back", Str.ofString "is_near", s_signs, Str.ofString "step", s_at]
    [(Str.ofString "copy_signs", .raw (.ref T.f_copy_signs)), (Str.ofString "copy_index", .raw (.ref T.f_copy_index)), (Str.ofString "LINE_FEED", .int 10), (Str.ofString "len", .raw (.builtin "len"))] [] rfl (by walk_at "args") (by walk_at "oks") (by walk_at "gv") ?_
  have ne := S.ne
  have sm := S.small
  have hlen : (signs.map sg).length < 1000000 := small_len S.small
  have a0 := lawAt_lt p ne
  generalize ha : lawAt signs p = a at q a0
  walk_at "frame"
  walk_at "st"
  refine wps_many ?_
  walk_at "ww"
  refine wpa_tuple ?_
  refine wpal_cons (wpa_name (by walk_at "upd") ?_)
  refine wpal_cons (wpa_name (by walk_at "upd") ?_)
  refine wpal_cons (wpa_name (by walk_at "upd") ?_)
  refine wpal_nil ?_
  dsimp only
  walk_at "ww"
  refine (f_copy_signs T S.wf S.fl S.len S.rowlen S.trips ?_).call
  rw [S.eq]
  walk_at "w"
  walk_at "w"
  walk_at "w"
  walk_at "w"
  refine WpE.mono (Q := fun V τ => V = .int (stepZ !back) ∧ σ = τ) ?_ ?_
  · walk_at "ww"
    cases back with
    | true => walk_at "ww"
    | false => walk_at "ww"
  rintro V τ ⟨rfl, rfl⟩
  walk_at "ww"
  refine (f_copy_index T S.ne S.mono S.small ?_).call
  rw [ha]
  have hs := stepZ_or (!back)
  unfold jumpOf at q
  generalize stepZ (!back) = s at hs q
  have rest : ∀ z0 : Int, 0 ≤ z0 - s → z0 - s < signs.length → leftJ signs s z0 < signs.length + 3 → Q (optV (jwalk signs code s near (signs.length + 3) z0)) σ → WpSs cx (k + 6) ⟨[(s_view, viewV T c rs), (s_place, pl p), (Str.ofString "jumped", .tup [.int code, .bool back, .bool near]), (Str.ofString "code", .int code), (Str.ofString "is_back", .bool back), (Str.ofString "is_near", .bool near), (s_signs, .lst (signs.map sg)), (Str.ofString "step", .int s), (s_at, .int z0)], jpF T, []⟩ σ ((bodyOf (stAt 27)).drop 5)
      fun F _ σ' => match F with | .ret V => Q V σ' | .next => Q .none σ' | _ => False := by
    intro z0 i0 i1 i2 q
    walk_at "st"
    refine wps_whileK (fun n m τ => Hold (∃ z : Int, 0 ≤ z - s ∧ z - s < signs.length ∧ leftJ signs s z < n ∧ jwalk signs code s near n z = jwalk signs code s near (signs.length + 3) z0 ∧ τ = σ ∧
        m = ⟨[(s_view, viewV T c rs), (s_place, pl p), (Str.ofString "jumped", .tup [.int code, .bool back, .bool near]), (Str.ofString "code", .int code), (Str.ofString "is_back", .bool back), (Str.ofString "is_near", .bool near), (s_signs, .lst (signs.map sg)), (Str.ofString "step", .int s), (s_at, .int z)], jpF T, []⟩))
      (fun m τ => Hold (jwalk signs code s near (signs.length + 3) z0 = none ∧ τ = σ ∧ m.c = jpF T))
      _ (Hold.mk ⟨z0, i0, i1, i2, rfl, rfl, rfl⟩) ?_ ?_
    · rintro n m τ _ ⟨z, j0, j1, j2, es, rfl, rfl⟩
      unfold jpF
      refine WpT.mono (P := fun b τ'' => b = decide (0 ≤ z ∧ z < signs.length ∧ (sAt signs z.toNat).2 ≠ 10) ∧ τ'' = τ) ?_ ?_
      · walk_at "ww"
        refine if_b (fun h => ?_) fun h => ?_
        · have h := of_decide_eq_true h
          walk_at "ww"
          refine c_len SqL.lst hlen ?_
          rw [List.length_map]
          walk_at "ww"
          refine if_b (fun h1 => ?_) fun h1 => ?_
          · have h1 := of_decide_eq_true h1
            walk_at "ww"
            refine sub_sign h h1 sm ?_
            walk_at "ww"
            refine sub_at Sq.tup (by decide) (by decide) rfl ?_
            walk_at "ww"
            refine if_b (fun h2 => ?_) fun h2 => ?_
            · walk_at "ww"
              exact ⟨by simpa [h, h1] using h2, by first | rfl | trivial⟩
            · walk_at "ww"
              exact ⟨by simpa [h, h1] using h2, by first | rfl | trivial⟩
          · have h1 := of_decide_eq_false h1
            walk_at "ww"
            exact ⟨by simp [h1], by first | rfl | trivial⟩
        · have h := of_decide_eq_false h
          walk_at "ww"
          exact ⟨by simp [h], by first | rfl | trivial⟩
      · rintro b τ'' ⟨rfl, rfl⟩
        obtain ⟨f, rfl⟩ : ∃ f, n = f + 1 := ⟨n - 1, by omega⟩
        rw [jwalk] at es
        refine if_b (fun hg => ?_) fun hg => ?_
        · have hg := of_decide_eq_true hg
          rw [if_pos hg] at es
          obtain ⟨g0, g1, g2⟩ := hg
          walk_at "ww"
          refine sub_sign g0 g1 sm ?_
          walk_at "ww"
          refine sub_at Sq.tup (by decide) (by decide) rfl ?_
          walk_at "ww"
          refine if_b (fun h => ?_) fun h => ?_
          · have h := of_decide_eq_true h
            rw [if_pos h] at es
            walk_at "ww"
            cases near with
            | true =>
              walk_at "ww"
              refine sub_sign (by omega) (by omega) sm ?_
              walk_at "ww"
              refine sub_at Sq.tup (by decide) (by decide) rfl ?_
              walk_at "ww"
              rw [← es] at q
              exact q
            | false =>
              walk_at "ww"
              refine sub_sign (by omega) (by omega) sm ?_
              walk_at "ww"
              refine sub_at Sq.tup (by decide) (by decide) rfl ?_
              walk_at "ww"
              rw [← es] at q
              exact q
          · have h := of_decide_eq_false h
            rw [if_neg h] at es
            walk_at "ww"
            refine ⟨f, by omega, Hold.mk ⟨z + s, by omega, by omega, ?_, es, rfl, rfl⟩⟩
            unfold leftJ at j2 ⊢
            rcases hs with rfl | rfl
            · simp only [if_true] at j2 ⊢; omega
            · simp only [show ¬((-1 : Int) = 1) by decide, if_false] at j2 ⊢; omega
        · have hg := of_decide_eq_false hg
          rw [if_neg hg] at es
          exact Hold.mk ⟨es.symm, rfl, rfl⟩
    · rintro m τ ⟨es, rfl, _⟩
      rw [es] at q
      walk_at "ww"
      exact q
  have hl := jStart_ok (signs := signs) (code := code) (s := s) (near := near) a0 hs
  walk_at "w"
  walk_at "w"
  walk_at "w"
  walk_at "w"
  walk_at "w"
  walk_at "w"
  refine WpT.mono (P := fun b τ'' => b = (near && hitP signs code (a + s)) ∧ τ'' = σ) ?_ ?_
  · walk_at "ww"
    cases near with
    | false => walk_at "ww"
    | true =>
      rw [Bool.true_and]
      walk_at "ww"
      refine if_b (fun h => ?_) fun h => ?_
      · have h := of_decide_eq_true h
        walk_at "ww"
        refine c_len SqL.lst hlen ?_
        rw [List.length_map]
        walk_at "ww"
        refine if_b (fun h1 => ?_) fun h1 => ?_
        · have h1 := of_decide_eq_true h1
          walk_at "ww"
          refine sub_sign h h1 sm ?_
          walk_at "ww"
          refine sub_at Sq.tup (by decide) (by decide) rfl ?_
          walk_at "ww"
          refine if_b (fun h2 => ?_) fun h2 => ?_
          · have h2 := of_decide_eq_true h2
            walk_at "ww"
            exact ⟨by simp [hitP, h, h1, h2], by first | rfl | trivial⟩
          · have h2 := of_decide_eq_false h2
            walk_at "ww"
            exact ⟨by simp [hitP, h2], by first | rfl | trivial⟩
        · have h1 := of_decide_eq_false h1
          walk_at "ww"
          exact ⟨by simp [hitP, h1], by first | rfl | trivial⟩
      · have h := of_decide_eq_false h
        walk_at "ww"
        exact ⟨by simp [hitP, h], by first | rfl | trivial⟩
  · rintro b τ'' ⟨rfl, rfl⟩
    unfold jStart at hl q
    refine if_b (fun hg => ?_) fun hg => ?_
    · rw [if_pos hg] at hl q
      walk_at "w"
      walk_at "w"
      walk_at "w"
      walk_at "w"
      walk_at "w"
      walk_at "w"
      walk_at "w"
      walk_at "w"
      exact rest _ hl.1 hl.2.1 hl.2.2 q
    · rw [if_neg (by rw [hg]; decide)] at hl q
      walk_at "w"
      walk_at "w"
      exact rest _ hl.1 hl.2.1 hl.2.2 q
end
theorem enums_len : ∀ (i : Int) (l : List Val), (enums i l).length = l.length
  | _, [] => rfl
  | i, v :: l => by rw [enums, List.length_cons, enums_len, List.length_cons]
theorem filt_succ (P : Nat → Bool) (j : Nat) : (List.range (j + 1)).filter P = (List.range j).filter P ++ if P j then [j] else [] := by
  rw [List.range_succ, List.filter_append]
  congr 1
  cases h : P j <;> simp [h]
theorem shaped_lints (l : List Int) : SeqAt.shaped (.list (l.map .int)) = true := by
  have h1 := canLay_ints l
  have h2 := depth_ints l
  unfold SeqAt.shaped
  rw [PyData.canLay0, h1, PyData.depth]
  simp
  omega
theorem eqv_nil_lints (l : List Int) : PyData.eqv (.list (l.map .int)) (.list []) = l.isEmpty := by
  cases l with
  | nil => rfl
  | cons x l => rfl
noncomputable def behindL (signs : List SignT) (p : Int × Int) (j : Nat) : List Int := ((List.range j).filter fun i => !ltP (sAt signs i).1 p).map Int.ofNat
theorem behind_get {signs : List SignT} {p : Int × Int} : (behindL signs p signs.length)[0]? = (signs.findIdx? (fun s => !ltP s.1 p)).map Int.ofNat := by
  unfold behindL
  rw [List.getElem?_map]
  congr 1
  rw [← List.head?_eq_getElem?, List.head?_filter]
  cases h : (List.range signs.length).find? (fun i => !ltP (sAt signs i).1 p) with
  | some i =>
    obtain ⟨h1, h2, h3⟩ := List.find?_range_eq_some.mp h
    have hi : i < signs.length := List.mem_range.mp h2
    refine Eq.symm (List.findIdx?_eq_some_iff_getElem.mpr ⟨hi, ?_, fun j hj => ?_⟩)
    · have ei : signs[i] = sAt signs i := Option.some.inj ((List.getElem?_eq_getElem hi).symm.trans (sAt_get hi))
      rw [ei]; exact h1
    · have hj' : j < signs.length := by omega
      have ej : signs[j] = sAt signs j := Option.some.inj ((List.getElem?_eq_getElem hj').symm.trans (sAt_get hj'))
      have := h3 j hj
      rw [ej]
      simpa using this
  | none =>
    have hn := List.find?_range_eq_none.mp h
    refine Eq.symm (List.findIdx?_eq_none_iff.mpr fun s hs => ?_)
    obtain ⟨i, hi, e⟩ := List.mem_iff_getElem.mp hs
    have ei : signs[i] = sAt signs i := Option.some.inj ((List.getElem?_eq_getElem hi).symm.trans (sAt_get hi))
    have := hn i hi
    rw [← e, ei]
    simpa using this
section
variable {cx : Cx} {k : Nat} {σ : Sto} {Q : Val → Sto → Prop}
theorem p_nei {l : List Int} (q : Q (.bool (!l.isEmpty)) σ) : Wp2 cx k (compareOp .NotEq) (.lst (l.map .int)) (.lst []) σ Q :=
  p_ned (d := .list (l.map .int)) (e := .list []) (.inl (by rw [vd, vds_ints])) (.inl rfl) (shaped_lints l) (by decide) (by rw [eqv_nil_lints]; exact q)
end
section
variable {cx : Cx} {k : Nat} {σ : Sto} {Q : Val → Sto → Prop}
theorem f_law_sort (T : Top0 cx) {b : Array UInt8} {code : Int} (h0 : 0 ≤ code) (q : Q (.int (srt b code)) σ) : WpCode cx (k + 1) (.raw (.ref T.f_law_sort)) [.int code, .bytes b] σ Q := by
  refine enter T.h_law_sort [Str.ofString "code", Str.ofString "separators"] [] [] [] rfl (by walk_at "args") (by walk_at "oks") (by walk_at "gv") ?_
  walk_at "frame"
  walk_at "st"
  walk_at "ww"
  refine p_in (l := [10, 32]) ?_
  walk_at "ww"
  refine if_b (fun h => ?_) fun h => ?_
  · walk_at "ww"
    have e : srt b code = 0 := by unfold srt; rw [if_pos (by have : code = 10 ∨ code = 32 := by simpa using h
                                                             omega)]
    rw [e] at q
    exact q
  · walk_at "ww"
    have hn : ¬(code = 32 ∨ code = 10) := by
      have : ¬(code = 10 ∨ code = 32) := by simpa using h
      omega
    refine if_b (fun h1 => ?_) fun h1 => ?_
    · have h1 := of_decide_eq_true h1
      walk_at "ww"
      refine p_inb ?_ h0 (by omega)
      walk_at "ww"
      refine if_b (fun h2 => ?_) fun h2 => ?_
      · walk_at "ww"
        have e : srt b code = 1 := by unfold srt; rw [if_neg hn, if_pos ⟨h1, h2⟩]
        rw [e] at q
        exact q
      · walk_at "ww"
        have e : srt b code = 2 := by unfold srt; rw [if_neg hn, if_neg (fun h => by rw [h2] at h; exact absurd h.2 (by decide))]
        rw [e] at q
        exact q
    · walk_at "ww"
      have e : srt b code = 2 := by unfold srt; rw [if_neg hn, if_neg (fun h => of_decide_eq_false h1 h.1)]
      rw [e] at q
      exact q
theorem f_law_at (T : Top0 cx) {signs : List SignT} {p : Int × Int} (ne : 1 ≤ signs.length) (sm : signs.length ≤ 900) (q : Q (.int (lawAt signs p)) σ) : WpCode cx (k + 1) (.raw (.ref T.f_law_at)) [.lst (signs.map sg), pl p] σ Q := by
  refine enter T.h_law_at [s_signs, s_place] [Str.ofString "behind"] [(Str.ofString "enumerate", .raw (.type "enumerate")), (Str.ofString "len", .raw (.builtin "len"))] [s_place] rfl (by walk_at "args") (by walk_at "oks") (by walk_at "gv") ?_
  walk_at "frame"
  walk_at "st"
  refine wps_comp [s_at, Str.ofString "one"] [(s_place, pl p)] [] (by walk_at "oks") (by walk_at "caps") (by walk_at "keys") trivial (tt := true) (fun _ => ⟨_, _, _, rfl⟩) ?_
  refine wit_enum (Or.inr (by walk_at "mem")) ?_
  walk_at "ww"
  refine ⟨?_, fun l acc τ => Hold (τ = σ ∧ ∃ j, j ≤ signs.length ∧ l = enums (j : Int) ((signs.drop j).map sg) ∧ acc = (behindL signs p j).map Val.int), Hold.mk ⟨rfl, 0, Nat.zero_le _, rfl, rfl⟩, ⟨fun _ _ _ _ => trivial, ?_⟩, ?_⟩
  · rw [enums_len, List.length_map]; omega
  · rintro v l acc τ ⟨rfl, j, hj, hl, rfl⟩
    obtain ⟨d, hd, hlt, rfl, rfl⟩ := enums_cons hl
    have ed : d = sAt signs j := Option.some.inj (hd.symm.trans (sAt_get hlt))
    subst ed
    refine wpa_tuple (wpal_cons (wpa_name .here (wpal_cons (wpa_name (.there .here) (wpal_nil ?_)))))
    walk_at "frame"
    refine ifs_one ?_
    walk_at "ww"
    refine sub_at Sq.tup (by decide) (by decide) rfl ?_
    walk_at "ww"
    refine p_gep ?_
    walk_at "ww"
    have e : (behindL signs p (j + 1)).map Val.int = (behindL signs p j).map .int ++ if !ltP (sAt signs j).1 p then [.int j] else [] := by
      unfold behindL
      rw [filt_succ, List.map_append, List.map_append]
      congr 1
      split <;> rfl
    refine if_b (fun h => ?_) fun h => ?_
    · walk_at "ww"
      rw [if_pos h] at e
      exact Hold.mk ⟨rfl, j + 1, hlt, rfl, e.symm⟩
    · rw [if_neg (by rw [h]; decide), List.append_nil] at e
      exact Hold.mk ⟨rfl, j + 1, hlt, rfl, e.symm⟩
  · rintro acc τ ⟨rfl, j, hj, hl, rfl⟩
    have hge := enums_nil hl
    have ej : j = signs.length := by omega
    subst ej
    refine ⟨_, by walk_at "upd", ?_⟩
    walk_at "ww"
    refine wpe_list ?_
    walk_at "ww"
    refine p_nei ?_
    walk_at "ww"
    have hg := behind_get (signs := signs) (p := p)
    unfold lawAt at q
    refine if_b (fun h => ?_) fun h => ?_
    · walk_at "ww"
      cases hf : signs.findIdx? (fun s => !ltP s.1 p) with
      | some i =>
        rw [hf] at hg q
        refine sub_at Sq.lst (by decide) (by decide) (W := .int i) ?_ ?_
        · rw [List.getElem?_map]
          show Option.map Val.int ((behindL signs p signs.length)[0]?) = _
          rw [hg]; rfl
        walk_at "ww"
        exact q
      | none =>
        rw [hf] at hg
        cases hb : behindL signs p signs.length with
        | nil => rw [hb] at h; cases h
        | cons x l => rw [hb] at hg; cases hg
    · walk_at "ww"
      refine c_len SqL.lst (small_len sm) ?_
      rw [List.length_map]
      walk_at "ww"
      cases hf : signs.findIdx? (fun s => !ltP s.1 p) with
      | some i =>
        rw [hf] at hg
        cases hb : behindL signs p signs.length with
        | nil => rw [hb] at hg; cases hg
        | cons x l => rw [hb] at h; cases h
      | none =>
        rw [hf] at q
        dsimp only at q
        rw [show ((signs.length - 1 : Nat) : Int) = (signs.length : Int) - 1 by omega] at q
        exact q
end
noncomputable def nv (N : List Nat) : List Val := N.map fun i => Val.int (i : Nat)
theorem nv_ints (N : List Nat) : nv N = (N.map Int.ofNat).map .int := by unfold nv; rw [List.map_map]; rfl
noncomputable def begP (signs : List SignT) (b : Array UInt8) (k : Nat) : Bool := decide (0 < sr signs b k) && (decide (k = 0) || decide (sr signs b (k - 1) ≠ sr signs b k))
noncomputable def endP (signs : List SignT) (b : Array UInt8) (k : Nat) : Bool := decide (0 < sr signs b k) && (decide (k = signs.length - 1) || decide (sr signs b (k + 1) ≠ sr signs b k))
noncomputable def boundOf (signs : List SignT) (p : Int × Int) (a : Nat) : Nat := if ltP (sAt signs a).1 p then a + 1 else a
noncomputable def begL (signs : List SignT) (b : Array UInt8) : List Nat := (List.range signs.length).filter (begP signs b)
noncomputable def endL (signs : List SignT) (b : Array UInt8) : List Nat := (List.range signs.length).filter (endP signs b)
noncomputable def w1 (signs : List SignT) (b : Array UInt8) (a : Nat) : Nat := ((begL signs b).filter fun k => decide (a < k)).head?.getD (signs.length - 1)
noncomputable def w2 (signs : List SignT) (b : Array UInt8) (a : Nat) : Nat := ((endL signs b).filter fun k => decide (a < k)).head?.getD (signs.length - 1)
noncomputable def w3 (signs : List SignT) (b : Array UInt8) (bd : Nat) : Nat := ((begL signs b).filter fun k => decide (k < bd)).getLast?.getD 0
theorem headD_lt {L : List Nat} {n d : Nat} (h : ∀ x ∈ L, x < n) (hd : d < n) : L.head?.getD d < n := by
  cases L with
  | nil => exact hd
  | cons x l => exact h x List.mem_cons_self
theorem lastD_lt {L : List Nat} {n d : Nat} (h : ∀ x ∈ L, x < n) (hd : d < n) : L.getLast?.getD d < n := by
  cases e : L.getLast? with
  | none => exact hd
  | some x => exact h x (List.mem_of_getLast? e)
theorem w1_lt {signs : List SignT} {b : Array UInt8} {a : Nat} (ne : 1 ≤ signs.length) : w1 signs b a < signs.length :=
  headD_lt (fun x hx => List.mem_range.mp (List.mem_filter.mp (List.mem_filter.mp hx).1).1) (by omega)
theorem w2_lt {signs : List SignT} {b : Array UInt8} {a : Nat} (ne : 1 ≤ signs.length) : w2 signs b a < signs.length :=
  headD_lt (fun x hx => List.mem_range.mp (List.mem_filter.mp (List.mem_filter.mp hx).1).1) (by omega)
theorem w3_lt {signs : List SignT} {b : Array UInt8} {a : Nat} (ne : 1 ≤ signs.length) : w3 signs b a < signs.length :=
  lastD_lt (fun x hx => List.mem_range.mp (List.mem_filter.mp (List.mem_filter.mp hx).1).1) (by omega)
section
variable {cx : Cx} {k : Nat} {σ : Sto} {Q : Val → Sto → Prop}
theorem p_nen {N : List Nat} (q : Q (.bool (!N.isEmpty)) σ) : Wp2 cx k (compareOp .NotEq) (.lst (nv N)) (.lst []) σ Q := by
  rw [nv_ints]
  refine p_nei ?_
  cases N <;> exact q
/-- a filter over the first numbers -/
theorem comp_rng {x : Str} {p1 p2 : Pos} {c : List (Str × Val)} {test : Expr} {P : Nat → Bool} {n : Nat}
    (h : ∀ j, j < n → WpT cx k ⟨[(x, .int (j : Nat))], c, []⟩ σ test fun b τ => b = P j ∧ τ = σ) :
    CompJ cx k [x] c (.Name x p1) [test] (.Name x p2) HT (fun l acc τ => Hold (τ = σ ∧ ∃ j, j ≤ n ∧ l = upFrom (j : Nat) (n - j) ∧ acc = nv ((List.range j).filter P))) := by
  refine ⟨fun _ _ _ _ => trivial, ?_⟩
  rintro v l acc τ ⟨rfl, j, hj, hl, rfl⟩
  obtain ⟨hlt, rfl, rfl⟩ := upFrom_cons hl
  refine wpa_name .here (ifs_one (WpT.mono (h j hlt) ?_))
  rintro b τ' ⟨rfl, rfl⟩
  have e := filt_succ P j
  refine if_b (fun hb => ?_) fun hb => ?_
  · refine wpe_nameG (Or.inl List.mem_cons_self) (fun h => by cases h) ?_
    rw [if_pos hb] at e
    exact Hold.mk ⟨rfl, j + 1, hlt, rfl, by rw [e]; simp [nv]⟩
  · rw [if_neg (by rw [hb]; decide), List.append_nil] at e
    exact Hold.mk ⟨rfl, j + 1, hlt, rfl, by rw [e]⟩
/-- a filter over a list of numbers -/
theorem comp_lst {x : Str} {p1 p2 : Pos} {c : List (Str × Val)} {test : Expr} {P : Nat → Bool} {N : List Nat}
    (h : ∀ j ∈ N, WpT cx k ⟨[(x, .int (j : Nat))], c, []⟩ σ test fun b τ => b = P j ∧ τ = σ) :
    CompJ cx k [x] c (.Name x p1) [test] (.Name x p2) HT (fun l acc τ => Hold (τ = σ ∧ ∃ done rest, N = done ++ rest ∧ l = nv rest ∧ acc = nv (done.filter P))) := by
  refine ⟨fun _ _ _ _ => trivial, ?_⟩
  rintro v l acc τ ⟨rfl, done, rest, e1, hl, rfl⟩
  cases rest with
  | nil => cases hl
  | cons j rest =>
    obtain ⟨rfl, rfl⟩ := List.cons.inj hl
    refine wpa_name .here (ifs_one (WpT.mono (h j (by rw [e1]; simp)) ?_))
    rintro b τ' ⟨rfl, rfl⟩
    refine if_b (fun hb => ?_) fun hb => ?_
    · refine wpe_nameG (Or.inl List.mem_cons_self) (fun h => by cases h) ?_
      exact Hold.mk ⟨rfl, done ++ [j], rest, by rw [e1]; simp, rfl, by rw [List.filter_append]; simp [hb, nv]⟩
    · exact Hold.mk ⟨rfl, done ++ [j], rest, by rw [e1]; simp, rfl, by rw [List.filter_append]; simp [hb]⟩
theorem nv_nil {N : List Nat} (h : [] = nv N) : N = [] := by cases N with
  | nil => rfl
  | cons _ _ => cases h
noncomputable def sortV (signs : List SignT) (b : Array UInt8) : List Val := signs.map fun s => .int (srt b s.2 : Nat)
theorem sub_sort {sl : Expr} {signs : List SignT} {b : Array UInt8} {i : Int} (h0 : 0 ≤ i) (h1 : i < signs.length) (hz : signs.length ≤ 900) (q : Q (.int (sr signs b i.toNat : Nat)) σ) (h : plainSl sl := by intro _ _; rfl) : WpSub cx k sl (.lst (sortV signs b)) (.int i) σ Q :=
  sub_at Sq.lst h0 (by omega) (W := .int (sr signs b i.toNat : Nat)) (by unfold sortV; rw [List.getElem?_map, sAt_get (by omega)]; rfl) q h
theorem sub_sortN {sl : Expr} {signs : List SignT} {b : Array UInt8} {j : Nat} (h1 : j < signs.length) (hz : signs.length ≤ 900) (q : Q (.int (sr signs b j : Nat)) σ) (h : plainSl sl := by intro _ _; rfl) : WpSub cx k sl (.lst (sortV signs b)) (.int j) σ Q :=
  sub_sort (Int.natCast_nonneg j) (Int.ofNat_lt.mpr h1) hz (by rw [Int.toNat_natCast]; exact q) h
theorem sr_ne {x y : Nat} (h : ¬ ((x : Int) ≠ y)) : ¬ x ≠ y := fun e => h fun f => e (Int.ofNat.inj f)
end
section
variable {cx : Cx} {k : Nat} {σ : Sto} {Q : Val → Sto → Prop}
noncomputable abbrev s_sorts := Str.ofString "sorts"
noncomputable abbrev s_last := Str.ofString "last"
theorem f_law_words (T : Top0 cx) {signs : List SignT} {p : Int × Int} {b : Array UInt8} (ne : 1 ≤ signs.length) (sm : signs.length ≤ 900) (codes : ∀ i, i < signs.length → 0 ≤ (sAt signs i).2)
    (q : Q (.lst [pl (sAt signs (w1 signs b (lawAt signs p))).1, pl (sAt signs (w2 signs b (lawAt signs p))).1, pl (sAt signs (w3 signs b (boundOf signs p (lawAt signs p)))).1]) σ) :
    WpCode cx (k + 2) (.raw (.ref T.f_law_words)) [.lst (signs.map sg), pl p, .bytes b] σ Q := by
  have a0 := lawAt_lt p ne
  generalize ha : lawAt signs p = a at q a0
  refine enter T.h_law_words [s_signs, s_place, s_sep] [s_sorts, s_last, s_at, Str.ofString "begins", Str.ofString "ends", Str.ofString "later", Str.ofString "after", Str.ofString "bound", Str.ofString "ahead"]
    [(Str.ofString "len", .raw (.builtin "len")), (Str.ofString "_law_at", .raw (.ref T.f_law_at)), (Str.ofString "range", .raw (.type "range"))] [s_sep, s_sorts, s_last, s_at, Str.ofString "bound"] rfl (by walk_at "args") (by walk_at "oks") (by walk_at "gv") ?_
  walk_at "frame"
  walk_at "st"
  refine wps_comp [Str.ofString "spot", Str.ofString "code"] [(s_sep, .bytes b)] [(Str.ofString "_law_sort", .raw (.ref T.f_law_sort))] (by walk_at "oks") (by walk_at "caps") (by walk_at "keys") (by walk_at "gv") (tt := false) (fun h => nomatch h) ?_
  refine wit_lst ?_
  walk_at "ww"
  refine ⟨fun l acc τ => Hold (τ = σ ∧ ∃ done rest, signs = done ++ rest ∧ l = rest.map sg ∧ acc = sortV done b), Hold.mk ⟨rfl, [], signs, rfl, rfl, rfl⟩, ⟨fun _ _ _ _ => trivial, ?_⟩, ?_⟩
  · rintro v l acc τ ⟨rfl, done, rest, e1, hl, rfl⟩
    cases rest with
    | nil => cases hl
    | cons s rest =>
      obtain ⟨rfl, rfl⟩ := List.cons.inj hl
      refine wpa_tuple (wpal_cons (wpa_name .here (wpal_cons (wpa_name (.there .here) (wpal_nil ?_)))))
      refine ifs_nil (if_t ?_)
      walk_at "frame"
      walk_at "ww"
      have h0 : 0 ≤ s.2 := by
        obtain ⟨i, hi, e⟩ := List.mem_iff_getElem.mp (show s ∈ signs by rw [e1]; simp)
        have ei : signs[i] = sAt signs i := Option.some.inj ((List.getElem?_eq_getElem hi).symm.trans (sAt_get hi))
        rw [← e, ei]; exact codes i hi
      refine (f_law_sort T h0 ?_).call
      exact Hold.mk ⟨rfl, done ++ [s], rest, by rw [e1]; simp, rfl, by simp [sortV]⟩
  rintro acc τ ⟨rfl, done, rest, e1, hl, rfl⟩
  have er : rest = [] := by cases rest with
    | nil => rfl
    | cons _ _ => cases hl
  subst er
  rw [List.append_nil] at e1
  subst e1
  refine ⟨_, by walk_at "upd", ?_⟩
  walk_at "st"
  refine wps_two (by decide) ?_ (by intro vs k p h; cases h; rfl)
  walk_at "ww"
  refine c_len SqL.lst (small_len sm) ?_
  rw [List.length_map]
  walk_at "ww"
  refine (f_law_at T ne sm ?_).call
  rw [ha]
  walk_at "ww"
  refine ⟨_, _, _, _, rfl, by walk_at "upd", by walk_at "upd", ?_⟩
  walk_at "st"
  refine wps_comp [Str.ofString "k"] [(s_sorts, .lst (sortV signs b))] [] (by walk_at "oks") (by walk_at "caps") (by walk_at "keys") trivial (tt := false) (fun h => nomatch h) ?_
  refine wit_rng ?_
  walk_at "ww"
  refine c_len SqL.lst (small_len sm) ?_
  rw [List.length_map]
  walk_at "ww"
  refine ⟨by rw [upFrom_len]; omega, _, Hold.mk ⟨rfl, 0, Nat.zero_le _, rfl, rfl⟩, comp_rng (P := begP signs b) (fun j hj => ?_), ?_⟩
  · walk_at "frame"
    walk_at "ww"
    refine sub_sortN (by first | assumption | omega) sm ?_
    walk_at "ww"
    refine if_b (fun h1 => ?_) fun h1 => ?_
    · have h1 : 0 < sr signs b j := Int.ofNat_lt.mp (of_decide_eq_true h1)
      walk_at "ww"
      refine if_b (fun h2 => ?_) fun h2 => ?_
      · have h2 : j = 0 := Int.ofNat.inj (of_decide_eq_true h2)
        walk_at "ww"
        exact ⟨by unfold begP; rw [decide_eq_true h1, decide_eq_true h2]; rfl, by first | rfl | trivial⟩
      · have h2 : j ≠ 0 := fun e => of_decide_eq_false h2 (congrArg Int.ofNat e)
        walk_at "ww"
        refine sub_sort (by omega) (by omega) sm ?_
        rw [pred_nat]
        walk_at "ww"
        refine sub_sortN (by first | assumption | omega) sm ?_
        walk_at "ww"
        refine if_b (fun h3 => ?_) fun h3 => ?_
        · have h3 : sr signs b (j - 1) ≠ sr signs b j := fun e => by simp [e] at h3
          walk_at "ww"
          exact ⟨by unfold begP; rw [decide_eq_true h1, decide_eq_false h2, decide_eq_true h3]; rfl, by first | rfl | trivial⟩
        · have h3 : ¬ sr signs b (j - 1) ≠ sr signs b j := fun e => by
            have : (sr signs b (j - 1) : Int) = sr signs b j := by simpa using h3
            exact e (Int.ofNat.inj this)
          walk_at "ww"
          exact ⟨by unfold begP; rw [decide_eq_true h1, decide_eq_false h2, decide_eq_false h3]; rfl, by first | rfl | trivial⟩
    · have h1 : ¬ 0 < sr signs b j := fun h => of_decide_eq_false h1 (Int.ofNat_lt.mpr h)
      walk_at "ww"
      exact ⟨by unfold begP; rw [decide_eq_false h1]; rfl, by first | rfl | trivial⟩
  rintro acc τ' ⟨rfl, j, hj, hl, rfl⟩
  have := upFrom_nil hl
  obtain rfl : j = signs.length := by omega
  refine ⟨_, by walk_at "upd", ?_⟩
  walk_at "st"
  refine wps_comp [Str.ofString "k"] [(s_sorts, .lst (sortV signs b)), (s_last, .int (signs.length - 1))] [] (by walk_at "oks") (by walk_at "caps") (by walk_at "keys") trivial (tt := false) (fun h => nomatch h) ?_
  refine wit_rng ?_
  walk_at "ww"
  refine c_len SqL.lst (small_len sm) ?_
  rw [List.length_map]
  walk_at "ww"
  refine ⟨by rw [upFrom_len]; omega, _, Hold.mk ⟨rfl, 0, Nat.zero_le _, rfl, rfl⟩, comp_rng (P := endP signs b) (fun j hj => ?_), ?_⟩
  · walk_at "frame"
    walk_at "ww"
    refine sub_sortN (by first | assumption | omega) sm ?_
    walk_at "ww"
    refine if_b (fun h1 => ?_) fun h1 => ?_
    · have h1 : 0 < sr signs b j := Int.ofNat_lt.mp (of_decide_eq_true h1)
      walk_at "ww"
      refine if_b (fun h2 => ?_) fun h2 => ?_
      · have h2 : j = signs.length - 1 := by have := of_decide_eq_true h2; omega
        walk_at "ww"
        exact ⟨by unfold endP; rw [decide_eq_true h1, decide_eq_true h2]; rfl, by first | rfl | trivial⟩
      · have h2 : j ≠ signs.length - 1 := by have := of_decide_eq_false h2; omega
        walk_at "ww"
        refine sub_sortN (j := j + 1) (by omega) sm ?_
        walk_at "ww"
        refine sub_sortN (by first | assumption | omega) sm ?_
        walk_at "ww"
        refine if_b (fun h3 => ?_) fun h3 => ?_
        · have h3 : sr signs b (j + 1) ≠ sr signs b j := fun e => by simp [e] at h3
          walk_at "ww"
          exact ⟨by unfold endP; rw [decide_eq_true h1, decide_eq_false h2, decide_eq_true h3]; rfl, by first | rfl | trivial⟩
        · have h3 : ¬ sr signs b (j + 1) ≠ sr signs b j := fun e => by
            have : (sr signs b (j + 1) : Int) = sr signs b j := by simpa using h3
            exact e (Int.ofNat.inj this)
          walk_at "ww"
          exact ⟨by unfold endP; rw [decide_eq_true h1, decide_eq_false h2, decide_eq_false h3]; rfl, by first | rfl | trivial⟩
    · have h1 : ¬ 0 < sr signs b j := fun h => of_decide_eq_false h1 (Int.ofNat_lt.mpr h)
      walk_at "ww"
      exact ⟨by unfold endP; rw [decide_eq_false h1]; rfl, by first | rfl | trivial⟩
  rintro acc τ ⟨rfl, j, hj, hl, rfl⟩
  have := upFrom_nil hl
  obtain rfl : j = signs.length := by omega
  refine ⟨_, by walk_at "upd", ?_⟩
  walk_at "st"
  refine wps_comp [Str.ofString "k"] [(s_at, .int a)] [] (by walk_at "oks") (by walk_at "caps") (by walk_at "keys") trivial (tt := false) (fun h => nomatch h) ?_
  refine wit_lst ?_
  walk_at "ww"
  have lb : (begL signs b).length ≤ 900 := by unfold begL; have := List.length_filter_le (begP signs b) (List.range signs.length); rw [List.length_range] at this; omega
  have le : (endL signs b).length ≤ 900 := by unfold endL; have := List.length_filter_le (endP signs b) (List.range signs.length); rw [List.length_range] at this; omega
  change _ ∧ _
  refine ⟨by unfold nv; rw [List.length_map]; show (begL signs b).length ≤ 1000; omega, _, Hold.mk ⟨rfl, [], begL signs b, rfl, rfl, rfl⟩, comp_lst (N := begL signs b) (P := fun k => decide (a < k)) (fun j hj => ?_), ?_⟩
  · walk_at "frame"
    walk_at "ww"
    exact ⟨decide_eq_decide.mpr (by omega), by first | rfl | trivial⟩
  rintro acc τ' ⟨rfl, done, rest, e1, hl, rfl⟩
  have er := nv_nil hl
  subst er
  rw [List.append_nil] at e1
  subst e1
  refine ⟨_, by walk_at "upd", ?_⟩
  walk_at "st"
  refine wps_comp [Str.ofString "k"] [(s_at, .int a)] [] (by walk_at "oks") (by walk_at "caps") (by walk_at "keys") trivial (tt := false) (fun h => nomatch h) ?_
  refine wit_lst ?_
  walk_at "ww"
  refine ⟨by unfold nv; rw [List.length_map]; show (endL signs b).length ≤ 1000; omega, _, Hold.mk ⟨rfl, [], endL signs b, rfl, rfl, rfl⟩, comp_lst (N := endL signs b) (P := fun k => decide (a < k)) (fun j hj => ?_), ?_⟩
  · walk_at "frame"
    walk_at "ww"
    exact ⟨decide_eq_decide.mpr (by omega), by first | rfl | trivial⟩
  rintro acc τ ⟨rfl, done, rest, e1, hl, rfl⟩
  have er := nv_nil hl
  subst er
  rw [List.append_nil] at e1
  subst e1
  refine ⟨_, by walk_at "upd", ?_⟩
  walk_at "st"
  walk_at "w"
  refine WpE.mono (Q := fun V τ' => V = .int (boundOf signs p a : Nat) ∧ τ = τ') ?_ ?_
  · walk_at "ww"
    refine sub_signN (by first | assumption | omega) sm ?_
    walk_at "ww"
    refine sub_at Sq.tup (by decide) (by decide) rfl ?_
    walk_at "ww"
    refine p_gep ?_
    walk_at "ww"
    refine if_b (fun h => ?_) fun h => ?_
    · have h : ltP (sAt signs a).1 p = false := by simpa using h
      walk_at "ww"
      exact ⟨by unfold boundOf; rw [h]; rfl, by first | rfl | trivial⟩
    · have h : ltP (sAt signs a).1 p = true := by simpa using h
      walk_at "ww"
      exact ⟨by unfold boundOf; rw [h]; rfl, by first | rfl | trivial⟩
  rintro V τ' ⟨rfl, rfl⟩
  walk_at "w"
  walk_at "st"
  refine wps_comp [Str.ofString "k"] [(Str.ofString "bound", .int (boundOf signs p a : Nat))] [] (by walk_at "oks") (by walk_at "caps") (by walk_at "keys") trivial (tt := false) (fun h => nomatch h) ?_
  refine wit_lst ?_
  walk_at "ww"
  refine ⟨by unfold nv; rw [List.length_map]; show (begL signs b).length ≤ 1000; omega, _, Hold.mk ⟨rfl, [], begL signs b, rfl, rfl, rfl⟩, comp_lst (N := begL signs b) (P := fun k => decide (k < boundOf signs p a)) (fun j hj => ?_), ?_⟩
  · walk_at "frame"
    walk_at "ww"
    exact ⟨decide_eq_decide.mpr (by omega), by first | rfl | trivial⟩
  rintro acc τ' ⟨rfl, done, rest, e1, hl, rfl⟩
  have er := nv_nil hl
  subst er
  rw [List.append_nil] at e1
  subst e1
  refine ⟨_, by walk_at "upd", ?_⟩
  walk_at "w"
  walk_at "w"
  walk_at "w"
  refine wpe_list ?_
  walk_at "w"
  walk_at "w"
  walk_at "w"
  walk_at "w"
  refine WpE.mono (Q := fun V τ'' => V = .int (w1 signs b a : Nat) ∧ τ' = τ'') ?_ ?_
  · walk_at "ww"
    refine wpe_list ?_
    walk_at "ww"
    refine p_nen ?_
    walk_at "ww"
    unfold w1
    generalize ((begL signs b).filter fun k => decide (a < k)) = N
    cases N with
    | nil =>
      refine if_f ?_
      walk_at "ww"
      exact ⟨congrArg Val.int (by show (signs.length : Int) - 1 = ((signs.length - 1 : Nat) : Int); omega), by first | rfl | trivial⟩
    | cons x l =>
      refine if_t ?_
      walk_at "ww"
      exact sub_at Sq.lst (by decide) (by decide) (W := .int (x : Nat)) rfl ⟨rfl, rfl⟩
  rintro V τ'' ⟨rfl, rfl⟩
  have lw := w1_lt (signs := signs) (b := b) (a := a) ne
  refine sub_signN (by first | assumption | omega) sm ?_
  walk_at "w"
  refine sub_at Sq.tup (by decide) (by decide) rfl ?_
  walk_at "w"
  walk_at "w"
  walk_at "w"
  walk_at "w"
  refine WpE.mono (Q := fun V τ'' => V = .int (w2 signs b a : Nat) ∧ τ' = τ'') ?_ ?_
  · walk_at "ww"
    refine wpe_list ?_
    walk_at "ww"
    refine p_nen ?_
    walk_at "ww"
    unfold w2
    generalize ((endL signs b).filter fun k => decide (a < k)) = N
    cases N with
    | nil =>
      refine if_f ?_
      walk_at "ww"
      exact ⟨congrArg Val.int (by show (signs.length : Int) - 1 = ((signs.length - 1 : Nat) : Int); omega), by first | rfl | trivial⟩
    | cons x l =>
      refine if_t ?_
      walk_at "ww"
      exact sub_at Sq.lst (by decide) (by decide) (W := .int (x : Nat)) rfl ⟨rfl, rfl⟩
  rintro V τ'' ⟨rfl, rfl⟩
  have lw := w2_lt (signs := signs) (b := b) (a := a) ne
  refine sub_signN (by first | assumption | omega) sm ?_
  walk_at "w"
  refine sub_at Sq.tup (by decide) (by decide) rfl ?_
  walk_at "w"
  walk_at "w"
  walk_at "w"
  walk_at "w"
  refine WpE.mono (Q := fun V τ'' => V = .int (w3 signs b (boundOf signs p a) : Nat) ∧ τ' = τ'') ?_ ?_
  · walk_at "ww"
    refine wpe_list ?_
    walk_at "ww"
    refine p_nen ?_
    walk_at "ww"
    unfold w3
    have hN : ((begL signs b).filter fun k => decide (k < boundOf signs p a)).length ≤ 900 := Nat.le_trans (List.length_filter_le _ _) lb
    revert hN
    generalize ((begL signs b).filter fun k => decide (k < boundOf signs p a)) = N
    intro hN
    refine if_b (fun h => ?_) fun h => ?_
    · obtain ⟨l2, x, e⟩ := snoc_of N (by intro e; rw [e] at h; cases h)
      subst e
      walk_at "ww"
      refine sub_last (Vs := nv l2) (W := .int (x : Nat)) (by unfold nv; rw [List.map_append]; exact Sq.lst) ?_ ?_
      · unfold nv; rw [List.length_map]
        rw [List.length_append] at hN; omega
      · rw [List.getLast?_append]; exact ⟨rfl, rfl⟩
    · have : N = [] := by simpa using h
      subst this
      walk_at "ww"
  rintro V τ'' ⟨rfl, rfl⟩
  have lw := w3_lt (signs := signs) (b := b) (a := (boundOf signs p a)) ne
  refine sub_signN (by first | assumption | omega) sm ?_
  walk_at "w"
  refine sub_at Sq.tup (by decide) (by decide) rfl ?_
  walk_at "ww"
  exact q
end
theorem fz_drop {cx : Cx} {σ : Sto} {a : Addr} {c : Cell} {V : Val} (h : σ a = none) : Fz cx (σ.set a c) V V σ :=
  ⟨[], shift_id V, fun b c' hb => ⟨by rw [Sto.set_ne _ _ (fun e => by subst e; rw [h] at hb; cases hb)]; exact hb, by simp⟩⟩
theorem mateOf_ne {c : Int} (h : isBr c = true) : c ≠ mateOf c := by
  unfold isBr at h
  simp only [Bool.or_eq_true, decide_eq_true_eq] at h
  unfold mateOf
  rcases h with ((rfl | rfl) | rfl) | rfl <;> decide
section
variable {cx : Cx} {k : Nat} {σ : Sto} {Q : Val → Sto → Prop}
noncomputable def lbF (T : Top0 cx) : List (Str × Val) := [(Str.ofString "_law_at", .raw (.ref T.f_law_at)), (Str.ofString "len", .raw (.builtin "len"))]
theorem f_law_bracket (T : Top0 cx) {signs : List SignT} {p : Int × Int} (ne : 1 ≤ signs.length) (sm : signs.length ≤ 900) (hl10 : (sAt signs (signs.length - 1)).2 = 10) (q : Q (optV (brOf signs (lawAt signs p))) σ) :
    WpCode cx (k + 2) (.raw (.ref T.f_law_bracket)) [.lst (signs.map sg), pl p] σ Q := by
  refine enter T.h_law_bracket [s_signs, s_place] [s_at, Str.ofString "mine", Str.ofString "mate", Str.ofString "stride", Str.ofString "deep"]
    [(Str.ofString "_law_at", .raw (.ref T.f_law_at)), (Str.ofString "len", .raw (.builtin "len"))] [] rfl (by walk_at "args") (by walk_at "oks") (by walk_at "gv") ?_
  have hlen : (signs.map sg).length < 1000000 := small_len sm
  have a0 := lawAt_lt p ne
  generalize ha : lawAt signs p = a at q a0
  have hgl : goP signs (signs.length - 1) = false := by unfold goP; rw [hl10]; rfl
  obtain ⟨jlt, jst⟩ := up_lt hgl a0
  walk_at "frame"
  walk_at "st"
  walk_at "ww"
  refine (f_law_at T ne sm ?_).call
  rw [ha]
  walk_at "ww"
  refine wps_whileK (fun n m τ' => Hold (∃ j : Nat, n = signs.length - j ∧ j < signs.length ∧ up (goP signs) (signs.length - j) j = up (goP signs) (signs.length - a) a ∧ τ' = σ ∧
      m = ⟨[(s_signs, .lst (signs.map sg)), (s_place, pl p), (s_at, .int j), (Str.ofString "mine", .unbound), (Str.ofString "mate", .unbound), (Str.ofString "stride", .unbound), (Str.ofString "deep", .unbound)], lbF T, []⟩))
    (fun m τ' => Hold (∃ j : Nat, j = up (goP signs) (signs.length - a) a ∧ j < signs.length ∧ isBr (sAt signs j).2 = true ∧ τ' = σ ∧
      m = ⟨[(s_signs, .lst (signs.map sg)), (s_place, pl p), (s_at, .int j), (Str.ofString "mine", .unbound), (Str.ofString "mate", .unbound), (Str.ofString "stride", .unbound), (Str.ofString "deep", .unbound)], lbF T, []⟩))
    (signs.length - a) (Hold.mk ⟨a, rfl, by omega, rfl, rfl, rfl⟩) ?_ ?_
  · rintro n m τ' _ ⟨j, rfl, hj, e2, rfl, rfl⟩
    unfold lbF
    walk_at "ww"
    refine sub_signN (by first | assumption | omega) sm ?_
    walk_at "ww"
    refine sub_at Sq.tup (by decide) (by decide) rfl ?_
    walk_at "ww"
    refine p_notin (l := [40, 41, 91, 93]) ?_
    have hbr : decide ((sAt signs j).2 ∈ [(40 : Int), 41, 91, 93]) = isBr (sAt signs j).2 := by
      unfold isBr
      simp [Bool.decide_or, Bool.or_assoc]
    rw [hbr]
    walk_at "ww"
    cases hb : isBr (sAt signs j).2 with
    | true =>
      walk_at "ww"
      have hg : goP signs j = false := by unfold goP; rw [hb]; simp
      exact Hold.mk ⟨j, by rw [← e2, up_stop hj hg], hj, hb, rfl, rfl⟩
    | false =>
      walk_at "ww"
      refine sub_signN (by first | assumption | omega) sm ?_
      walk_at "ww"
      refine sub_at Sq.tup (by decide) (by decide) rfl ?_
      walk_at "ww"
      refine if_b (fun h => ?_) fun h => ?_
      · have h := of_decide_eq_true h
        walk_at "ww"
        have hg : goP signs j = false := by unfold goP; rw [h]; rfl
        have : brOf signs a = none := by
          unfold brOf
          rw [← e2, up_stop hj hg]
          simp only [h, if_true]
        rw [this] at q
        exact q
      · have h := of_decide_eq_false h
        have hg : goP signs j = true := by unfold goP; rw [hb, decide_eq_false h]; rfl
        have hne : j ≠ signs.length - 1 := fun e => by rw [e, hgl] at hg; cases hg
        walk_at "ww"
        refine ⟨_, ?_, Hold.mk ⟨j + 1, rfl, by omega, ?_, rfl, rfl⟩⟩
        · omega
        · rw [← e2, up_go hj hg]
  · rintro m τ' ⟨j, ej, jlt, hbr, rfl, rfl⟩
    have hb : brOf signs a = if (sAt signs j).2 = 10 then none else scan (sAt signs j).2 (mateOf (sAt signs j).2) 0 (lane signs (openB (sAt signs j).2) j) := by unfold brOf; rw [← ej]
    rw [hb, if_neg (fun e => by rw [e] at hbr; exact absurd hbr (by decide))] at q
    have hmn := mateOf_ne hbr
    have hc : (sAt signs j).2 = 40 ∨ (sAt signs j).2 = 41 ∨ (sAt signs j).2 = 91 ∨ (sAt signs j).2 = 93 := isBr_or hbr
    unfold lbF
    walk_at "ww"
    refine sub_signN (by first | assumption | omega) sm ?_
    walk_at "ww"
    refine sub_at Sq.tup (by decide) (by decide) rfl ?_
    have hccj : ∀ z : Int, z = j → (sAt signs z.toNat).2 = (sAt signs j).2 := fun z e => by rw [e, Int.toNat_natCast]
    generalize (sAt signs j).2 = cc at *
    walk_at "w"
    walk_at "st"
    with_reducible refine wps_assign ?_ ?_
    rotate_left
    · kernel_rfl
    with_reducible refine wpe_fz ?_
    walk_at "w"
    refine wpe_dict_int ?_
    refine ps_cons ?_
    walk_at "ww"
    refine ps_cons ?_
    walk_at "ww"
    refine ps_cons ?_
    walk_at "ww"
    refine ps_cons ?_
    walk_at "ww"
    refine ps_nil ?_
    refine ⟨[40, 41, 91, 93], rfl, by decide, fun d hd _ => ?_⟩
    walk_at "ww"
    refine sub_nd (Sto.set_self ..) (by decide) (V := .int (mateOf cc)) (by rcases hc with rfl | rfl | rfl | rfl <;> rfl) ?_
    refine ⟨_, _, fz_drop hd, ?_⟩
    walk_at "w"
    generalize ho : openB cc = o at q
    walk_at "st"
    refine wps_two (by decide) (WpE.mono (Q := fun V τ => V = .tup [.int (stepZ o), .int 0] ∧ τ' = τ) ?_ ?_) (by intro vs k p h; cases h; rfl)
    · walk_at "ww"
      refine p_in (l := [40, 91]) ?_
      have : decide (cc ∈ [(40 : Int), 91]) = o := by rw [← ho]; unfold openB; simp [Bool.decide_or]
      rw [this]
      cases o with
      | true => walk_at "ww"
      | false => walk_at "ww"
    rintro V τ ⟨rfl, rfl⟩
    refine ⟨_, _, _, _, rfl, by walk_at "upd", by walk_at "upd", ?_⟩
    walk_at "ww"
    refine wps_whileK (fun n m τ => Hold (∃ (z d : Int), n = (lane signs o z).length ∧ (o = true → 0 ≤ z) ∧ (o = false → z < signs.length) ∧ 0 ≤ d ∧ (d = 0 → z = j) ∧ scan cc (mateOf cc) d (lane signs o z) = scan cc (mateOf cc) 0 (lane signs o j) ∧ τ = τ' ∧
        m = ⟨[(s_signs, .lst (signs.map sg)), (s_place, pl p), (s_at, .int z), (Str.ofString "mine", .int cc), (Str.ofString "mate", .int (mateOf cc)), (Str.ofString "stride", .int (stepZ o)), (Str.ofString "deep", .int d)], lbF T, []⟩))
      (fun m τ => Hold (scan cc (mateOf cc) 0 (lane signs o j) = none ∧ τ = τ' ∧ m.c = lbF T))
      _ (Hold.mk ⟨j, 0, rfl, (fun _ => by omega), (fun _ => by omega), by omega, (fun _ => rfl), rfl, rfl, rfl⟩) ?_ ?_
    · rintro n m τ _ ⟨z, d, rfl, z0, z1, d0, dz, es, rfl, rfl⟩
      unfold lbF
      refine WpT.mono (P := fun b τ'' => b = decide (0 ≤ z ∧ z < signs.length) ∧ τ'' = τ) ?_ ?_
      · walk_at "ww"
        refine if_b (fun h => ?_) fun h => ?_
        · have h := of_decide_eq_true h
          walk_at "ww"
          refine c_len SqL.lst hlen ?_
          rw [List.length_map]
          walk_at "ww"
          exact ⟨by simp [h], by first | rfl | trivial⟩
        · have h := of_decide_eq_false h
          exact ⟨by simp [h], by first | rfl | trivial⟩
      · rintro b τ'' ⟨rfl, rfl⟩
        refine if_b (fun hg => ?_) fun hg => ?_
        · obtain ⟨g0, g1⟩ := of_decide_eq_true hg
          rw [lane_in g0 g1] at es ⊢
          obtain ⟨g2, g3⟩ : (o = true → 0 ≤ z + stepZ o) ∧ (o = false → z + stepZ o < signs.length) := by
            cases o with
            | true => exact ⟨fun _ => (by simp only [stepZ, if_true]; omega), fun h => absurd h (by decide)⟩
            | false => exact ⟨fun h => absurd h (by decide), fun _ => (by simp only [stepZ, Bool.false_eq_true, if_false]; omega)⟩
          walk_at "w"
          walk_at "w"
          walk_at "w"
          walk_at "w"
          refine wpe_fz ?_
          walk_at "w"
          refine wpe_dict_int ?_
          refine ps_cons ?_
          walk_at "ww"
          refine ps_cons ?_
          walk_at "ww"
          refine ps_nil ?_
          refine ⟨[cc, mateOf cc], rfl, by simp [hmn], fun e he hsys => ?_⟩
          refine meth_get (Sto.set_self ..) ⟨kp_builtin, ?_⟩
          walk_at "ww"
          refine sub_sign g0 g1 sm ?_
          walk_at "ww"
          refine sub_at Sq.tup (by decide) (by decide) rfl ?_
          walk_at "ww"
          refine c_get (Sto.set_self ..) hsys (by simp [hmn]) rfl ?_
          refine ⟨_, _, fz_drop he, ?_⟩
          walk_at "frame"
          rw [scan] at es
          by_cases h1 : (sAt signs z.toNat).2 = cc
          · rw [if_pos h1] at es
            rw [show (lookV [cc, mateOf cc] [Val.int 1, Val.int (-1)] (sAt signs z.toNat).2).getD (.int 0) = .int 1 by rw [h1]; simp [lookV]]
            walk_at "ww"
            rw [decide_eq_false (by omega)]
            walk_at "ww"
            exact ⟨_, by simp, Hold.mk ⟨_, _, rfl, g2, g3, by omega, (fun h => by omega), es, rfl, rfl⟩⟩
          · rw [if_neg h1] at es
            have dpos : 0 < d := by
              rcases Int.lt_or_eq_of_le d0 with h | h
              · exact h
              · exact absurd (hccj z (dz h.symm)) h1
            by_cases h2 : (sAt signs z.toNat).2 = mateOf cc
            · rw [if_pos h2] at es
              rw [show (lookV [cc, mateOf cc] [Val.int 1, Val.int (-1)] (sAt signs z.toNat).2).getD (.int 0) = .int (-1) by rw [h2]; simp [lookV, hmn]]
              walk_at "ww"
              refine if_b (fun h3 => ?_) fun h3 => ?_
              · have h3 := of_decide_eq_true h3
                rw [if_pos (by omega)] at es
                walk_at "ww"
                refine sub_sign g0 g1 sm ?_
                walk_at "ww"
                refine sub_at Sq.tup (by decide) (by decide) rfl ?_
                walk_at "ww"
                rw [← es] at q
                exact q
              · have h3 := of_decide_eq_false h3
                rw [if_neg (by omega)] at es
                walk_at "ww"
                exact ⟨_, by simp, Hold.mk ⟨_, _, rfl, g2, g3, by omega, (fun h => by omega), es, rfl, rfl⟩⟩
            · rw [if_neg h2] at es
              rw [show (lookV [cc, mateOf cc] [Val.int 1, Val.int (-1)] (sAt signs z.toNat).2).getD (.int 0) = .int 0 by simp [lookV, Ne.symm h1, Ne.symm h2]]
              walk_at "ww"
              rw [decide_eq_false (by omega)]
              walk_at "ww"
              exact ⟨_, by simp, Hold.mk ⟨_, _, rfl, g2, g3, by omega, (fun h => by omega), (by rw [Int.add_zero]; exact es), rfl, rfl⟩⟩
        · have g := of_decide_eq_false hg
          rw [lane_out g z0 z1, scan] at es
          exact Hold.mk ⟨es.symm, rfl, rfl⟩
    · rintro m τ ⟨es, rfl, _⟩
      rw [es] at q
      walk_at "ww"
      exact q
end
section
variable {cx : Cx} {k : Nat} {σ : Sto} {Q : Val → Sto → Prop}
noncomputable def ljF (T : Top0 cx) : List (Str × Val) := [(Str.ofString "_law_at", .raw (.ref T.f_law_at)), (Str.ofString "len", .raw (.builtin "len"))]
theorem f_law_jump (T : Top0 cx) {signs : List SignT} {p : Int × Int} {code : Int} {back near : Bool} (ne : 1 ≤ signs.length) (sm : signs.length ≤ 900) (q : Q (optV (jumpOf signs code back near (lawAt signs p))) σ) :
    WpCode cx (k + 2) (.raw (.ref T.f_law_jump)) [.lst (signs.map sg), pl p, .int code, .bool back, .bool near] σ Q := by
  refine enter T.h_law_jump [s_signs, s_place, Str.ofString "code", Str.ofString "is_back", Str.ofString "is_near"] [Str.ofString "stride", s_at]
    [(Str.ofString "_law_at", .raw (.ref T.f_law_at)), (Str.ofString "len", .raw (.builtin "len"))] [] rfl (by walk_at "args") (by walk_at "oks") (by walk_at "gv") ?_
  have hlen : (signs.map sg).length < 1000000 := small_len sm
  have a0 := lawAt_lt p ne
  generalize ha : lawAt signs p = a at q a0
  walk_at "frame"
  walk_at "st"
  walk_at "w"
  refine WpE.mono (Q := fun V τ => V = .int (stepZ !back) ∧ σ = τ) ?_ ?_
  · walk_at "ww"
    cases back with
    | true => walk_at "ww"
    | false => walk_at "ww"
  rintro V τ ⟨rfl, rfl⟩
  walk_at "ww"
  refine (f_law_at T ne sm ?_).call
  rw [ha]
  have hs := stepZ_or (!back)
  unfold jumpOf at q
  generalize stepZ (!back) = s at hs q
  have rest : ∀ z0 : Int, 0 ≤ z0 - s → z0 - s < signs.length → leftJ signs s z0 < signs.length + 3 → Q (optV (jwalk signs code s near (signs.length + 3) z0)) σ → WpSs cx (k + 1) ⟨[(s_signs, .lst (signs.map sg)), (s_place, pl p), (Str.ofString "code", .int code), (Str.ofString "is_back", .bool back), (Str.ofString "is_near", .bool near), (Str.ofString "stride", .int s), (s_at, .int z0)], ljF T, []⟩ σ ((bodyOf (stAt 48)).drop 3)
      fun F _ σ' => match F with | .ret V => Q V σ' | .next => Q .none σ' | _ => False := by
    intro z0 i0 i1 i2 q
    walk_at "st"
    refine wps_whileK (fun n m τ => Hold (∃ z : Int, 0 ≤ z - s ∧ z - s < signs.length ∧ leftJ signs s z < n ∧ jwalk signs code s near n z = jwalk signs code s near (signs.length + 3) z0 ∧ τ = σ ∧
        m = ⟨[(s_signs, .lst (signs.map sg)), (s_place, pl p), (Str.ofString "code", .int code), (Str.ofString "is_back", .bool back), (Str.ofString "is_near", .bool near), (Str.ofString "stride", .int s), (s_at, .int z)], ljF T, []⟩))
      (fun m τ => Hold (jwalk signs code s near (signs.length + 3) z0 = none ∧ τ = σ ∧ m.c = ljF T))
      _ (Hold.mk ⟨z0, i0, i1, i2, rfl, rfl, rfl⟩) ?_ ?_
    · rintro n m τ _ ⟨z, j0, j1, j2, es, rfl, rfl⟩
      unfold ljF
      refine WpT.mono (P := fun b τ'' => b = decide (0 ≤ z ∧ z < signs.length ∧ (sAt signs z.toNat).2 ≠ 10) ∧ τ'' = τ) ?_ ?_
      · walk_at "ww"
        refine if_b (fun h => ?_) fun h => ?_
        · have h := of_decide_eq_true h
          walk_at "ww"
          refine c_len SqL.lst hlen ?_
          rw [List.length_map]
          walk_at "ww"
          refine if_b (fun h1 => ?_) fun h1 => ?_
          · have h1 := of_decide_eq_true h1
            walk_at "ww"
            refine sub_sign h h1 sm ?_
            walk_at "ww"
            refine sub_at Sq.tup (by decide) (by decide) rfl ?_
            walk_at "ww"
            refine if_b (fun h2 => ?_) fun h2 => ?_
            · walk_at "ww"
              exact ⟨by simpa [h, h1] using h2, by first | rfl | trivial⟩
            · walk_at "ww"
              exact ⟨by simpa [h, h1] using h2, by first | rfl | trivial⟩
          · have h1 := of_decide_eq_false h1
            walk_at "ww"
            exact ⟨by simp [h1], by first | rfl | trivial⟩
        · have h := of_decide_eq_false h
          walk_at "ww"
          exact ⟨by simp [h], by first | rfl | trivial⟩
      · rintro b τ'' ⟨rfl, rfl⟩
        obtain ⟨f, rfl⟩ : ∃ f, n = f + 1 := ⟨n - 1, by omega⟩
        rw [jwalk] at es
        refine if_b (fun hg => ?_) fun hg => ?_
        · have hg := of_decide_eq_true hg
          rw [if_pos hg] at es
          obtain ⟨g0, g1, g2⟩ := hg
          walk_at "ww"
          refine sub_sign g0 g1 sm ?_
          walk_at "ww"
          refine sub_at Sq.tup (by decide) (by decide) rfl ?_
          walk_at "ww"
          refine if_b (fun h => ?_) fun h => ?_
          · have h := of_decide_eq_true h
            rw [if_pos h] at es
            walk_at "ww"
            cases near with
            | true =>
              walk_at "ww"
              refine sub_sign (by omega) (by omega) sm ?_
              walk_at "ww"
              refine sub_at Sq.tup (by decide) (by decide) rfl ?_
              walk_at "ww"
              rw [← es] at q
              exact q
            | false =>
              walk_at "ww"
              refine sub_sign (by omega) (by omega) sm ?_
              walk_at "ww"
              refine sub_at Sq.tup (by decide) (by decide) rfl ?_
              walk_at "ww"
              rw [← es] at q
              exact q
          · have h := of_decide_eq_false h
            rw [if_neg h] at es
            walk_at "ww"
            refine ⟨f, by omega, Hold.mk ⟨z + s, by omega, by omega, ?_, es, rfl, rfl⟩⟩
            unfold leftJ at j2 ⊢
            rcases hs with rfl | rfl
            · simp only [if_true] at j2 ⊢; omega
            · simp only [show ¬((-1 : Int) = 1) by decide, if_false] at j2 ⊢; omega
        · have hg := of_decide_eq_false hg
          rw [if_neg hg] at es
          exact Hold.mk ⟨es.symm, rfl, rfl⟩
    · rintro m τ ⟨es, rfl, _⟩
      rw [es] at q
      walk_at "ww"
      exact q
  have hl := jStart_ok (signs := signs) (code := code) (s := s) (near := near) a0 hs
  walk_at "w"
  walk_at "w"
  walk_at "w"
  walk_at "w"
  walk_at "w"
  walk_at "w"
  refine WpT.mono (P := fun b τ'' => b = (near && hitP signs code (a + s)) ∧ τ'' = σ) ?_ ?_
  · walk_at "ww"
    cases near with
    | false => walk_at "ww"
    | true =>
      rw [Bool.true_and]
      walk_at "ww"
      refine if_b (fun h => ?_) fun h => ?_
      · have h := of_decide_eq_true h
        walk_at "ww"
        refine c_len SqL.lst hlen ?_
        rw [List.length_map]
        walk_at "ww"
        refine if_b (fun h1 => ?_) fun h1 => ?_
        · have h1 := of_decide_eq_true h1
          walk_at "ww"
          refine sub_sign h h1 sm ?_
          walk_at "ww"
          refine sub_at Sq.tup (by decide) (by decide) rfl ?_
          walk_at "ww"
          refine if_b (fun h2 => ?_) fun h2 => ?_
          · have h2 := of_decide_eq_true h2
            walk_at "ww"
            exact ⟨by simp [hitP, h, h1, h2], by first | rfl | trivial⟩
          · have h2 := of_decide_eq_false h2
            walk_at "ww"
            exact ⟨by simp [hitP, h2], by first | rfl | trivial⟩
        · have h1 := of_decide_eq_false h1
          walk_at "ww"
          exact ⟨by simp [hitP, h1], by first | rfl | trivial⟩
      · have h := of_decide_eq_false h
        walk_at "ww"
        exact ⟨by simp [hitP, h], by first | rfl | trivial⟩
  · rintro b τ'' ⟨rfl, rfl⟩
    unfold jStart at hl q
    refine if_b (fun hg => ?_) fun hg => ?_
    · rw [if_pos hg] at hl q
      walk_at "w"
      walk_at "w"
      walk_at "w"
      walk_at "w"
      walk_at "w"
      walk_at "w"
      walk_at "w"
      walk_at "w"
      walk_at "w"
      walk_at "w"
      exact rest _ hl.1 hl.2.1 hl.2.2 q
    · rw [if_neg (by rw [hg]; decide)] at hl q
      walk_at "w"
      walk_at "w"
      exact rest _ hl.1 hl.2.1 hl.2.2 q
end
noncomputable def headC (c : CellT) : Int := match c.1 with | [] => 32 | x :: _ => x
noncomputable def cellSigns (i : Int) : Int → List CellT → List SignT
  | _, [] => []
  | j, c :: cs => (if 0 < c.2 then [((i, j), headC c)] else []) ++ cellSigns i (j + 1) cs
noncomputable def rowSigns (i : Int) (r : RowT) : List SignT := cellSigns i 0 (r.1.take (rowWidth r)) ++ if r.2 then [] else [((i, (rowWidth r : Int)), 10)]
noncomputable def lawSigns : Int → List RowT → List SignT
  | _, [] => []
  | i, r :: rs => rowSigns i r ++ lawSigns (i + 1) rs
noncomputable def contP (r : RowT) : Nat → Bool
  | 0 => false
  | w + 1 => !r.2 && match r.1[w]? with
    | some c => blankC c
    | none => false
section
variable {cx : Cx} {k : Nat} {σ : Sto} {Q : Val → Sto → Prop}
noncomputable abbrev s_found := Str.ofString "found"
noncomputable abbrev s_row := Str.ofString "row"
noncomputable abbrev s_width := Str.ofString "width"
noncomputable abbrev s_column := Str.ofString "column"
noncomputable abbrev s_joined := Str.ofString "joined"
noncomputable def lsF : List (Str × Val) := [(Str.ofString "enumerate", .raw (.type "enumerate")), (Str.ofString "len", .raw (.builtin "len")), (Str.ofString "range", .raw (.type "range"))]
theorem f_law_signs (T : Top0 cx) {rs : List RowT} (hz : rs.length ≤ 100) (hz' : ∀ r ∈ rs, r.1.length ≤ 100) (ht : (lawSigns 0 rs).length ≤ 900) (q : Q (.lst ((lawSigns 0 rs).map sg)) σ) :
    WpCode cx (k + 2) (.raw (.ref T.f_law_signs)) [.lst (rs.map fun r => rowV r.1), .lst (rs.map fun r => .bool r.2)] σ Q := by
  refine enter T.h_law_signs [s_rows, s_joined] [s_found, s_row, s_cells, s_width, s_column]
    [(Str.ofString "enumerate", .raw (.type "enumerate")), (Str.ofString "len", .raw (.builtin "len")), (Str.ofString "range", .raw (.type "range"))] [] rfl (by walk_at "args") (by walk_at "oks") (by walk_at "gv") ?_
  walk_at "frame"
  walk_at "st"
  walk_at "w"
  refine wpe_listm ?_
  walk_at "ww"
  intro a ha
  walk_at "ww"
  refine wps_for (tt := true) (fun _ => ⟨_, _, _, rfl⟩) ?_
  refine wit_enum (Or.inr (by walk_at "mem")) ?_
  walk_at "ww"
  refine ⟨fun l m τ => Hold (∃ A B C D j acc, j ≤ rs.length ∧ l = enums (j : Int) ((rs.drop j).map fun r => rowV r.1) ∧ acc ++ lawSigns j (rs.drop j) = lawSigns 0 rs ∧ τ = σ.set a (.list (acc.map sg)) ∧
    m = ⟨[(s_rows, .lst (rs.map fun r => rowV r.1)), (s_joined, .lst (rs.map fun r => .bool r.2)), (s_found, .raw (.ref a)), (s_row, A), (s_cells, B), (s_width, C), (s_column, D)], lsF, []⟩),
    Hold.mk ⟨.unbound, .unbound, .unbound, .unbound, 0, [], Nat.zero_le _, rfl, rfl, rfl, rfl⟩, fun _ _ _ _ => trivial, ?_, ?_⟩
  · rintro v l m τ _ ⟨A, B, C, D, j, acc, hj, hl, hacc, rfl, rfl⟩
    obtain ⟨r, hr, hlt, rfl, rfl⟩ := enums_cons hl
    have hdrop : rs.drop j = r :: rs.drop (j + 1) := by
      rw [List.drop_eq_getElem_cons hlt]
      congr 1
      exact Option.some.inj ((List.getElem?_eq_getElem hlt).symm.trans hr)
    have hrz := hz' r (List.mem_of_getElem? hr)
    unfold lsF
    refine wpa_tuple (wpal_cons (wpa_name (by walk_at "upd") (wpal_cons (wpa_name (by walk_at "upd") (wpal_nil ?_)))))
    walk_at "ww"
    refine c_len SqL.lst (by rw [List.length_map]; omega) ?_
    rw [List.length_map]
    walk_at "ww"
    refine wps_whileK (fun n m τ => Hold (n ≤ r.1.length ∧ (if r.2 then n = r.1.length else strip r.1 n = strip r.1 r.1.length) ∧ τ = σ.set a (.list (acc.map sg)) ∧
        m = ⟨[(s_rows, .lst (rs.map fun r => rowV r.1)), (s_joined, .lst (rs.map fun r => .bool r.2)), (s_found, .raw (.ref a)), (s_row, .int j), (s_cells, rowV r.1), (s_width, .int n), (s_column, D)], lsF, []⟩))
      (fun m τ => Hold (τ = σ.set a (.list (acc.map sg)) ∧
        m = ⟨[(s_rows, .lst (rs.map fun r => rowV r.1)), (s_joined, .lst (rs.map fun r => .bool r.2)), (s_found, .raw (.ref a)), (s_row, .int j), (s_cells, rowV r.1), (s_width, .int (rowWidth r)), (s_column, D)], lsF, []⟩))
      r.1.length (Hold.mk ⟨Nat.le_refl _, by split <;> rfl, rfl, rfl⟩) ?_ ?_
    · rintro n m τ _ ⟨hn, hs, rfl, rfl⟩
      unfold lsF
      refine WpT.mono (P := fun b τ'' => b = contP r n ∧ τ'' = σ.set a (.list (acc.map sg))) ?_ ?_
      · walk_at "ww"
        refine sub_at Sq.lst (by omega) (by omega) (W := .bool r.2) (by simp [hr]) ?_
        walk_at "ww"
        cases hr2 : r.2 with
        | true =>
          walk_at "ww"
          exact ⟨by cases n <;> simp [contP, hr2], by first | rfl | trivial⟩
        | false =>
          walk_at "ww"
          refine if_b (fun h0 => ?_) fun h0 => ?_
          · have h0 := of_decide_eq_true h0
            obtain ⟨n, rfl⟩ : ∃ n', n = n' + 1 := ⟨n - 1, by omega⟩
            obtain ⟨d, hd⟩ : ∃ d, r.1[n]? = some d := ⟨_, List.getElem?_eq_getElem (by omega)⟩
            walk_at "ww"
            refine sub_at Sq.lst (by omega) (by omega) (W := cv d) ?_ ?_
            · rw [show (((n + 1 : Nat) : Int) - 1).toNat = n by omega]; simp [hd]
            walk_at "ww"
            refine sub_at Sq.tup (by decide) (by decide) rfl ?_
            walk_at "ww"
            refine p_eqt ?_
            walk_at "ww"
            refine if_b (fun h1 => ?_) fun h1 => ?_
            · walk_at "ww"
              refine sub_at Sq.lst (by omega) (by omega) (W := cv d) ?_ ?_
              · rw [show (((n + 1 : Nat) : Int) - 1).toNat = n by omega]; simp [hd]
              walk_at "ww"
              refine sub_at Sq.tup (by decide) (by decide) rfl ?_
              walk_at "ww"
              refine if_b (fun h2 => ?_) fun h2 => ?_
              · have h2 := of_decide_eq_true h2
                walk_at "ww"
                exact ⟨by simp [contP, hr2, hd, blankC, h1, h2], by first | rfl | trivial⟩
              · have h2 := of_decide_eq_false h2
                walk_at "ww"
                exact ⟨by simp [contP, hr2, hd, blankC, h2], by first | rfl | trivial⟩
            · walk_at "ww"
              exact ⟨by simp [contP, hr2, hd, blankC, h1], by first | rfl | trivial⟩
          · have h0 := of_decide_eq_false h0
            have e : n = 0 := by omega
            subst e
            walk_at "ww"
            skip
      · rintro b τ'' ⟨rfl, rfl⟩
        refine if_b (fun hg => ?_) fun hg => ?_
        · obtain ⟨n, rfl⟩ : ∃ n', n = n' + 1 := ⟨n - 1, by cases n with
            | zero => cases hg
            | succ n => omega⟩
          walk_at "ww"
          have hr2 : r.2 = false := by
            cases h : r.2 with
            | false => rfl
            | true => rw [contP, h] at hg; cases hg
          rw [hr2, if_neg (by decide)] at hs
          refine ⟨n, Nat.lt_succ_self _, Hold.mk ⟨by omega, ?_, rfl, ?_⟩⟩
          · rw [hr2, if_neg (by decide), ← hs]
            conv => rhs; unfold strip
            rw [contP, hr2] at hg
            cases hd : r.1[n]? with
            | none => rw [hd] at hg; cases hg
            | some d =>
              rw [hd] at hg
              dsimp only
              rw [if_pos (by simpa using hg)]
          · rw [show (((n + 1 : Nat) : Int) - 1) = n by omega]
        · have e : rowWidth r = n := by
            unfold rowWidth
            cases hr2 : r.2 with
            | true => rw [hr2, if_pos rfl] at hs; rw [if_pos rfl, hs]
            | false =>
              rw [hr2, if_neg (by decide)] at hs
              rw [if_neg (by decide), ← hs]
              cases n with
              | zero => rfl
              | succ n =>
                unfold strip
                rw [contP, hr2] at hg
                cases hd : r.1[n]? with
                | none => rfl
                | some d =>
                  rw [hd] at hg
                  dsimp only
                  rw [if_neg (by simpa using hg)]
          exact Hold.mk ⟨rfl, by rw [e]⟩
    · rintro m τ ⟨rfl, rfl⟩
      have hw := rowWidth_le r
      have tot : acc ++ (cellSigns j 0 (r.1.take (rowWidth r)) ++ ((if r.2 then [] else [(((j : Int), (rowWidth r : Int)), 10)]) ++ lawSigns ((j + 1 : Nat) : Int) (rs.drop (j + 1)))) = lawSigns 0 rs := by
        rw [← hacc, hdrop]
        show _ = acc ++ (rowSigns j r ++ lawSigns ((j : Int) + 1) (rs.drop (j + 1)))
        unfold rowSigns
        rw [List.append_assoc]
        rfl
      generalize hcs : r.1.take (rowWidth r) = cs at tot
      have lcs : cs.length = rowWidth r := by rw [← hcs, List.length_take]; omega
      have lt : ∀ {x y : List SignT}, acc ++ (x ++ y) = lawSigns 0 rs → acc.length + x.length ≤ 900 := fun {x y} e => by
        have := congrArg List.length e
        simp only [List.length_append] at this
        omega
      unfold lsF
      walk_at "ww"
      refine wps_for (tt := false) (fun h => nomatch h) ?_
      refine wit_rng ?_
      walk_at "ww"
      refine ⟨fun l m τ => Hold (∃ D jj acc2, jj ≤ cs.length ∧ l = upFrom (jj : Nat) (cs.length - jj) ∧ acc2 ++ cellSigns j jj (cs.drop jj) = cellSigns j 0 cs ∧ τ = σ.set a (.list ((acc ++ acc2).map sg)) ∧
        m = ⟨[(s_rows, .lst (rs.map fun r => rowV r.1)), (s_joined, .lst (rs.map fun r => .bool r.2)), (s_found, .raw (.ref a)), (s_row, .int j), (s_cells, rowV r.1), (s_width, .int (rowWidth r)), (s_column, D)], lsF, []⟩),
        Hold.mk ⟨D, 0, [], Nat.zero_le _, by rw [lcs]; first | rfl | done, rfl, by rw [List.append_nil], rfl⟩, fun _ _ _ _ => trivial, ?_, ?_⟩
      · rintro v l m τ _ ⟨D, jj, acc2, hjj, hl, hacc2, rfl, rfl⟩
        obtain ⟨hlt2, rfl, rfl⟩ := upFrom_cons hl
        obtain ⟨d, hd⟩ : ∃ d, cs[jj]? = some d := ⟨_, List.getElem?_eq_getElem hlt2⟩
        have hdr : r.1[jj]? = some d := by
          rw [← hcs, List.getElem?_take] at hd
          split at hd
          · exact hd
          · cases hd
        have hdrop2 : cs.drop jj = d :: cs.drop (jj + 1) := by
          rw [List.drop_eq_getElem_cons hlt2]
          congr 1
          exact Option.some.inj ((List.getElem?_eq_getElem hlt2).symm.trans hd)
        have hacc3 : (acc2 ++ (if 0 < d.2 then [(((j : Int), (jj : Int)), headC d)] else [])) ++ cellSigns j ((jj + 1 : Nat) : Int) (cs.drop (jj + 1)) = cellSigns j 0 cs := by
          rw [← hacc2, hdrop2, List.append_assoc]
          rfl
        refine wpa_name (by walk_at "upd") ?_
        unfold lsF
        walk_at "ww"
        refine sub_at Sq.lst (by omega) (by omega) (W := cv d) (by simp [hdr]) ?_
        walk_at "ww"
        refine sub_at Sq.tup (by decide) (by decide) rfl ?_
        walk_at "ww"
        refine if_b (fun h => ?_) fun h => ?_
        · have h := of_decide_eq_true h
          rw [if_pos h] at hacc3
          walk_at "ww"
          refine meth_list (Sto.set_self ..) PySem.F.slot_list_append PySem.F.type_list_append ⟨kp_builtin, ?_⟩
          have lz := lt (x := cellSigns j 0 cs) tot
          rw [← hacc3] at lz
          simp only [List.length_append, List.length_cons, List.length_nil] at lz
          walk_at "ww"
          refine sub_at Sq.lst (by omega) (by omega) (W := cv d) (by simp [hdr]) ?_
          walk_at "ww"
          refine sub_at Sq.tup (by decide) (by decide) rfl ?_
          walk_at "ww"
          refine p_net ?_
          walk_at "ww"
          have fin : ∀ V, V = Val.int (headC d) → WpCall cx (k + 1) (Val.raw (Value.builtin "list.append")) [.raw (.ref a), .tup [.tup [.int j, .int jj], V]] (σ.set a (.list ((acc ++ acc2).map sg))) fun V σ' => V = .none ∧ σ' = σ.set a (.list ((acc ++ (acc2 ++ [(((j : Int), (jj : Int)), headC d)])).map sg)) := by
            rintro V rfl
            refine c_append (Sto.set_self ..) (by simp only [List.length_append, List.length_map]; omega) ⟨rfl, ?_⟩
            rw [Sto.set_set]; simp [sg, pl]
          refine if_b (fun h1 => ?_) fun h1 => ?_
          · walk_at "ww"
            refine sub_at Sq.lst (by omega) (by omega) (W := cv d) (by simp [hdr]) ?_
            walk_at "ww"
            refine sub_at Sq.tup (by decide) (by decide) rfl ?_
            walk_at "ww"
            refine sub_at Sq.tup (by decide) (by decide) (W := .int (headC d)) ?_ ?_
            · unfold headC
              cases hdd : d.1 with
              | nil => rw [hdd] at h1; cases h1
              | cons x l => rfl
            walk_at "ww"
            refine (fin _ rfl).mono ?_
            rintro V τ ⟨rfl, rfl⟩
            walk_at "ww"
            exact Hold.mk ⟨_, jj + 1, _, hlt2, rfl, hacc3, rfl, rfl⟩
          · walk_at "ww"
            refine (fin _ ?_).mono ?_
            · unfold headC
              cases hdd : d.1 with
              | nil => rfl
              | cons x l => rw [hdd] at h1; cases h1
            rintro V τ ⟨rfl, rfl⟩
            walk_at "ww"
            exact Hold.mk ⟨_, jj + 1, _, hlt2, rfl, hacc3, rfl, rfl⟩
        · have h := of_decide_eq_false h
          rw [if_neg h, List.append_nil] at hacc3
          walk_at "ww"
          exact Hold.mk ⟨_, jj + 1, acc2, hlt2, rfl, hacc3, rfl, rfl⟩
      · rintro m τ _ ⟨D, jj, acc2, hjj, hl, hacc2, rfl, rfl⟩
        have hge := upFrom_nil hl
        rw [List.drop_eq_nil_of_le hge] at hacc2
        have e2 : acc2 = cellSigns j 0 cs := by rw [← hacc2]; simp [cellSigns]
        subst e2
        unfold lsF
        walk_at "ww"
        refine sub_at Sq.lst (by omega) (by omega) (W := .bool r.2) (by simp [hr]) ?_
        walk_at "ww"
        refine if_b (fun h => ?_) fun h => ?_
        · have h : r.2 = false := by simpa using h
          rw [h, if_neg (by decide)] at tot
          walk_at "ww"
          refine meth_list (Sto.set_self ..) PySem.F.slot_list_append PySem.F.type_list_append ⟨kp_builtin, ?_⟩
          walk_at "ww"
          have lz := lt (x := cellSigns j 0 cs) tot
          refine c_append (Sto.set_self ..) (by simp only [List.length_append, List.length_map]; omega) ⟨rfl, ?_⟩
          walk_at "ww"
          refine Hold.mk ⟨_, _, _, _, j + 1, acc ++ cellSigns j 0 cs ++ [(((j : Int), (rowWidth r : Int)), 10)], hlt, rfl, ?_, ?_, rfl⟩
          · rw [← tot]; simp
          · rw [Sto.set_set]; simp [sg, pl]
        · have h : r.2 = true := by simpa using h
          rw [h, if_pos rfl] at tot
          walk_at "ww"
          refine Hold.mk ⟨_, _, _, _, j + 1, acc ++ cellSigns j 0 cs, hlt, rfl, ?_, rfl, rfl⟩
          rw [← tot]; simp
  · rintro m τ _ ⟨A, B, C, D, j, acc, hj, hl, hacc, rfl, rfl⟩
    have hge := enums_nil hl
    rw [List.drop_eq_nil_of_le hge] at hacc
    have e2 : acc = lawSigns 0 rs := by rw [← hacc]; simp [lawSigns]
    subst e2
    unfold lsF
    refine Kn.nx (by assumption) _ _ (wps_cons (wps_ret (wpe_fz ?_)))
    walk_at "ww"
    exact ⟨_, σ, fz_lst ha, q⟩
end
noncomputable abbrev s_left := Str.ofString "left"
noncomputable abbrev s_mixed := Str.ofString "mixed"
structure Deck (σ : Sto) (d L : Addr) : Prop where
  go : ∃ (left : List Int) (mx : Int), σ d = some (.dict [s_left, s_mixed] [.raw (.ref L), .int mx]) ∧ σ L = some (.list (left.map .int)) ∧ d ≠ L ∧ left.length ≤ 1000
structure Nxt (σ σ' : Sto) (d L : Addr) : Prop where
  deck : Deck σ' d L
  rest : ∀ b, b ≠ d → b ≠ L → σ' b = σ b
section
variable {cx : Cx} {k : Nat} {σ : Sto} {Q : Val → Sto → Prop}
theorem p_nem {a : Addr} {l : List Int} (ha : σ a = some (.list (l.map .int))) (q : Q (.bool (!l.isEmpty)) σ) : Wp2 cx k (compareOp .NotEq) (.raw (.ref a)) (.lst []) σ Q :=
  p_ned (d := .list (l.map .int)) (e := .list []) (.inr ⟨a, _, rfl, by rw [vds_ints]; exact ha, rfl⟩) (.inl rfl) (shaped_lints l) (by decide) (by rw [eqv_nil_lints]; exact q)
end
section
variable {cx : Cx} {k : Nat} {σ : Sto} {Q : Val → Sto → Prop}
theorem f_law_draw (T : Top0 cx) {d L : Addr} (hD : Deck σ d L) {n : Int} (hn : 0 < n) (q : ∀ r σ', 0 ≤ r → r < n → Nxt σ σ' d L → Q (.int r) σ') :
    WpCode cx (k + 1) (.raw (.ref T.f_law_draw)) [.raw (.ref d), .int n] σ Q := by
  obtain ⟨left, mx, hd, hL, hne, hz⟩ := hD.go
  refine enter T.h_law_draw [Str.ofString "deck", Str.ofString "many"] [] [] [] rfl (by walk_at "args") (by walk_at "oks") (by walk_at "gv") ?_
  walk_at "frame"
  walk_at "st"
  walk_at "ww"
  refine sub_sd hd (by decide) rfl ?_
  walk_at "ww"
  refine wpe_list ?_
  walk_at "ww"
  refine p_nem hL ?_
  walk_at "ww"
  cases left with
  | cons x left =>
    refine if_t ?_
    walk_at "ww"
    refine sub_sd hd (by decide) rfl ?_
    refine meth_list hL PySem.F.slot_list_pop PySem.F.type_list_pop ⟨kp_builtin, ?_⟩
    walk_at "ww"
    refine c_pop0 hL (by rw [List.length_map]; rw [List.length_cons] at hz; omega) ?_
    walk_at "ww"
    refine p_mod ?_ hn
    walk_at "ww"
    refine q _ _ (Int.emod_nonneg _ (by omega)) (Int.emod_lt_of_pos _ hn) ⟨⟨left, mx, ?_, Sto.set_self .., hne, by rw [List.length_cons] at hz; omega⟩, fun b h1 h2 => Sto.set_ne _ _ h2⟩
    rw [Sto.set_ne _ _ hne]; exact hd
  | nil =>
    refine if_f ?_
    walk_at "ww"
    refine sub_sd hd (by decide) rfl ?_
    walk_at "ww"
    refine p_mul ?_
    walk_at "ww"
    refine p_mod ?_ (by decide)
    walk_at "ww"
    refine set_sd hd (by decide) (by decide) rfl ?_
    walk_at "ww"
    refine sub_sd (Sto.set_self ..) (by decide) rfl ?_
    walk_at "ww"
    refine p_fdiv ?_
    walk_at "ww"
    refine p_mod ?_ hn
    walk_at "ww"
    refine q _ _ (Int.emod_nonneg _ (by omega)) (Int.emod_lt_of_pos _ hn) ⟨⟨[], _, Sto.set_self .., ?_, hne, hz⟩, fun b h1 h2 => Sto.set_ne _ _ h1⟩
    rw [Sto.set_ne _ _ (Ne.symm hne)]; exact hL
theorem f_law_deck (T : Top0 cx) {xs : List Int} (hx : xs.length ≤ 1000) (q : ∀ d L σ', Deck σ' d L → (∀ b, b ≠ d → b ≠ L → σ' b = σ b) → σ d = none → σ L = none → Q (.raw (.ref d)) σ') :
    WpCode cx (k + 1) (.raw (.ref T.f_law_deck)) [.lst (xs.map .int)] σ Q := by
  refine enter T.h_law_deck [Str.ofString "script"] [Str.ofString "cell", s_left, s_mixed] [] [] rfl (by walk_at "args") (by walk_at "oks") (by walk_at "gv") ?_
  walk_at "frame"
  walk_at "st"
  refine wps_two (by decide) ?_ (by intro vs k p h; cases h; rfl)
  walk_at "w"
  walk_at "w"
  refine wpe_comp [Str.ofString "cell"] [] [(Str.ofString "int", .raw (.type "int"))] (by walk_at "oks") (by walk_at "caps") (by walk_at "keys") (by walk_at "gv") (tt := false) (fun h => nomatch h) ?_
  refine wit_lst ?_
  walk_at "ww"
  refine ⟨_, fun I vs h => pick_upto (by decide) h, ?_⟩
  rw [← List.map_take]
  walk_at "ww"
  generalize hys : xs.take (48 : Int).toNat = ys
  have lys : ys.length ≤ 48 := by rw [← hys, List.length_take]; show min 48 _ ≤ 48; omega
  refine ⟨by rw [List.length_map]; omega, fun l acc τ => Hold (τ = σ ∧ ∃ done rest, ys = done ++ rest ∧ l = rest.map .int ∧ acc = (done.map fun i => i % 1000003).map Val.int), Hold.mk ⟨rfl, [], ys, rfl, rfl, rfl⟩, ⟨fun _ _ _ _ => trivial, ?_⟩, ?_⟩
  · rintro v l acc τ ⟨rfl, done, rest, e1, hl, rfl⟩
    cases rest with
    | nil => cases hl
    | cons x rest =>
      obtain ⟨rfl, rfl⟩ := List.cons.inj hl
      refine wpa_name .here (ifs_nil (if_t ?_))
      walk_at "frame"
      walk_at "ww"
      refine p_mod ?_ (by decide)
      exact Hold.mk ⟨rfl, done ++ [x], rest, by rw [e1]; simp, rfl, by simp⟩
  rintro acc τ ⟨rfl, done, rest, e1, hl, rfl⟩ L hL
  have er : rest = [] := by cases rest with
    | nil => rfl
    | cons _ _ => cases hl
  subst er
  rw [List.append_nil] at e1
  subst e1
  generalize hzs : (ys.map fun i => i % 1000003) = zs
  have lzs : zs.length ≤ 48 := by rw [← hzs, List.length_map]; exact lys
  walk_at "ww"
  refine ⟨_, _, _, _, rfl, by walk_at "upd", by walk_at "upd", ?_⟩
  walk_at "ww"
  refine wps_for (tt := false) (fun h => nomatch h) ?_
  refine wit_mut ?_
  walk_at "ww"
  refine ⟨_, _, rfl, Sto.set_self .., ?_⟩
  refine ⟨fun l m τ' => Hold (∃ done rest A mx, zs = done ++ rest ∧ l = rest.map .int ∧ τ' = τ.set L (.list (zs.map .int)) ∧
    m = ⟨[(Str.ofString "script", .lst (xs.map .int)), (Str.ofString "cell", A), (s_left, .raw (.ref L)), (s_mixed, .int mx)], [], []⟩),
    Hold.mk ⟨[], zs, .unbound, 7001, rfl, rfl, rfl, rfl⟩, ?_, ?_, ?_⟩
  · rintro l m τ' ⟨done, rest, A, mx, e1, e2, rfl, rfl⟩
    exact Sto.set_self ..
  · rintro v l m τ' _ ⟨done, rest, A, mx, e1, hl, rfl, rfl⟩
    cases rest with
    | nil => cases hl
    | cons x rest =>
      obtain ⟨rfl, rfl⟩ := List.cons.inj hl
      refine wpa_name (by walk_at "upd") ?_
      walk_at "ww"
      refine p_mul ?_
      walk_at "ww"
      refine p_mod ?_ (by decide)
      walk_at "ww"
      exact Hold.mk ⟨done ++ [x], rest, _, _, by rw [e1]; simp, rfl, rfl, rfl⟩
  · rintro m τ' _ ⟨done, rest, A, mx, e1, hl, rfl, rfl⟩
    walk_at "w"
    walk_at "w"
    walk_at "w"
    refine wpe_dict_str ?_
    refine ps_cons ?_
    walk_at "ww"
    refine ps_cons ?_
    walk_at "ww"
    refine ps_nil ?_
    refine ⟨[s_left, s_mixed], rfl, by decide, fun d hd => ?_⟩
    have hne : d ≠ L := fun e => by subst e; rw [Sto.set_self] at hd; cases hd
    walk_at "ww"
    refine q d L _ ⟨⟨zs, mx, Sto.set_self .., by rw [Sto.set_ne _ _ (Ne.symm hne), Sto.set_self], hne, by omega⟩⟩ (fun b h1 h2 => by rw [Sto.set_ne _ _ h1, Sto.set_ne _ _ h2]) (by rw [Sto.set_ne _ _ hne] at hd; exact hd) hL
end
noncomputable def okCode (x : Int) : Prop := 0 ≤ x ∧ x ≠ 123 ∧ x ≠ 125 ∧ x ≠ 10
noncomputable def GoodCell (c : CellT) : Prop := (c.2 = 0 ∧ c.1 = []) ∨ (0 < c.2 ∧ c.2 ≤ 2 ∧ c.1.length ≤ 2 ∧ ∀ x ∈ c.1, okCode x)
structure GoodRow (columns : Nat) (r : RowT) : Prop where
  len : r.1.length = columns
  head : headW r.1 ≠ some 0
  last : lastW r.1 ≠ some 2
  full : r.2 = true → ∃ l d, r.1 = l ++ [d] ∧ blankC d = false
  cells : ∀ c ∈ r.1, GoodCell c
theorem codes_ok : ∀ x ∈ lawCodes, okCode x ∨ False := by
  unfold okCode; decide +kernel
theorem fz_del {cx : Cx} {σ : Sto} {a : Addr} {V : Val} : Fz cx σ V V (σ.del a) :=
  ⟨[], shift_id V, fun b c hb => ⟨by
    by_cases e : b = a
    · subst e; rw [Sto.del_self] at hb; cases hb
    · rw [Sto.del_ne _ e] at hb; exact hb, by simp⟩⟩
/-- what the row holds as it grows -/
structure Grow (many : Nat) (j : Bool) (cs : List CellT) : Prop where
  len : cs.length ≤ many
  head : headW cs ≠ some 0
  last : lastW cs ≠ some 2
  full : j = true → cs.length = many → cs ≠ [] → ∃ l d, cs = l ++ [d] ∧ blankC d = false
  cells : ∀ c ∈ cs, GoodCell c
theorem Grow.nil {many : Nat} {j : Bool} : Grow many j [] := ⟨Nat.zero_le _, by simp [headW], by simp [lastW], fun _ _ h => absurd rfl h, fun c h => absurd h List.not_mem_nil⟩
theorem head_app {cs ds : List CellT} (h : headW cs ≠ some 0) (h2 : headW ds ≠ some 0) : headW (cs ++ ds) ≠ some 0 := by
  cases cs with
  | nil => exact h2
  | cons c cs => exact h
theorem last_app {cs ds : List CellT} (h : lastW cs ≠ some 2) (h2 : lastW ds ≠ some 2) : lastW (cs ++ ds) ≠ some 2 := by
  unfold lastW at *
  rw [List.getLast?_append]
  cases e : ds.getLast? with
  | none => exact h
  | some d => rw [e] at h2; exact h2
theorem Grow.one {many : Nat} {j : Bool} {cs : List CellT} {l : List Int} (g : Grow many j cs) (hlt : cs.length < many) (hl : l.length ≤ 2) (hc : ∀ x ∈ l, okCode x) (hn : j = true → cs.length = many - 1 → l ≠ []) : Grow many j (cs ++ [(l, 1)]) where
  len := by simp; omega
  head := head_app g.head (by simp [headW])
  last := last_app g.last (by simp [lastW])
  full := fun h1 h2 _ => ⟨cs, (l, 1), rfl, by
    have := hn h1 (by simp at h2; omega)
    unfold blankC
    cases l with
    | nil => exact absurd rfl this
    | cons x l => rfl⟩
  cells := fun c h => by
    rcases List.mem_append.mp h with h | h
    · exact g.cells c h
    · rw [List.mem_singleton] at h; subst h; exact .inr ⟨by show (0 : Int) < 1; decide, by show (1 : Int) ≤ 2; decide, hl, hc⟩
theorem Grow.two {many : Nat} {j : Bool} {cs : List CellT} {x : Int} (g : Grow many j cs) (hlt : cs.length + 1 < many) (hc : okCode x) : Grow many j (cs ++ [([x], 2), ([], 0)]) where
  len := by simp; omega
  head := head_app g.head (by simp [headW])
  last := last_app g.last (by simp [lastW])
  full := fun h1 h2 _ => ⟨cs ++ [([x], 2)], ([], 0), by simp, by decide⟩
  cells := fun c h => by
    rcases List.mem_append.mp h with h | h
    · exact g.cells c h
    · simp only [List.mem_cons, List.not_mem_nil, or_false] at h
      rcases h with rfl | rfl
      · exact .inr ⟨by show (0 : Int) < 2; decide, by show (2 : Int) ≤ 2; decide, by simp, fun y hy => by rw [List.mem_singleton] at hy; subst hy; exact hc⟩
      · exact .inl ⟨rfl, rfl⟩
theorem Grow.row {many columns : Nat} {j : Bool} {cs : List CellT} (g : Grow many j cs) (he : cs.length = many) (hm : many ≤ columns) (h0 : 0 < columns) (hj : j = true → many = columns) : GoodRow columns (cs ++ List.replicate (columns - many) ([], 1), j) where
  len := by simp; omega
  head := head_app g.head (by cases columns - many <;> simp [headW, List.replicate_succ])
  last := last_app g.last (by
    unfold lastW
    rw [List.getLast?_replicate]
    split <;> simp)
  full := fun h => by
    have e := hj h
    obtain ⟨l, d, h1, h2⟩ := g.full h he (fun e => by subst e; simp at he; omega)
    exact ⟨l, d, by rw [e, Nat.sub_self]; simpa using h1, h2⟩
  cells := fun c h => by
    rcases List.mem_append.mp h with h | h
    · exact g.cells c h
    · rw [(List.mem_replicate.mp h).2]; exact .inr ⟨by decide, by decide, by simp, fun x hx => absurd hx List.not_mem_nil⟩
section
variable {cx : Cx} {k : Nat} {σ : Sto} {Q : Val → Sto → Prop}
noncomputable abbrev s_deck := Str.ofString "deck"
noncomputable abbrev s_many := Str.ofString "many"
noncomputable abbrev s_joinedB := Str.ofString "is_joined"
noncomputable def lrF (T : Top0 cx) : List (Str × Val) := [(Str.ofString "_law_draw", .raw (.ref T.f_law_draw)), (Str.ofString "len", .raw (.builtin "len")), (Str.ofString "_law_codes", .tup (lawCodes.map .int)), (Str.ofString "_law_pen", penV)]
theorem Deck.set {σ : Sto} {d L a : Addr} {c : Cell} (h : Deck σ d L) (h1 : a ≠ d) (h2 : a ≠ L) : Deck (σ.set a c) d L := by
  obtain ⟨l, m, e1, e2, e3, e4⟩ := h.go
  exact ⟨⟨l, m, by rw [Sto.set_ne _ _ (Ne.symm h1)]; exact e1, by rw [Sto.set_ne _ _ (Ne.symm h2)]; exact e2, e3, e4⟩⟩
theorem Deck.del {σ : Sto} {d L a : Addr} (h : Deck σ d L) (h1 : a ≠ d) (h2 : a ≠ L) : Deck (σ.del a) d L := by
  obtain ⟨l, m, e1, e2, e3, e4⟩ := h.go
  exact ⟨⟨l, m, by rw [Sto.del_ne _ (Ne.symm h1)]; exact e1, by rw [Sto.del_ne _ (Ne.symm h2)]; exact e2, e3, e4⟩⟩
theorem Deck.ne {σ : Sto} {d L a : Addr} (h : Deck σ d L) (ha : σ a = none) : a ≠ d ∧ a ≠ L := by
  obtain ⟨l, m, e1, e2, e3, e4⟩ := h.go
  exact ⟨(fun e => by subst e; rw [ha] at e1; cases e1), (fun e => by subst e; rw [ha] at e2; cases e2)⟩
noncomputable def whileBody : Stmt → List Stmt
  | .While _ b _ _ => b
  | _ => []
/-- the store within the row -/
structure RowSt (σ₀ σ : Sto) (d L a : Addr) (cs : List CellT) : Prop where
  deck : Deck σ d L
  list : σ a = some (.list (cs.map cv))
  rest : ∀ b, b ≠ d → b ≠ L → b ≠ a → σ b = σ₀ b
theorem RowSt.draw {σ₀ σ σ' : Sto} {d L a : Addr} {cs : List CellT} (h : RowSt σ₀ σ d L a cs) (n : Nxt σ σ' d L) (h1 : a ≠ d) (h2 : a ≠ L) : RowSt σ₀ σ' d L a cs :=
  ⟨n.deck, by rw [n.rest a h1 h2]; exact h.list, fun b b1 b2 b3 => by rw [n.rest b b1 b2]; exact h.rest b b1 b2 b3⟩
theorem RowSt.put {σ₀ σ : Sto} {d L a : Addr} {cs ds : List CellT} (h : RowSt σ₀ σ d L a cs) (h1 : a ≠ d) (h2 : a ≠ L) : RowSt σ₀ (σ.set a (.list (ds.map cv))) d L a ds :=
  ⟨h.deck.set h1 h2, Sto.set_self .., fun b b1 b2 b3 => by rw [Sto.set_ne _ _ b3]; exact h.rest b b1 b2 b3⟩
theorem f_law_row (T : Top0 cx) {d L : Addr} (hD : Deck σ d L) {columns : Nat} {j : Bool} (h0 : 0 < columns) (h1 : columns ≤ 100) (q : ∀ cs σ', GoodRow columns (cs, j) → Nxt σ σ' d L → Q (rowV cs) σ') :
    WpCode cx (k + 2) (.raw (.ref T.f_law_row)) [.raw (.ref d), .int columns, .bool j] σ Q := by
  refine enter T.h_law_row [s_deck, s_columns, s_joinedB] [s_cells, s_many, Str.ofString "code"]
    [(Str.ofString "_law_draw", .raw (.ref T.f_law_draw)), (Str.ofString "len", .raw (.builtin "len")), (Str.ofString "_law_codes", .tup (lawCodes.map .int)), (Str.ofString "_law_pen", penV)] [] rfl (by walk_at "args") (by walk_at "oks") (by walk_at "gv") ?_
  walk_at "frame"
  walk_at "st"
  refine wps_two (by decide) ?_ (by intro vs k p h; cases h; rfl)
  walk_at "w"
  walk_at "w"
  refine wpe_listm ?_
  walk_at "ww"
  intro a ha
  obtain ⟨ad, aL⟩ := hD.ne ha
  walk_at "w"
  have code_mem : ∀ r : Int, 0 ≤ r → r < 12 → ∃ x, x ∈ lawCodes ∧ (lawCodes.map Val.int)[r.toNat]? = some (.int x) := by
    intro r r0 r1
    have : r.toNat < lawCodes.length := by show r.toNat < 12; omega
    exact ⟨lawCodes[r.toNat], List.getElem_mem this, by rw [List.getElem?_map, List.getElem?_eq_getElem this]; rfl⟩
  have rest : ∀ (many : Nat) (σ₁ : Sto), many ≤ columns → (j = true → many = columns) → RowSt σ σ₁ d L a [] → WpSs cx (k + 1) ⟨[(s_deck, .raw (.ref d)), (s_columns, .int columns), (s_joinedB, .bool j), (s_cells, .raw (.ref a)), (s_many, .int many), (Str.ofString "code", .unbound)], lrF T, []⟩ σ₁ ((bodyOf (stAt 42)).drop 1)
      fun F _ σ' => match F with | .ret V => Q V σ' | .next => Q .none σ' | _ => False := by
    intro many σ₁ m1 m2 R₁
    walk_at "st"
    refine wps_whileK (fun n m τ => Hold (∃ cs C, n = many - cs.length ∧ Grow many j cs ∧ RowSt σ τ d L a cs ∧ m = ⟨[(s_deck, .raw (.ref d)), (s_columns, .int columns), (s_joinedB, .bool j), (s_cells, .raw (.ref a)), (s_many, .int many), (Str.ofString "code", C)], lrF T, []⟩))
      (fun m τ => Hold (∃ cs C, cs.length = many ∧ Grow many j cs ∧ RowSt σ τ d L a cs ∧ m = ⟨[(s_deck, .raw (.ref d)), (s_columns, .int columns), (s_joinedB, .bool j), (s_cells, .raw (.ref a)), (s_many, .int many), (Str.ofString "code", C)], lrF T, []⟩))
      many (Hold.mk ⟨[], .unbound, by simp, Grow.nil, R₁, rfl⟩) ?_ ?_
    · rintro n m τ _ ⟨cs, C, rfl, G, R, rfl⟩
      have hle := G.len
      unfold lrF
      walk_at "ww"
      refine c_len (SqL.mut R.list) (by rw [List.length_map]; omega) ?_
      rw [List.length_map]
      walk_at "ww"
      refine if_b (fun hlt => ?_) fun hlt => ?_
      · have hlt : cs.length < many := by have := of_decide_eq_true hlt; omega
        walk_at "ww"
        refine (f_law_draw T R.deck (by decide) fun r σ' r0 r1 n => ?_).call
        obtain ⟨x, hx, ex⟩ := code_mem r r0 r1
        refine sub_at Sq.tup r0 (by omega) ex ?_
        have R2 := R.draw n ad aL
        clear n R r r0 r1 ex
        walk_at "w"
        walk_at "w"
        walk_at "w"
        walk_at "w"
        have turn : ∀ (G₀ : Fl → Loc → Sto → Prop), (∀ m₃ σ₃, (∃ n', n' < many - cs.length ∧ Hold (∃ cs C, n' = many - cs.length ∧ Grow many j cs ∧ RowSt σ σ₃ d L a cs ∧ m₃ = ⟨[(s_deck, .raw (.ref d)), (s_columns, .int columns), (s_joinedB, .bool j), (s_cells, .raw (.ref a)), (s_many, .int many), (Str.ofString "code", C)], lrF T, []⟩)) → G₀ .next m₃ σ₃) →
          ∀ x, x ∈ lawCodes → (cs.length = many - 1 → x ≠ 19968 ∧ (j = true → x ≠ 0 ∧ x ≠ 32)) → WpSs cx (k + 1) ⟨[(s_deck, .raw (.ref d)), (s_columns, .int columns), (s_joinedB, .bool j), (s_cells, .raw (.ref a)), (s_many, .int many), (Str.ofString "code", .int x)], lrF T, []⟩ σ' ((((bodyOf (stAt 42))[1]?).elim [] whileBody).drop 2) G₀ := by
          intro G₀ hG₀
          intro x hx hl
          have ok := (codes_ok x hx).resolve_right id
          have fin : ∀ ds τ' C, cs.length < ds.length → Grow many j ds → τ' = σ'.set a (.list (ds.map cv)) → ∃ n', n' < many - cs.length ∧ Hold (∃ cs C', n' = many - cs.length ∧ Grow many j cs ∧ RowSt σ τ' d L a cs ∧
              (⟨[(s_deck, .raw (.ref d)), (s_columns, .int columns), (s_joinedB, .bool j), (s_cells, .raw (.ref a)), (s_many, .int many), (Str.ofString "code", C)], lrF T, []⟩ : Loc) = ⟨[(s_deck, .raw (.ref d)), (s_columns, .int columns), (s_joinedB, .bool j), (s_cells, .raw (.ref a)), (s_many, .int many), (Str.ofString "code", C')], lrF T, []⟩) := by
            intro ds τ' C h1 h2 h3
            subst h3
            exact ⟨many - ds.length, by omega, Hold.mk ⟨ds, C, rfl, h2, R2.put ad aL, rfl⟩⟩
          walk_at "st"
          unfold lrF
          walk_at "ww"
          refine if_b (fun h1 => ?_) fun h1 => ?_
          · have h1 := of_decide_eq_true h1
            subst h1
            walk_at "ww"
            refine meth_list R2.list PySem.F.slot_list_extend PySem.F.type_list_extend ⟨kp_builtin, ?_⟩
            walk_at "w"
            refine wpe_list ?_
            walk_at "ww"
            refine c_extend (Vs := cs.map cv) (Ws := [cv ([19968], 2), cv ([], 0)]) R2.list (by rw [List.length_map]; show _ + 2 ≤ _; omega) ⟨rfl, ?_⟩
            walk_at "ww"
            have hlt2 : cs.length + 1 < many := by
              by_cases e : cs.length = many - 1
              · exact absurd rfl (hl e).1
              · omega
            exact hG₀ _ _ <| fin (cs ++ [([19968], 2), ([], 0)]) _ _ (by simp) (G.two hlt2 ok) (by simp)
          · have h1 := of_decide_eq_false h1
            walk_at "ww"
            refine if_b (fun h2 => ?_) fun h2 => ?_
            · have h2 := of_decide_eq_true h2
              subst h2
              walk_at "ww"
              refine meth_list R2.list PySem.F.slot_list_append PySem.F.type_list_append ⟨kp_builtin, ?_⟩
              walk_at "ww"
              refine c_append (W := cv ([97, 769], 1)) R2.list (by rw [List.length_map]; omega) ⟨rfl, ?_⟩
              walk_at "ww"
              exact hG₀ _ _ <| fin (cs ++ [([97, 769], 1)]) _ _ (by simp) (G.one hlt (by simp) (by intro y hy; simp only [List.mem_cons, List.not_mem_nil, or_false] at hy; unfold okCode; omega) (fun _ _ => by simp)) (by simp)
            · have h2 := of_decide_eq_false h2
              walk_at "ww"
              refine meth_list R2.list PySem.F.slot_list_append PySem.F.type_list_append ⟨kp_builtin, ?_⟩
              walk_at "ww"
              refine if_b (fun h3 => ?_) fun h3 => ?_
              · have h3 := of_decide_eq_true h3
                walk_at "ww"
                refine c_append (W := cv ([x], 1)) R2.list (by rw [List.length_map]; omega) ⟨rfl, ?_⟩
                walk_at "ww"
                exact hG₀ _ _ <| fin (cs ++ [([x], 1)]) _ _ (by simp) (G.one hlt (by simp) (by intro y hy; rw [List.mem_singleton] at hy; subst hy; exact ok) (fun _ _ => by simp)) (by simp)
              · have h3 := of_decide_eq_false h3
                walk_at "ww"
                refine c_append (W := cv ([], 1)) R2.list (by rw [List.length_map]; omega) ⟨rfl, ?_⟩
                walk_at "ww"
                refine hG₀ _ _ <| fin (cs ++ [([], 1)]) _ _ (by simp) (G.one hlt (by simp) (fun y hy => absurd hy List.not_mem_nil) (fun hj he => ?_)) (by simp)
                have := ((hl he).2 hj).1
                have := ok.1
                omega
        refine WpT.mono (P := fun b τ' => b = decide (cs.length = many - 1 ∧ (x = 19968 ∨ (j = true ∧ (x = 0 ∨ x = 32)))) ∧ τ' = σ') ?_ ?_
        · walk_at "ww"
          refine c_len (SqL.mut R2.list) (by rw [List.length_map]; omega) ?_
          rw [List.length_map]
          walk_at "ww"
          refine if_b (fun h1 => ?_) fun h1 => ?_
          · have h1 : cs.length = many - 1 := by have := of_decide_eq_true h1; omega
            walk_at "ww"
            refine if_b (fun h2 => ?_) fun h2 => ?_
            · have h2 := of_decide_eq_true h2
              walk_at "ww"
              exact ⟨by simp [h1, h2], by first | rfl | trivial⟩
            · have h2 := of_decide_eq_false h2
              walk_at "ww"
              refine if_b (fun h3 => ?_) fun h3 => ?_
              · walk_at "ww"
                refine p_in (l := [0, 32]) ?_
                walk_at "ww"
                refine if_b (fun h4 => ?_) fun h4 => ?_
                · walk_at "ww"
                  exact ⟨by simpa [h1, h2, h3] using h4, by first | rfl | trivial⟩
                · walk_at "ww"
                  exact ⟨by simpa [h1, h2, h3] using h4, by first | rfl | trivial⟩
              · walk_at "ww"
                exact ⟨by simp [h2, h3], by first | rfl | trivial⟩
          · have h1 : ¬ cs.length = many - 1 := by have := of_decide_eq_false h1; omega
            walk_at "ww"
            exact ⟨by simp [h1], by first | rfl | trivial⟩
        rintro b τ' ⟨rfl, rfl⟩
        refine if_b (fun hb => ?_) fun hb => ?_
        · walk_at "w"
          walk_at "w"
          walk_at "w"
          walk_at "w"
          walk_at "w"
          walk_at "w"
          walk_at "w"
          exact turn _ (fun _ _ h => h) 98 (by decide) fun _ => ⟨by decide, fun _ => ⟨by decide, by decide⟩⟩
        · have hb := of_decide_eq_false hb
          walk_at "w"
          walk_at "w"
          refine turn _ (fun _ _ h => h) x hx fun h => ⟨fun e => hb ⟨h, .inl e⟩, fun hj => ⟨fun e => hb ⟨h, .inr ⟨hj, .inl e⟩⟩, fun e => hb ⟨h, .inr ⟨hj, .inr e⟩⟩⟩⟩
      · have hge : cs.length = many := by have := of_decide_eq_false hlt; omega
        exact Hold.mk ⟨cs, C, hge, G, R, rfl⟩
    · rintro m τ ⟨cs, C, he, G, R, rfl⟩
      unfold lrF
      refine Kn.nx (by assumption) _ _ (wps_cons (wps_ret (wpe_fz ?_)))
      walk_at "ww"
      refine wpe_list ?_
      walk_at "ww"
      refine c_len (SqL.mut R.list) (by rw [List.length_map]; omega) ?_
      rw [List.length_map]
      walk_at "ww"
      refine p_mull (W := cv ([], 1)) (by omega) (by omega) ?_
      refine p_addl (Sq.mut R.list) Sq.lst (fun _ h => by cases h) (fun _ h => by cases h) (by simp; omega) ?_
      refine ⟨_, τ.del a, fz_del, ?_⟩
      have := q _ (τ.del a) (G.row he m1 h0 m2) ⟨R.deck.del ad aL, fun b b1 b2 => ?_⟩
      · rw [Int.toNat_sub, he]
        simpa [rowV] using this
      · by_cases e : b = a
        · subst e; rw [Sto.del_self, ha]
        · rw [Sto.del_ne _ e]; exact R.rest b b1 b2 e
  refine WpE.mono (Q := fun V τ => ∃ many : Nat, V = .int many ∧ many ≤ columns ∧ (j = true → many = columns) ∧ RowSt σ τ d L a []) ?_ ?_
  · walk_at "ww"
    refine if_b (fun h => ?_) fun h => ?_
    · walk_at "ww"
      exact ⟨fun _ => rfl, ⟨hD.set ad aL, Sto.set_self .., fun b b1 b2 b3 => Sto.set_ne _ _ b3⟩⟩
    · walk_at "ww"
      refine (f_law_draw T (hD.set ad aL) (by omega) fun r σ' r0 r1 n => ?_).call
      refine ⟨r.toNat, by rw [show (r.toNat : Int) = r by omega], by omega, (fun e => by rw [e] at h; cases h), ?_⟩
      exact RowSt.draw ⟨hD.set ad aL, Sto.set_self .., fun b b1 b2 b3 => Sto.set_ne _ _ b3⟩ n ad aL
  · rintro V τ ⟨many, rfl, m1, m2, R⟩
    walk_at "ww"
    refine ⟨_, _, _, _, rfl, by walk_at "upd", by walk_at "upd", ?_⟩
    walk_at "w"
    exact rest many τ m1 m2 R
end
theorem up_spec {p : Nat → Bool} {n : Nat} : ∀ {f a : Nat}, n = a + f → a ≤ up p f a ∧ up p f a ≤ n ∧ (∀ i, a ≤ i → i < up p f a → p i = true) ∧ (up p f a < n → p (up p f a) = false)
  | 0, a, h => ⟨Nat.le_refl _, by unfold up; omega, fun i h1 h2 => by unfold up at h2; omega, fun h => by unfold up at h; omega⟩
  | f + 1, a, h => by
    unfold up
    cases hp : p a with
    | true =>
      rw [if_pos rfl]
      obtain ⟨h1, h2, h3, h4⟩ := up_spec (p := p) (n := n) (f := f) (a := a + 1) (by omega)
      refine ⟨by omega, h2, fun i i1 i2 => ?_, h4⟩
      rcases Nat.lt_or_eq_of_le i1 with q | q
      · exact h3 i q i2
      · subst q; exact hp
    | false =>
      rw [if_neg (by decide)]
      exact ⟨Nat.le_refl _, by omega, fun i i1 i2 => by omega, fun _ => hp⟩
theorem down_spec {p : Nat → Bool} : ∀ a : Nat, down p a ≤ a ∧ (∀ i, down p a < i → i ≤ a → p i = true) ∧ (down p a = 0 ∨ p (down p a) = false)
  | 0 => ⟨Nat.le_refl _, fun i h1 h2 => by omega, .inl rfl⟩
  | a + 1 => by
    unfold down
    cases hp : p (a + 1) with
    | true =>
      rw [if_pos rfl]
      obtain ⟨h1, h2, h3⟩ := down_spec (p := p) a
      refine ⟨by omega, fun i i1 i2 => ?_, h3⟩
      rcases Nat.lt_or_eq_of_le i2 with q | q
      · exact h2 i i1 (by omega)
      · subst q; exact hp
    | false =>
      rw [if_neg (by decide)]
      exact ⟨Nat.le_refl _, fun i i1 i2 => by omega, .inr hp⟩
theorem headF_some {P : Nat → Bool} {n m d : Nat} (hm : m < n) (h : P m = true) (h2 : ∀ k, k < m → P k = false) : ((List.range n).filter P).head?.getD d = m := by
  rw [List.head?_filter, List.find?_range_eq_some.mpr ⟨h, List.mem_range.mpr hm, fun j hj => by rw [h2 j hj]; rfl⟩]
  rfl
theorem headF_none {P : Nat → Bool} {n d : Nat} (h2 : ∀ k, k < n → P k = false) : ((List.range n).filter P).head?.getD d = d := by
  rw [List.head?_filter, List.find?_range_eq_none.mpr (fun j hj => by rw [h2 j hj]; rfl)]
  rfl
theorem lastF_some {P : Nat → Bool} {m d : Nat} : ∀ {n : Nat}, m < n → P m = true → (∀ k, m < k → k < n → P k = false) → ((List.range n).filter P).getLast?.getD d = m
  | 0, hm, _, _ => by omega
  | n + 1, hm, h, h2 => by
    rw [filt_succ, List.getLast?_append]
    rcases Nat.lt_or_eq_of_le (Nat.le_of_lt_succ hm) with q | q
    · rw [h2 n q (by omega), if_neg (by decide)]
      exact lastF_some q h fun k k1 k2 => h2 k k1 (by omega)
    · subst q; rw [h, if_pos rfl]; rfl
theorem lastF_none {P : Nat → Bool} {n d : Nat} (h2 : ∀ k, k < n → P k = false) : ((List.range n).filter P).getLast?.getD d = d := by
  rw [List.filter_eq_nil_iff.mpr (fun k hk => by rw [h2 k (List.mem_range.mp hk)]; decide)]
  rfl
variable {signs : List SignT} {b : Array UInt8}
theorem begP_iff {k : Nat} : begP signs b k = true ↔ 0 < sr signs b k ∧ (k = 0 ∨ sr signs b (k - 1) ≠ sr signs b k) := by
  unfold begP; simp
theorem endP_iff {k : Nat} : endP signs b k = true ↔ 0 < sr signs b k ∧ (k = signs.length - 1 ∨ sr signs b (k + 1) ≠ sr signs b k) := by
  unfold endP; simp
theorem fls {x : Bool} {p : Prop} (h : x = true ↔ p) (hn : ¬p) : x = false := by
  cases x with
  | false => rfl
  | true => exact absurd (h.mp rfl) hn
theorem begin_iff {a k : Nat} : (begP signs b k && decide (a < k)) = true ↔ (0 < sr signs b k ∧ (k = 0 ∨ sr signs b (k - 1) ≠ sr signs b k)) ∧ a < k := by
  rw [Bool.and_eq_true, begP_iff, decide_eq_true_eq]
theorem end_iff {a k : Nat} : (endP signs b k && decide (a < k)) = true ↔ (0 < sr signs b k ∧ (k = signs.length - 1 ∨ sr signs b (k + 1) ≠ sr signs b k)) ∧ a < k := by
  rw [Bool.and_eq_true, endP_iff, decide_eq_true_eq]
theorem beginB_iff {a k : Nat} : (begP signs b k && decide (k < a)) = true ↔ (0 < sr signs b k ∧ (k = 0 ∨ sr signs b (k - 1) ≠ sr signs b k)) ∧ k < a := by
  rw [Bool.and_eq_true, begP_iff, decide_eq_true_eq]
theorem blk_t {k : Nat} : blkP signs b k = true ↔ sr signs b k = 0 := by unfold blkP; simp
theorem blk_f {k : Nat} : blkP signs b k = false ↔ sr signs b k ≠ 0 := by unfold blkP; simp
theorem run_t {s k : Nat} : runP signs b s k = true ↔ s ≠ 0 ∧ sr signs b k = s := by unfold runP; simp
theorem run_f {s k : Nat} : runP signs b s k = false ↔ ¬(s ≠ 0 ∧ sr signs b k = s) := by unfold runP; simp
theorem same_t {k : Nat} : sameP signs b k = true ↔ sr signs b (k + 1) = sr signs b k := by unfold sameP; simp
theorem same_f {k : Nat} : sameP signs b k = false ↔ sr signs b (k + 1) ≠ sr signs b k := by unfold sameP; simp
theorem back_t {k : Nat} : backP signs b k = true ↔ sr signs b (k - 1) = sr signs b k := by unfold backP; simp
theorem back_f {k : Nat} : backP signs b k = false ↔ sr signs b (k - 1) ≠ sr signs b k := by unfold backP; simp
theorem nw_eq {a : Nat} (ha : a < signs.length) (hl : sr signs b (signs.length - 1) = 0) : nwIdx signs b a = w1 signs b a := by
  unfold nwIdx w1 begL
  rw [List.filter_filter]
  dsimp only
  obtain ⟨h1, h2, h3, h4⟩ := up_spec (p := runP signs b (sr signs b a)) (n := signs.length) (f := signs.length - a) (a := a) (by omega)
  generalize up (runP signs b (sr signs b a)) (signs.length - a) a = a1 at *
  obtain ⟨g1, g2, g3, g4⟩ := up_spec (p := blkP signs b) (n := signs.length) (f := signs.length - a1) (a := a1) (by omega)
  generalize up (blkP signs b) (signs.length - a1) a1 = a2 at *
  have low : ∀ k, k < a2 → ¬((0 < sr signs b k ∧ (k = 0 ∨ sr signs b (k - 1) ≠ sr signs b k)) ∧ a < k) := by
    rintro k hk ⟨⟨k1, k2⟩, k3⟩
    rcases Nat.lt_or_ge k a1 with q | q
    · have e1 := (run_t.mp (h3 k (by omega) q)).2
      have e2 := (run_t.mp (h3 (k - 1) (by omega) (by omega))).2
      rcases k2 with k2 | k2
      · omega
      · exact k2 (by rw [e1, e2])
    · have := blk_t.mp (g3 k q hk)
      omega
  have comm : (fun k => decide (a < k) && begP signs b k) = fun k => begP signs b k && decide (a < k) := funext fun k => Bool.and_comm _ _
  rw [comm]
  rcases Nat.lt_or_eq_of_le g2 with q | q
  · rw [headF_some (m := a2) q ?_ fun k hk => fls begin_iff (low k hk), show min a2 (signs.length - 1) = a2 by omega]
    have z := blk_f.mp (g4 q)
    have a1n : a1 < signs.length := by omega
    have nr := run_f.mp (h4 a1n)
    refine begin_iff.mpr ⟨⟨by omega, ?_⟩, ?_⟩
    · right
      rcases Nat.lt_or_eq_of_le g1 with q1 | q1
      · have := blk_t.mp (g3 (a2 - 1) (by omega) (by omega))
        omega
      · subst q1
        rcases Nat.lt_or_eq_of_le h1 with q2 | q2
        · have := (run_t.mp (h3 (a1 - 1) (by omega) (by omega)))
          intro e
          exact nr ⟨this.1, by rw [← e, this.2]⟩
        · subst q2
          exact absurd ⟨z, rfl⟩ nr
    · rcases Nat.lt_or_eq_of_le (Nat.le_trans h1 g1) with q1 | q1
      · exact q1
      · have : a1 = a := by omega
        subst this
        subst q1
        exact absurd ⟨z, rfl⟩ nr
  · rw [headF_none fun k hk => fls begin_iff (low k (by omega))]
    omega
theorem ne_eq {a : Nat} (ha : a < signs.length) (hl : sr signs b (signs.length - 1) = 0) : neIdx signs b a = w2 signs b a := by
  unfold neIdx w2 endL
  rw [List.filter_filter]
  dsimp only
  obtain ⟨h1, h2, h3, h4⟩ := up_spec (p := blkP signs b) (n := signs.length) (f := signs.length - (a + 1)) (a := a + 1) (by omega)
  generalize up (blkP signs b) (signs.length - (a + 1)) (a + 1) = a1 at *
  have comm : (fun k => decide (a < k) && endP signs b k) = fun k => endP signs b k && decide (a < k) := funext fun k => Bool.and_comm _ _
  rw [comm]
  rcases Nat.lt_or_eq_of_le h2 with q | q
  · have z := blk_f.mp (h4 q)
    have a1n : a1 < signs.length - 1 := by
      rcases Nat.lt_or_ge a1 (signs.length - 1) with r | r
      · exact r
      · exact absurd (show sr signs b a1 = 0 by rw [show a1 = signs.length - 1 by omega]; exact hl) z
    obtain ⟨g1, g2, g3, g4⟩ := up_spec (p := sameP signs b) (n := signs.length - 1) (f := signs.length - 1 - a1) (a := a1) (by omega)
    generalize up (sameP signs b) (signs.length - 1 - a1) a1 = a2 at *
    have all : ∀ k, a1 + k ≤ a2 → sr signs b (a1 + k) = sr signs b a1 := by
      intro k
      induction k with
      | zero => intro _; rfl
      | succ k ih =>
        intro hk
        have := same_t.mp (g3 (a1 + k) (by omega) (by omega))
        rw [show a1 + (k + 1) = a1 + k + 1 by omega, this]
        exact ih (by omega)
    have e2 : sr signs b a2 = sr signs b a1 := by have := all (a2 - a1) (by omega); rwa [show a1 + (a2 - a1) = a2 by omega] at this
    have a2n : a2 < signs.length - 1 := by
      rcases Nat.lt_or_eq_of_le g2 with r | r
      · exact r
      · rw [r, hl] at e2; exact absurd e2.symm z
    rw [headF_some (m := a2) (by omega) ?_ fun k hk => fls end_iff ?_]
    · omega
    · exact end_iff.mpr ⟨⟨by omega, .inr (same_f.mp (g4 a2n))⟩, by omega⟩
    · rintro ⟨⟨k1, k2⟩, k3⟩
      rcases Nat.lt_or_ge k a1 with r | r
      · have := blk_t.mp (h3 k (by omega) r)
        omega
      · have := same_t.mp (g3 k r hk)
        rcases k2 with k2 | k2
        · omega
        · exact k2 this
  · rw [headF_none fun k hk => fls end_iff ?_]
    · rw [q, show signs.length - 1 - signs.length = 0 by omega]
      unfold up
      omega
    · rintro ⟨⟨k1, k2⟩, k3⟩
      have := blk_t.mp (h3 k (by omega) (by omega))
      omega
theorem pw_eq {p : Int × Int} {a : Nat} (ha : a < signs.length) : pwIdx signs b p a = w3 signs b (boundOf signs p a) := by
  unfold pwIdx w3 begL
  rw [List.filter_filter]
  dsimp only
  have comm : ∀ c : Nat, (fun k => decide (k < c) && begP signs b k) = fun k => begP signs b k && decide (k < c) := fun c => funext fun k => Bool.and_comm _ _
  rw [comm]
  have main : ∀ s, s < signs.length → down (backP signs b) (down (blkP signs b) s) = (((List.range signs.length).filter fun k => begP signs b k && decide (k < s + 1)).getLast?).getD 0 := by
    intro s hs
    obtain ⟨h1, h2, h3⟩ := down_spec (p := blkP signs b) s
    generalize down (blkP signs b) s = d1 at *
    obtain ⟨g1, g2, g3⟩ := down_spec (p := backP signs b) d1
    generalize down (backP signs b) d1 = d2 at *
    have all : ∀ k, k ≤ d1 - d2 → sr signs b (d1 - k) = sr signs b d1 := by
      intro k
      induction k with
      | zero => intro _; rfl
      | succ k ih =>
        intro hk
        have := back_t.mp (g2 (d1 - k) (by omega) (by omega))
        rw [show d1 - (k + 1) = d1 - k - 1 by omega, this]
        exact ih (by omega)
    have e2 : sr signs b d2 = sr signs b d1 := by have := all (d1 - d2) (by omega); rwa [show d1 - (d1 - d2) = d2 by omega] at this
    by_cases z : sr signs b d1 = 0
    · have d10 : d1 = 0 := by
        rcases h3 with h | h
        · exact h
        · exact absurd z (blk_f.mp h)
      rw [lastF_none fun k hk => fls beginB_iff ?_]
      · omega
      · rintro ⟨⟨k1, k2⟩, k3⟩
        by_cases k0 : k = 0
        · subst k0; rw [d10] at z; omega
        · have := blk_t.mp (h2 k (by omega) (by omega))
          omega
    · rw [lastF_some (m := d2) (by omega) ?_ fun k k1 k2 => fls beginB_iff ?_]
      · refine beginB_iff.mpr ⟨⟨by omega, ?_⟩, by omega⟩
        rcases g3 with h | h
        · exact .inl h
        · exact .inr (back_f.mp h)
      · rintro ⟨⟨k3, k4⟩, k5⟩
        rcases Nat.lt_or_ge d1 k with r | r
        · have := blk_t.mp (h2 k r (by omega))
          omega
        · have := back_t.mp (g2 k k1 r)
          rcases k4 with k4 | k4
          · omega
          · exact k4 this
  unfold boundOf
  cases hlt : ltP (sAt signs a).1 p with
  | true =>
    simp only [if_true]
    exact main a ha
  | false =>
    simp only [Bool.false_eq_true, if_false]
    cases a with
    | zero =>
      rw [lastF_none fun k hk => fls beginB_iff (fun h => by omega)]
      rfl
    | succ a => exact main a (by omega)
/-- all that stands so far lies ahead of the place -/
noncomputable def Ahead (acc : List SignT) (i j : Int) : Prop := ∀ s, acc.getLast? = some s → s.1.1 < i ∨ (s.1.1 = i ∧ s.1.2 < j)
theorem Ahead.le {acc : List SignT} {i j j' : Int} (h : Ahead acc i j) (hj : j ≤ j') : Ahead acc i j' := fun s hs => by
  rcases h s hs with h | h
  · exact .inl h
  · exact .inr ⟨h.1, by omega⟩
theorem Ahead.snoc {acc : List SignT} {i j j' c : Int} (hj : j < j') : Ahead (acc ++ [((i, j), c)]) i j' := fun s hs => by
  rw [List.getLast?_append] at hs
  simp at hs
  subst hs
  exact .inr ⟨rfl, hj⟩
theorem push_new {acc : List SignT} {i j x : Int} (h : Ahead acc i j) : pushS acc (x, i, j) = acc ++ [((i, j), x)] := by
  unfold pushS
  rw [if_neg]
  intro e
  cases hl : acc.getLast? with
  | none => rw [hl] at e; cases e
  | some s =>
    rw [hl] at e
    have e : s.1 = (i, j) := by simpa using e
    rcases h s hl with h | h
    · rw [e] at h; exact absurd h (Int.lt_irrefl _)
    · rw [e] at h; exact absurd h.2 (Int.lt_irrefl _)
theorem push_old {acc : List SignT} {i j x c : Int} : pushS (acc ++ [((i, j), c)]) (x, i, j) = acc ++ [((i, j), c)] := by
  unfold pushS
  rw [if_pos]
  rw [List.getLast?_append]
  rfl
theorem push_olds {acc : List SignT} {i j c : Int} : ∀ l : List Int, (l.map fun code => (code, i, j)).foldl pushS (acc ++ [((i, j), c)]) = acc ++ [((i, j), c)]
  | [] => rfl
  | x :: l => by rw [List.map_cons, List.foldl_cons, push_old, push_olds l]
theorem cell_fold {acc : List SignT} {i j : Int} {c : CellT} (g : GoodCell c) (h : Ahead acc i j) : ((cellCodes c).map fun code => (code, i, j)).foldl pushS acc = acc ++ if 0 < c.2 then [((i, j), headC c)] else [] := by
  rcases g with ⟨g1, g2⟩ | ⟨g1, _, _, _⟩
  · unfold cellCodes
    rw [if_pos g1, if_neg (by omega)]
    simp
  · rw [if_pos g1]
    unfold cellCodes headC
    rw [if_neg (by omega)]
    cases hc : c.1 with
    | nil => simp [push_new h]
    | cons x l =>
      rw [if_neg (by simp), List.map_cons, List.foldl_cons, push_new h, push_olds]
theorem cells_fold {i : Int} : ∀ {cs : List CellT} {acc : List SignT} {j : Int}, (∀ c ∈ cs, GoodCell c) → Ahead acc i j → (cellTrips i j cs).foldl pushS acc = acc ++ cellSigns i j cs ∧ Ahead (acc ++ cellSigns i j cs) i (j + cs.length)
  | [], acc, j, _, h => ⟨by simp [cellTrips, cellSigns], by simpa [cellSigns] using h⟩
  | c :: cs, acc, j, hg, h => by
    have g := hg c List.mem_cons_self
    rw [cellTrips, cellSigns, List.foldl_append, cell_fold g h]
    have h2 : Ahead (acc ++ if 0 < c.2 then [((i, j), headC c)] else []) i (j + 1) := by
      split
      · exact Ahead.snoc (by omega)
      · rw [List.append_nil]; exact h.le (by omega)
    obtain ⟨r1, r2⟩ := cells_fold (cs := cs) (fun c hc => hg c (List.mem_cons_of_mem _ hc)) h2
    rw [r1, ← List.append_assoc]
    exact ⟨rfl, by rw [List.length_cons, show j + ((cs.length + 1 : Nat) : Int) = j + 1 + cs.length by omega]; exact r2⟩
theorem row_fold {i : Int} {r : RowT} {acc : List SignT} (hg : ∀ c ∈ r.1, GoodCell c) (h : Ahead acc i 0) : (rowTrips i r).foldl pushS acc = acc ++ rowSigns i r ∧ Ahead (acc ++ rowSigns i r) (i + 1) 0 := by
  unfold rowTrips rowSigns
  obtain ⟨r1, r2⟩ := cells_fold (cs := r.1.take (rowWidth r)) (fun c hc => hg c (List.mem_of_mem_take hc)) h
  rw [List.length_take, Nat.min_eq_left (rowWidth_le r), Int.zero_add] at r2
  rw [List.foldl_append, r1, ← List.append_assoc]
  have up : ∀ {a : List SignT} {j : Int}, Ahead a i j → Ahead a (i + 1) 0 := fun h s hs => by
    rcases h s hs with h | h
    · exact .inl (by omega)
    · exact .inl (by omega)
  split
  · exact ⟨by simp, by rw [List.append_nil]; exact up r2⟩
  · exact ⟨by simp [push_new r2], up (Ahead.snoc (j' := (rowWidth r : Int) + 1) (by omega))⟩
theorem rows_fold : ∀ {rs : List RowT} {i : Int} {acc : List SignT}, (∀ r ∈ rs, ∀ c ∈ r.1, GoodCell c) → Ahead acc i 0 → (rowsTrips i rs).foldl pushS acc = acc ++ lawSigns i rs
  | [], i, acc, _, h => by simp [rowsTrips, lawSigns]
  | r :: rs, i, acc, hg, h => by
    obtain ⟨r1, r2⟩ := row_fold (hg r List.mem_cons_self) h
    rw [rowsTrips, lawSigns, List.foldl_append, r1, rows_fold (fun r hr => hg r (List.mem_cons_of_mem _ hr)) r2, List.append_assoc]
theorem dedup_eq {rs : List RowT} (hg : ∀ r ∈ rs, ∀ c ∈ r.1, GoodCell c) : dedup (rowsTrips 0 rs) = lawSigns 0 rs := by
  have := rows_fold (acc := []) (i := 0) hg (fun s hs => by cases hs)
  simpa [dedup] using this
noncomputable def leP (p q : Int × Int) : Prop := ∀ r, ltP q r = true → ltP p r = true
theorem leP_row {p q : Int × Int} (h : p.1 < q.1) : leP p q := fun r hr => by
  unfold ltP at *
  simp only [decide_eq_true_eq] at *
  omega
theorem leP_col {p q : Int × Int} (h : p.1 = q.1) (h2 : p.2 ≤ q.2) : leP p q := fun r hr => by
  unfold ltP at *
  simp only [decide_eq_true_eq] at *
  omega
theorem cell_in {i : Int} {cs : List CellT} {j : Int} : ∀ s ∈ cellSigns i j cs, s.1.1 = i ∧ j ≤ s.1.2 ∧ s.1.2 < j + cs.length := by
  induction cs generalizing j with
  | nil => intro s hs; cases hs
  | cons c cs ih =>
    intro s hs
    rw [cellSigns] at hs
    rw [List.length_cons]
    rcases List.mem_append.mp hs with h | h
    · split at h
      · rw [List.mem_singleton] at h; subst h; exact ⟨rfl, Int.le_refl _, by show j < _; omega⟩
      · cases h
    · obtain ⟨a, b, c⟩ := ih s h
      exact ⟨a, by omega, by omega⟩
theorem cell_pw {i : Int} {cs : List CellT} {j : Int} : (cellSigns i j cs).Pairwise (fun s t => leP s.1 t.1) := by
  induction cs generalizing j with
  | nil => exact List.Pairwise.nil
  | cons c cs ih =>
    rw [cellSigns]
    refine List.pairwise_append.mpr ⟨by split <;> simp, ih, fun s hs t ht => ?_⟩
    split at hs
    · rw [List.mem_singleton] at hs; subst hs
      obtain ⟨a, b, _⟩ := cell_in t ht
      exact leP_col a.symm (by show j ≤ _; omega)
    · cases hs
theorem row_in {i : Int} {r : RowT} : ∀ s ∈ rowSigns i r, s.1.1 = i := by
  intro s hs
  unfold rowSigns at hs
  rcases List.mem_append.mp hs with h | h
  · exact (cell_in s h).1
  · split at h
    · cases h
    · rw [List.mem_singleton] at h; subst h; rfl
theorem row_pw {i : Int} {r : RowT} : (rowSigns i r).Pairwise (fun s t => leP s.1 t.1) := by
  unfold rowSigns
  refine List.pairwise_append.mpr ⟨cell_pw, by split <;> simp, fun s hs t ht => ?_⟩
  split at ht
  · cases ht
  · rw [List.mem_singleton] at ht; subst ht
    obtain ⟨a, _, b⟩ := cell_in s hs
    rw [List.length_take, Nat.min_eq_left (rowWidth_le r)] at b
    exact leP_col a (by show s.1.2 ≤ (rowWidth r : Int); omega)
theorem law_in {rs : List RowT} {i : Int} : ∀ s ∈ lawSigns i rs, i ≤ s.1.1 := by
  induction rs generalizing i with
  | nil => intro s hs; cases hs
  | cons r rs ih =>
    intro s hs
    rw [lawSigns] at hs
    rcases List.mem_append.mp hs with h | h
    · exact Int.le_of_eq (row_in s h).symm
    · have := ih s h; omega
theorem law_pw {rs : List RowT} {i : Int} : (lawSigns i rs).Pairwise (fun s t => leP s.1 t.1) := by
  induction rs generalizing i with
  | nil => exact List.Pairwise.nil
  | cons r rs ih =>
    rw [lawSigns]
    refine List.pairwise_append.mpr ⟨row_pw, ih, fun s hs t ht => ?_⟩
    have h1 := row_in s hs
    have h2 := law_in t ht
    exact leP_row (by omega)
theorem mono_of {signs : List SignT} (h : signs.Pairwise (fun s t => leP s.1 t.1)) : Mono signs := by
  intro i j hij hj p hp
  rcases Nat.lt_or_eq_of_le hij with q | q
  · have hi : i < signs.length := by omega
    have := (List.pairwise_iff_getElem.mp h) i j hi hj q
    have ei : signs[i] = sAt signs i := Option.some.inj ((List.getElem?_eq_getElem hi).symm.trans (sAt_get hi))
    have ej : signs[j] = sAt signs j := Option.some.inj ((List.getElem?_eq_getElem hj).symm.trans (sAt_get hj))
    rw [ei, ej] at this
    exact this p hp
  · subst q; exact hp
noncomputable def okSign (x : Int) : Prop := 0 ≤ x ∧ x ≠ 123 ∧ x ≠ 125
theorem ok10 : okSign 10 := ⟨by decide, by decide, by decide⟩
theorem cell_codes {i : Int} {cs : List CellT} {j : Int} (hg : ∀ c ∈ cs, GoodCell c) : ∀ s ∈ cellSigns i j cs, okSign s.2 := by
  induction cs generalizing j with
  | nil => intro s hs; cases hs
  | cons c cs ih =>
    intro s hs
    rw [cellSigns] at hs
    rcases List.mem_append.mp hs with h | h
    · split at h
      · rw [List.mem_singleton] at h; subst h
        show okSign (headC c)
        unfold headC
        rcases hg c List.mem_cons_self with ⟨g1, g2⟩ | ⟨_, _, _, g4⟩
        · rw [g2]; exact ⟨by decide, by decide, by decide⟩
        · cases hc : c.1 with
          | nil => exact ⟨by decide, by decide, by decide⟩
          | cons x l =>
            rw [hc] at g4
            obtain ⟨a, b, c, _⟩ := g4 x List.mem_cons_self
            exact ⟨a, b, c⟩
      · cases h
    · exact ih (fun c hc => hg c (List.mem_cons_of_mem _ hc)) s h
theorem law_codes {rs : List RowT} {i : Int} (hg : ∀ r ∈ rs, ∀ c ∈ r.1, GoodCell c) : ∀ s ∈ lawSigns i rs, okSign s.2 := by
  induction rs generalizing i with
  | nil => intro s hs; cases hs
  | cons r rs ih =>
    intro s hs
    rw [lawSigns] at hs
    rcases List.mem_append.mp hs with h | h
    · unfold rowSigns at h
      rcases List.mem_append.mp h with h | h
      · exact cell_codes (fun c hc => hg r List.mem_cons_self c (List.mem_of_mem_take hc)) s h
      · split at h
        · cases h
        · rw [List.mem_singleton] at h; subst h; exact ok10
    · exact ih (fun r hr => hg r (List.mem_cons_of_mem _ hr)) s h
theorem cell_trips_len {i : Int} {cs : List CellT} {j : Int} (hg : ∀ c ∈ cs, GoodCell c) : (cellTrips i j cs).length ≤ 2 * cs.length := by
  induction cs generalizing j with
  | nil => exact Nat.le_refl _
  | cons c cs ih =>
    rw [cellTrips, List.length_append, List.length_map, List.length_cons]
    have := ih (j := j + 1) (fun c hc => hg c (List.mem_cons_of_mem _ hc))
    have : (cellCodes c).length ≤ 2 := by
      unfold cellCodes
      rcases hg c List.mem_cons_self with ⟨g1, g2⟩ | ⟨_, _, g3, _⟩
      · rw [if_pos g1]; exact Nat.zero_le _
      · split
        · exact Nat.zero_le _
        · split
          · show 1 ≤ 2; decide
          · exact g3
    omega
theorem trips_len {rs : List RowT} {i : Int} {n : Nat} (hg : ∀ r ∈ rs, ∀ c ∈ r.1, GoodCell c) (hn : ∀ r ∈ rs, r.1.length ≤ n) : (rowsTrips i rs).length ≤ rs.length * (2 * n + 1) := by
  induction rs generalizing i with
  | nil => exact Nat.zero_le _
  | cons r rs ih =>
    rw [rowsTrips, List.length_append, List.length_cons, Nat.succ_mul]
    have h1 := ih (i := i + 1) (fun r hr => hg r (List.mem_cons_of_mem _ hr)) (fun r hr => hn r (List.mem_cons_of_mem _ hr))
    have h2 : (rowTrips i r).length ≤ 2 * n + 1 := by
      unfold rowTrips
      rw [List.length_append]
      have a := cell_trips_len (i := i) (cs := r.1.take (rowWidth r)) (j := 0) (fun c hc => hg r List.mem_cons_self c (List.mem_of_mem_take hc))
      have b := hn r List.mem_cons_self
      rw [List.length_take] at a
      have c : (if r.2 then [] else [((10 : Int), i, (rowWidth r : Int))]).length ≤ 1 := by split <;> simp
      omega
    omega
theorem cell_signs_len {i : Int} {cs : List CellT} {j : Int} : (cellSigns i j cs).length ≤ cs.length := by
  induction cs generalizing j with
  | nil => exact Nat.le_refl _
  | cons c cs ih =>
    rw [cellSigns, List.length_append, List.length_cons]
    have := ih (j := j + 1)
    have : (if 0 < c.2 then [((i, j), headC c)] else []).length ≤ 1 := by split <;> simp
    omega
theorem signs_len {rs : List RowT} {i : Int} {n : Nat} (hn : ∀ r ∈ rs, r.1.length ≤ n) : (lawSigns i rs).length ≤ rs.length * (n + 1) := by
  induction rs generalizing i with
  | nil => exact Nat.zero_le _
  | cons r rs ih =>
    rw [lawSigns, List.length_append, List.length_cons, Nat.succ_mul]
    have h1 := ih (i := i + 1) (fun r hr => hn r (List.mem_cons_of_mem _ hr))
    have h2 : (rowSigns i r).length ≤ n + 1 := by
      unfold rowSigns
      rw [List.length_append]
      have a := cell_signs_len (i := i) (cs := r.1.take (rowWidth r)) (j := 0)
      have b := hn r List.mem_cons_self
      rw [List.length_take] at a
      have c : (if r.2 then [] else [((i, (rowWidth r : Int)), (10 : Int))]).length ≤ 1 := by split <;> simp
      omega
    omega
theorem law_last {rs : List RowT} {i : Int} (h0 : rs ≠ []) (hl : ∀ r, rs.getLast? = some r → r.2 = false) : ∃ l p, lawSigns i rs = l ++ [(p, 10)] := by
  induction rs generalizing i with
  | nil => exact absurd rfl h0
  | cons r rs ih =>
    cases rs with
    | nil =>
      have := hl r rfl
      refine ⟨cellSigns i 0 (r.1.take (rowWidth r)), (i, (rowWidth r : Int)), ?_⟩
      rw [lawSigns, lawSigns, rowSigns, this]
      simp
    | cons r2 rs =>
      obtain ⟨l, p, e⟩ := ih (i := i + 1) (by simp) (fun r h => hl r (by rw [List.getLast?_cons_cons]; exact h))
      exact ⟨rowSigns i r ++ l, p, by rw [lawSigns, e, List.append_assoc]⟩
/-- all that the text asks of its rows -/
structure Rows (columns : Nat) (rs : List RowT) : Prop where
  many : 1 ≤ rs.length
  few : rs.length ≤ 4
  cols : 3 ≤ columns
  cols' : columns ≤ 7
  wf : WfRows rs
  good : ∀ r ∈ rs, GoodRow columns r
theorem Rows.len7 {columns : Nat} {rs : List RowT} (h : Rows columns rs) : ∀ r ∈ rs, r.1.length ≤ 7 := fun r hr => by rw [(h.good r hr).len]; exact h.cols'
theorem Rows.small {columns : Nat} {rs : List RowT} (h : Rows columns rs) : (lawSigns 0 rs).length ≤ 900 := by
  have := signs_len (i := 0) h.len7
  have := h.few
  omega
theorem Rows.lastS {columns : Nat} {rs : List RowT} (h : Rows columns rs) : ∃ l p, lawSigns 0 rs = l ++ [(p, 10)] := by
  have hm := h.many
  refine law_last (by intro e; rw [e] at hm; simp at hm) fun r hr => ?_
  cases hb : r.2 with
  | false => rfl
  | true =>
    rw [List.getLast?_eq_getElem?] at hr
    have := h.wf _ r hr hb
    omega
theorem Rows.ne {columns : Nat} {rs : List RowT} (h : Rows columns rs) : 1 ≤ (lawSigns 0 rs).length := by
  obtain ⟨l, p, e⟩ := h.lastS
  rw [e]; simp
theorem Rows.last {columns : Nat} {rs : List RowT} (h : Rows columns rs) : (sAt (lawSigns 0 rs) ((lawSigns 0 rs).length - 1)).2 = 10 := by
  obtain ⟨l, p, e⟩ := h.lastS
  rw [e]
  simp [sAt]
theorem Rows.codes {columns : Nat} {rs : List RowT} (h : Rows columns rs) : ∀ i, i < (lawSigns 0 rs).length → okSign (sAt (lawSigns 0 rs) i).2 := fun i hi =>
  law_codes (fun r hr => (h.good r hr).cells) _ (List.mem_of_getElem? (sAt_get hi))
theorem Rows.sv {columns : Nat} {rs : List RowT} (h : Rows columns rs) : SV rs (lawSigns 0 rs) where
  wf := h.wf
  fl := fun r hr hj => (h.good r hr).full hj
  len := by have := h.few; omega
  rowlen := fun r hr => by have := h.len7 r hr; omega
  trips := by
    have := trips_len (i := 0) (fun r hr => (h.good r hr).cells) h.len7
    have := h.few
    omega
  eq := dedup_eq fun r hr => (h.good r hr).cells
  ne := h.ne
  mono := mono_of law_pw
  codes := fun i hi => (h.codes i hi).1
  small := h.small
theorem Rows.sb {columns : Nat} {rs : List RowT} (h : Rows columns rs) : SB (lawSigns 0 rs) where
  last := h.last
  noc := fun i hi => (h.codes i hi).2
noncomputable def optD : Option (Int × Int) → PyData
  | none => .none
  | some p => .tuple [.int p.1, .int p.2]
section
variable {cx : Cx} {k : Nat} {σ : Sto} {Q : Val → Sto → Prop}
theorem p_neo (o : Option (Int × Int)) (q : Q (.bool false) σ) : Wp2 cx k (compareOp .NotEq) (optV o) (optV o) σ Q := by
  cases o with
  | none => exact p_ned (d := .none) (e := .none) (.inl rfl) (.inl rfl) rfl rfl q
  | some p => exact p_nep (by rw [decide_eq_true rfl]; exact q)
theorem p_nel (a b c : Int × Int) (q : Q (.bool false) σ) : Wp2 cx k (compareOp .NotEq) (.lst [pl a, pl b, pl c]) (.lst [pl a, pl b, pl c]) σ Q :=
  p_ned (d := .list [optD (some a), optD (some b), optD (some c)]) (e := .list [optD (some a), optD (some b), optD (some c)]) (.inl rfl) (.inl rfl) rfl rfl (by
    have e : PyData.eqv (.list [optD (some a), optD (some b), optD (some c)]) (.list [optD (some a), optD (some b), optD (some c)]) = (PyData.eqv (optD (some a)) (optD (some a)) && (PyData.eqv (optD (some b)) (optD (some b)) && (PyData.eqv (optD (some c)) (optD (some c)) && true))) := rfl
    have s : ∀ p : Int × Int, PyData.eqv (optD (some p)) (optD (some p)) = true := fun p => (eqv_pair p p).trans (decide_eq_true rfl)
    rw [e, s, s, s]; exact q)
end
section
variable {cx : Cx} {k : Nat} {σ : Sto} {Q : Val → Sto → Prop}
noncomputable def lawF (T : Top0 cx) : List (Str × Val) := [(Str.ofString "_law_deck", .raw (.ref T.f_law_deck)), (Str.ofString "_law_draw", .raw (.ref T.f_law_draw)), (Str.ofString "range", .raw (.type "range")), (Str.ofString "_law_signs", .raw (.ref T.f_law_signs)), (Str.ofString "_law_view", .raw (.ref T.f_law_view)), (Str.ofString "len", .raw (.builtin "len")), (Str.ofString "next_word", .raw (.ref T.f_next_word)), (Str.ofString "next_word_end", .raw (.ref T.f_next_word_end)), (Str.ofString "previous_word", .raw (.ref T.f_previous_word)), (Str.ofString "_law_words", .raw (.ref T.f_law_words)), (Str.ofString "matching_bracket", .raw (.ref T.f_matching_bracket)), (Str.ofString "_law_bracket", .raw (.ref T.f_law_bracket)), (Str.ofString "_law_at", .raw (.ref T.f_law_at)), (Str.ofString "jump_place", .raw (.ref T.f_jump_place)), (Str.ofString "_law_jump", .raw (.ref T.f_law_jump))]
noncomputable abbrev s_script := Str.ofString "script"
noncomputable abbrev s_view2 := Str.ofString "view"
theorem f_law (T : Top0 cx) {fl : Addr} (hf : Fn cx fl (Str.ofString "law") 50 .none) {xs : List Int} (hx : xs.length ≤ 1000) (q : ∀ σ', Q (.bool true) σ') :
    WpCode cx (k + 9) (.raw (.ref fl)) [.lst (xs.map .int)] σ Q := by
  refine enter hf [s_script] [s_deck, s_many, s_columns, s_joined, s_rows, s_signs, s_view, Str.ofString "go", Str.ofString "pick", s_place, s_sep, s_found, Str.ofString "code", Str.ofString "is_back", Str.ofString "is_near"]
    [(Str.ofString "_law_deck", .raw (.ref T.f_law_deck)), (Str.ofString "_law_draw", .raw (.ref T.f_law_draw)), (Str.ofString "range", .raw (.type "range")), (Str.ofString "_law_signs", .raw (.ref T.f_law_signs)), (Str.ofString "_law_view", .raw (.ref T.f_law_view)), (Str.ofString "len", .raw (.builtin "len")), (Str.ofString "next_word", .raw (.ref T.f_next_word)), (Str.ofString "next_word_end", .raw (.ref T.f_next_word_end)), (Str.ofString "previous_word", .raw (.ref T.f_previous_word)), (Str.ofString "_law_words", .raw (.ref T.f_law_words)), (Str.ofString "matching_bracket", .raw (.ref T.f_matching_bracket)), (Str.ofString "_law_bracket", .raw (.ref T.f_law_bracket)), (Str.ofString "_law_at", .raw (.ref T.f_law_at)), (Str.ofString "jump_place", .raw (.ref T.f_jump_place)), (Str.ofString "_law_jump", .raw (.ref T.f_law_jump))]
    [s_deck, s_many, s_columns] rfl (by walk_at "args") (by walk_at "oks") (by walk_at "gv") ?_
  walk_at "frame"
  walk_at "st"
  walk_at "ww"
  refine (f_law_deck T hx fun d L σ₁ hD _ _ _ => ?_).call
  walk_at "w"
  walk_at "st"
  refine wps_two (by decide) ?_ (by intro vs k p h; cases h; rfl)
  walk_at "ww"
  refine (f_law_draw T hD (by decide) fun r σ₂ r0 r1 n => ?_).call
  walk_at "ww"
  refine (f_law_draw T n.deck (by decide) fun c σ₃ c0 c1 n => ?_).call
  have hD := n.deck
  obtain ⟨many, em⟩ : ∃ many : Nat, 1 + r = (many : Int) := ⟨(1 + r).toNat, by omega⟩
  obtain ⟨columns, ec⟩ : ∃ columns : Nat, 3 + c = (columns : Int) := ⟨(3 + c).toNat, by omega⟩
  walk_at "ww"
  refine ⟨_, _, _, _, rfl, by walk_at "upd", by walk_at "upd", ?_⟩
  rw [em, ec]
  have hm1 : 1 ≤ many := by omega
  have hm2 : many ≤ 4 := by omega
  have hc1 : 3 ≤ columns := by omega
  have hc2 : columns ≤ 7 := by omega
  clear em ec r0 r1 c0 c1 r c n
  walk_at "st"
  refine wps_comp [s_row] [(s_deck, .raw (.ref d)), (s_many, .int many)] [(Str.ofString "_law_draw", .raw (.ref T.f_law_draw))] (by walk_at "oks") (by walk_at "caps") (by walk_at "keys") (by walk_at "gv") (tt := false) (fun h => nomatch h) ?_
  refine wit_rng ?_
  walk_at "ww"
  refine ⟨by rw [upFrom_len]; omega, fun l acc τ => Hold (Deck τ d L ∧ ∃ js : List Bool, js.length ≤ many ∧ l = upFrom (js.length : Nat) (many - js.length) ∧ acc = js.map Val.bool ∧ ∀ i, js[i]? = some true → i + 1 < many),
    Hold.mk ⟨hD, [], Nat.zero_le _, rfl, rfl, fun i h => by cases h⟩, ⟨fun _ _ _ _ => trivial, ?_⟩, ?_⟩
  · rintro v l acc τ ⟨hD, js, hj, hl, rfl, hw⟩
    obtain ⟨hlt, rfl, rfl⟩ := upFrom_cons hl
    refine wpa_name .here (ifs_nil (if_t ?_))
    walk_at "frame"
    refine WpE.mono (Q := fun V τ => ∃ b : Bool, V = .bool b ∧ (b = true → js.length + 1 < many) ∧ Deck τ d L) ?_ ?_
    · walk_at "ww"
      refine (f_law_draw T hD (by decide) fun r σ' r0 r1 n => ?_).call
      walk_at "ww"
      refine if_b (fun h => ?_) fun h => ?_
      · walk_at "ww"
        exact ⟨fun h => by have := of_decide_eq_true h; omega, n.deck⟩
      · exact ⟨false, rfl, (fun h => by cases h), n.deck⟩
    · rintro V τ' ⟨b, rfl, hb, hD'⟩
      refine Hold.mk ⟨hD', js ++ [b], by simp; omega, by simp, by simp, fun i hi => ?_⟩
      rcases Nat.lt_or_ge i js.length with h | h
      · rw [List.getElem?_append_left h] at hi; exact hw i hi
      · rw [List.getElem?_append_right h] at hi
        cases e : i - js.length with
        | zero => rw [e] at hi; have := hb (by simpa using hi); omega
        | succ k => rw [e] at hi; cases hi
  rintro acc τ ⟨hD, js, hj, hl, rfl, hw⟩
  have hjl : js.length = many := by have := upFrom_nil hl; omega
  refine ⟨_, by walk_at "upd", ?_⟩
  walk_at "st"
  refine wps_comp [s_joinedB] [(s_deck, .raw (.ref d)), (s_columns, .int columns)] [(Str.ofString "_law_row", .raw (.ref T.f_law_row))] (by walk_at "oks") (by walk_at "caps") (by walk_at "keys") (by walk_at "gv") (tt := false) (fun h => nomatch h) ?_
  refine wit_lst ?_
  walk_at "ww"
  refine ⟨fun l acc τ => Hold (Deck τ d L ∧ ∃ (rs : List RowT) (rest : List Bool), js = rs.map (·.2) ++ rest ∧ l = rest.map .bool ∧ acc = rs.map (fun r => rowV r.1) ∧ ∀ r ∈ rs, GoodRow columns r),
    Hold.mk ⟨hD, [], js, rfl, rfl, rfl, fun r h => absurd h List.not_mem_nil⟩, ⟨fun _ _ _ _ => trivial, ?_⟩, ?_⟩
  · rintro v l acc τ' ⟨hD, rs, rest, e1, hl, rfl, hg⟩
    cases rest with
    | nil => cases hl
    | cons b rest =>
      obtain ⟨rfl, rfl⟩ := List.cons.inj hl
      refine wpa_name .here (ifs_nil (if_t ?_))
      walk_at "frame"
      walk_at "ww"
      refine (f_law_row T hD (by omega) (by omega) fun cs σ' g n => ?_).call
      refine Hold.mk ⟨n.deck, rs ++ [(cs, b)], rest, by rw [e1]; simp, rfl, by simp, fun r hr => ?_⟩
      rcases List.mem_append.mp hr with h | h
      · exact hg r h
      · rw [List.mem_singleton] at h; subst h; exact g
  rintro acc τ' ⟨hD, rs, rest, e1, hl, rfl, hg⟩
  have er : rest = [] := by cases rest with
    | nil => rfl
    | cons _ _ => cases hl
  subst er
  rw [List.append_nil] at e1
  subst e1
  have hrl : rs.length = many := by rw [← hjl, List.length_map]
  have hR : Rows columns rs := ⟨by omega, by omega, hc1, hc2, fun i r hr hb => by rw [hrl]; exact hw i (by rw [List.getElem?_map, hr]; simp [hb]), hg⟩
  have e2 : Val.lst ((rs.map (·.2)).map Val.bool) = .lst (rs.map fun r => .bool r.2) := by rw [List.map_map]; rfl
  rw [e2]
  clear e2 hw hl hjl hj
  refine ⟨_, by walk_at "upd", ?_⟩
  have S := hR.sv
  have B := hR.sb
  have sm := hR.small
  have ne := hR.ne
  walk_at "st"
  refine wps_two (by decide) ?_ (by intro vs k p h; cases h; rfl)
  walk_at "ww"
  refine (f_law_signs T S.len S.rowlen sm ?_).call
  walk_at "ww"
  refine (f_law_view T hR.many S.len (by omega) (by omega) (fun r hr => ⟨by have := S.rowlen r hr; omega, (hg r hr).head, (hg r hr).last⟩) ?_).call
  generalize hsg : lawSigns 0 rs = signs at S B sm ne ⊢
  have hlen : (signs.map sg).length < 1000000 := small_len sm
  walk_at "ww"
  refine ⟨_, _, _, _, rfl, by walk_at "upd", by walk_at "upd", ?_⟩
  walk_at "ww"
  refine wps_for (tt := false) (fun h => nomatch h) ?_
  refine wit_rng ?_
  walk_at "ww"
  refine ⟨fun l m τ => Hold (Deck τ d L ∧ ∃ A0 A1 A2 A3 A4 A5 A6 A7, m = ⟨[(s_script, .lst (xs.map .int)), (s_deck, .raw (.ref d)), (s_many, .int many), (s_columns, .int columns), (s_joined, .lst (rs.map fun r => .bool r.2)), (s_rows, .lst (rs.map fun r => rowV r.1)), (s_signs, .lst (signs.map sg)), (s_view, viewV T columns rs), (Str.ofString "go", A0), (Str.ofString "pick", A1), (s_place, A2), (s_sep, A3), (s_found, A4), (Str.ofString "code", A5), (Str.ofString "is_back", A6), (Str.ofString "is_near", A7)], lawF T, [s_deck, s_many, s_columns]⟩),
    Hold.mk ⟨hD, .unbound, .unbound, .unbound, .unbound, .unbound, .unbound, .unbound, .unbound, rfl⟩, fun _ _ _ _ => trivial, ?_, ?_⟩
  · rintro v l m τ _ ⟨hD, A0, A1, A2, A3, A4, A5, A6, A7, rfl⟩
    unfold lawF
    refine wpa_name (by walk_at "upd") ?_
    walk_at "ww"
    refine c_len SqL.lst hlen ?_
    rw [List.length_map]
    walk_at "ww"
    refine (f_law_draw T hD (by omega) fun r σ₄ r0 r1 n => ?_).call
    have hD := n.deck
    clear n
    walk_at "w"
    walk_at "w"
    walk_at "w"
    walk_at "w"
    refine WpE.mono (Q := fun V τ => (∃ p : Int × Int, V = pl p) ∧ σ₄ = τ) ?_ ?_
    · walk_at "ww"
      refine c_len SqL.lst hlen ?_
      rw [List.length_map]
      walk_at "ww"
      refine if_b (fun h => ?_) fun h => ?_
      · have h := of_decide_eq_true h
        walk_at "ww"
        refine sub_sign r0 h sm ?_
        walk_at "ww"
        refine sub_at Sq.tup (by decide) (by decide) rfl ?_
        exact ⟨⟨_, rfl⟩, rfl⟩
      · walk_at "ww"
        exact ⟨⟨(_, _), rfl⟩, by first | rfl | trivial⟩
    rintro V τ' ⟨⟨p, rfl⟩, rfl⟩
    clear r0 r1
    walk_at "w"
    walk_at "w"
    walk_at "w"
    walk_at "w"
    refine WpE.mono (Q := fun V τ => ∃ b, V = .bytes b ∧ Deck τ d L) ?_ ?_
    · walk_at "ww"
      refine (f_law_draw T hD (by decide) fun r σ₅ r0 r1 n => ?_).call
      have hD := n.deck
      rcases (show r = 0 ∨ r = 1 ∨ r = 2 by omega) with rfl | rfl | rfl
      · exact sub_at Sq.tup (by decide) (by decide) rfl ⟨_, rfl, hD⟩
      · exact sub_at Sq.tup (by decide) (by decide) rfl ⟨_, rfl, hD⟩
      · exact sub_at Sq.tup (by decide) (by decide) rfl ⟨_, rfl, hD⟩
    clear hD
    rintro V σ₅ ⟨b, rfl, hD⟩
    have hl0 : sr signs b (signs.length - 1) = 0 := by unfold sr srt; rw [B.last]; simp
    have a0 := lawAt_lt p ne
    walk_at "w"
    walk_at "w"
    walk_at "w"
    walk_at "w"
    refine wpe_listm ?_
    walk_at "ww"
    refine (f_next_word T S ?_).call
    walk_at "ww"
    refine (f_next_word_end T S ?_).call
    walk_at "ww"
    intro a ha
    obtain ⟨ad, aL⟩ := hD.ne ha
    walk_at "ww"
    refine meth_list (Sto.set_self ..) PySem.F.slot_list_append PySem.F.type_list_append ⟨kp_builtin, ?_⟩
    walk_at "ww"
    refine (f_previous_word T S ?_).call
    walk_at "ww"
    refine c_append (Sto.set_self ..) (by show 2 ≤ 1000; decide) ⟨rfl, ?_⟩
    rw [Sto.set_set, nw_eq a0 hl0, ne_eq a0 hl0, pw_eq a0]
    walk_at "w"
    walk_at "w"
    walk_at "w"
    walk_at "w"
    have h6 : (σ₅.set a (.list ([pl (sAt signs (w1 signs b (lawAt signs p))).1, pl (sAt signs (w2 signs b (lawAt signs p))).1] ++ [pl (sAt signs (w3 signs b (boundOf signs p (lawAt signs p)))).1]))) a = some (.list ([(sAt signs (w1 signs b (lawAt signs p))).1, (sAt signs (w2 signs b (lawAt signs p))).1, (sAt signs (w3 signs b (boundOf signs p (lawAt signs p)))).1].map pl)) := Sto.set_self ..
    have hD := hD.set (c := .list ([pl (sAt signs (w1 signs b (lawAt signs p))).1, pl (sAt signs (w2 signs b (lawAt signs p))).1] ++ [pl (sAt signs (w3 signs b (boundOf signs p (lawAt signs p)))).1])) ad aL
    generalize σ₅.set a (.list ([pl (sAt signs (w1 signs b (lawAt signs p))).1, pl (sAt signs (w2 signs b (lawAt signs p))).1] ++ [pl (sAt signs (w3 signs b (boundOf signs p (lawAt signs p)))).1])) = σ₆ at h6 hD ⊢
    refine wpe_fz (wpe_comp [Str.ofString "one"] [] [(Str.ofString "tuple", .raw (.type "tuple"))] (by walk_at "oks") (by walk_at "caps") (by walk_at "keys") (by walk_at "gv") (tt := false) (fun h => nomatch h) ?_)
    refine wit_mut ?_
    walk_at "ww"
    refine ⟨_, _, rfl, h6, ?_⟩
    generalize hps : [(sAt signs (w1 signs b (lawAt signs p))).1, (sAt signs (w2 signs b (lawAt signs p))).1, (sAt signs (w3 signs b (boundOf signs p (lawAt signs p)))).1] = ps at h6 ⊢
    refine ⟨by rw [← hps]; show 3 ≤ 1000; decide, fun l acc τ => Hold (τ = σ₆ ∧ ∃ done rest, ps = done ++ rest ∧ l = rest.map pl ∧ acc = done.map pl), Hold.mk ⟨rfl, [], ps, rfl, rfl, rfl⟩, ⟨?_, ?_⟩, ?_⟩
    · rintro l acc τ ⟨rfl, _⟩
      exact h6
    · rintro v l acc τ ⟨rfl, done, rest, e1, hl, rfl⟩
      cases rest with
      | nil => cases hl
      | cons x rest =>
        obtain ⟨rfl, rfl⟩ := List.cons.inj hl
        refine wpa_name .here (ifs_nil (if_t ?_))
        walk_at "frame"
        walk_at "ww"
        refine c_tuple ?_
        exact Hold.mk ⟨rfl, done ++ [x], rest, by rw [e1]; simp, rfl, by simp [pl]⟩
    rintro acc τ' ⟨rfl, done, rest, e1, hl, rfl⟩ L' hL'
    have er : rest = [] := by cases rest with
      | nil => rfl
      | cons _ _ => cases hl
    subst er
    rw [List.append_nil] at e1
    subst e1
    refine ⟨_, _, fz_lst hL', ?_⟩
    rw [← hps]
    walk_at "frame"
    walk_at "ww"
    refine (f_law_words T ne sm S.codes ?_).call
    refine p_nel _ _ _ ?_
    clear hps h6 hL' L'
    walk_at "ww"
    refine (f_matching_bracket T S B ?_).call
    walk_at "ww"
    refine (f_law_bracket T ne sm B.last ?_).call
    refine p_neo _ ?_
    walk_at "w"
    walk_at "w"
    walk_at "w"
    walk_at "w"
    walk_at "w"
    refine wps_two (by decide) (WpE.mono (Q := fun V τ => ∃ (c : Int) (b : Bool), V = .tup [.int c, .bool b] ∧ Deck τ d L) ?_ ?_) (by intro vs k p h; cases h; rfl)
    · walk_at "ww"
      refine (f_law_draw T hD (by decide) fun r σ₅ r0 r1 n => ?_).call
      obtain ⟨x, ex⟩ : ∃ x, ([.int 97, .int 45, .int 19968, .int 98] : List Val)[r.toNat]? = some (.int x) := by
        rcases four r0 r1 with rfl | rfl | rfl | rfl
        · exact ⟨_, rfl⟩
        · exact ⟨_, rfl⟩
        · exact ⟨_, rfl⟩
        · exact ⟨_, rfl⟩
      refine sub_at Sq.tup r0 (by omega) ex ?_
      walk_at "ww"
      refine (f_law_draw T n.deck (by decide) fun r2 σ₅ r0 r1 n => ?_).call
      walk_at "ww"
      exact ⟨_, _, rfl, n.deck⟩
    clear hD
    rintro V σ₇ ⟨x, bk, rfl, hD⟩
    refine ⟨_, _, _, _, rfl, by walk_at "upd", by walk_at "upd", ?_⟩
    walk_at "w"
    walk_at "w"
    walk_at "w"
    refine WpE.mono (Q := fun V τ => ∃ b : Bool, V = .bool b ∧ Deck τ d L) ?_ ?_
    · walk_at "ww"
      refine (f_law_draw T hD (by decide) fun r2 σ₅ r0 r1 n => ?_).call
      walk_at "ww"
      exact n.deck
    clear hD
    rintro V σ₈ ⟨nr, rfl, hD⟩
    walk_at "ww"
    refine (f_law_at T ne sm ?_).call
    refine sub_signN (by first | assumption | omega) sm ?_
    walk_at "ww"
    refine sub_at Sq.tup (by decide) (by decide) rfl ?_
    walk_at "ww"
    refine if_b (fun h => ?_) fun h => ?_
    · walk_at "ww"
      refine (f_jump_place T S ?_).call
      walk_at "ww"
      refine (f_law_jump T ne sm ?_).call
      refine p_neo _ ?_
      walk_at "ww"
      first | exact ⟨hD, _, _, _, _, _, _, _, _, rfl⟩ | exact Hold.mk ⟨hD, _, _, _, _, _, _, _, _, rfl⟩ | (trace_state; exact ⟨_, _, _, _, _, _, _, _, rfl⟩)
    · walk_at "ww"
      refine (f_jump_place T S ?_).call
      walk_at "ww"
      refine (f_law_jump T ne sm ?_).call
      refine p_neo _ ?_
      walk_at "ww"
      first | exact ⟨hD, _, _, _, _, _, _, _, _, rfl⟩ | exact Hold.mk ⟨hD, _, _, _, _, _, _, _, _, rfl⟩ | (trace_state; exact ⟨_, _, _, _, _, _, _, _, rfl⟩)
  · rintro m τ _ ⟨hD, A0, A1, A2, A3, A4, A5, A6, A7, rfl⟩
    unfold lawF
    walk_at "ww"
    exact q _
end
noncomputable def de (P : Params) (x : String) (t : Nat) (v : Value) : DictEntry := ⟨PyData.keyHash P (Str.ofString x), .str (Str.ofString x) t, v⟩
noncomputable def sv (x : String) (t : Nat) : Value := .str (Str.ofString x) t
noncomputable def iv (i : Nat) (t : Nat) : Value := .int (Int.ofNat i) t
noncomputable def p0 : Program := PySem.Challenge.pw_og0279_01
noncomputable def m0 : Nat := nat_lit 11
noncomputable def ann0 : Option Value := (some (.ref (nat_lit 6)))
noncomputable def env0 : Env := { scope := p0.main.scope, locals := mainNs, globals := mainNs, cells := [], code := (.ref (nat_lit 13)), frame := some (nat_lit 14) }
noncomputable def q0 : Pos := (Pos.mk (nat_lit 0) (nat_lit 0) (nat_lit 0) (nat_lit 0))
noncomputable def b0 : List Stmt := behindTheImports p0
noncomputable def c0 : Code := Code.body b0 env0
noncomputable def h0 (P : Params) : Obj := (Obj.mk (.type "tuple") none (.seq (.mk []) (nat_lit 0)) (Array.mk []))
noncomputable def h1 (P : Params) : Obj := (Obj.mk .none none (.fields (.mk [])) (Array.mk []))
noncomputable def h2 (P : Params) : Obj := (Obj.mk (.type "code") none (.fields (.mk [(sv "<module>" (nat_lit 182)), (sv "<module>" (nat_lit 183)), (sv "/claim/cut.py" (nat_lit 184)), (iv (nat_lit 1) (nat_lit 0)), (iv (nat_lit 0) (nat_lit 0)), (iv (nat_lit 0) (nat_lit 0)), (iv (nat_lit 0) (nat_lit 0)), (iv (nat_lit 0) (nat_lit 0)), (.ref (nat_lit 11)), (Value.bool Bool.false), (iv (nat_lit 181) (nat_lit 0)), (.ref (nat_lit 12)), .none, .none, .none, .none, (iv (nat_lit 185) (nat_lit 0)), (iv (nat_lit 1) (nat_lit 0)), (sv "/claim/cut.py" (nat_lit 186))])) (Array.mk []))
noncomputable def h3 (P : Params) : Obj := (Obj.mk (.type "frame") none Data.plain (Array.mk [(some (.ref (nat_lit 13))), (some (.ref (nat_lit 3))), (some (.ref (nat_lit 3))), none, (some (sv "__main__" (nat_lit 164))), none, (some (.ref (nat_lit 0)))]))
noncomputable def hA (P : Params) : Heap := Heap.mk (Array.mk [boot_o_0 P, boot_o_1 P, boot_o_2 P, boot_o_3 P, boot_o_4 P, boot_o_5 P, boot_o_6 P, boot_o_7 P, boot_o_8 P, boot_o_9 P, boot_o_10 P, h0 P, h1 P, h2 P, h3 P]) (Life.mk [] [] [] (nat_lit 0) [] [] Bool.false (Array.mk []) [] (nat_lit 0) Bool.false Bool.false Bool.false (Int.ofNat (nat_lit 0)) [(Int.ofNat (nat_lit 2000)), (Int.ofNat (nat_lit 10)), (Int.ofNat (nat_lit 10))] Bool.false (nat_lit 0) Bool.true [] [] (nat_lit 0) Bool.false)
noncomputable def sA (w : World) (os : OsState) : Shared := Shared.mk (hA w.params) (Array.mk []) (Drawn.mk (nat_lit 0) (nat_lit 0) (nat_lit 0) (nat_lit 0)) (nat_lit 187) os
noncomputable def posA : Pos := (Pos.mk (nat_lit 0) (nat_lit 0) (nat_lit 0) (nat_lit 0))
noncomputable def tB (P : Params) : BT := (.node (boot_o_0 P) (.node (boot_o_1 P) (.node (boot_o_3 P) (.node (boot_o_7 P) .nil .nil) (.node (h0 P) .nil .nil)) (.node (boot_o_5 P) (.node (boot_o_9 P) .nil .nil) (.node (h2 P) .nil .nil))) (.node (boot_o_2 P) (.node (boot_o_4 P) (.node (boot_o_8 P) .nil .nil) (.node (h1 P) .nil .nil)) (.node (boot_o_6 P) (.node (boot_o_10 P) .nil .nil) (.node (h3 P) .nil .nil))))
noncomputable def sB (w : World) (os : OsState) : SharedT := SharedT.mk (tB w.params) (nat_lit 15) (Life.mk [] [] [] (nat_lit 0) [] [] Bool.false (Array.mk []) [] (nat_lit 0) Bool.false Bool.false Bool.false (Int.ofNat (nat_lit 0)) [(Int.ofNat (nat_lit 2000)), (Int.ofNat (nat_lit 10)), (Int.ofNat (nat_lit 10))] Bool.false (nat_lit 0) Bool.true [] [] (nat_lit 0) Bool.false) (Array.mk []) (Drawn.mk (nat_lit 0) (nat_lit 0) (nat_lit 0) (nat_lit 0)) (nat_lit 187) os
noncomputable def posB : Pos := (Pos.mk (nat_lit 0) (nat_lit 0) (nat_lit 0) (nat_lit 0))
noncomputable def h4 (P : Params) : Obj := (Obj.mk .none none (Data.dict (Array.mk [(de P "type.__subclasses__.Exception.0" (nat_lit 233) (iv (nat_lit 40) (nat_lit 0))), (de P "type.__subclasses__.Exception.n" (nat_lit 234) (iv (nat_lit 1) (nat_lit 0)))]) (nat_lit 2)) (Array.mk []))
noncomputable def h5 (P : Params) : Obj := (Obj.mk (.type "dict") none (Data.dict (Array.mk [(de P "__name__" (nat_lit 165) (sv "termcore.base" (nat_lit 194))), (de P "__doc__" (nat_lit 166) .none), (de P "__package__" (nat_lit 167) .none), (de P "__loader__" (nat_lit 168) (Value.builtin "__main__.__loader__#opaque")), (de P "__spec__" (nat_lit 169) .none), (de P "__annotations__" (nat_lit 170) (.ref (nat_lit 6))), (de P "__builtins__" (nat_lit 171) (.ref (nat_lit 4))), (de P "__file__" (nat_lit 173) (sv "/claim/cut.py" (nat_lit 172))), (de P "__cached__" (nat_lit 174) .none), (de P "_wall" (nat_lit 193) (.ref (nat_lit 21))), (de P "NO_COLOUR" (nat_lit 198) (Value.int (Int.negSucc (nat_lit 0)) (nat_lit 197))), (de P "PLAIN" (nat_lit 201) (.ref (nat_lit 22))), (de P "BACK" (nat_lit 203) (iv (nat_lit 2) (nat_lit 202))), (de P "LINE_FEED" (nat_lit 205) (iv (nat_lit 10) (nat_lit 204))), (de P "BLANK" (nat_lit 207) (iv (nat_lit 32) (nat_lit 206))), (de P "TermError" (nat_lit 236) (.ref (nat_lit 40)))]) (nat_lit 16)) (Array.mk []))
noncomputable def h6 (P : Params) : Obj := (Obj.mk .none none (.fields (.mk [(iv (nat_lit 1) (nat_lit 0)), (iv (nat_lit 0) (nat_lit 0)), (.ref (nat_lit 20)), (iv (nat_lit 10) (nat_lit 0)), (iv (nat_lit 0) (nat_lit 0)), (.ref (nat_lit 28))])) (Array.mk []))
noncomputable def h7 (P : Params) : Obj := (Obj.mk (.type "tuple") none (.seq (.mk []) (nat_lit 0)) (Array.mk []))
noncomputable def h8 (P : Params) : Obj := (Obj.mk .none none (.fields (.mk [])) (Array.mk []))
noncomputable def h9 (P : Params) : Obj := (Obj.mk (.type "tuple") none (.seq (.mk [(sv "k" (nat_lit 190))]) (nat_lit 0)) (Array.mk []))
noncomputable def h10 (P : Params) : Obj := (Obj.mk (.type "tuple") none (.seq (.mk []) (nat_lit 0)) (Array.mk []))
noncomputable def h11 (P : Params) : Obj := (Obj.mk .none none (Data.func (FuncData.mk (Str.ofString "_wall") (Str.ofString "_wall") (parsOf (stAt 0)) (FuncBody.stmts (bodyOf (stAt 0))) (scopeOf (stAt 0)) (nat_lit 0) [] .none .none .none .none none .none .none (nat_lit 0))) (Array.mk []))
noncomputable def h12 (P : Params) : Obj := (Obj.mk (.type "code") none (.fields (.mk [(sv "_wall" (nat_lit 187)), (sv "_wall" (nat_lit 188)), (sv "/claim/cut.py" (nat_lit 189)), (iv (nat_lit 1) (nat_lit 0)), (iv (nat_lit 1) (nat_lit 0)), (iv (nat_lit 0) (nat_lit 0)), (iv (nat_lit 0) (nat_lit 0)), (iv (nat_lit 3) (nat_lit 0)), (.ref (nat_lit 15)), (Value.bool Bool.true), (iv (nat_lit 181) (nat_lit 0)), (.ref (nat_lit 16)), .none, (.ref (nat_lit 17)), (.ref (nat_lit 18)), (.ref (nat_lit 19)), (iv (nat_lit 191) (nat_lit 0)), (iv (nat_lit 1) (nat_lit 0)), (sv "/claim/cut.py" (nat_lit 192))])) (Array.mk []))
noncomputable def h13 (P : Params) : Obj := (Obj.mk (.type "function") none (Data.func (FuncData.mk (Str.ofString "_wall") (Str.ofString "_wall") (parsOf (stAt 0)) (FuncBody.stmts (bodyOf (stAt 0))) (scopeOf (stAt 0)) (nat_lit 3) [] .none .none .none (sv "__main__" (nat_lit 164)) none (.ref (nat_lit 20)) .none (nat_lit 0))) (Array.mk []))
noncomputable def h14 (P : Params) : Obj := (Obj.mk (.type "tuple") none (.seq (.mk [(iv (nat_lit 0) (nat_lit 199)), (Value.int (Int.negSucc (nat_lit 0)) (nat_lit 197)), (Value.int (Int.negSucc (nat_lit 0)) (nat_lit 197)), (Value.int (Int.negSucc (nat_lit 0)) (nat_lit 197)), (iv (nat_lit 0) (nat_lit 200))]) (nat_lit 0)) (Array.mk []))
noncomputable def h15 (P : Params) : Obj := (Obj.mk (.type "tuple") none (.seq (.mk [(.type "Exception")]) (nat_lit 0)) (Array.mk []))
noncomputable def h16 (P : Params) : Obj := (Obj.mk (.type "builtin_function_or_method") none (.fields (.mk [(Value.builtin "type.__prepare__"), (.type "type")])) (Array.mk []))
noncomputable def h17 (P : Params) : Obj := (Obj.mk (.type "dict") none (Data.dict (Array.mk [(de P "__module__" (nat_lit 215) (sv "termcore.base" (nat_lit 194))), (de P "__qualname__" (nat_lit 217) (sv "TermError" (nat_lit 216))), (de P "__firstlineno__" (nat_lit 219) (iv (nat_lit 10) (nat_lit 218))), (de P "__init__" (nat_lit 227) (.ref (nat_lit 37))), (de P "__static_attributes__" (nat_lit 229) (.ref (nat_lit 38)))]) (nat_lit 5)) (Array.mk []))
noncomputable def h18 (P : Params) : Obj := (Obj.mk (.type "tuple") none (.seq (.mk []) (nat_lit 0)) (Array.mk []))
noncomputable def h19 (P : Params) : Obj := (Obj.mk .none none (.fields (.mk [(iv (nat_lit 12) (nat_lit 0)), (iv (nat_lit 4) (nat_lit 0)), (.ref (nat_lit 36))])) (Array.mk []))
noncomputable def h20 (P : Params) : Obj := (Obj.mk (.type "code") none (.fields (.mk [(sv "TermError" (nat_lit 210)), (sv "TermError" (nat_lit 211)), (sv "/claim/cut.py" (nat_lit 212)), (iv (nat_lit 10) (nat_lit 0)), (iv (nat_lit 0) (nat_lit 0)), (iv (nat_lit 0) (nat_lit 0)), (iv (nat_lit 0) (nat_lit 0)), (iv (nat_lit 0) (nat_lit 0)), (.ref (nat_lit 26)), (Value.bool Bool.false), (iv (nat_lit 181) (nat_lit 0)), (.ref (nat_lit 27)), .none, .none, .none, .none, (iv (nat_lit 213) (nat_lit 0)), (iv (nat_lit 10) (nat_lit 0)), (sv "/claim/cut.py" (nat_lit 214))])) (Array.mk []))
noncomputable def h21 (P : Params) : Obj := (Obj.mk (.type "frame") none Data.plain (Array.mk [(some (.ref (nat_lit 28))), (some (.ref (nat_lit 3))), (some (.ref (nat_lit 25))), none, (some (sv "termcore.base" (nat_lit 194))), none, (some (.ref (nat_lit 0)))]))
noncomputable def h22 (P : Params) : Obj := (Obj.mk (.type "tuple") none (.seq (.mk [.none]) (nat_lit 0)) (Array.mk []))
noncomputable def h23 (P : Params) : Obj := (Obj.mk (.type "tuple") none (.seq (.mk []) (nat_lit 0)) (Array.mk []))
noncomputable def h24 (P : Params) : Obj := (Obj.mk .none none (.fields (.mk [])) (Array.mk []))
noncomputable def h25 (P : Params) : Obj := (Obj.mk (.type "tuple") none (.seq (.mk [(sv "self" (nat_lit 223)), (sv "told" (nat_lit 224))]) (nat_lit 0)) (Array.mk []))
noncomputable def h26 (P : Params) : Obj := (Obj.mk (.type "tuple") none (.seq (.mk []) (nat_lit 0)) (Array.mk []))
noncomputable def h27 (P : Params) : Obj := (Obj.mk .none none (Data.func (FuncData.mk (Str.ofString "__init__") (Str.ofString "TermError.__init__") (parsOf (stIn 7 0)) (FuncBody.stmts (bodyOf (stIn 7 0))) (scopeOf (stIn 7 0)) (nat_lit 0) [] .none .none .none .none none .none .none (nat_lit 0))) (Array.mk []))
noncomputable def h28 (P : Params) : Obj := (Obj.mk (.type "code") none (.fields (.mk [(sv "__init__" (nat_lit 220)), (sv "TermError.__init__" (nat_lit 221)), (sv "/claim/cut.py" (nat_lit 222)), (iv (nat_lit 12) (nat_lit 0)), (iv (nat_lit 2) (nat_lit 0)), (iv (nat_lit 0) (nat_lit 0)), (iv (nat_lit 0) (nat_lit 0)), (iv (nat_lit 3) (nat_lit 0)), (.ref (nat_lit 31)), (Value.bool Bool.true), (iv (nat_lit 181) (nat_lit 0)), (.ref (nat_lit 32)), .none, (.ref (nat_lit 33)), (.ref (nat_lit 34)), (.ref (nat_lit 35)), (iv (nat_lit 225) (nat_lit 0)), (iv (nat_lit 12) (nat_lit 0)), (sv "/claim/cut.py" (nat_lit 226))])) (Array.mk []))
noncomputable def h29 (P : Params) : Obj := (Obj.mk (.type "function") none (Data.func (FuncData.mk (Str.ofString "__init__") (Str.ofString "TermError.__init__") (parsOf (stIn 7 0)) (FuncBody.stmts (bodyOf (stIn 7 0))) (scopeOf (stIn 7 0)) (nat_lit 3) [] (.ref (nat_lit 30)) .none .none (sv "termcore.base" (nat_lit 194)) none (.ref (nat_lit 36)) .none (nat_lit 0))) (Array.mk []))
noncomputable def h30 (P : Params) : Obj := (Obj.mk (.type "tuple") none (.seq (.mk [(sv "told" (nat_lit 228))]) (nat_lit 0)) (Array.mk []))
noncomputable def h31 (P : Params) : Obj := (Obj.mk (.type "dict") none (Data.dict (Array.mk [(de P "__module__" (nat_lit 215) (sv "termcore.base" (nat_lit 194))), (de P "__firstlineno__" (nat_lit 219) (iv (nat_lit 10) (nat_lit 218))), (de P "__init__" (nat_lit 227) (.ref (nat_lit 37))), (de P "__static_attributes__" (nat_lit 229) (.ref (nat_lit 38))), (de P "__weakref__" (nat_lit 231) (.ref (nat_lit 41))), (de P "__doc__" (nat_lit 232) .none)]) (nat_lit 3)) (Array.mk []))
noncomputable def h32 (P : Params) : Obj := (Obj.mk (.type "type") none (Data.cls (ClassData.mk (Str.ofString "TermError") [(.type "Exception")] [(.ref (nat_lit 40)), (.type "Exception"), (.type "BaseException"), (.type "object")] (nat_lit 39) (Str.ofString "TermError") Bool.true [] [] Bool.false none Bool.false)) (Array.mk [(some (.ref (nat_lit 23))), none, (some (sv "TermError" (nat_lit 208))), (some (sv "TermError" (nat_lit 216))), (some (Value.builtin "Exception.__new__")), (some (Value.bool Bool.true))]))
noncomputable def h33 (P : Params) : Obj := (Obj.mk (.type "getset_descriptor") none (.fields (.mk [(sv "__weakref__" (nat_lit 230)), (.ref (nat_lit 40)), (Value.builtin "ExceptionGroup.__weakref__"), .none])) (Array.mk []))
noncomputable def h34 (P : Params) : Obj := (Obj.mk (.type "super") none (.fields (.mk [(.ref (nat_lit 40)), (.ref (nat_lit 40)), (.ref (nat_lit 40))])) (Array.mk []))
noncomputable def h35 (P : Params) : Obj := (Obj.mk (.type "builtin_function_or_method") none (.fields (.mk [(Value.builtin "object.__init_subclass__"), (.ref (nat_lit 40))])) (Array.mk []))
noncomputable def t0 (P : Params) : BT := (.node (boot_o_0 P) (.node (boot_o_1 P) (.node (h5 P) (.node (boot_o_7 P) (.node (h7 P) (.node (h23 P) .nil .nil) .nil) (.node (h15 P) (.node (h31 P) .nil .nil) .nil)) (.node (h0 P) (.node (h11 P) (.node (h27 P) .nil .nil) .nil) (.node (h19 P) (.node (h35 P) .nil .nil) .nil))) (.node (boot_o_5 P) (.node (boot_o_9 P) (.node (h9 P) (.node (h25 P) .nil .nil) .nil) (.node (h17 P) (.node (h33 P) .nil .nil) .nil)) (.node (h2 P) (.node (h13 P) (.node (h29 P) .nil .nil) .nil) (.node (h21 P) .nil .nil)))) (.node (h4 P) (.node (boot_o_4 P) (.node (boot_o_8 P) (.node (h8 P) (.node (h24 P) .nil .nil) .nil) (.node (h16 P) (.node (h32 P) .nil .nil) .nil)) (.node (h6 P) (.node (h12 P) (.node (h28 P) .nil .nil) .nil) (.node (h20 P) .nil .nil))) (.node (boot_o_6 P) (.node (boot_o_10 P) (.node (h10 P) (.node (h26 P) .nil .nil) .nil) (.node (h18 P) (.node (h34 P) .nil .nil) .nil)) (.node (h3 P) (.node (h14 P) (.node (h30 P) .nil .nil) .nil) (.node (h22 P) .nil .nil)))))
noncomputable def s0 (w : World) (os : OsState) : SharedT := SharedT.mk (t0 w.params) (nat_lit 44) (Life.mk [] [] [] (nat_lit 0) [] [] Bool.false (Array.mk []) [] (nat_lit 0) Bool.false Bool.false Bool.false (Int.ofNat (nat_lit 0)) [(Int.ofNat (nat_lit 2000)), (Int.ofNat (nat_lit 10)), (Int.ofNat (nat_lit 10))] Bool.false (nat_lit 0) Bool.true [] [] (nat_lit 0) Bool.false) (Array.mk []) (Drawn.mk (nat_lit 0) (nat_lit 0) (nat_lit 0) (nat_lit 0)) (nat_lit 237) os
noncomputable def pos0 : Pos := (Pos.mk (nat_lit 10) (nat_lit 0) (nat_lit 13) (nat_lit 24))
noncomputable def l0 : List Stmt := [stAt 0, stAt 1, stAt 2, stAt 3, stAt 4, stAt 5, stAt 6, stAt 7]
noncomputable def h36 (P : Params) : Obj := (Obj.mk (.type "dict") none (Data.dict (Array.mk [(de P "__name__" (nat_lit 165) (sv "termcore.selection" (nat_lit 274))), (de P "__doc__" (nat_lit 166) .none), (de P "__package__" (nat_lit 167) .none), (de P "__loader__" (nat_lit 168) (Value.builtin "__main__.__loader__#opaque")), (de P "__spec__" (nat_lit 169) .none), (de P "__annotations__" (nat_lit 170) (.ref (nat_lit 6))), (de P "__builtins__" (nat_lit 171) (.ref (nat_lit 4))), (de P "__file__" (nat_lit 173) (sv "/claim/cut.py" (nat_lit 172))), (de P "__cached__" (nat_lit 174) .none), (de P "_wall" (nat_lit 193) (.ref (nat_lit 21))), (de P "NO_COLOUR" (nat_lit 198) (Value.int (Int.negSucc (nat_lit 0)) (nat_lit 197))), (de P "PLAIN" (nat_lit 201) (.ref (nat_lit 22))), (de P "BACK" (nat_lit 203) (iv (nat_lit 2) (nat_lit 202))), (de P "LINE_FEED" (nat_lit 205) (iv (nat_lit 10) (nat_lit 204))), (de P "BLANK" (nat_lit 207) (iv (nat_lit 32) (nat_lit 206))), (de P "TermError" (nat_lit 236) (.ref (nat_lit 40))), (de P "BadSize" (nat_lit 252) (.ref (nat_lit 53))), (de P "erased_pen" (nat_lit 259) (.ref (nat_lit 62))), (de P "blank_cell" (nat_lit 266) (.ref (nat_lit 69))), (de P "is_blank" (nat_lit 273) (.ref (nat_lit 76)))]) (nat_lit 20)) (Array.mk []))
noncomputable def h37 (P : Params) : Obj := (Obj.mk .none none (.fields (.mk [(iv (nat_lit 1) (nat_lit 0)), (iv (nat_lit 0) (nat_lit 0)), (.ref (nat_lit 20)), (iv (nat_lit 10) (nat_lit 0)), (iv (nat_lit 0) (nat_lit 0)), (.ref (nat_lit 28)), (iv (nat_lit 14) (nat_lit 0)), (iv (nat_lit 0) (nat_lit 0)), (.ref (nat_lit 49)), (iv (nat_lit 16) (nat_lit 0)), (iv (nat_lit 0) (nat_lit 0)), (.ref (nat_lit 61)), (iv (nat_lit 18) (nat_lit 0)), (iv (nat_lit 0) (nat_lit 0)), (.ref (nat_lit 68)), (iv (nat_lit 20) (nat_lit 0)), (iv (nat_lit 0) (nat_lit 0)), (.ref (nat_lit 75))])) (Array.mk []))
noncomputable def h38 (P : Params) : Obj := (Obj.mk (.type "type") none (Data.cls (ClassData.mk (Str.ofString "TermError") [(.type "Exception")] [(.ref (nat_lit 40)), (.type "Exception"), (.type "BaseException"), (.type "object")] (nat_lit 39) (Str.ofString "TermError") Bool.true [] [(.ref (nat_lit 53))] Bool.false none Bool.false)) (Array.mk [(some (.ref (nat_lit 23))), none, (some (sv "TermError" (nat_lit 208))), (some (sv "TermError" (nat_lit 216))), (some (Value.builtin "Exception.__new__")), (some (Value.bool Bool.true))]))
noncomputable def h39 (P : Params) : Obj := (Obj.mk (.type "tuple") none (.seq (.mk [(.ref (nat_lit 40))]) (nat_lit 0)) (Array.mk []))
noncomputable def h40 (P : Params) : Obj := (Obj.mk (.type "builtin_function_or_method") none (.fields (.mk [(Value.builtin "type.__prepare__"), (.type "type")])) (Array.mk []))
noncomputable def h41 (P : Params) : Obj := (Obj.mk (.type "dict") none (Data.dict (Array.mk [(de P "__module__" (nat_lit 244) (sv "termcore.base" (nat_lit 194))), (de P "__qualname__" (nat_lit 246) (sv "BadSize" (nat_lit 245))), (de P "__firstlineno__" (nat_lit 248) (iv (nat_lit 14) (nat_lit 247))), (de P "__static_attributes__" (nat_lit 249) (.ref (nat_lit 51)))]) (nat_lit 4)) (Array.mk []))
noncomputable def h42 (P : Params) : Obj := (Obj.mk (.type "tuple") none (.seq (.mk []) (nat_lit 0)) (Array.mk []))
noncomputable def h43 (P : Params) : Obj := (Obj.mk .none none (.fields (.mk [])) (Array.mk []))
noncomputable def h44 (P : Params) : Obj := (Obj.mk (.type "code") none (.fields (.mk [(sv "BadSize" (nat_lit 239)), (sv "BadSize" (nat_lit 240)), (sv "/claim/cut.py" (nat_lit 241)), (iv (nat_lit 14) (nat_lit 0)), (iv (nat_lit 0) (nat_lit 0)), (iv (nat_lit 0) (nat_lit 0)), (iv (nat_lit 0) (nat_lit 0)), (iv (nat_lit 0) (nat_lit 0)), (.ref (nat_lit 47)), (Value.bool Bool.false), (iv (nat_lit 181) (nat_lit 0)), (.ref (nat_lit 48)), .none, .none, .none, .none, (iv (nat_lit 242) (nat_lit 0)), (iv (nat_lit 14) (nat_lit 0)), (sv "/claim/cut.py" (nat_lit 243))])) (Array.mk []))
noncomputable def h45 (P : Params) : Obj := (Obj.mk (.type "frame") none Data.plain (Array.mk [(some (.ref (nat_lit 49))), (some (.ref (nat_lit 3))), (some (.ref (nat_lit 46))), none, (some (sv "termcore.base" (nat_lit 194))), none, (some (.ref (nat_lit 0)))]))
noncomputable def h46 (P : Params) : Obj := (Obj.mk (.type "tuple") none (.seq (.mk []) (nat_lit 0)) (Array.mk []))
noncomputable def h47 (P : Params) : Obj := (Obj.mk (.type "dict") none (Data.dict (Array.mk [(de P "__module__" (nat_lit 244) (sv "termcore.base" (nat_lit 194))), (de P "__firstlineno__" (nat_lit 248) (iv (nat_lit 14) (nat_lit 247))), (de P "__static_attributes__" (nat_lit 249) (.ref (nat_lit 51))), (de P "__doc__" (nat_lit 250) .none)]) (nat_lit 2)) (Array.mk []))
noncomputable def h48 (P : Params) : Obj := (Obj.mk (.type "type") none (Data.cls (ClassData.mk (Str.ofString "BadSize") [(.ref (nat_lit 40))] [(.ref (nat_lit 53)), (.ref (nat_lit 40)), (.type "Exception"), (.type "BaseException"), (.type "object")] (nat_lit 52) (Str.ofString "BadSize") Bool.true [] [] Bool.false none Bool.false)) (Array.mk [(some (.ref (nat_lit 44))), none, (some (sv "BadSize" (nat_lit 237))), (some (sv "BadSize" (nat_lit 245))), (some (Value.builtin "Exception.__new__")), (some (Value.bool Bool.true))]))
noncomputable def h49 (P : Params) : Obj := (Obj.mk (.type "super") none (.fields (.mk [(.ref (nat_lit 53)), (.ref (nat_lit 53)), (.ref (nat_lit 53))])) (Array.mk []))
noncomputable def h50 (P : Params) : Obj := (Obj.mk (.type "builtin_function_or_method") none (.fields (.mk [(Value.builtin "object.__init_subclass__"), (.ref (nat_lit 53))])) (Array.mk []))
noncomputable def h51 (P : Params) : Obj := (Obj.mk (.type "tuple") none (.seq (.mk []) (nat_lit 0)) (Array.mk []))
noncomputable def h52 (P : Params) : Obj := (Obj.mk .none none (.fields (.mk [])) (Array.mk []))
noncomputable def h53 (P : Params) : Obj := (Obj.mk (.type "tuple") none (.seq (.mk [(sv "pen" (nat_lit 256))]) (nat_lit 0)) (Array.mk []))
noncomputable def h54 (P : Params) : Obj := (Obj.mk (.type "tuple") none (.seq (.mk []) (nat_lit 0)) (Array.mk []))
noncomputable def h55 (P : Params) : Obj := (Obj.mk .none none (Data.func (FuncData.mk (Str.ofString "erased_pen") (Str.ofString "erased_pen") (parsOf (stAt 9)) (FuncBody.stmts (bodyOf (stAt 9))) (scopeOf (stAt 9)) (nat_lit 0) [] .none .none .none .none none .none .none (nat_lit 0))) (Array.mk []))
noncomputable def h56 (P : Params) : Obj := (Obj.mk (.type "code") none (.fields (.mk [(sv "erased_pen" (nat_lit 253)), (sv "erased_pen" (nat_lit 254)), (sv "/claim/cut.py" (nat_lit 255)), (iv (nat_lit 16) (nat_lit 0)), (iv (nat_lit 1) (nat_lit 0)), (iv (nat_lit 0) (nat_lit 0)), (iv (nat_lit 0) (nat_lit 0)), (iv (nat_lit 3) (nat_lit 0)), (.ref (nat_lit 56)), (Value.bool Bool.true), (iv (nat_lit 181) (nat_lit 0)), (.ref (nat_lit 57)), .none, (.ref (nat_lit 58)), (.ref (nat_lit 59)), (.ref (nat_lit 60)), (iv (nat_lit 257) (nat_lit 0)), (iv (nat_lit 16) (nat_lit 0)), (sv "/claim/cut.py" (nat_lit 258))])) (Array.mk []))
noncomputable def h57 (P : Params) : Obj := (Obj.mk (.type "function") none (Data.func (FuncData.mk (Str.ofString "erased_pen") (Str.ofString "erased_pen") (parsOf (stAt 9)) (FuncBody.stmts (bodyOf (stAt 9))) (scopeOf (stAt 9)) (nat_lit 3) [] .none .none .none (sv "termcore.base" (nat_lit 194)) none (.ref (nat_lit 61)) .none (nat_lit 0))) (Array.mk []))
noncomputable def h58 (P : Params) : Obj := (Obj.mk (.type "tuple") none (.seq (.mk []) (nat_lit 0)) (Array.mk []))
noncomputable def h59 (P : Params) : Obj := (Obj.mk .none none (.fields (.mk [])) (Array.mk []))
noncomputable def h60 (P : Params) : Obj := (Obj.mk (.type "tuple") none (.seq (.mk [(sv "pen" (nat_lit 263))]) (nat_lit 0)) (Array.mk []))
noncomputable def h61 (P : Params) : Obj := (Obj.mk (.type "tuple") none (.seq (.mk []) (nat_lit 0)) (Array.mk []))
noncomputable def h62 (P : Params) : Obj := (Obj.mk .none none (Data.func (FuncData.mk (Str.ofString "blank_cell") (Str.ofString "blank_cell") (parsOf (stAt 10)) (FuncBody.stmts (bodyOf (stAt 10))) (scopeOf (stAt 10)) (nat_lit 0) [] .none .none .none .none none .none .none (nat_lit 0))) (Array.mk []))
noncomputable def h63 (P : Params) : Obj := (Obj.mk (.type "code") none (.fields (.mk [(sv "blank_cell" (nat_lit 260)), (sv "blank_cell" (nat_lit 261)), (sv "/claim/cut.py" (nat_lit 262)), (iv (nat_lit 18) (nat_lit 0)), (iv (nat_lit 1) (nat_lit 0)), (iv (nat_lit 0) (nat_lit 0)), (iv (nat_lit 0) (nat_lit 0)), (iv (nat_lit 3) (nat_lit 0)), (.ref (nat_lit 63)), (Value.bool Bool.true), (iv (nat_lit 181) (nat_lit 0)), (.ref (nat_lit 64)), .none, (.ref (nat_lit 65)), (.ref (nat_lit 66)), (.ref (nat_lit 67)), (iv (nat_lit 264) (nat_lit 0)), (iv (nat_lit 18) (nat_lit 0)), (sv "/claim/cut.py" (nat_lit 265))])) (Array.mk []))
noncomputable def h64 (P : Params) : Obj := (Obj.mk (.type "function") none (Data.func (FuncData.mk (Str.ofString "blank_cell") (Str.ofString "blank_cell") (parsOf (stAt 10)) (FuncBody.stmts (bodyOf (stAt 10))) (scopeOf (stAt 10)) (nat_lit 3) [] .none .none .none (sv "termcore.base" (nat_lit 194)) none (.ref (nat_lit 68)) .none (nat_lit 0))) (Array.mk []))
noncomputable def h65 (P : Params) : Obj := (Obj.mk (.type "tuple") none (.seq (.mk []) (nat_lit 0)) (Array.mk []))
noncomputable def h66 (P : Params) : Obj := (Obj.mk .none none (.fields (.mk [])) (Array.mk []))
noncomputable def h67 (P : Params) : Obj := (Obj.mk (.type "tuple") none (.seq (.mk [(sv "cell" (nat_lit 270))]) (nat_lit 0)) (Array.mk []))
noncomputable def h68 (P : Params) : Obj := (Obj.mk (.type "tuple") none (.seq (.mk []) (nat_lit 0)) (Array.mk []))
noncomputable def h69 (P : Params) : Obj := (Obj.mk .none none (Data.func (FuncData.mk (Str.ofString "is_blank") (Str.ofString "is_blank") (parsOf (stAt 11)) (FuncBody.stmts (bodyOf (stAt 11))) (scopeOf (stAt 11)) (nat_lit 0) [] .none .none .none .none none .none .none (nat_lit 0))) (Array.mk []))
noncomputable def h70 (P : Params) : Obj := (Obj.mk (.type "code") none (.fields (.mk [(sv "is_blank" (nat_lit 267)), (sv "is_blank" (nat_lit 268)), (sv "/claim/cut.py" (nat_lit 269)), (iv (nat_lit 20) (nat_lit 0)), (iv (nat_lit 1) (nat_lit 0)), (iv (nat_lit 0) (nat_lit 0)), (iv (nat_lit 0) (nat_lit 0)), (iv (nat_lit 3) (nat_lit 0)), (.ref (nat_lit 70)), (Value.bool Bool.true), (iv (nat_lit 181) (nat_lit 0)), (.ref (nat_lit 71)), .none, (.ref (nat_lit 72)), (.ref (nat_lit 73)), (.ref (nat_lit 74)), (iv (nat_lit 271) (nat_lit 0)), (iv (nat_lit 20) (nat_lit 0)), (sv "/claim/cut.py" (nat_lit 272))])) (Array.mk []))
noncomputable def h71 (P : Params) : Obj := (Obj.mk (.type "function") none (Data.func (FuncData.mk (Str.ofString "is_blank") (Str.ofString "is_blank") (parsOf (stAt 11)) (FuncBody.stmts (bodyOf (stAt 11))) (scopeOf (stAt 11)) (nat_lit 3) [] .none .none .none (sv "termcore.base" (nat_lit 194)) none (.ref (nat_lit 75)) .none (nat_lit 0))) (Array.mk []))
noncomputable def t1 (P : Params) : BT := (.node (boot_o_0 P) (.node (boot_o_1 P) (.node (h36 P) (.node (boot_o_7 P) (.node (h7 P) (.node (h23 P) (.node (h58 P) .nil .nil) .nil) (.node (h42 P) .nil .nil)) (.node (h15 P) (.node (h31 P) (.node (h66 P) .nil .nil) .nil) (.node (h50 P) .nil .nil))) (.node (h0 P) (.node (h11 P) (.node (h27 P) (.node (h62 P) .nil .nil) .nil) (.node (h46 P) .nil .nil)) (.node (h19 P) (.node (h35 P) (.node (h70 P) .nil .nil) .nil) (.node (h54 P) .nil .nil)))) (.node (boot_o_5 P) (.node (boot_o_9 P) (.node (h9 P) (.node (h25 P) (.node (h60 P) .nil .nil) .nil) (.node (h44 P) .nil .nil)) (.node (h17 P) (.node (h33 P) (.node (h68 P) .nil .nil) .nil) (.node (h52 P) .nil .nil))) (.node (h2 P) (.node (h13 P) (.node (h29 P) (.node (h64 P) .nil .nil) .nil) (.node (h48 P) .nil .nil)) (.node (h21 P) (.node (h40 P) .nil .nil) (.node (h56 P) .nil .nil))))) (.node (h4 P) (.node (boot_o_4 P) (.node (boot_o_8 P) (.node (h8 P) (.node (h24 P) (.node (h59 P) .nil .nil) .nil) (.node (h43 P) .nil .nil)) (.node (h16 P) (.node (h38 P) (.node (h67 P) .nil .nil) .nil) (.node (h51 P) .nil .nil))) (.node (h37 P) (.node (h12 P) (.node (h28 P) (.node (h63 P) .nil .nil) .nil) (.node (h47 P) .nil .nil)) (.node (h20 P) (.node (h39 P) (.node (h71 P) .nil .nil) .nil) (.node (h55 P) .nil .nil)))) (.node (boot_o_6 P) (.node (boot_o_10 P) (.node (h10 P) (.node (h26 P) (.node (h61 P) .nil .nil) .nil) (.node (h45 P) .nil .nil)) (.node (h18 P) (.node (h34 P) (.node (h69 P) .nil .nil) .nil) (.node (h53 P) .nil .nil))) (.node (h3 P) (.node (h14 P) (.node (h30 P) (.node (h65 P) .nil .nil) .nil) (.node (h49 P) .nil .nil)) (.node (h22 P) (.node (h41 P) .nil .nil) (.node (h57 P) .nil .nil))))))
noncomputable def s1 (w : World) (os : OsState) : SharedT := SharedT.mk (t1 w.params) (nat_lit 77) (Life.mk [] [] [] (nat_lit 0) [] [] Bool.false (Array.mk []) [] (nat_lit 0) Bool.false Bool.false Bool.false (Int.ofNat (nat_lit 0)) [(Int.ofNat (nat_lit 2000)), (Int.ofNat (nat_lit 10)), (Int.ofNat (nat_lit 10))] Bool.false (nat_lit 0) Bool.true [] [] (nat_lit 0) Bool.false) (Array.mk []) (Drawn.mk (nat_lit 0) (nat_lit 0) (nat_lit 0) (nat_lit 0)) (nat_lit 276) os
noncomputable def pos1 : Pos := (Pos.mk (nat_lit 22) (nat_lit 0) (nat_lit 22) (nat_lit 8))
noncomputable def l1 : List Stmt := [stAt 8, stAt 9, stAt 10, stAt 11, stAt 12]
noncomputable def h72 (P : Params) : Obj := (Obj.mk (.type "dict") none (Data.dict (Array.mk [(de P "__name__" (nat_lit 165) (sv "termcore.selection" (nat_lit 274))), (de P "__doc__" (nat_lit 166) .none), (de P "__package__" (nat_lit 167) .none), (de P "__loader__" (nat_lit 168) (Value.builtin "__main__.__loader__#opaque")), (de P "__spec__" (nat_lit 169) .none), (de P "__annotations__" (nat_lit 170) (.ref (nat_lit 6))), (de P "__builtins__" (nat_lit 171) (.ref (nat_lit 4))), (de P "__file__" (nat_lit 173) (sv "/claim/cut.py" (nat_lit 172))), (de P "__cached__" (nat_lit 174) .none), (de P "_wall" (nat_lit 193) (.ref (nat_lit 21))), (de P "NO_COLOUR" (nat_lit 198) (Value.int (Int.negSucc (nat_lit 0)) (nat_lit 197))), (de P "PLAIN" (nat_lit 201) (.ref (nat_lit 22))), (de P "BACK" (nat_lit 203) (iv (nat_lit 2) (nat_lit 202))), (de P "LINE_FEED" (nat_lit 205) (iv (nat_lit 10) (nat_lit 204))), (de P "BLANK" (nat_lit 207) (iv (nat_lit 32) (nat_lit 206))), (de P "TermError" (nat_lit 236) (.ref (nat_lit 40))), (de P "BadSize" (nat_lit 252) (.ref (nat_lit 53))), (de P "erased_pen" (nat_lit 259) (.ref (nat_lit 62))), (de P "blank_cell" (nat_lit 266) (.ref (nat_lit 69))), (de P "is_blank" (nat_lit 273) (.ref (nat_lit 76))), (de P "View" (nat_lit 353) (.ref (nat_lit 135)))]) (nat_lit 21)) (Array.mk []))
noncomputable def h73 (P : Params) : Obj := (Obj.mk .none none (.fields (.mk [(iv (nat_lit 1) (nat_lit 0)), (iv (nat_lit 0) (nat_lit 0)), (.ref (nat_lit 20)), (iv (nat_lit 10) (nat_lit 0)), (iv (nat_lit 0) (nat_lit 0)), (.ref (nat_lit 28)), (iv (nat_lit 14) (nat_lit 0)), (iv (nat_lit 0) (nat_lit 0)), (.ref (nat_lit 49)), (iv (nat_lit 16) (nat_lit 0)), (iv (nat_lit 0) (nat_lit 0)), (.ref (nat_lit 61)), (iv (nat_lit 18) (nat_lit 0)), (iv (nat_lit 0) (nat_lit 0)), (.ref (nat_lit 68)), (iv (nat_lit 20) (nat_lit 0)), (iv (nat_lit 0) (nat_lit 0)), (.ref (nat_lit 75)), (iv (nat_lit 23) (nat_lit 0)), (iv (nat_lit 0) (nat_lit 0)), (.ref (nat_lit 82))])) (Array.mk []))
noncomputable def h74 (P : Params) : Obj := (Obj.mk (.type "tuple") none (.seq (.mk []) (nat_lit 0)) (Array.mk []))
noncomputable def h75 (P : Params) : Obj := (Obj.mk (.type "builtin_function_or_method") none (.fields (.mk [(Value.builtin "type.__prepare__"), (.type "type")])) (Array.mk []))
noncomputable def h76 (P : Params) : Obj := (Obj.mk (.type "dict") none (Data.dict (Array.mk [(de P "__module__" (nat_lit 283) (sv "termcore.selection" (nat_lit 274))), (de P "__qualname__" (nat_lit 285) (sv "View" (nat_lit 284))), (de P "__firstlineno__" (nat_lit 287) (iv (nat_lit 23) (nat_lit 286))), (de P "__init__" (nat_lit 296) (.ref (nat_lit 90))), (de P "above" (nat_lit 303) (.ref (nat_lit 97))), (de P "rows" (nat_lit 310) (.ref (nat_lit 104))), (de P "line" (nat_lit 319) (.ref (nat_lit 111))), (de P "is_joined" (nat_lit 327) (.ref (nat_lit 118))), (de P "first_of" (nat_lit 335) (.ref (nat_lit 125))), (de P "last_of" (nat_lit 343) (.ref (nat_lit 132))), (de P "__static_attributes__" (nat_lit 346) (.ref (nat_lit 133)))]) (nat_lit 11)) (Array.mk []))
noncomputable def h77 (P : Params) : Obj := (Obj.mk (.type "tuple") none (.seq (.mk []) (nat_lit 0)) (Array.mk []))
noncomputable def h78 (P : Params) : Obj := (Obj.mk .none none (.fields (.mk [(iv (nat_lit 25) (nat_lit 0)), (iv (nat_lit 4) (nat_lit 0)), (.ref (nat_lit 89)), (iv (nat_lit 29) (nat_lit 0)), (iv (nat_lit 4) (nat_lit 0)), (.ref (nat_lit 96)), (iv (nat_lit 32) (nat_lit 0)), (iv (nat_lit 4) (nat_lit 0)), (.ref (nat_lit 103)), (iv (nat_lit 35) (nat_lit 0)), (iv (nat_lit 4) (nat_lit 0)), (.ref (nat_lit 110)), (iv (nat_lit 39) (nat_lit 0)), (iv (nat_lit 4) (nat_lit 0)), (.ref (nat_lit 117)), (iv (nat_lit 42) (nat_lit 0)), (iv (nat_lit 4) (nat_lit 0)), (.ref (nat_lit 124)), (iv (nat_lit 45) (nat_lit 0)), (iv (nat_lit 4) (nat_lit 0)), (.ref (nat_lit 131))])) (Array.mk []))
noncomputable def h79 (P : Params) : Obj := (Obj.mk (.type "code") none (.fields (.mk [(sv "View" (nat_lit 278)), (sv "View" (nat_lit 279)), (sv "/claim/cut.py" (nat_lit 280)), (iv (nat_lit 23) (nat_lit 0)), (iv (nat_lit 0) (nat_lit 0)), (iv (nat_lit 0) (nat_lit 0)), (iv (nat_lit 0) (nat_lit 0)), (iv (nat_lit 0) (nat_lit 0)), (.ref (nat_lit 80)), (Value.bool Bool.false), (iv (nat_lit 181) (nat_lit 0)), (.ref (nat_lit 81)), .none, .none, .none, .none, (iv (nat_lit 281) (nat_lit 0)), (iv (nat_lit 23) (nat_lit 0)), (sv "/claim/cut.py" (nat_lit 282))])) (Array.mk []))
noncomputable def h80 (P : Params) : Obj := (Obj.mk (.type "frame") none Data.plain (Array.mk [(some (.ref (nat_lit 82))), (some (.ref (nat_lit 3))), (some (.ref (nat_lit 79))), none, (some (sv "termcore.selection" (nat_lit 274))), none, (some (.ref (nat_lit 0)))]))
noncomputable def h81 (P : Params) : Obj := (Obj.mk (.type "tuple") none (.seq (.mk []) (nat_lit 0)) (Array.mk []))
noncomputable def h82 (P : Params) : Obj := (Obj.mk .none none (.fields (.mk [])) (Array.mk []))
noncomputable def h83 (P : Params) : Obj := (Obj.mk (.type "tuple") none (.seq (.mk [(sv "self" (nat_lit 291)), (sv "history" (nat_lit 292)), (sv "grid" (nat_lit 293))]) (nat_lit 0)) (Array.mk []))
noncomputable def h84 (P : Params) : Obj := (Obj.mk (.type "tuple") none (.seq (.mk []) (nat_lit 0)) (Array.mk []))
noncomputable def h85 (P : Params) : Obj := (Obj.mk .none none (Data.func (FuncData.mk (Str.ofString "__init__") (Str.ofString "View.__init__") (parsOf (stIn 13 0)) (FuncBody.stmts (bodyOf (stIn 13 0))) (scopeOf (stIn 13 0)) (nat_lit 0) [] .none .none .none .none none .none .none (nat_lit 0))) (Array.mk []))
noncomputable def h86 (P : Params) : Obj := (Obj.mk (.type "code") none (.fields (.mk [(sv "__init__" (nat_lit 288)), (sv "View.__init__" (nat_lit 289)), (sv "/claim/cut.py" (nat_lit 290)), (iv (nat_lit 25) (nat_lit 0)), (iv (nat_lit 3) (nat_lit 0)), (iv (nat_lit 0) (nat_lit 0)), (iv (nat_lit 0) (nat_lit 0)), (iv (nat_lit 3) (nat_lit 0)), (.ref (nat_lit 84)), (Value.bool Bool.true), (iv (nat_lit 181) (nat_lit 0)), (.ref (nat_lit 85)), .none, (.ref (nat_lit 86)), (.ref (nat_lit 87)), (.ref (nat_lit 88)), (iv (nat_lit 294) (nat_lit 0)), (iv (nat_lit 25) (nat_lit 0)), (sv "/claim/cut.py" (nat_lit 295))])) (Array.mk []))
noncomputable def h87 (P : Params) : Obj := (Obj.mk (.type "function") none (Data.func (FuncData.mk (Str.ofString "__init__") (Str.ofString "View.__init__") (parsOf (stIn 13 0)) (FuncBody.stmts (bodyOf (stIn 13 0))) (scopeOf (stIn 13 0)) (nat_lit 3) [] .none .none .none (sv "termcore.selection" (nat_lit 274)) none (.ref (nat_lit 89)) .none (nat_lit 0))) (Array.mk []))
noncomputable def h88 (P : Params) : Obj := (Obj.mk (.type "tuple") none (.seq (.mk []) (nat_lit 0)) (Array.mk []))
noncomputable def h89 (P : Params) : Obj := (Obj.mk .none none (.fields (.mk [])) (Array.mk []))
noncomputable def h90 (P : Params) : Obj := (Obj.mk (.type "tuple") none (.seq (.mk [(sv "self" (nat_lit 300))]) (nat_lit 0)) (Array.mk []))
noncomputable def h91 (P : Params) : Obj := (Obj.mk (.type "tuple") none (.seq (.mk []) (nat_lit 0)) (Array.mk []))
noncomputable def h92 (P : Params) : Obj := (Obj.mk .none none (Data.func (FuncData.mk (Str.ofString "above") (Str.ofString "View.above") (parsOf (stIn 13 1)) (FuncBody.stmts (bodyOf (stIn 13 1))) (scopeOf (stIn 13 1)) (nat_lit 0) [] .none .none .none .none none .none .none (nat_lit 0))) (Array.mk []))
noncomputable def h93 (P : Params) : Obj := (Obj.mk (.type "code") none (.fields (.mk [(sv "above" (nat_lit 297)), (sv "View.above" (nat_lit 298)), (sv "/claim/cut.py" (nat_lit 299)), (iv (nat_lit 29) (nat_lit 0)), (iv (nat_lit 1) (nat_lit 0)), (iv (nat_lit 0) (nat_lit 0)), (iv (nat_lit 0) (nat_lit 0)), (iv (nat_lit 3) (nat_lit 0)), (.ref (nat_lit 91)), (Value.bool Bool.true), (iv (nat_lit 181) (nat_lit 0)), (.ref (nat_lit 92)), .none, (.ref (nat_lit 93)), (.ref (nat_lit 94)), (.ref (nat_lit 95)), (iv (nat_lit 301) (nat_lit 0)), (iv (nat_lit 29) (nat_lit 0)), (sv "/claim/cut.py" (nat_lit 302))])) (Array.mk []))
noncomputable def h94 (P : Params) : Obj := (Obj.mk (.type "function") none (Data.func (FuncData.mk (Str.ofString "above") (Str.ofString "View.above") (parsOf (stIn 13 1)) (FuncBody.stmts (bodyOf (stIn 13 1))) (scopeOf (stIn 13 1)) (nat_lit 3) [] .none .none .none (sv "termcore.selection" (nat_lit 274)) none (.ref (nat_lit 96)) .none (nat_lit 0))) (Array.mk []))
noncomputable def h95 (P : Params) : Obj := (Obj.mk (.type "tuple") none (.seq (.mk []) (nat_lit 0)) (Array.mk []))
noncomputable def h96 (P : Params) : Obj := (Obj.mk .none none (.fields (.mk [])) (Array.mk []))
noncomputable def h97 (P : Params) : Obj := (Obj.mk (.type "tuple") none (.seq (.mk [(sv "self" (nat_lit 307))]) (nat_lit 0)) (Array.mk []))
noncomputable def h98 (P : Params) : Obj := (Obj.mk (.type "tuple") none (.seq (.mk []) (nat_lit 0)) (Array.mk []))
noncomputable def h99 (P : Params) : Obj := (Obj.mk .none none (Data.func (FuncData.mk (Str.ofString "rows") (Str.ofString "View.rows") (parsOf (stIn 13 2)) (FuncBody.stmts (bodyOf (stIn 13 2))) (scopeOf (stIn 13 2)) (nat_lit 0) [] .none .none .none .none none .none .none (nat_lit 0))) (Array.mk []))
noncomputable def h100 (P : Params) : Obj := (Obj.mk (.type "code") none (.fields (.mk [(sv "rows" (nat_lit 304)), (sv "View.rows" (nat_lit 305)), (sv "/claim/cut.py" (nat_lit 306)), (iv (nat_lit 32) (nat_lit 0)), (iv (nat_lit 1) (nat_lit 0)), (iv (nat_lit 0) (nat_lit 0)), (iv (nat_lit 0) (nat_lit 0)), (iv (nat_lit 3) (nat_lit 0)), (.ref (nat_lit 98)), (Value.bool Bool.true), (iv (nat_lit 181) (nat_lit 0)), (.ref (nat_lit 99)), .none, (.ref (nat_lit 100)), (.ref (nat_lit 101)), (.ref (nat_lit 102)), (iv (nat_lit 308) (nat_lit 0)), (iv (nat_lit 32) (nat_lit 0)), (sv "/claim/cut.py" (nat_lit 309))])) (Array.mk []))
noncomputable def h101 (P : Params) : Obj := (Obj.mk (.type "function") none (Data.func (FuncData.mk (Str.ofString "rows") (Str.ofString "View.rows") (parsOf (stIn 13 2)) (FuncBody.stmts (bodyOf (stIn 13 2))) (scopeOf (stIn 13 2)) (nat_lit 3) [] .none .none .none (sv "termcore.selection" (nat_lit 274)) none (.ref (nat_lit 103)) .none (nat_lit 0))) (Array.mk []))
noncomputable def h102 (P : Params) : Obj := (Obj.mk (.type "tuple") none (.seq (.mk []) (nat_lit 0)) (Array.mk []))
noncomputable def h103 (P : Params) : Obj := (Obj.mk .none none (.fields (.mk [])) (Array.mk []))
noncomputable def h104 (P : Params) : Obj := (Obj.mk (.type "tuple") none (.seq (.mk [(sv "self" (nat_lit 314)), (sv "row" (nat_lit 315)), (sv "above" (nat_lit 316))]) (nat_lit 0)) (Array.mk []))
noncomputable def h105 (P : Params) : Obj := (Obj.mk (.type "tuple") none (.seq (.mk []) (nat_lit 0)) (Array.mk []))
noncomputable def h106 (P : Params) : Obj := (Obj.mk .none none (Data.func (FuncData.mk (Str.ofString "line") (Str.ofString "View.line") (parsOf (stIn 13 3)) (FuncBody.stmts (bodyOf (stIn 13 3))) (scopeOf (stIn 13 3)) (nat_lit 0) [] .none .none .none .none none .none .none (nat_lit 0))) (Array.mk []))
noncomputable def h107 (P : Params) : Obj := (Obj.mk (.type "code") none (.fields (.mk [(sv "line" (nat_lit 311)), (sv "View.line" (nat_lit 312)), (sv "/claim/cut.py" (nat_lit 313)), (iv (nat_lit 35) (nat_lit 0)), (iv (nat_lit 2) (nat_lit 0)), (iv (nat_lit 0) (nat_lit 0)), (iv (nat_lit 0) (nat_lit 0)), (iv (nat_lit 3) (nat_lit 0)), (.ref (nat_lit 105)), (Value.bool Bool.true), (iv (nat_lit 181) (nat_lit 0)), (.ref (nat_lit 106)), .none, (.ref (nat_lit 107)), (.ref (nat_lit 108)), (.ref (nat_lit 109)), (iv (nat_lit 317) (nat_lit 0)), (iv (nat_lit 35) (nat_lit 0)), (sv "/claim/cut.py" (nat_lit 318))])) (Array.mk []))
noncomputable def h108 (P : Params) : Obj := (Obj.mk (.type "function") none (Data.func (FuncData.mk (Str.ofString "line") (Str.ofString "View.line") (parsOf (stIn 13 3)) (FuncBody.stmts (bodyOf (stIn 13 3))) (scopeOf (stIn 13 3)) (nat_lit 3) [] .none .none .none (sv "termcore.selection" (nat_lit 274)) none (.ref (nat_lit 110)) .none (nat_lit 0))) (Array.mk []))
noncomputable def h109 (P : Params) : Obj := (Obj.mk (.type "tuple") none (.seq (.mk []) (nat_lit 0)) (Array.mk []))
noncomputable def h110 (P : Params) : Obj := (Obj.mk .none none (.fields (.mk [])) (Array.mk []))
noncomputable def h111 (P : Params) : Obj := (Obj.mk (.type "tuple") none (.seq (.mk [(sv "self" (nat_lit 323)), (sv "row" (nat_lit 324))]) (nat_lit 0)) (Array.mk []))
noncomputable def h112 (P : Params) : Obj := (Obj.mk (.type "tuple") none (.seq (.mk []) (nat_lit 0)) (Array.mk []))
noncomputable def h113 (P : Params) : Obj := (Obj.mk .none none (Data.func (FuncData.mk (Str.ofString "is_joined") (Str.ofString "View.is_joined") (parsOf (stIn 13 4)) (FuncBody.stmts (bodyOf (stIn 13 4))) (scopeOf (stIn 13 4)) (nat_lit 0) [] .none .none .none .none none .none .none (nat_lit 0))) (Array.mk []))
noncomputable def h114 (P : Params) : Obj := (Obj.mk (.type "code") none (.fields (.mk [(sv "is_joined" (nat_lit 320)), (sv "View.is_joined" (nat_lit 321)), (sv "/claim/cut.py" (nat_lit 322)), (iv (nat_lit 39) (nat_lit 0)), (iv (nat_lit 2) (nat_lit 0)), (iv (nat_lit 0) (nat_lit 0)), (iv (nat_lit 0) (nat_lit 0)), (iv (nat_lit 3) (nat_lit 0)), (.ref (nat_lit 112)), (Value.bool Bool.true), (iv (nat_lit 181) (nat_lit 0)), (.ref (nat_lit 113)), .none, (.ref (nat_lit 114)), (.ref (nat_lit 115)), (.ref (nat_lit 116)), (iv (nat_lit 325) (nat_lit 0)), (iv (nat_lit 39) (nat_lit 0)), (sv "/claim/cut.py" (nat_lit 326))])) (Array.mk []))
noncomputable def h115 (P : Params) : Obj := (Obj.mk (.type "function") none (Data.func (FuncData.mk (Str.ofString "is_joined") (Str.ofString "View.is_joined") (parsOf (stIn 13 4)) (FuncBody.stmts (bodyOf (stIn 13 4))) (scopeOf (stIn 13 4)) (nat_lit 3) [] .none .none .none (sv "termcore.selection" (nat_lit 274)) none (.ref (nat_lit 117)) .none (nat_lit 0))) (Array.mk []))
noncomputable def h116 (P : Params) : Obj := (Obj.mk (.type "tuple") none (.seq (.mk []) (nat_lit 0)) (Array.mk []))
noncomputable def h117 (P : Params) : Obj := (Obj.mk .none none (.fields (.mk [])) (Array.mk []))
noncomputable def h118 (P : Params) : Obj := (Obj.mk (.type "tuple") none (.seq (.mk [(sv "self" (nat_lit 331)), (sv "row" (nat_lit 332))]) (nat_lit 0)) (Array.mk []))
noncomputable def h119 (P : Params) : Obj := (Obj.mk (.type "tuple") none (.seq (.mk []) (nat_lit 0)) (Array.mk []))
noncomputable def h120 (P : Params) : Obj := (Obj.mk .none none (Data.func (FuncData.mk (Str.ofString "first_of") (Str.ofString "View.first_of") (parsOf (stIn 13 5)) (FuncBody.stmts (bodyOf (stIn 13 5))) (scopeOf (stIn 13 5)) (nat_lit 0) [] .none .none .none .none none .none .none (nat_lit 0))) (Array.mk []))
noncomputable def h121 (P : Params) : Obj := (Obj.mk (.type "code") none (.fields (.mk [(sv "first_of" (nat_lit 328)), (sv "View.first_of" (nat_lit 329)), (sv "/claim/cut.py" (nat_lit 330)), (iv (nat_lit 42) (nat_lit 0)), (iv (nat_lit 2) (nat_lit 0)), (iv (nat_lit 0) (nat_lit 0)), (iv (nat_lit 0) (nat_lit 0)), (iv (nat_lit 3) (nat_lit 0)), (.ref (nat_lit 119)), (Value.bool Bool.true), (iv (nat_lit 181) (nat_lit 0)), (.ref (nat_lit 120)), .none, (.ref (nat_lit 121)), (.ref (nat_lit 122)), (.ref (nat_lit 123)), (iv (nat_lit 333) (nat_lit 0)), (iv (nat_lit 42) (nat_lit 0)), (sv "/claim/cut.py" (nat_lit 334))])) (Array.mk []))
noncomputable def h122 (P : Params) : Obj := (Obj.mk (.type "function") none (Data.func (FuncData.mk (Str.ofString "first_of") (Str.ofString "View.first_of") (parsOf (stIn 13 5)) (FuncBody.stmts (bodyOf (stIn 13 5))) (scopeOf (stIn 13 5)) (nat_lit 3) [] .none .none .none (sv "termcore.selection" (nat_lit 274)) none (.ref (nat_lit 124)) .none (nat_lit 0))) (Array.mk []))
noncomputable def h123 (P : Params) : Obj := (Obj.mk (.type "tuple") none (.seq (.mk []) (nat_lit 0)) (Array.mk []))
noncomputable def h124 (P : Params) : Obj := (Obj.mk .none none (.fields (.mk [])) (Array.mk []))
noncomputable def h125 (P : Params) : Obj := (Obj.mk (.type "tuple") none (.seq (.mk [(sv "self" (nat_lit 339)), (sv "row" (nat_lit 340))]) (nat_lit 0)) (Array.mk []))
noncomputable def h126 (P : Params) : Obj := (Obj.mk (.type "tuple") none (.seq (.mk []) (nat_lit 0)) (Array.mk []))
noncomputable def h127 (P : Params) : Obj := (Obj.mk .none none (Data.func (FuncData.mk (Str.ofString "last_of") (Str.ofString "View.last_of") (parsOf (stIn 13 6)) (FuncBody.stmts (bodyOf (stIn 13 6))) (scopeOf (stIn 13 6)) (nat_lit 0) [] .none .none .none .none none .none .none (nat_lit 0))) (Array.mk []))
noncomputable def h128 (P : Params) : Obj := (Obj.mk (.type "code") none (.fields (.mk [(sv "last_of" (nat_lit 336)), (sv "View.last_of" (nat_lit 337)), (sv "/claim/cut.py" (nat_lit 338)), (iv (nat_lit 45) (nat_lit 0)), (iv (nat_lit 2) (nat_lit 0)), (iv (nat_lit 0) (nat_lit 0)), (iv (nat_lit 0) (nat_lit 0)), (iv (nat_lit 3) (nat_lit 0)), (.ref (nat_lit 126)), (Value.bool Bool.true), (iv (nat_lit 181) (nat_lit 0)), (.ref (nat_lit 127)), .none, (.ref (nat_lit 128)), (.ref (nat_lit 129)), (.ref (nat_lit 130)), (iv (nat_lit 341) (nat_lit 0)), (iv (nat_lit 45) (nat_lit 0)), (sv "/claim/cut.py" (nat_lit 342))])) (Array.mk []))
noncomputable def h129 (P : Params) : Obj := (Obj.mk (.type "function") none (Data.func (FuncData.mk (Str.ofString "last_of") (Str.ofString "View.last_of") (parsOf (stIn 13 6)) (FuncBody.stmts (bodyOf (stIn 13 6))) (scopeOf (stIn 13 6)) (nat_lit 3) [] .none .none .none (sv "termcore.selection" (nat_lit 274)) none (.ref (nat_lit 131)) .none (nat_lit 0))) (Array.mk []))
noncomputable def h130 (P : Params) : Obj := (Obj.mk (.type "tuple") none (.seq (.mk [(sv "grid" (nat_lit 344)), (sv "history" (nat_lit 345))]) (nat_lit 0)) (Array.mk []))
noncomputable def h131 (P : Params) : Obj := (Obj.mk (.type "dict") none (Data.dict (Array.mk [(de P "__module__" (nat_lit 283) (sv "termcore.selection" (nat_lit 274))), (de P "__firstlineno__" (nat_lit 287) (iv (nat_lit 23) (nat_lit 286))), (de P "__init__" (nat_lit 296) (.ref (nat_lit 90))), (de P "above" (nat_lit 303) (.ref (nat_lit 97))), (de P "rows" (nat_lit 310) (.ref (nat_lit 104))), (de P "line" (nat_lit 319) (.ref (nat_lit 111))), (de P "is_joined" (nat_lit 327) (.ref (nat_lit 118))), (de P "first_of" (nat_lit 335) (.ref (nat_lit 125))), (de P "last_of" (nat_lit 343) (.ref (nat_lit 132))), (de P "__static_attributes__" (nat_lit 346) (.ref (nat_lit 133))), (de P "__dict__" (nat_lit 348) (.ref (nat_lit 136))), (de P "__weakref__" (nat_lit 350) (.ref (nat_lit 137))), (de P "__doc__" (nat_lit 351) .none)]) (nat_lit 4)) (Array.mk []))
noncomputable def h132 (P : Params) : Obj := (Obj.mk (.type "type") none (Data.cls (ClassData.mk (Str.ofString "View") [(.type "object")] [(.ref (nat_lit 135)), (.type "object")] (nat_lit 134) (Str.ofString "View") Bool.true [] [] Bool.false none Bool.false)) (Array.mk [none, none, (some (sv "View" (nat_lit 276))), (some (sv "View" (nat_lit 284))), (some (Value.builtin "object.__new__")), (some (Value.bool Bool.true))]))
noncomputable def h133 (P : Params) : Obj := (Obj.mk (.type "getset_descriptor") none (.fields (.mk [(sv "__dict__" (nat_lit 347)), (.ref (nat_lit 135)), (Value.builtin "function.__dict__"), (Value.builtin "function.__dict__#set")])) (Array.mk []))
noncomputable def h134 (P : Params) : Obj := (Obj.mk (.type "getset_descriptor") none (.fields (.mk [(sv "__weakref__" (nat_lit 349)), (.ref (nat_lit 135)), (Value.builtin "ExceptionGroup.__weakref__"), .none])) (Array.mk []))
noncomputable def h135 (P : Params) : Obj := (Obj.mk (.type "super") none (.fields (.mk [(.ref (nat_lit 135)), (.ref (nat_lit 135)), (.ref (nat_lit 135))])) (Array.mk []))
noncomputable def h136 (P : Params) : Obj := (Obj.mk (.type "builtin_function_or_method") none (.fields (.mk [(Value.builtin "object.__init_subclass__"), (.ref (nat_lit 135))])) (Array.mk []))
noncomputable def t2 (P : Params) : BT := (.node (boot_o_0 P) (.node (boot_o_1 P) (.node (h72 P) (.node (boot_o_7 P) (.node (h7 P) (.node (h23 P) (.node (h58 P) (.node (h124 P) .nil .nil) .nil) (.node (h92 P) .nil .nil)) (.node (h42 P) (.node (h76 P) .nil .nil) (.node (h108 P) .nil .nil))) (.node (h15 P) (.node (h31 P) (.node (h66 P) (.node (h132 P) .nil .nil) .nil) (.node (h100 P) .nil .nil)) (.node (h50 P) (.node (h84 P) .nil .nil) (.node (h116 P) .nil .nil)))) (.node (h0 P) (.node (h11 P) (.node (h27 P) (.node (h62 P) (.node (h128 P) .nil .nil) .nil) (.node (h96 P) .nil .nil)) (.node (h46 P) (.node (h80 P) .nil .nil) (.node (h112 P) .nil .nil))) (.node (h19 P) (.node (h35 P) (.node (h70 P) (.node (h136 P) .nil .nil) .nil) (.node (h104 P) .nil .nil)) (.node (h54 P) (.node (h88 P) .nil .nil) (.node (h120 P) .nil .nil))))) (.node (boot_o_5 P) (.node (boot_o_9 P) (.node (h9 P) (.node (h25 P) (.node (h60 P) (.node (h126 P) .nil .nil) .nil) (.node (h94 P) .nil .nil)) (.node (h44 P) (.node (h78 P) .nil .nil) (.node (h110 P) .nil .nil))) (.node (h17 P) (.node (h33 P) (.node (h68 P) (.node (h134 P) .nil .nil) .nil) (.node (h102 P) .nil .nil)) (.node (h52 P) (.node (h86 P) .nil .nil) (.node (h118 P) .nil .nil)))) (.node (h2 P) (.node (h13 P) (.node (h29 P) (.node (h64 P) (.node (h130 P) .nil .nil) .nil) (.node (h98 P) .nil .nil)) (.node (h48 P) (.node (h82 P) .nil .nil) (.node (h114 P) .nil .nil))) (.node (h21 P) (.node (h40 P) (.node (h74 P) .nil .nil) (.node (h106 P) .nil .nil)) (.node (h56 P) (.node (h90 P) .nil .nil) (.node (h122 P) .nil .nil)))))) (.node (h4 P) (.node (boot_o_4 P) (.node (boot_o_8 P) (.node (h8 P) (.node (h24 P) (.node (h59 P) (.node (h125 P) .nil .nil) .nil) (.node (h93 P) .nil .nil)) (.node (h43 P) (.node (h77 P) .nil .nil) (.node (h109 P) .nil .nil))) (.node (h16 P) (.node (h38 P) (.node (h67 P) (.node (h133 P) .nil .nil) .nil) (.node (h101 P) .nil .nil)) (.node (h51 P) (.node (h85 P) .nil .nil) (.node (h117 P) .nil .nil)))) (.node (h73 P) (.node (h12 P) (.node (h28 P) (.node (h63 P) (.node (h129 P) .nil .nil) .nil) (.node (h97 P) .nil .nil)) (.node (h47 P) (.node (h81 P) .nil .nil) (.node (h113 P) .nil .nil))) (.node (h20 P) (.node (h39 P) (.node (h71 P) .nil .nil) (.node (h105 P) .nil .nil)) (.node (h55 P) (.node (h89 P) .nil .nil) (.node (h121 P) .nil .nil))))) (.node (boot_o_6 P) (.node (boot_o_10 P) (.node (h10 P) (.node (h26 P) (.node (h61 P) (.node (h127 P) .nil .nil) .nil) (.node (h95 P) .nil .nil)) (.node (h45 P) (.node (h79 P) .nil .nil) (.node (h111 P) .nil .nil))) (.node (h18 P) (.node (h34 P) (.node (h69 P) (.node (h135 P) .nil .nil) .nil) (.node (h103 P) .nil .nil)) (.node (h53 P) (.node (h87 P) .nil .nil) (.node (h119 P) .nil .nil)))) (.node (h3 P) (.node (h14 P) (.node (h30 P) (.node (h65 P) (.node (h131 P) .nil .nil) .nil) (.node (h99 P) .nil .nil)) (.node (h49 P) (.node (h83 P) .nil .nil) (.node (h115 P) .nil .nil))) (.node (h22 P) (.node (h41 P) (.node (h75 P) .nil .nil) (.node (h107 P) .nil .nil)) (.node (h57 P) (.node (h91 P) .nil .nil) (.node (h123 P) .nil .nil)))))))
noncomputable def s2 (w : World) (os : OsState) : SharedT := SharedT.mk (t2 w.params) (nat_lit 140) (Life.mk [] [] [] (nat_lit 0) [] [] Bool.false (Array.mk []) [] (nat_lit 0) Bool.false Bool.false Bool.false (Int.ofNat (nat_lit 0)) [(Int.ofNat (nat_lit 2000)), (Int.ofNat (nat_lit 10)), (Int.ofNat (nat_lit 10))] Bool.false (nat_lit 0) Bool.true [] [] (nat_lit 0) Bool.false) (Array.mk []) (Drawn.mk (nat_lit 0) (nat_lit 0) (nat_lit 0) (nat_lit 0)) (nat_lit 354) os
noncomputable def pos2 : Pos := (Pos.mk (nat_lit 23) (nat_lit 0) (nat_lit 46) (nat_lit 16))
noncomputable def l2 : List Stmt := [stAt 13]
noncomputable def h137 (P : Params) : Obj := (Obj.mk (.type "dict") none (Data.dict (Array.mk [(de P "__name__" (nat_lit 165) (sv "termcore.lines" (nat_lit 479))), (de P "__doc__" (nat_lit 166) .none), (de P "__package__" (nat_lit 167) .none), (de P "__loader__" (nat_lit 168) (Value.builtin "__main__.__loader__#opaque")), (de P "__spec__" (nat_lit 169) .none), (de P "__annotations__" (nat_lit 170) (.ref (nat_lit 6))), (de P "__builtins__" (nat_lit 171) (.ref (nat_lit 4))), (de P "__file__" (nat_lit 173) (sv "/claim/cut.py" (nat_lit 172))), (de P "__cached__" (nat_lit 174) .none), (de P "_wall" (nat_lit 193) (.ref (nat_lit 21))), (de P "NO_COLOUR" (nat_lit 198) (Value.int (Int.negSucc (nat_lit 0)) (nat_lit 197))), (de P "PLAIN" (nat_lit 201) (.ref (nat_lit 22))), (de P "BACK" (nat_lit 203) (iv (nat_lit 2) (nat_lit 202))), (de P "LINE_FEED" (nat_lit 205) (iv (nat_lit 10) (nat_lit 204))), (de P "BLANK" (nat_lit 207) (iv (nat_lit 32) (nat_lit 206))), (de P "TermError" (nat_lit 236) (.ref (nat_lit 40))), (de P "BadSize" (nat_lit 252) (.ref (nat_lit 53))), (de P "erased_pen" (nat_lit 259) (.ref (nat_lit 62))), (de P "blank_cell" (nat_lit 266) (.ref (nat_lit 69))), (de P "is_blank" (nat_lit 273) (.ref (nat_lit 76))), (de P "View" (nat_lit 353) (.ref (nat_lit 135))), (de P "view_width" (nat_lit 365) (.ref (nat_lit 146))), (de P "cell_codes" (nat_lit 372) (.ref (nat_lit 153))), (de P "view_codes" (nat_lit 378) (.ref (nat_lit 158))), (de P "OPENERS" (nat_lit 382) (Value.bytes (Array.mk [(40 : UInt8), (91 : UInt8), (123 : UInt8)]) (nat_lit 381))), (de P "CLOSERS" (nat_lit 384) (Value.bytes (Array.mk [(41 : UInt8), (93 : UInt8), (125 : UInt8)]) (nat_lit 383))), (de P "copy_signs" (nat_lit 395) (.ref (nat_lit 165))), (de P "copy_index" (nat_lit 406) (.ref (nat_lit 172))), (de P "copy_sort" (nat_lit 414) (.ref (nat_lit 179))), (de P "next_word" (nat_lit 426) (.ref (nat_lit 186))), (de P "next_word_end" (nat_lit 437) (.ref (nat_lit 193))), (de P "previous_word" (nat_lit 448) (.ref (nat_lit 200))), (de P "matching_bracket" (nat_lit 463) (.ref (nat_lit 207))), (de P "jump_place" (nat_lit 478) (.ref (nat_lit 214))), (de P "LINE_SIZES" (nat_lit 485) (.ref (nat_lit 215)))]) (nat_lit 35)) (Array.mk []))
noncomputable def h138 (P : Params) : Obj := (Obj.mk .none none (.fields (.mk [(iv (nat_lit 1) (nat_lit 0)), (iv (nat_lit 0) (nat_lit 0)), (.ref (nat_lit 20)), (iv (nat_lit 10) (nat_lit 0)), (iv (nat_lit 0) (nat_lit 0)), (.ref (nat_lit 28)), (iv (nat_lit 14) (nat_lit 0)), (iv (nat_lit 0) (nat_lit 0)), (.ref (nat_lit 49)), (iv (nat_lit 16) (nat_lit 0)), (iv (nat_lit 0) (nat_lit 0)), (.ref (nat_lit 61)), (iv (nat_lit 18) (nat_lit 0)), (iv (nat_lit 0) (nat_lit 0)), (.ref (nat_lit 68)), (iv (nat_lit 20) (nat_lit 0)), (iv (nat_lit 0) (nat_lit 0)), (.ref (nat_lit 75)), (iv (nat_lit 23) (nat_lit 0)), (iv (nat_lit 0) (nat_lit 0)), (.ref (nat_lit 82)), (iv (nat_lit 47) (nat_lit 0)), (iv (nat_lit 0) (nat_lit 0)), (.ref (nat_lit 145)), (iv (nat_lit 57) (nat_lit 0)), (iv (nat_lit 0) (nat_lit 0)), (.ref (nat_lit 152)), (iv (nat_lit 61) (nat_lit 0)), (iv (nat_lit 0) (nat_lit 0)), (.ref (nat_lit 157)), (iv (nat_lit 73) (nat_lit 0)), (iv (nat_lit 0) (nat_lit 0)), (.ref (nat_lit 164)), (iv (nat_lit 79) (nat_lit 0)), (iv (nat_lit 0) (nat_lit 0)), (.ref (nat_lit 171)), (iv (nat_lit 88) (nat_lit 0)), (iv (nat_lit 0) (nat_lit 0)), (.ref (nat_lit 178)), (iv (nat_lit 92) (nat_lit 0)), (iv (nat_lit 0) (nat_lit 0)), (.ref (nat_lit 185)), (iv (nat_lit 101) (nat_lit 0)), (iv (nat_lit 0) (nat_lit 0)), (.ref (nat_lit 192)), (iv (nat_lit 109) (nat_lit 0)), (iv (nat_lit 0) (nat_lit 0)), (.ref (nat_lit 199)), (iv (nat_lit 118) (nat_lit 0)), (iv (nat_lit 0) (nat_lit 0)), (.ref (nat_lit 206)), (iv (nat_lit 140) (nat_lit 0)), (iv (nat_lit 0) (nat_lit 0)), (.ref (nat_lit 213))])) (Array.mk []))
noncomputable def h139 (P : Params) : Obj := (Obj.mk (.type "tuple") none (.seq (.mk []) (nat_lit 0)) (Array.mk []))
noncomputable def h140 (P : Params) : Obj := (Obj.mk .none none (.fields (.mk [])) (Array.mk []))
noncomputable def h141 (P : Params) : Obj := (Obj.mk (.type "tuple") none (.seq (.mk [(sv "view" (nat_lit 357)), (sv "row" (nat_lit 358)), (sv "cells" (nat_lit 359)), (sv "behind" (nat_lit 360)), (sv "is_free" (nat_lit 361)), (sv "last" (nat_lit 362))]) (nat_lit 0)) (Array.mk []))
noncomputable def h142 (P : Params) : Obj := (Obj.mk (.type "tuple") none (.seq (.mk []) (nat_lit 0)) (Array.mk []))
noncomputable def h143 (P : Params) : Obj := (Obj.mk .none none (Data.func (FuncData.mk (Str.ofString "view_width") (Str.ofString "view_width") (parsOf (stAt 14)) (FuncBody.stmts (bodyOf (stAt 14))) (scopeOf (stAt 14)) (nat_lit 0) [] .none .none .none .none none .none .none (nat_lit 0))) (Array.mk []))
noncomputable def h144 (P : Params) : Obj := (Obj.mk (.type "code") none (.fields (.mk [(sv "view_width" (nat_lit 354)), (sv "view_width" (nat_lit 355)), (sv "/claim/cut.py" (nat_lit 356)), (iv (nat_lit 47) (nat_lit 0)), (iv (nat_lit 2) (nat_lit 0)), (iv (nat_lit 0) (nat_lit 0)), (iv (nat_lit 0) (nat_lit 0)), (iv (nat_lit 3) (nat_lit 0)), (.ref (nat_lit 140)), (Value.bool Bool.true), (iv (nat_lit 181) (nat_lit 0)), (.ref (nat_lit 141)), .none, (.ref (nat_lit 142)), (.ref (nat_lit 143)), (.ref (nat_lit 144)), (iv (nat_lit 363) (nat_lit 0)), (iv (nat_lit 47) (nat_lit 0)), (sv "/claim/cut.py" (nat_lit 364))])) (Array.mk []))
noncomputable def h145 (P : Params) : Obj := (Obj.mk (.type "function") none (Data.func (FuncData.mk (Str.ofString "view_width") (Str.ofString "view_width") (parsOf (stAt 14)) (FuncBody.stmts (bodyOf (stAt 14))) (scopeOf (stAt 14)) (nat_lit 3) [] .none .none .none (sv "termcore.selection" (nat_lit 274)) none (.ref (nat_lit 145)) .none (nat_lit 0))) (Array.mk []))
noncomputable def h146 (P : Params) : Obj := (Obj.mk (.type "tuple") none (.seq (.mk []) (nat_lit 0)) (Array.mk []))
noncomputable def h147 (P : Params) : Obj := (Obj.mk .none none (.fields (.mk [])) (Array.mk []))
noncomputable def h148 (P : Params) : Obj := (Obj.mk (.type "tuple") none (.seq (.mk [(sv "cell" (nat_lit 369))]) (nat_lit 0)) (Array.mk []))
noncomputable def h149 (P : Params) : Obj := (Obj.mk (.type "tuple") none (.seq (.mk []) (nat_lit 0)) (Array.mk []))
noncomputable def h150 (P : Params) : Obj := (Obj.mk .none none (Data.func (FuncData.mk (Str.ofString "cell_codes") (Str.ofString "cell_codes") (parsOf (stAt 15)) (FuncBody.stmts (bodyOf (stAt 15))) (scopeOf (stAt 15)) (nat_lit 0) [] .none .none .none .none none .none .none (nat_lit 0))) (Array.mk []))
noncomputable def h151 (P : Params) : Obj := (Obj.mk (.type "code") none (.fields (.mk [(sv "cell_codes" (nat_lit 366)), (sv "cell_codes" (nat_lit 367)), (sv "/claim/cut.py" (nat_lit 368)), (iv (nat_lit 57) (nat_lit 0)), (iv (nat_lit 1) (nat_lit 0)), (iv (nat_lit 0) (nat_lit 0)), (iv (nat_lit 0) (nat_lit 0)), (iv (nat_lit 3) (nat_lit 0)), (.ref (nat_lit 147)), (Value.bool Bool.true), (iv (nat_lit 181) (nat_lit 0)), (.ref (nat_lit 148)), .none, (.ref (nat_lit 149)), (.ref (nat_lit 150)), (.ref (nat_lit 151)), (iv (nat_lit 370) (nat_lit 0)), (iv (nat_lit 57) (nat_lit 0)), (sv "/claim/cut.py" (nat_lit 371))])) (Array.mk []))
noncomputable def h152 (P : Params) : Obj := (Obj.mk (.type "function") none (Data.func (FuncData.mk (Str.ofString "cell_codes") (Str.ofString "cell_codes") (parsOf (stAt 15)) (FuncBody.stmts (bodyOf (stAt 15))) (scopeOf (stAt 15)) (nat_lit 3) [] .none .none .none (sv "termcore.selection" (nat_lit 274)) none (.ref (nat_lit 152)) .none (nat_lit 0))) (Array.mk []))
noncomputable def h153 (P : Params) : Obj := (Obj.mk (.type "tuple") none (.seq (.mk []) (nat_lit 0)) (Array.mk []))
noncomputable def h154 (P : Params) : Obj := (Obj.mk .none none (.fields (.mk [])) (Array.mk []))
noncomputable def h155 (P : Params) : Obj := (Obj.mk .none none (Data.func (FuncData.mk (Str.ofString "view_codes") (Str.ofString "view_codes") (parsOf (stAt 16)) (FuncBody.stmts (bodyOf (stAt 16))) (scopeOf (stAt 16)) (nat_lit 0) [] .none .none .none .none none .none .none (nat_lit 0))) (Array.mk []))
noncomputable def h156 (P : Params) : Obj := (Obj.mk (.type "code") none (.fields (.mk [(sv "view_codes" (nat_lit 373)), (sv "view_codes" (nat_lit 374)), (sv "/claim/cut.py" (nat_lit 375)), (iv (nat_lit 61) (nat_lit 0)), (iv (nat_lit 1) (nat_lit 0)), (iv (nat_lit 0) (nat_lit 0)), (iv (nat_lit 0) (nat_lit 0)), (iv (nat_lit 3) (nat_lit 0)), (.ref (nat_lit 154)), (Value.bool Bool.true), (iv (nat_lit 181) (nat_lit 0)), (.ref (nat_lit 155)), .none, .none, .none, (.ref (nat_lit 156)), (iv (nat_lit 376) (nat_lit 0)), (iv (nat_lit 61) (nat_lit 0)), (sv "/claim/cut.py" (nat_lit 377))])) (Array.mk []))
noncomputable def h157 (P : Params) : Obj := (Obj.mk (.type "function") none (Data.func (FuncData.mk (Str.ofString "view_codes") (Str.ofString "view_codes") (parsOf (stAt 16)) (FuncBody.stmts (bodyOf (stAt 16))) (scopeOf (stAt 16)) (nat_lit 3) [] .none .none .none (sv "termcore.selection" (nat_lit 274)) none (.ref (nat_lit 157)) .none (nat_lit 0))) (Array.mk []))
noncomputable def h158 (P : Params) : Obj := (Obj.mk (.type "tuple") none (.seq (.mk []) (nat_lit 0)) (Array.mk []))
noncomputable def h159 (P : Params) : Obj := (Obj.mk .none none (.fields (.mk [])) (Array.mk []))
noncomputable def h160 (P : Params) : Obj := (Obj.mk (.type "tuple") none (.seq (.mk [(sv "view" (nat_lit 388)), (sv "found" (nat_lit 389)), (sv "code" (nat_lit 390)), (sv "row" (nat_lit 391)), (sv "column" (nat_lit 392))]) (nat_lit 0)) (Array.mk []))
noncomputable def h161 (P : Params) : Obj := (Obj.mk (.type "tuple") none (.seq (.mk []) (nat_lit 0)) (Array.mk []))
noncomputable def h162 (P : Params) : Obj := (Obj.mk .none none (Data.func (FuncData.mk (Str.ofString "copy_signs") (Str.ofString "copy_signs") (parsOf (stAt 20)) (FuncBody.stmts (bodyOf (stAt 20))) (scopeOf (stAt 20)) (nat_lit 0) [] .none .none .none .none none .none .none (nat_lit 0))) (Array.mk []))
noncomputable def h163 (P : Params) : Obj := (Obj.mk (.type "code") none (.fields (.mk [(sv "copy_signs" (nat_lit 385)), (sv "copy_signs" (nat_lit 386)), (sv "/claim/cut.py" (nat_lit 387)), (iv (nat_lit 73) (nat_lit 0)), (iv (nat_lit 1) (nat_lit 0)), (iv (nat_lit 0) (nat_lit 0)), (iv (nat_lit 0) (nat_lit 0)), (iv (nat_lit 3) (nat_lit 0)), (.ref (nat_lit 159)), (Value.bool Bool.true), (iv (nat_lit 181) (nat_lit 0)), (.ref (nat_lit 160)), .none, (.ref (nat_lit 161)), (.ref (nat_lit 162)), (.ref (nat_lit 163)), (iv (nat_lit 393) (nat_lit 0)), (iv (nat_lit 73) (nat_lit 0)), (sv "/claim/cut.py" (nat_lit 394))])) (Array.mk []))
noncomputable def h164 (P : Params) : Obj := (Obj.mk (.type "function") none (Data.func (FuncData.mk (Str.ofString "copy_signs") (Str.ofString "copy_signs") (parsOf (stAt 20)) (FuncBody.stmts (bodyOf (stAt 20))) (scopeOf (stAt 20)) (nat_lit 3) [] .none .none .none (sv "termcore.copymode" (nat_lit 379)) none (.ref (nat_lit 164)) .none (nat_lit 0))) (Array.mk []))
noncomputable def h165 (P : Params) : Obj := (Obj.mk (.type "tuple") none (.seq (.mk []) (nat_lit 0)) (Array.mk []))
noncomputable def h166 (P : Params) : Obj := (Obj.mk .none none (.fields (.mk [])) (Array.mk []))
noncomputable def h167 (P : Params) : Obj := (Obj.mk (.type "tuple") none (.seq (.mk [(sv "signs" (nat_lit 399)), (sv "place" (nat_lit 400)), (sv "low" (nat_lit 401)), (sv "high" (nat_lit 402)), (sv "middle" (nat_lit 403))]) (nat_lit 0)) (Array.mk []))
noncomputable def h168 (P : Params) : Obj := (Obj.mk (.type "tuple") none (.seq (.mk []) (nat_lit 0)) (Array.mk []))
noncomputable def h169 (P : Params) : Obj := (Obj.mk .none none (Data.func (FuncData.mk (Str.ofString "copy_index") (Str.ofString "copy_index") (parsOf (stAt 21)) (FuncBody.stmts (bodyOf (stAt 21))) (scopeOf (stAt 21)) (nat_lit 0) [] .none .none .none .none none .none .none (nat_lit 0))) (Array.mk []))
noncomputable def h170 (P : Params) : Obj := (Obj.mk (.type "code") none (.fields (.mk [(sv "copy_index" (nat_lit 396)), (sv "copy_index" (nat_lit 397)), (sv "/claim/cut.py" (nat_lit 398)), (iv (nat_lit 79) (nat_lit 0)), (iv (nat_lit 2) (nat_lit 0)), (iv (nat_lit 0) (nat_lit 0)), (iv (nat_lit 0) (nat_lit 0)), (iv (nat_lit 3) (nat_lit 0)), (.ref (nat_lit 166)), (Value.bool Bool.true), (iv (nat_lit 181) (nat_lit 0)), (.ref (nat_lit 167)), .none, (.ref (nat_lit 168)), (.ref (nat_lit 169)), (.ref (nat_lit 170)), (iv (nat_lit 404) (nat_lit 0)), (iv (nat_lit 79) (nat_lit 0)), (sv "/claim/cut.py" (nat_lit 405))])) (Array.mk []))
noncomputable def h171 (P : Params) : Obj := (Obj.mk (.type "function") none (Data.func (FuncData.mk (Str.ofString "copy_index") (Str.ofString "copy_index") (parsOf (stAt 21)) (FuncBody.stmts (bodyOf (stAt 21))) (scopeOf (stAt 21)) (nat_lit 3) [] .none .none .none (sv "termcore.copymode" (nat_lit 379)) none (.ref (nat_lit 171)) .none (nat_lit 0))) (Array.mk []))
noncomputable def h172 (P : Params) : Obj := (Obj.mk (.type "tuple") none (.seq (.mk []) (nat_lit 0)) (Array.mk []))
noncomputable def h173 (P : Params) : Obj := (Obj.mk .none none (.fields (.mk [])) (Array.mk []))
noncomputable def h174 (P : Params) : Obj := (Obj.mk (.type "tuple") none (.seq (.mk [(sv "code" (nat_lit 410)), (sv "separators" (nat_lit 411))]) (nat_lit 0)) (Array.mk []))
noncomputable def h175 (P : Params) : Obj := (Obj.mk (.type "tuple") none (.seq (.mk []) (nat_lit 0)) (Array.mk []))
noncomputable def h176 (P : Params) : Obj := (Obj.mk .none none (Data.func (FuncData.mk (Str.ofString "copy_sort") (Str.ofString "copy_sort") (parsOf (stAt 22)) (FuncBody.stmts (bodyOf (stAt 22))) (scopeOf (stAt 22)) (nat_lit 0) [] .none .none .none .none none .none .none (nat_lit 0))) (Array.mk []))
noncomputable def h177 (P : Params) : Obj := (Obj.mk (.type "code") none (.fields (.mk [(sv "copy_sort" (nat_lit 407)), (sv "copy_sort" (nat_lit 408)), (sv "/claim/cut.py" (nat_lit 409)), (iv (nat_lit 88) (nat_lit 0)), (iv (nat_lit 2) (nat_lit 0)), (iv (nat_lit 0) (nat_lit 0)), (iv (nat_lit 0) (nat_lit 0)), (iv (nat_lit 3) (nat_lit 0)), (.ref (nat_lit 173)), (Value.bool Bool.true), (iv (nat_lit 181) (nat_lit 0)), (.ref (nat_lit 174)), .none, (.ref (nat_lit 175)), (.ref (nat_lit 176)), (.ref (nat_lit 177)), (iv (nat_lit 412) (nat_lit 0)), (iv (nat_lit 88) (nat_lit 0)), (sv "/claim/cut.py" (nat_lit 413))])) (Array.mk []))
noncomputable def h178 (P : Params) : Obj := (Obj.mk (.type "function") none (Data.func (FuncData.mk (Str.ofString "copy_sort") (Str.ofString "copy_sort") (parsOf (stAt 22)) (FuncBody.stmts (bodyOf (stAt 22))) (scopeOf (stAt 22)) (nat_lit 3) [] .none .none .none (sv "termcore.copymode" (nat_lit 379)) none (.ref (nat_lit 178)) .none (nat_lit 0))) (Array.mk []))
noncomputable def h179 (P : Params) : Obj := (Obj.mk (.type "tuple") none (.seq (.mk []) (nat_lit 0)) (Array.mk []))
noncomputable def h180 (P : Params) : Obj := (Obj.mk .none none (.fields (.mk [])) (Array.mk []))
noncomputable def h181 (P : Params) : Obj := (Obj.mk (.type "tuple") none (.seq (.mk [(sv "view" (nat_lit 418)), (sv "place" (nat_lit 419)), (sv "separators" (nat_lit 420)), (sv "signs" (nat_lit 421)), (sv "at" (nat_lit 422)), (sv "sort" (nat_lit 423))]) (nat_lit 0)) (Array.mk []))
noncomputable def h182 (P : Params) : Obj := (Obj.mk (.type "tuple") none (.seq (.mk []) (nat_lit 0)) (Array.mk []))
noncomputable def h183 (P : Params) : Obj := (Obj.mk .none none (Data.func (FuncData.mk (Str.ofString "next_word") (Str.ofString "next_word") (parsOf (stAt 23)) (FuncBody.stmts (bodyOf (stAt 23))) (scopeOf (stAt 23)) (nat_lit 0) [] .none .none .none .none none .none .none (nat_lit 0))) (Array.mk []))
noncomputable def h184 (P : Params) : Obj := (Obj.mk (.type "code") none (.fields (.mk [(sv "next_word" (nat_lit 415)), (sv "next_word" (nat_lit 416)), (sv "/claim/cut.py" (nat_lit 417)), (iv (nat_lit 92) (nat_lit 0)), (iv (nat_lit 3) (nat_lit 0)), (iv (nat_lit 0) (nat_lit 0)), (iv (nat_lit 0) (nat_lit 0)), (iv (nat_lit 3) (nat_lit 0)), (.ref (nat_lit 180)), (Value.bool Bool.true), (iv (nat_lit 181) (nat_lit 0)), (.ref (nat_lit 181)), .none, (.ref (nat_lit 182)), (.ref (nat_lit 183)), (.ref (nat_lit 184)), (iv (nat_lit 424) (nat_lit 0)), (iv (nat_lit 92) (nat_lit 0)), (sv "/claim/cut.py" (nat_lit 425))])) (Array.mk []))
noncomputable def h185 (P : Params) : Obj := (Obj.mk (.type "function") none (Data.func (FuncData.mk (Str.ofString "next_word") (Str.ofString "next_word") (parsOf (stAt 23)) (FuncBody.stmts (bodyOf (stAt 23))) (scopeOf (stAt 23)) (nat_lit 3) [] .none .none .none (sv "termcore.copymode" (nat_lit 379)) none (.ref (nat_lit 185)) .none (nat_lit 0))) (Array.mk []))
noncomputable def h186 (P : Params) : Obj := (Obj.mk (.type "tuple") none (.seq (.mk []) (nat_lit 0)) (Array.mk []))
noncomputable def h187 (P : Params) : Obj := (Obj.mk .none none (.fields (.mk [])) (Array.mk []))
noncomputable def h188 (P : Params) : Obj := (Obj.mk (.type "tuple") none (.seq (.mk [(sv "view" (nat_lit 430)), (sv "place" (nat_lit 431)), (sv "separators" (nat_lit 432)), (sv "signs" (nat_lit 433)), (sv "at" (nat_lit 434))]) (nat_lit 0)) (Array.mk []))
noncomputable def h189 (P : Params) : Obj := (Obj.mk (.type "tuple") none (.seq (.mk []) (nat_lit 0)) (Array.mk []))
noncomputable def h190 (P : Params) : Obj := (Obj.mk .none none (Data.func (FuncData.mk (Str.ofString "next_word_end") (Str.ofString "next_word_end") (parsOf (stAt 24)) (FuncBody.stmts (bodyOf (stAt 24))) (scopeOf (stAt 24)) (nat_lit 0) [] .none .none .none .none none .none .none (nat_lit 0))) (Array.mk []))
noncomputable def h191 (P : Params) : Obj := (Obj.mk (.type "code") none (.fields (.mk [(sv "next_word_end" (nat_lit 427)), (sv "next_word_end" (nat_lit 428)), (sv "/claim/cut.py" (nat_lit 429)), (iv (nat_lit 101) (nat_lit 0)), (iv (nat_lit 3) (nat_lit 0)), (iv (nat_lit 0) (nat_lit 0)), (iv (nat_lit 0) (nat_lit 0)), (iv (nat_lit 3) (nat_lit 0)), (.ref (nat_lit 187)), (Value.bool Bool.true), (iv (nat_lit 181) (nat_lit 0)), (.ref (nat_lit 188)), .none, (.ref (nat_lit 189)), (.ref (nat_lit 190)), (.ref (nat_lit 191)), (iv (nat_lit 435) (nat_lit 0)), (iv (nat_lit 101) (nat_lit 0)), (sv "/claim/cut.py" (nat_lit 436))])) (Array.mk []))
noncomputable def h192 (P : Params) : Obj := (Obj.mk (.type "function") none (Data.func (FuncData.mk (Str.ofString "next_word_end") (Str.ofString "next_word_end") (parsOf (stAt 24)) (FuncBody.stmts (bodyOf (stAt 24))) (scopeOf (stAt 24)) (nat_lit 3) [] .none .none .none (sv "termcore.copymode" (nat_lit 379)) none (.ref (nat_lit 192)) .none (nat_lit 0))) (Array.mk []))
noncomputable def h193 (P : Params) : Obj := (Obj.mk (.type "tuple") none (.seq (.mk []) (nat_lit 0)) (Array.mk []))
noncomputable def h194 (P : Params) : Obj := (Obj.mk .none none (.fields (.mk [])) (Array.mk []))
noncomputable def h195 (P : Params) : Obj := (Obj.mk (.type "tuple") none (.seq (.mk [(sv "view" (nat_lit 441)), (sv "place" (nat_lit 442)), (sv "separators" (nat_lit 443)), (sv "signs" (nat_lit 444)), (sv "at" (nat_lit 445))]) (nat_lit 0)) (Array.mk []))
noncomputable def h196 (P : Params) : Obj := (Obj.mk (.type "tuple") none (.seq (.mk []) (nat_lit 0)) (Array.mk []))
noncomputable def h197 (P : Params) : Obj := (Obj.mk .none none (Data.func (FuncData.mk (Str.ofString "previous_word") (Str.ofString "previous_word") (parsOf (stAt 25)) (FuncBody.stmts (bodyOf (stAt 25))) (scopeOf (stAt 25)) (nat_lit 0) [] .none .none .none .none none .none .none (nat_lit 0))) (Array.mk []))
noncomputable def h198 (P : Params) : Obj := (Obj.mk (.type "code") none (.fields (.mk [(sv "previous_word" (nat_lit 438)), (sv "previous_word" (nat_lit 439)), (sv "/claim/cut.py" (nat_lit 440)), (iv (nat_lit 109) (nat_lit 0)), (iv (nat_lit 3) (nat_lit 0)), (iv (nat_lit 0) (nat_lit 0)), (iv (nat_lit 0) (nat_lit 0)), (iv (nat_lit 3) (nat_lit 0)), (.ref (nat_lit 194)), (Value.bool Bool.true), (iv (nat_lit 181) (nat_lit 0)), (.ref (nat_lit 195)), .none, (.ref (nat_lit 196)), (.ref (nat_lit 197)), (.ref (nat_lit 198)), (iv (nat_lit 446) (nat_lit 0)), (iv (nat_lit 109) (nat_lit 0)), (sv "/claim/cut.py" (nat_lit 447))])) (Array.mk []))
noncomputable def h199 (P : Params) : Obj := (Obj.mk (.type "function") none (Data.func (FuncData.mk (Str.ofString "previous_word") (Str.ofString "previous_word") (parsOf (stAt 25)) (FuncBody.stmts (bodyOf (stAt 25))) (scopeOf (stAt 25)) (nat_lit 3) [] .none .none .none (sv "termcore.copymode" (nat_lit 379)) none (.ref (nat_lit 199)) .none (nat_lit 0))) (Array.mk []))
noncomputable def h200 (P : Params) : Obj := (Obj.mk (.type "tuple") none (.seq (.mk []) (nat_lit 0)) (Array.mk []))
noncomputable def h201 (P : Params) : Obj := (Obj.mk .none none (.fields (.mk [])) (Array.mk []))
noncomputable def h202 (P : Params) : Obj := (Obj.mk (.type "tuple") none (.seq (.mk [(sv "view" (nat_lit 452)), (sv "place" (nat_lit 453)), (sv "signs" (nat_lit 454)), (sv "at" (nat_lit 455)), (sv "code" (nat_lit 456)), (sv "is_open" (nat_lit 457)), (sv "mate" (nat_lit 458)), (sv "step" (nat_lit 459)), (sv "depth" (nat_lit 460))]) (nat_lit 0)) (Array.mk []))
noncomputable def h203 (P : Params) : Obj := (Obj.mk (.type "tuple") none (.seq (.mk []) (nat_lit 0)) (Array.mk []))
noncomputable def h204 (P : Params) : Obj := (Obj.mk .none none (Data.func (FuncData.mk (Str.ofString "matching_bracket") (Str.ofString "matching_bracket") (parsOf (stAt 26)) (FuncBody.stmts (bodyOf (stAt 26))) (scopeOf (stAt 26)) (nat_lit 0) [] .none .none .none .none none .none .none (nat_lit 0))) (Array.mk []))
noncomputable def h205 (P : Params) : Obj := (Obj.mk (.type "code") none (.fields (.mk [(sv "matching_bracket" (nat_lit 449)), (sv "matching_bracket" (nat_lit 450)), (sv "/claim/cut.py" (nat_lit 451)), (iv (nat_lit 118) (nat_lit 0)), (iv (nat_lit 2) (nat_lit 0)), (iv (nat_lit 0) (nat_lit 0)), (iv (nat_lit 0) (nat_lit 0)), (iv (nat_lit 3) (nat_lit 0)), (.ref (nat_lit 201)), (Value.bool Bool.true), (iv (nat_lit 181) (nat_lit 0)), (.ref (nat_lit 202)), .none, (.ref (nat_lit 203)), (.ref (nat_lit 204)), (.ref (nat_lit 205)), (iv (nat_lit 461) (nat_lit 0)), (iv (nat_lit 118) (nat_lit 0)), (sv "/claim/cut.py" (nat_lit 462))])) (Array.mk []))
noncomputable def h206 (P : Params) : Obj := (Obj.mk (.type "function") none (Data.func (FuncData.mk (Str.ofString "matching_bracket") (Str.ofString "matching_bracket") (parsOf (stAt 26)) (FuncBody.stmts (bodyOf (stAt 26))) (scopeOf (stAt 26)) (nat_lit 3) [] .none .none .none (sv "termcore.copymode" (nat_lit 379)) none (.ref (nat_lit 206)) .none (nat_lit 0))) (Array.mk []))
noncomputable def h207 (P : Params) : Obj := (Obj.mk (.type "tuple") none (.seq (.mk []) (nat_lit 0)) (Array.mk []))
noncomputable def h208 (P : Params) : Obj := (Obj.mk .none none (.fields (.mk [])) (Array.mk []))
noncomputable def h209 (P : Params) : Obj := (Obj.mk (.type "tuple") none (.seq (.mk [(sv "view" (nat_lit 467)), (sv "place" (nat_lit 468)), (sv "jumped" (nat_lit 469)), (sv "code" (nat_lit 470)), (sv "is_back" (nat_lit 471)), (sv "is_near" (nat_lit 472)), (sv "signs" (nat_lit 473)), (sv "step" (nat_lit 474)), (sv "at" (nat_lit 475))]) (nat_lit 0)) (Array.mk []))
noncomputable def h210 (P : Params) : Obj := (Obj.mk (.type "tuple") none (.seq (.mk []) (nat_lit 0)) (Array.mk []))
noncomputable def h211 (P : Params) : Obj := (Obj.mk .none none (Data.func (FuncData.mk (Str.ofString "jump_place") (Str.ofString "jump_place") (parsOf (stAt 27)) (FuncBody.stmts (bodyOf (stAt 27))) (scopeOf (stAt 27)) (nat_lit 0) [] .none .none .none .none none .none .none (nat_lit 0))) (Array.mk []))
noncomputable def h212 (P : Params) : Obj := (Obj.mk (.type "code") none (.fields (.mk [(sv "jump_place" (nat_lit 464)), (sv "jump_place" (nat_lit 465)), (sv "/claim/cut.py" (nat_lit 466)), (iv (nat_lit 140) (nat_lit 0)), (iv (nat_lit 3) (nat_lit 0)), (iv (nat_lit 0) (nat_lit 0)), (iv (nat_lit 0) (nat_lit 0)), (iv (nat_lit 3) (nat_lit 0)), (.ref (nat_lit 208)), (Value.bool Bool.true), (iv (nat_lit 181) (nat_lit 0)), (.ref (nat_lit 209)), .none, (.ref (nat_lit 210)), (.ref (nat_lit 211)), (.ref (nat_lit 212)), (iv (nat_lit 476) (nat_lit 0)), (iv (nat_lit 140) (nat_lit 0)), (sv "/claim/cut.py" (nat_lit 477))])) (Array.mk []))
noncomputable def h213 (P : Params) : Obj := (Obj.mk (.type "function") none (Data.func (FuncData.mk (Str.ofString "jump_place") (Str.ofString "jump_place") (parsOf (stAt 27)) (FuncBody.stmts (bodyOf (stAt 27))) (scopeOf (stAt 27)) (nat_lit 3) [] .none .none .none (sv "termcore.copymode" (nat_lit 379)) none (.ref (nat_lit 213)) .none (nat_lit 0))) (Array.mk []))
noncomputable def h214 (P : Params) : Obj := (Obj.mk (.type "tuple") none (.seq (.mk [(sv "single" (nat_lit 481)), (sv "wide" (nat_lit 482)), (sv "top" (nat_lit 483)), (sv "bottom" (nat_lit 484))]) (nat_lit 0)) (Array.mk []))
noncomputable def t3 (P : Params) : BT := (.node (boot_o_0 P) (.node (boot_o_1 P) (.node (h137 P) (.node (boot_o_7 P) (.node (h7 P) (.node (h23 P) (.node (h58 P) (.node (h124 P) .nil .nil) (.node (h190 P) .nil .nil)) (.node (h92 P) (.node (h158 P) .nil .nil) .nil)) (.node (h42 P) (.node (h76 P) (.node (h142 P) .nil .nil) (.node (h206 P) .nil .nil)) (.node (h108 P) (.node (h174 P) .nil .nil) .nil))) (.node (h15 P) (.node (h31 P) (.node (h66 P) (.node (h132 P) .nil .nil) (.node (h198 P) .nil .nil)) (.node (h100 P) (.node (h166 P) .nil .nil) .nil)) (.node (h50 P) (.node (h84 P) (.node (h150 P) .nil .nil) (.node (h214 P) .nil .nil)) (.node (h116 P) (.node (h182 P) .nil .nil) .nil)))) (.node (h0 P) (.node (h11 P) (.node (h27 P) (.node (h62 P) (.node (h128 P) .nil .nil) (.node (h194 P) .nil .nil)) (.node (h96 P) (.node (h162 P) .nil .nil) .nil)) (.node (h46 P) (.node (h80 P) (.node (h146 P) .nil .nil) (.node (h210 P) .nil .nil)) (.node (h112 P) (.node (h178 P) .nil .nil) .nil))) (.node (h19 P) (.node (h35 P) (.node (h70 P) (.node (h136 P) .nil .nil) (.node (h202 P) .nil .nil)) (.node (h104 P) (.node (h170 P) .nil .nil) .nil)) (.node (h54 P) (.node (h88 P) (.node (h154 P) .nil .nil) .nil) (.node (h120 P) (.node (h186 P) .nil .nil) .nil))))) (.node (boot_o_5 P) (.node (boot_o_9 P) (.node (h9 P) (.node (h25 P) (.node (h60 P) (.node (h126 P) .nil .nil) (.node (h192 P) .nil .nil)) (.node (h94 P) (.node (h160 P) .nil .nil) .nil)) (.node (h44 P) (.node (h78 P) (.node (h144 P) .nil .nil) (.node (h208 P) .nil .nil)) (.node (h110 P) (.node (h176 P) .nil .nil) .nil))) (.node (h17 P) (.node (h33 P) (.node (h68 P) (.node (h134 P) .nil .nil) (.node (h200 P) .nil .nil)) (.node (h102 P) (.node (h168 P) .nil .nil) .nil)) (.node (h52 P) (.node (h86 P) (.node (h152 P) .nil .nil) .nil) (.node (h118 P) (.node (h184 P) .nil .nil) .nil)))) (.node (h2 P) (.node (h13 P) (.node (h29 P) (.node (h64 P) (.node (h130 P) .nil .nil) (.node (h196 P) .nil .nil)) (.node (h98 P) (.node (h164 P) .nil .nil) .nil)) (.node (h48 P) (.node (h82 P) (.node (h148 P) .nil .nil) (.node (h212 P) .nil .nil)) (.node (h114 P) (.node (h180 P) .nil .nil) .nil))) (.node (h21 P) (.node (h40 P) (.node (h74 P) (.node (h140 P) .nil .nil) (.node (h204 P) .nil .nil)) (.node (h106 P) (.node (h172 P) .nil .nil) .nil)) (.node (h56 P) (.node (h90 P) (.node (h156 P) .nil .nil) .nil) (.node (h122 P) (.node (h188 P) .nil .nil) .nil)))))) (.node (h4 P) (.node (boot_o_4 P) (.node (boot_o_8 P) (.node (h8 P) (.node (h24 P) (.node (h59 P) (.node (h125 P) .nil .nil) (.node (h191 P) .nil .nil)) (.node (h93 P) (.node (h159 P) .nil .nil) .nil)) (.node (h43 P) (.node (h77 P) (.node (h143 P) .nil .nil) (.node (h207 P) .nil .nil)) (.node (h109 P) (.node (h175 P) .nil .nil) .nil))) (.node (h16 P) (.node (h38 P) (.node (h67 P) (.node (h133 P) .nil .nil) (.node (h199 P) .nil .nil)) (.node (h101 P) (.node (h167 P) .nil .nil) .nil)) (.node (h51 P) (.node (h85 P) (.node (h151 P) .nil .nil) .nil) (.node (h117 P) (.node (h183 P) .nil .nil) .nil)))) (.node (h138 P) (.node (h12 P) (.node (h28 P) (.node (h63 P) (.node (h129 P) .nil .nil) (.node (h195 P) .nil .nil)) (.node (h97 P) (.node (h163 P) .nil .nil) .nil)) (.node (h47 P) (.node (h81 P) (.node (h147 P) .nil .nil) (.node (h211 P) .nil .nil)) (.node (h113 P) (.node (h179 P) .nil .nil) .nil))) (.node (h20 P) (.node (h39 P) (.node (h71 P) (.node (h139 P) .nil .nil) (.node (h203 P) .nil .nil)) (.node (h105 P) (.node (h171 P) .nil .nil) .nil)) (.node (h55 P) (.node (h89 P) (.node (h155 P) .nil .nil) .nil) (.node (h121 P) (.node (h187 P) .nil .nil) .nil))))) (.node (boot_o_6 P) (.node (boot_o_10 P) (.node (h10 P) (.node (h26 P) (.node (h61 P) (.node (h127 P) .nil .nil) (.node (h193 P) .nil .nil)) (.node (h95 P) (.node (h161 P) .nil .nil) .nil)) (.node (h45 P) (.node (h79 P) (.node (h145 P) .nil .nil) (.node (h209 P) .nil .nil)) (.node (h111 P) (.node (h177 P) .nil .nil) .nil))) (.node (h18 P) (.node (h34 P) (.node (h69 P) (.node (h135 P) .nil .nil) (.node (h201 P) .nil .nil)) (.node (h103 P) (.node (h169 P) .nil .nil) .nil)) (.node (h53 P) (.node (h87 P) (.node (h153 P) .nil .nil) .nil) (.node (h119 P) (.node (h185 P) .nil .nil) .nil)))) (.node (h3 P) (.node (h14 P) (.node (h30 P) (.node (h65 P) (.node (h131 P) .nil .nil) (.node (h197 P) .nil .nil)) (.node (h99 P) (.node (h165 P) .nil .nil) .nil)) (.node (h49 P) (.node (h83 P) (.node (h149 P) .nil .nil) (.node (h213 P) .nil .nil)) (.node (h115 P) (.node (h181 P) .nil .nil) .nil))) (.node (h22 P) (.node (h41 P) (.node (h75 P) (.node (h141 P) .nil .nil) (.node (h205 P) .nil .nil)) (.node (h107 P) (.node (h173 P) .nil .nil) .nil)) (.node (h57 P) (.node (h91 P) (.node (h157 P) .nil .nil) .nil) (.node (h123 P) (.node (h189 P) .nil .nil) .nil)))))))
noncomputable def s3 (w : World) (os : OsState) : SharedT := SharedT.mk (t3 w.params) (nat_lit 216) (Life.mk [] [] [] (nat_lit 0) [] [] Bool.false (Array.mk []) [] (nat_lit 0) Bool.false Bool.false Bool.false (Int.ofNat (nat_lit 0)) [(Int.ofNat (nat_lit 2000)), (Int.ofNat (nat_lit 10)), (Int.ofNat (nat_lit 10))] Bool.false (nat_lit 0) Bool.true [] [] (nat_lit 0) Bool.false) (Array.mk []) (Drawn.mk (nat_lit 0) (nat_lit 0) (nat_lit 0) (nat_lit 0)) (nat_lit 486) os
noncomputable def pos3 : Pos := (Pos.mk (nat_lit 153) (nat_lit 0) (nat_lit 153) (nat_lit 10))
noncomputable def l3 : List Stmt := [stAt 14, stAt 15, stAt 16, stAt 17, stAt 18, stAt 19, stAt 20, stAt 21, stAt 22, stAt 23, stAt 24, stAt 25, stAt 26, stAt 27, stAt 28, stAt 29]
noncomputable def h215 (P : Params) : Obj := (Obj.mk (.type "dict") none (Data.dict (Array.mk [(de P "__name__" (nat_lit 165) (sv "termcore.lines" (nat_lit 479))), (de P "__doc__" (nat_lit 166) .none), (de P "__package__" (nat_lit 167) .none), (de P "__loader__" (nat_lit 168) (Value.builtin "__main__.__loader__#opaque")), (de P "__spec__" (nat_lit 169) .none), (de P "__annotations__" (nat_lit 170) (.ref (nat_lit 6))), (de P "__builtins__" (nat_lit 171) (.ref (nat_lit 4))), (de P "__file__" (nat_lit 173) (sv "/claim/cut.py" (nat_lit 172))), (de P "__cached__" (nat_lit 174) .none), (de P "_wall" (nat_lit 193) (.ref (nat_lit 21))), (de P "NO_COLOUR" (nat_lit 198) (Value.int (Int.negSucc (nat_lit 0)) (nat_lit 197))), (de P "PLAIN" (nat_lit 201) (.ref (nat_lit 22))), (de P "BACK" (nat_lit 203) (iv (nat_lit 2) (nat_lit 202))), (de P "LINE_FEED" (nat_lit 205) (iv (nat_lit 10) (nat_lit 204))), (de P "BLANK" (nat_lit 207) (iv (nat_lit 32) (nat_lit 206))), (de P "TermError" (nat_lit 236) (.ref (nat_lit 40))), (de P "BadSize" (nat_lit 252) (.ref (nat_lit 53))), (de P "erased_pen" (nat_lit 259) (.ref (nat_lit 62))), (de P "blank_cell" (nat_lit 266) (.ref (nat_lit 69))), (de P "is_blank" (nat_lit 273) (.ref (nat_lit 76))), (de P "View" (nat_lit 353) (.ref (nat_lit 135))), (de P "view_width" (nat_lit 365) (.ref (nat_lit 146))), (de P "cell_codes" (nat_lit 372) (.ref (nat_lit 153))), (de P "view_codes" (nat_lit 378) (.ref (nat_lit 158))), (de P "OPENERS" (nat_lit 382) (Value.bytes (Array.mk [(40 : UInt8), (91 : UInt8), (123 : UInt8)]) (nat_lit 381))), (de P "CLOSERS" (nat_lit 384) (Value.bytes (Array.mk [(41 : UInt8), (93 : UInt8), (125 : UInt8)]) (nat_lit 383))), (de P "copy_signs" (nat_lit 395) (.ref (nat_lit 165))), (de P "copy_index" (nat_lit 406) (.ref (nat_lit 172))), (de P "copy_sort" (nat_lit 414) (.ref (nat_lit 179))), (de P "next_word" (nat_lit 426) (.ref (nat_lit 186))), (de P "next_word_end" (nat_lit 437) (.ref (nat_lit 193))), (de P "previous_word" (nat_lit 448) (.ref (nat_lit 200))), (de P "matching_bracket" (nat_lit 463) (.ref (nat_lit 207))), (de P "jump_place" (nat_lit 478) (.ref (nat_lit 214))), (de P "LINE_SIZES" (nat_lit 485) (.ref (nat_lit 215))), (de P "line_blanks" (nat_lit 493) (.ref (nat_lit 222))), (de P "line_slice" (nat_lit 503) (.ref (nat_lit 229))), (de P "line_codes" (nat_lit 513) (.ref (nat_lit 236)))]) (nat_lit 38)) (Array.mk []))
noncomputable def h216 (P : Params) : Obj := (Obj.mk .none none (.fields (.mk [(iv (nat_lit 1) (nat_lit 0)), (iv (nat_lit 0) (nat_lit 0)), (.ref (nat_lit 20)), (iv (nat_lit 10) (nat_lit 0)), (iv (nat_lit 0) (nat_lit 0)), (.ref (nat_lit 28)), (iv (nat_lit 14) (nat_lit 0)), (iv (nat_lit 0) (nat_lit 0)), (.ref (nat_lit 49)), (iv (nat_lit 16) (nat_lit 0)), (iv (nat_lit 0) (nat_lit 0)), (.ref (nat_lit 61)), (iv (nat_lit 18) (nat_lit 0)), (iv (nat_lit 0) (nat_lit 0)), (.ref (nat_lit 68)), (iv (nat_lit 20) (nat_lit 0)), (iv (nat_lit 0) (nat_lit 0)), (.ref (nat_lit 75)), (iv (nat_lit 23) (nat_lit 0)), (iv (nat_lit 0) (nat_lit 0)), (.ref (nat_lit 82)), (iv (nat_lit 47) (nat_lit 0)), (iv (nat_lit 0) (nat_lit 0)), (.ref (nat_lit 145)), (iv (nat_lit 57) (nat_lit 0)), (iv (nat_lit 0) (nat_lit 0)), (.ref (nat_lit 152)), (iv (nat_lit 61) (nat_lit 0)), (iv (nat_lit 0) (nat_lit 0)), (.ref (nat_lit 157)), (iv (nat_lit 73) (nat_lit 0)), (iv (nat_lit 0) (nat_lit 0)), (.ref (nat_lit 164)), (iv (nat_lit 79) (nat_lit 0)), (iv (nat_lit 0) (nat_lit 0)), (.ref (nat_lit 171)), (iv (nat_lit 88) (nat_lit 0)), (iv (nat_lit 0) (nat_lit 0)), (.ref (nat_lit 178)), (iv (nat_lit 92) (nat_lit 0)), (iv (nat_lit 0) (nat_lit 0)), (.ref (nat_lit 185)), (iv (nat_lit 101) (nat_lit 0)), (iv (nat_lit 0) (nat_lit 0)), (.ref (nat_lit 192)), (iv (nat_lit 109) (nat_lit 0)), (iv (nat_lit 0) (nat_lit 0)), (.ref (nat_lit 199)), (iv (nat_lit 118) (nat_lit 0)), (iv (nat_lit 0) (nat_lit 0)), (.ref (nat_lit 206)), (iv (nat_lit 140) (nat_lit 0)), (iv (nat_lit 0) (nat_lit 0)), (.ref (nat_lit 213)), (iv (nat_lit 154) (nat_lit 0)), (iv (nat_lit 0) (nat_lit 0)), (.ref (nat_lit 221)), (iv (nat_lit 156) (nat_lit 0)), (iv (nat_lit 0) (nat_lit 0)), (.ref (nat_lit 228)), (iv (nat_lit 163) (nat_lit 0)), (iv (nat_lit 0) (nat_lit 0)), (.ref (nat_lit 235))])) (Array.mk []))
noncomputable def h217 (P : Params) : Obj := (Obj.mk (.type "tuple") none (.seq (.mk []) (nat_lit 0)) (Array.mk []))
noncomputable def h218 (P : Params) : Obj := (Obj.mk .none none (.fields (.mk [])) (Array.mk []))
noncomputable def h219 (P : Params) : Obj := (Obj.mk (.type "tuple") none (.seq (.mk [(sv "many" (nat_lit 489)), (sv "pen" (nat_lit 490))]) (nat_lit 0)) (Array.mk []))
noncomputable def h220 (P : Params) : Obj := (Obj.mk (.type "tuple") none (.seq (.mk []) (nat_lit 0)) (Array.mk []))
noncomputable def h221 (P : Params) : Obj := (Obj.mk .none none (Data.func (FuncData.mk (Str.ofString "line_blanks") (Str.ofString "line_blanks") (parsOf (stAt 30)) (FuncBody.stmts (bodyOf (stAt 30))) (scopeOf (stAt 30)) (nat_lit 0) [] .none .none .none .none none .none .none (nat_lit 0))) (Array.mk []))
noncomputable def h222 (P : Params) : Obj := (Obj.mk (.type "code") none (.fields (.mk [(sv "line_blanks" (nat_lit 486)), (sv "line_blanks" (nat_lit 487)), (sv "/claim/cut.py" (nat_lit 488)), (iv (nat_lit 154) (nat_lit 0)), (iv (nat_lit 2) (nat_lit 0)), (iv (nat_lit 0) (nat_lit 0)), (iv (nat_lit 0) (nat_lit 0)), (iv (nat_lit 3) (nat_lit 0)), (.ref (nat_lit 216)), (Value.bool Bool.true), (iv (nat_lit 181) (nat_lit 0)), (.ref (nat_lit 217)), .none, (.ref (nat_lit 218)), (.ref (nat_lit 219)), (.ref (nat_lit 220)), (iv (nat_lit 491) (nat_lit 0)), (iv (nat_lit 154) (nat_lit 0)), (sv "/claim/cut.py" (nat_lit 492))])) (Array.mk []))
noncomputable def h223 (P : Params) : Obj := (Obj.mk (.type "function") none (Data.func (FuncData.mk (Str.ofString "line_blanks") (Str.ofString "line_blanks") (parsOf (stAt 30)) (FuncBody.stmts (bodyOf (stAt 30))) (scopeOf (stAt 30)) (nat_lit 3) [] .none .none .none (sv "termcore.lines" (nat_lit 479)) none (.ref (nat_lit 221)) .none (nat_lit 0))) (Array.mk []))
noncomputable def h224 (P : Params) : Obj := (Obj.mk (.type "tuple") none (.seq (.mk []) (nat_lit 0)) (Array.mk []))
noncomputable def h225 (P : Params) : Obj := (Obj.mk .none none (.fields (.mk [])) (Array.mk []))
noncomputable def h226 (P : Params) : Obj := (Obj.mk (.type "tuple") none (.seq (.mk [(sv "cells" (nat_lit 497)), (sv "left" (nat_lit 498)), (sv "right" (nat_lit 499)), (sv "found" (nat_lit 500))]) (nat_lit 0)) (Array.mk []))
noncomputable def h227 (P : Params) : Obj := (Obj.mk (.type "tuple") none (.seq (.mk []) (nat_lit 0)) (Array.mk []))
noncomputable def h228 (P : Params) : Obj := (Obj.mk .none none (Data.func (FuncData.mk (Str.ofString "line_slice") (Str.ofString "line_slice") (parsOf (stAt 31)) (FuncBody.stmts (bodyOf (stAt 31))) (scopeOf (stAt 31)) (nat_lit 0) [] .none .none .none .none none .none .none (nat_lit 0))) (Array.mk []))
noncomputable def h229 (P : Params) : Obj := (Obj.mk (.type "code") none (.fields (.mk [(sv "line_slice" (nat_lit 494)), (sv "line_slice" (nat_lit 495)), (sv "/claim/cut.py" (nat_lit 496)), (iv (nat_lit 156) (nat_lit 0)), (iv (nat_lit 3) (nat_lit 0)), (iv (nat_lit 0) (nat_lit 0)), (iv (nat_lit 0) (nat_lit 0)), (iv (nat_lit 3) (nat_lit 0)), (.ref (nat_lit 223)), (Value.bool Bool.true), (iv (nat_lit 181) (nat_lit 0)), (.ref (nat_lit 224)), .none, (.ref (nat_lit 225)), (.ref (nat_lit 226)), (.ref (nat_lit 227)), (iv (nat_lit 501) (nat_lit 0)), (iv (nat_lit 156) (nat_lit 0)), (sv "/claim/cut.py" (nat_lit 502))])) (Array.mk []))
noncomputable def h230 (P : Params) : Obj := (Obj.mk (.type "function") none (Data.func (FuncData.mk (Str.ofString "line_slice") (Str.ofString "line_slice") (parsOf (stAt 31)) (FuncBody.stmts (bodyOf (stAt 31))) (scopeOf (stAt 31)) (nat_lit 3) [] .none .none .none (sv "termcore.lines" (nat_lit 479)) none (.ref (nat_lit 228)) .none (nat_lit 0))) (Array.mk []))
noncomputable def h231 (P : Params) : Obj := (Obj.mk (.type "tuple") none (.seq (.mk []) (nat_lit 0)) (Array.mk []))
noncomputable def h232 (P : Params) : Obj := (Obj.mk .none none (.fields (.mk [])) (Array.mk []))
noncomputable def h233 (P : Params) : Obj := (Obj.mk (.type "tuple") none (.seq (.mk [(sv "cells" (nat_lit 507)), (sv "last" (nat_lit 508)), (sv "found" (nat_lit 509)), (sv "cell" (nat_lit 510))]) (nat_lit 0)) (Array.mk []))
noncomputable def h234 (P : Params) : Obj := (Obj.mk (.type "tuple") none (.seq (.mk []) (nat_lit 0)) (Array.mk []))
noncomputable def h235 (P : Params) : Obj := (Obj.mk .none none (Data.func (FuncData.mk (Str.ofString "line_codes") (Str.ofString "line_codes") (parsOf (stAt 32)) (FuncBody.stmts (bodyOf (stAt 32))) (scopeOf (stAt 32)) (nat_lit 0) [] .none .none .none .none none .none .none (nat_lit 0))) (Array.mk []))
noncomputable def h236 (P : Params) : Obj := (Obj.mk (.type "code") none (.fields (.mk [(sv "line_codes" (nat_lit 504)), (sv "line_codes" (nat_lit 505)), (sv "/claim/cut.py" (nat_lit 506)), (iv (nat_lit 163) (nat_lit 0)), (iv (nat_lit 1) (nat_lit 0)), (iv (nat_lit 0) (nat_lit 0)), (iv (nat_lit 0) (nat_lit 0)), (iv (nat_lit 3) (nat_lit 0)), (.ref (nat_lit 230)), (Value.bool Bool.true), (iv (nat_lit 181) (nat_lit 0)), (.ref (nat_lit 231)), .none, (.ref (nat_lit 232)), (.ref (nat_lit 233)), (.ref (nat_lit 234)), (iv (nat_lit 511) (nat_lit 0)), (iv (nat_lit 163) (nat_lit 0)), (sv "/claim/cut.py" (nat_lit 512))])) (Array.mk []))
noncomputable def h237 (P : Params) : Obj := (Obj.mk (.type "function") none (Data.func (FuncData.mk (Str.ofString "line_codes") (Str.ofString "line_codes") (parsOf (stAt 32)) (FuncBody.stmts (bodyOf (stAt 32))) (scopeOf (stAt 32)) (nat_lit 3) [] .none .none .none (sv "termcore.lines" (nat_lit 479)) none (.ref (nat_lit 235)) .none (nat_lit 0))) (Array.mk []))
noncomputable def t4 (P : Params) : BT := (.node (boot_o_0 P) (.node (boot_o_1 P) (.node (h215 P) (.node (boot_o_7 P) (.node (h7 P) (.node (h23 P) (.node (h58 P) (.node (h124 P) .nil .nil) (.node (h190 P) .nil .nil)) (.node (h92 P) (.node (h158 P) .nil .nil) (.node (h224 P) .nil .nil))) (.node (h42 P) (.node (h76 P) (.node (h142 P) .nil .nil) (.node (h206 P) .nil .nil)) (.node (h108 P) (.node (h174 P) .nil .nil) .nil))) (.node (h15 P) (.node (h31 P) (.node (h66 P) (.node (h132 P) .nil .nil) (.node (h198 P) .nil .nil)) (.node (h100 P) (.node (h166 P) .nil .nil) (.node (h232 P) .nil .nil))) (.node (h50 P) (.node (h84 P) (.node (h150 P) .nil .nil) (.node (h214 P) .nil .nil)) (.node (h116 P) (.node (h182 P) .nil .nil) .nil)))) (.node (h0 P) (.node (h11 P) (.node (h27 P) (.node (h62 P) (.node (h128 P) .nil .nil) (.node (h194 P) .nil .nil)) (.node (h96 P) (.node (h162 P) .nil .nil) (.node (h228 P) .nil .nil))) (.node (h46 P) (.node (h80 P) (.node (h146 P) .nil .nil) (.node (h210 P) .nil .nil)) (.node (h112 P) (.node (h178 P) .nil .nil) .nil))) (.node (h19 P) (.node (h35 P) (.node (h70 P) (.node (h136 P) .nil .nil) (.node (h202 P) .nil .nil)) (.node (h104 P) (.node (h170 P) .nil .nil) (.node (h236 P) .nil .nil))) (.node (h54 P) (.node (h88 P) (.node (h154 P) .nil .nil) (.node (h220 P) .nil .nil)) (.node (h120 P) (.node (h186 P) .nil .nil) .nil))))) (.node (boot_o_5 P) (.node (boot_o_9 P) (.node (h9 P) (.node (h25 P) (.node (h60 P) (.node (h126 P) .nil .nil) (.node (h192 P) .nil .nil)) (.node (h94 P) (.node (h160 P) .nil .nil) (.node (h226 P) .nil .nil))) (.node (h44 P) (.node (h78 P) (.node (h144 P) .nil .nil) (.node (h208 P) .nil .nil)) (.node (h110 P) (.node (h176 P) .nil .nil) .nil))) (.node (h17 P) (.node (h33 P) (.node (h68 P) (.node (h134 P) .nil .nil) (.node (h200 P) .nil .nil)) (.node (h102 P) (.node (h168 P) .nil .nil) (.node (h234 P) .nil .nil))) (.node (h52 P) (.node (h86 P) (.node (h152 P) .nil .nil) (.node (h218 P) .nil .nil)) (.node (h118 P) (.node (h184 P) .nil .nil) .nil)))) (.node (h2 P) (.node (h13 P) (.node (h29 P) (.node (h64 P) (.node (h130 P) .nil .nil) (.node (h196 P) .nil .nil)) (.node (h98 P) (.node (h164 P) .nil .nil) (.node (h230 P) .nil .nil))) (.node (h48 P) (.node (h82 P) (.node (h148 P) .nil .nil) (.node (h212 P) .nil .nil)) (.node (h114 P) (.node (h180 P) .nil .nil) .nil))) (.node (h21 P) (.node (h40 P) (.node (h74 P) (.node (h140 P) .nil .nil) (.node (h204 P) .nil .nil)) (.node (h106 P) (.node (h172 P) .nil .nil) .nil)) (.node (h56 P) (.node (h90 P) (.node (h156 P) .nil .nil) (.node (h222 P) .nil .nil)) (.node (h122 P) (.node (h188 P) .nil .nil) .nil)))))) (.node (h4 P) (.node (boot_o_4 P) (.node (boot_o_8 P) (.node (h8 P) (.node (h24 P) (.node (h59 P) (.node (h125 P) .nil .nil) (.node (h191 P) .nil .nil)) (.node (h93 P) (.node (h159 P) .nil .nil) (.node (h225 P) .nil .nil))) (.node (h43 P) (.node (h77 P) (.node (h143 P) .nil .nil) (.node (h207 P) .nil .nil)) (.node (h109 P) (.node (h175 P) .nil .nil) .nil))) (.node (h16 P) (.node (h38 P) (.node (h67 P) (.node (h133 P) .nil .nil) (.node (h199 P) .nil .nil)) (.node (h101 P) (.node (h167 P) .nil .nil) (.node (h233 P) .nil .nil))) (.node (h51 P) (.node (h85 P) (.node (h151 P) .nil .nil) (.node (h217 P) .nil .nil)) (.node (h117 P) (.node (h183 P) .nil .nil) .nil)))) (.node (h216 P) (.node (h12 P) (.node (h28 P) (.node (h63 P) (.node (h129 P) .nil .nil) (.node (h195 P) .nil .nil)) (.node (h97 P) (.node (h163 P) .nil .nil) (.node (h229 P) .nil .nil))) (.node (h47 P) (.node (h81 P) (.node (h147 P) .nil .nil) (.node (h211 P) .nil .nil)) (.node (h113 P) (.node (h179 P) .nil .nil) .nil))) (.node (h20 P) (.node (h39 P) (.node (h71 P) (.node (h139 P) .nil .nil) (.node (h203 P) .nil .nil)) (.node (h105 P) (.node (h171 P) .nil .nil) (.node (h237 P) .nil .nil))) (.node (h55 P) (.node (h89 P) (.node (h155 P) .nil .nil) (.node (h221 P) .nil .nil)) (.node (h121 P) (.node (h187 P) .nil .nil) .nil))))) (.node (boot_o_6 P) (.node (boot_o_10 P) (.node (h10 P) (.node (h26 P) (.node (h61 P) (.node (h127 P) .nil .nil) (.node (h193 P) .nil .nil)) (.node (h95 P) (.node (h161 P) .nil .nil) (.node (h227 P) .nil .nil))) (.node (h45 P) (.node (h79 P) (.node (h145 P) .nil .nil) (.node (h209 P) .nil .nil)) (.node (h111 P) (.node (h177 P) .nil .nil) .nil))) (.node (h18 P) (.node (h34 P) (.node (h69 P) (.node (h135 P) .nil .nil) (.node (h201 P) .nil .nil)) (.node (h103 P) (.node (h169 P) .nil .nil) (.node (h235 P) .nil .nil))) (.node (h53 P) (.node (h87 P) (.node (h153 P) .nil .nil) (.node (h219 P) .nil .nil)) (.node (h119 P) (.node (h185 P) .nil .nil) .nil)))) (.node (h3 P) (.node (h14 P) (.node (h30 P) (.node (h65 P) (.node (h131 P) .nil .nil) (.node (h197 P) .nil .nil)) (.node (h99 P) (.node (h165 P) .nil .nil) (.node (h231 P) .nil .nil))) (.node (h49 P) (.node (h83 P) (.node (h149 P) .nil .nil) (.node (h213 P) .nil .nil)) (.node (h115 P) (.node (h181 P) .nil .nil) .nil))) (.node (h22 P) (.node (h41 P) (.node (h75 P) (.node (h141 P) .nil .nil) (.node (h205 P) .nil .nil)) (.node (h107 P) (.node (h173 P) .nil .nil) .nil)) (.node (h57 P) (.node (h91 P) (.node (h157 P) .nil .nil) (.node (h223 P) .nil .nil)) (.node (h123 P) (.node (h189 P) .nil .nil) .nil)))))))
noncomputable def s4 (w : World) (os : OsState) : SharedT := SharedT.mk (t4 w.params) (nat_lit 237) (Life.mk [] [] [] (nat_lit 0) [] [] Bool.false (Array.mk []) [] (nat_lit 0) Bool.false Bool.false Bool.false (Int.ofNat (nat_lit 0)) [(Int.ofNat (nat_lit 2000)), (Int.ofNat (nat_lit 10)), (Int.ofNat (nat_lit 10))] Bool.false (nat_lit 0) Bool.true [] [] (nat_lit 0) Bool.false) (Array.mk []) (Drawn.mk (nat_lit 0) (nat_lit 0) (nat_lit 0) (nat_lit 0)) (nat_lit 514) os
noncomputable def pos4 : Pos := (Pos.mk (nat_lit 163) (nat_lit 0) (nat_lit 171) (nat_lit 16))
noncomputable def l4 : List Stmt := [stAt 30, stAt 31, stAt 32]
noncomputable def h238 (P : Params) : Obj := (Obj.mk (.type "dict") none (Data.dict (Array.mk [(de P "__name__" (nat_lit 165) (sv "termcore.lines" (nat_lit 479))), (de P "__doc__" (nat_lit 166) .none), (de P "__package__" (nat_lit 167) .none), (de P "__loader__" (nat_lit 168) (Value.builtin "__main__.__loader__#opaque")), (de P "__spec__" (nat_lit 169) .none), (de P "__annotations__" (nat_lit 170) (.ref (nat_lit 6))), (de P "__builtins__" (nat_lit 171) (.ref (nat_lit 4))), (de P "__file__" (nat_lit 173) (sv "/claim/cut.py" (nat_lit 172))), (de P "__cached__" (nat_lit 174) .none), (de P "_wall" (nat_lit 193) (.ref (nat_lit 21))), (de P "NO_COLOUR" (nat_lit 198) (Value.int (Int.negSucc (nat_lit 0)) (nat_lit 197))), (de P "PLAIN" (nat_lit 201) (.ref (nat_lit 22))), (de P "BACK" (nat_lit 203) (iv (nat_lit 2) (nat_lit 202))), (de P "LINE_FEED" (nat_lit 205) (iv (nat_lit 10) (nat_lit 204))), (de P "BLANK" (nat_lit 207) (iv (nat_lit 32) (nat_lit 206))), (de P "TermError" (nat_lit 236) (.ref (nat_lit 40))), (de P "BadSize" (nat_lit 252) (.ref (nat_lit 53))), (de P "erased_pen" (nat_lit 259) (.ref (nat_lit 62))), (de P "blank_cell" (nat_lit 266) (.ref (nat_lit 69))), (de P "is_blank" (nat_lit 273) (.ref (nat_lit 76))), (de P "View" (nat_lit 353) (.ref (nat_lit 135))), (de P "view_width" (nat_lit 365) (.ref (nat_lit 146))), (de P "cell_codes" (nat_lit 372) (.ref (nat_lit 153))), (de P "view_codes" (nat_lit 378) (.ref (nat_lit 158))), (de P "OPENERS" (nat_lit 382) (Value.bytes (Array.mk [(40 : UInt8), (91 : UInt8), (123 : UInt8)]) (nat_lit 381))), (de P "CLOSERS" (nat_lit 384) (Value.bytes (Array.mk [(41 : UInt8), (93 : UInt8), (125 : UInt8)]) (nat_lit 383))), (de P "copy_signs" (nat_lit 395) (.ref (nat_lit 165))), (de P "copy_index" (nat_lit 406) (.ref (nat_lit 172))), (de P "copy_sort" (nat_lit 414) (.ref (nat_lit 179))), (de P "next_word" (nat_lit 426) (.ref (nat_lit 186))), (de P "next_word_end" (nat_lit 437) (.ref (nat_lit 193))), (de P "previous_word" (nat_lit 448) (.ref (nat_lit 200))), (de P "matching_bracket" (nat_lit 463) (.ref (nat_lit 207))), (de P "jump_place" (nat_lit 478) (.ref (nat_lit 214))), (de P "LINE_SIZES" (nat_lit 485) (.ref (nat_lit 215))), (de P "line_blanks" (nat_lit 493) (.ref (nat_lit 222))), (de P "line_slice" (nat_lit 503) (.ref (nat_lit 229))), (de P "line_codes" (nat_lit 513) (.ref (nat_lit 236))), (de P "Line" (nat_lit 682) (.ref (nat_lit 361)))]) (nat_lit 39)) (Array.mk []))
noncomputable def h239 (P : Params) : Obj := (Obj.mk .none none (.fields (.mk [(iv (nat_lit 1) (nat_lit 0)), (iv (nat_lit 0) (nat_lit 0)), (.ref (nat_lit 20)), (iv (nat_lit 10) (nat_lit 0)), (iv (nat_lit 0) (nat_lit 0)), (.ref (nat_lit 28)), (iv (nat_lit 14) (nat_lit 0)), (iv (nat_lit 0) (nat_lit 0)), (.ref (nat_lit 49)), (iv (nat_lit 16) (nat_lit 0)), (iv (nat_lit 0) (nat_lit 0)), (.ref (nat_lit 61)), (iv (nat_lit 18) (nat_lit 0)), (iv (nat_lit 0) (nat_lit 0)), (.ref (nat_lit 68)), (iv (nat_lit 20) (nat_lit 0)), (iv (nat_lit 0) (nat_lit 0)), (.ref (nat_lit 75)), (iv (nat_lit 23) (nat_lit 0)), (iv (nat_lit 0) (nat_lit 0)), (.ref (nat_lit 82)), (iv (nat_lit 47) (nat_lit 0)), (iv (nat_lit 0) (nat_lit 0)), (.ref (nat_lit 145)), (iv (nat_lit 57) (nat_lit 0)), (iv (nat_lit 0) (nat_lit 0)), (.ref (nat_lit 152)), (iv (nat_lit 61) (nat_lit 0)), (iv (nat_lit 0) (nat_lit 0)), (.ref (nat_lit 157)), (iv (nat_lit 73) (nat_lit 0)), (iv (nat_lit 0) (nat_lit 0)), (.ref (nat_lit 164)), (iv (nat_lit 79) (nat_lit 0)), (iv (nat_lit 0) (nat_lit 0)), (.ref (nat_lit 171)), (iv (nat_lit 88) (nat_lit 0)), (iv (nat_lit 0) (nat_lit 0)), (.ref (nat_lit 178)), (iv (nat_lit 92) (nat_lit 0)), (iv (nat_lit 0) (nat_lit 0)), (.ref (nat_lit 185)), (iv (nat_lit 101) (nat_lit 0)), (iv (nat_lit 0) (nat_lit 0)), (.ref (nat_lit 192)), (iv (nat_lit 109) (nat_lit 0)), (iv (nat_lit 0) (nat_lit 0)), (.ref (nat_lit 199)), (iv (nat_lit 118) (nat_lit 0)), (iv (nat_lit 0) (nat_lit 0)), (.ref (nat_lit 206)), (iv (nat_lit 140) (nat_lit 0)), (iv (nat_lit 0) (nat_lit 0)), (.ref (nat_lit 213)), (iv (nat_lit 154) (nat_lit 0)), (iv (nat_lit 0) (nat_lit 0)), (.ref (nat_lit 221)), (iv (nat_lit 156) (nat_lit 0)), (iv (nat_lit 0) (nat_lit 0)), (.ref (nat_lit 228)), (iv (nat_lit 163) (nat_lit 0)), (iv (nat_lit 0) (nat_lit 0)), (.ref (nat_lit 235)), (iv (nat_lit 172) (nat_lit 0)), (iv (nat_lit 0) (nat_lit 0)), (.ref (nat_lit 242))])) (Array.mk []))
noncomputable def h240 (P : Params) : Obj := (Obj.mk (.type "tuple") none (.seq (.mk []) (nat_lit 0)) (Array.mk []))
noncomputable def h241 (P : Params) : Obj := (Obj.mk (.type "builtin_function_or_method") none (.fields (.mk [(Value.builtin "type.__prepare__"), (.type "type")])) (Array.mk []))
noncomputable def h242 (P : Params) : Obj := (Obj.mk (.type "dict") none (Data.dict (Array.mk [(de P "__module__" (nat_lit 521) (sv "termcore.lines" (nat_lit 479))), (de P "__qualname__" (nat_lit 523) (sv "Line" (nat_lit 522))), (de P "__firstlineno__" (nat_lit 525) (iv (nat_lit 172) (nat_lit 524))), (de P "__init__" (nat_lit 534) (.ref (nat_lit 250))), (de P "columns" (nat_lit 542) (.ref (nat_lit 258))), (de P "shown" (nat_lit 549) (.ref (nat_lit 265))), (de P "part" (nat_lit 557) (.ref (nat_lit 272))), (de P "put" (nat_lit 566) (.ref (nat_lit 279))), (de P "put_cells" (nat_lit 575) (.ref (nat_lit 286))), (de P "erase" (nat_lit 586) (.ref (nat_lit 294))), (de P "shift" (nat_lit 598) (.ref (nat_lit 301))), (de P "insert" (nat_lit 609) (.ref (nat_lit 308))), (de P "delete" (nat_lit 620) (.ref (nat_lit 315))), (de P "fill" (nat_lit 630) (.ref (nat_lit 322))), (de P "copy" (nat_lit 637) (.ref (nat_lit 329))), (de P "codes" (nat_lit 647) (.ref (nat_lit 337))), (de P "used" (nat_lit 654) (.ref (nat_lit 344))), (de P "resized" (nat_lit 663) (.ref (nat_lit 351))), (de P "equals" (nat_lit 671) (.ref (nat_lit 358))), (de P "__static_attributes__" (nat_lit 675) (.ref (nat_lit 359)))]) (nat_lit 20)) (Array.mk []))
noncomputable def h243 (P : Params) : Obj := (Obj.mk (.type "tuple") none (.seq (.mk []) (nat_lit 0)) (Array.mk []))
noncomputable def h244 (P : Params) : Obj := (Obj.mk .none none (.fields (.mk [(iv (nat_lit 174) (nat_lit 0)), (iv (nat_lit 4) (nat_lit 0)), (.ref (nat_lit 249)), (iv (nat_lit 180) (nat_lit 0)), (iv (nat_lit 4) (nat_lit 0)), (.ref (nat_lit 256)), (iv (nat_lit 183) (nat_lit 0)), (iv (nat_lit 4) (nat_lit 0)), (.ref (nat_lit 264)), (iv (nat_lit 186) (nat_lit 0)), (iv (nat_lit 4) (nat_lit 0)), (.ref (nat_lit 271)), (iv (nat_lit 189) (nat_lit 0)), (iv (nat_lit 4) (nat_lit 0)), (.ref (nat_lit 278)), (iv (nat_lit 192) (nat_lit 0)), (iv (nat_lit 4) (nat_lit 0)), (.ref (nat_lit 285)), (iv (nat_lit 195) (nat_lit 0)), (iv (nat_lit 4) (nat_lit 0)), (.ref (nat_lit 293)), (iv (nat_lit 198) (nat_lit 0)), (iv (nat_lit 4) (nat_lit 0)), (.ref (nat_lit 300)), (iv (nat_lit 201) (nat_lit 0)), (iv (nat_lit 4) (nat_lit 0)), (.ref (nat_lit 307)), (iv (nat_lit 204) (nat_lit 0)), (iv (nat_lit 4) (nat_lit 0)), (.ref (nat_lit 314)), (iv (nat_lit 207) (nat_lit 0)), (iv (nat_lit 4) (nat_lit 0)), (.ref (nat_lit 321)), (iv (nat_lit 210) (nat_lit 0)), (iv (nat_lit 4) (nat_lit 0)), (.ref (nat_lit 328)), (iv (nat_lit 213) (nat_lit 0)), (iv (nat_lit 4) (nat_lit 0)), (.ref (nat_lit 336)), (iv (nat_lit 216) (nat_lit 0)), (iv (nat_lit 4) (nat_lit 0)), (.ref (nat_lit 343)), (iv (nat_lit 219) (nat_lit 0)), (iv (nat_lit 4) (nat_lit 0)), (.ref (nat_lit 350)), (iv (nat_lit 222) (nat_lit 0)), (iv (nat_lit 4) (nat_lit 0)), (.ref (nat_lit 357))])) (Array.mk []))
noncomputable def h245 (P : Params) : Obj := (Obj.mk (.type "code") none (.fields (.mk [(sv "Line" (nat_lit 516)), (sv "Line" (nat_lit 517)), (sv "/claim/cut.py" (nat_lit 518)), (iv (nat_lit 172) (nat_lit 0)), (iv (nat_lit 0) (nat_lit 0)), (iv (nat_lit 0) (nat_lit 0)), (iv (nat_lit 0) (nat_lit 0)), (iv (nat_lit 0) (nat_lit 0)), (.ref (nat_lit 240)), (Value.bool Bool.false), (iv (nat_lit 181) (nat_lit 0)), (.ref (nat_lit 241)), .none, .none, .none, .none, (iv (nat_lit 519) (nat_lit 0)), (iv (nat_lit 172) (nat_lit 0)), (sv "/claim/cut.py" (nat_lit 520))])) (Array.mk []))
noncomputable def h246 (P : Params) : Obj := (Obj.mk (.type "frame") none Data.plain (Array.mk [(some (.ref (nat_lit 242))), (some (.ref (nat_lit 3))), (some (.ref (nat_lit 239))), none, (some (sv "termcore.lines" (nat_lit 479))), none, (some (.ref (nat_lit 0)))]))
noncomputable def h247 (P : Params) : Obj := (Obj.mk (.type "tuple") none (.seq (.mk []) (nat_lit 0)) (Array.mk []))
noncomputable def h248 (P : Params) : Obj := (Obj.mk .none none (.fields (.mk [])) (Array.mk []))
noncomputable def h249 (P : Params) : Obj := (Obj.mk (.type "tuple") none (.seq (.mk [(sv "self" (nat_lit 529)), (sv "columns" (nat_lit 530)), (sv "pen" (nat_lit 531))]) (nat_lit 0)) (Array.mk []))
noncomputable def h250 (P : Params) : Obj := (Obj.mk (.type "tuple") none (.seq (.mk []) (nat_lit 0)) (Array.mk []))
noncomputable def h251 (P : Params) : Obj := (Obj.mk .none none (Data.func (FuncData.mk (Str.ofString "__init__") (Str.ofString "Line.__init__") (parsOf (stIn 33 0)) (FuncBody.stmts (bodyOf (stIn 33 0))) (scopeOf (stIn 33 0)) (nat_lit 0) [] .none .none .none .none none .none .none (nat_lit 0))) (Array.mk []))
noncomputable def h252 (P : Params) : Obj := (Obj.mk (.type "code") none (.fields (.mk [(sv "__init__" (nat_lit 526)), (sv "Line.__init__" (nat_lit 527)), (sv "/claim/cut.py" (nat_lit 528)), (iv (nat_lit 174) (nat_lit 0)), (iv (nat_lit 3) (nat_lit 0)), (iv (nat_lit 0) (nat_lit 0)), (iv (nat_lit 0) (nat_lit 0)), (iv (nat_lit 3) (nat_lit 0)), (.ref (nat_lit 244)), (Value.bool Bool.true), (iv (nat_lit 181) (nat_lit 0)), (.ref (nat_lit 245)), .none, (.ref (nat_lit 246)), (.ref (nat_lit 247)), (.ref (nat_lit 248)), (iv (nat_lit 532) (nat_lit 0)), (iv (nat_lit 174) (nat_lit 0)), (sv "/claim/cut.py" (nat_lit 533))])) (Array.mk []))
noncomputable def h253 (P : Params) : Obj := (Obj.mk (.type "function") none (Data.func (FuncData.mk (Str.ofString "__init__") (Str.ofString "Line.__init__") (parsOf (stIn 33 0)) (FuncBody.stmts (bodyOf (stIn 33 0))) (scopeOf (stIn 33 0)) (nat_lit 3) [] .none .none .none (sv "termcore.lines" (nat_lit 479)) none (.ref (nat_lit 249)) .none (nat_lit 0))) (Array.mk []))
noncomputable def h254 (P : Params) : Obj := (Obj.mk (.type "tuple") none (.seq (.mk []) (nat_lit 0)) (Array.mk []))
noncomputable def h255 (P : Params) : Obj := (Obj.mk .none none (.fields (.mk [])) (Array.mk []))
noncomputable def h256 (P : Params) : Obj := (Obj.mk (.type "tuple") none (.seq (.mk [(sv "self" (nat_lit 538))]) (nat_lit 0)) (Array.mk []))
noncomputable def h257 (P : Params) : Obj := (Obj.mk (.type "tuple") none (.seq (.mk []) (nat_lit 0)) (Array.mk []))
noncomputable def h258 (P : Params) : Obj := (Obj.mk .none none (Data.func (FuncData.mk (Str.ofString "columns") (Str.ofString "Line.columns") (parsOf (stIn 33 1)) (FuncBody.stmts (bodyOf (stIn 33 1))) (scopeOf (stIn 33 1)) (nat_lit 0) [] .none .none .none .none none .none .none (nat_lit 0))) (Array.mk []))
noncomputable def h259 (P : Params) : Obj := (Obj.mk (.type "code") none (.fields (.mk [(sv "columns" (nat_lit 535)), (sv "Line.columns" (nat_lit 536)), (sv "/claim/cut.py" (nat_lit 537)), (iv (nat_lit 179) (nat_lit 0)), (iv (nat_lit 1) (nat_lit 0)), (iv (nat_lit 0) (nat_lit 0)), (iv (nat_lit 0) (nat_lit 0)), (iv (nat_lit 3) (nat_lit 0)), (.ref (nat_lit 251)), (Value.bool Bool.true), (iv (nat_lit 181) (nat_lit 0)), (.ref (nat_lit 252)), .none, (.ref (nat_lit 253)), (.ref (nat_lit 254)), (.ref (nat_lit 255)), (iv (nat_lit 539) (nat_lit 0)), (iv (nat_lit 179) (nat_lit 0)), (sv "/claim/cut.py" (nat_lit 540))])) (Array.mk []))
noncomputable def h260 (P : Params) : Obj := (Obj.mk (.type "function") none (Data.func (FuncData.mk (Str.ofString "columns") (Str.ofString "Line.columns") (parsOf (stIn 33 1)) (FuncBody.stmts (bodyOf (stIn 33 1))) (scopeOf (stIn 33 1)) (nat_lit 3) [] .none .none .none (sv "termcore.lines" (nat_lit 479)) none (.ref (nat_lit 256)) .none (nat_lit 0))) (Array.mk []))
noncomputable def h261 (P : Params) : Obj := (Obj.mk (.type "property") none (.fields (.mk [(.ref (nat_lit 257)), .none, .none, .none, (sv "columns" (nat_lit 542)), (Value.bool Bool.false)])) (Array.mk []))
noncomputable def h262 (P : Params) : Obj := (Obj.mk (.type "tuple") none (.seq (.mk []) (nat_lit 0)) (Array.mk []))
noncomputable def h263 (P : Params) : Obj := (Obj.mk .none none (.fields (.mk [])) (Array.mk []))
noncomputable def h264 (P : Params) : Obj := (Obj.mk (.type "tuple") none (.seq (.mk [(sv "self" (nat_lit 546))]) (nat_lit 0)) (Array.mk []))
noncomputable def h265 (P : Params) : Obj := (Obj.mk (.type "tuple") none (.seq (.mk []) (nat_lit 0)) (Array.mk []))
noncomputable def h266 (P : Params) : Obj := (Obj.mk .none none (Data.func (FuncData.mk (Str.ofString "shown") (Str.ofString "Line.shown") (parsOf (stIn 33 2)) (FuncBody.stmts (bodyOf (stIn 33 2))) (scopeOf (stIn 33 2)) (nat_lit 0) [] .none .none .none .none none .none .none (nat_lit 0))) (Array.mk []))
noncomputable def h267 (P : Params) : Obj := (Obj.mk (.type "code") none (.fields (.mk [(sv "shown" (nat_lit 543)), (sv "Line.shown" (nat_lit 544)), (sv "/claim/cut.py" (nat_lit 545)), (iv (nat_lit 183) (nat_lit 0)), (iv (nat_lit 1) (nat_lit 0)), (iv (nat_lit 0) (nat_lit 0)), (iv (nat_lit 0) (nat_lit 0)), (iv (nat_lit 3) (nat_lit 0)), (.ref (nat_lit 259)), (Value.bool Bool.true), (iv (nat_lit 181) (nat_lit 0)), (.ref (nat_lit 260)), .none, (.ref (nat_lit 261)), (.ref (nat_lit 262)), (.ref (nat_lit 263)), (iv (nat_lit 547) (nat_lit 0)), (iv (nat_lit 183) (nat_lit 0)), (sv "/claim/cut.py" (nat_lit 548))])) (Array.mk []))
noncomputable def h268 (P : Params) : Obj := (Obj.mk (.type "function") none (Data.func (FuncData.mk (Str.ofString "shown") (Str.ofString "Line.shown") (parsOf (stIn 33 2)) (FuncBody.stmts (bodyOf (stIn 33 2))) (scopeOf (stIn 33 2)) (nat_lit 3) [] .none .none .none (sv "termcore.lines" (nat_lit 479)) none (.ref (nat_lit 264)) .none (nat_lit 0))) (Array.mk []))
noncomputable def h269 (P : Params) : Obj := (Obj.mk (.type "tuple") none (.seq (.mk []) (nat_lit 0)) (Array.mk []))
noncomputable def h270 (P : Params) : Obj := (Obj.mk .none none (.fields (.mk [])) (Array.mk []))
noncomputable def h271 (P : Params) : Obj := (Obj.mk (.type "tuple") none (.seq (.mk [(sv "self" (nat_lit 553)), (sv "at" (nat_lit 554))]) (nat_lit 0)) (Array.mk []))
noncomputable def h272 (P : Params) : Obj := (Obj.mk (.type "tuple") none (.seq (.mk []) (nat_lit 0)) (Array.mk []))
noncomputable def h273 (P : Params) : Obj := (Obj.mk .none none (Data.func (FuncData.mk (Str.ofString "part") (Str.ofString "Line.part") (parsOf (stIn 33 3)) (FuncBody.stmts (bodyOf (stIn 33 3))) (scopeOf (stIn 33 3)) (nat_lit 0) [] .none .none .none .none none .none .none (nat_lit 0))) (Array.mk []))
noncomputable def h274 (P : Params) : Obj := (Obj.mk (.type "code") none (.fields (.mk [(sv "part" (nat_lit 550)), (sv "Line.part" (nat_lit 551)), (sv "/claim/cut.py" (nat_lit 552)), (iv (nat_lit 186) (nat_lit 0)), (iv (nat_lit 2) (nat_lit 0)), (iv (nat_lit 0) (nat_lit 0)), (iv (nat_lit 0) (nat_lit 0)), (iv (nat_lit 3) (nat_lit 0)), (.ref (nat_lit 266)), (Value.bool Bool.true), (iv (nat_lit 181) (nat_lit 0)), (.ref (nat_lit 267)), .none, (.ref (nat_lit 268)), (.ref (nat_lit 269)), (.ref (nat_lit 270)), (iv (nat_lit 555) (nat_lit 0)), (iv (nat_lit 186) (nat_lit 0)), (sv "/claim/cut.py" (nat_lit 556))])) (Array.mk []))
noncomputable def h275 (P : Params) : Obj := (Obj.mk (.type "function") none (Data.func (FuncData.mk (Str.ofString "part") (Str.ofString "Line.part") (parsOf (stIn 33 3)) (FuncBody.stmts (bodyOf (stIn 33 3))) (scopeOf (stIn 33 3)) (nat_lit 3) [] .none .none .none (sv "termcore.lines" (nat_lit 479)) none (.ref (nat_lit 271)) .none (nat_lit 0))) (Array.mk []))
noncomputable def h276 (P : Params) : Obj := (Obj.mk (.type "tuple") none (.seq (.mk []) (nat_lit 0)) (Array.mk []))
noncomputable def h277 (P : Params) : Obj := (Obj.mk .none none (.fields (.mk [])) (Array.mk []))
noncomputable def h278 (P : Params) : Obj := (Obj.mk (.type "tuple") none (.seq (.mk [(sv "self" (nat_lit 561)), (sv "column" (nat_lit 562)), (sv "cell" (nat_lit 563))]) (nat_lit 0)) (Array.mk []))
noncomputable def h279 (P : Params) : Obj := (Obj.mk (.type "tuple") none (.seq (.mk []) (nat_lit 0)) (Array.mk []))
noncomputable def h280 (P : Params) : Obj := (Obj.mk .none none (Data.func (FuncData.mk (Str.ofString "put") (Str.ofString "Line.put") (parsOf (stIn 33 4)) (FuncBody.stmts (bodyOf (stIn 33 4))) (scopeOf (stIn 33 4)) (nat_lit 0) [] .none .none .none .none none .none .none (nat_lit 0))) (Array.mk []))
noncomputable def h281 (P : Params) : Obj := (Obj.mk (.type "code") none (.fields (.mk [(sv "put" (nat_lit 558)), (sv "Line.put" (nat_lit 559)), (sv "/claim/cut.py" (nat_lit 560)), (iv (nat_lit 189) (nat_lit 0)), (iv (nat_lit 3) (nat_lit 0)), (iv (nat_lit 0) (nat_lit 0)), (iv (nat_lit 0) (nat_lit 0)), (iv (nat_lit 3) (nat_lit 0)), (.ref (nat_lit 273)), (Value.bool Bool.true), (iv (nat_lit 181) (nat_lit 0)), (.ref (nat_lit 274)), .none, (.ref (nat_lit 275)), (.ref (nat_lit 276)), (.ref (nat_lit 277)), (iv (nat_lit 564) (nat_lit 0)), (iv (nat_lit 189) (nat_lit 0)), (sv "/claim/cut.py" (nat_lit 565))])) (Array.mk []))
noncomputable def h282 (P : Params) : Obj := (Obj.mk (.type "function") none (Data.func (FuncData.mk (Str.ofString "put") (Str.ofString "Line.put") (parsOf (stIn 33 4)) (FuncBody.stmts (bodyOf (stIn 33 4))) (scopeOf (stIn 33 4)) (nat_lit 3) [] .none .none .none (sv "termcore.lines" (nat_lit 479)) none (.ref (nat_lit 278)) .none (nat_lit 0))) (Array.mk []))
noncomputable def h283 (P : Params) : Obj := (Obj.mk (.type "tuple") none (.seq (.mk []) (nat_lit 0)) (Array.mk []))
noncomputable def h284 (P : Params) : Obj := (Obj.mk .none none (.fields (.mk [])) (Array.mk []))
noncomputable def h285 (P : Params) : Obj := (Obj.mk (.type "tuple") none (.seq (.mk [(sv "self" (nat_lit 570)), (sv "column" (nat_lit 571)), (sv "cells" (nat_lit 572))]) (nat_lit 0)) (Array.mk []))
noncomputable def h286 (P : Params) : Obj := (Obj.mk (.type "tuple") none (.seq (.mk []) (nat_lit 0)) (Array.mk []))
noncomputable def h287 (P : Params) : Obj := (Obj.mk .none none (Data.func (FuncData.mk (Str.ofString "put_cells") (Str.ofString "Line.put_cells") (parsOf (stIn 33 5)) (FuncBody.stmts (bodyOf (stIn 33 5))) (scopeOf (stIn 33 5)) (nat_lit 0) [] .none .none .none .none none .none .none (nat_lit 0))) (Array.mk []))
noncomputable def h288 (P : Params) : Obj := (Obj.mk (.type "code") none (.fields (.mk [(sv "put_cells" (nat_lit 567)), (sv "Line.put_cells" (nat_lit 568)), (sv "/claim/cut.py" (nat_lit 569)), (iv (nat_lit 192) (nat_lit 0)), (iv (nat_lit 3) (nat_lit 0)), (iv (nat_lit 0) (nat_lit 0)), (iv (nat_lit 0) (nat_lit 0)), (iv (nat_lit 3) (nat_lit 0)), (.ref (nat_lit 280)), (Value.bool Bool.true), (iv (nat_lit 181) (nat_lit 0)), (.ref (nat_lit 281)), .none, (.ref (nat_lit 282)), (.ref (nat_lit 283)), (.ref (nat_lit 284)), (iv (nat_lit 573) (nat_lit 0)), (iv (nat_lit 192) (nat_lit 0)), (sv "/claim/cut.py" (nat_lit 574))])) (Array.mk []))
noncomputable def h289 (P : Params) : Obj := (Obj.mk (.type "function") none (Data.func (FuncData.mk (Str.ofString "put_cells") (Str.ofString "Line.put_cells") (parsOf (stIn 33 5)) (FuncBody.stmts (bodyOf (stIn 33 5))) (scopeOf (stIn 33 5)) (nat_lit 3) [] .none .none .none (sv "termcore.lines" (nat_lit 479)) none (.ref (nat_lit 285)) .none (nat_lit 0))) (Array.mk []))
noncomputable def h290 (P : Params) : Obj := (Obj.mk (.type "tuple") none (.seq (.mk [(Value.bool Bool.false)]) (nat_lit 0)) (Array.mk []))
noncomputable def h291 (P : Params) : Obj := (Obj.mk (.type "tuple") none (.seq (.mk []) (nat_lit 0)) (Array.mk []))
noncomputable def h292 (P : Params) : Obj := (Obj.mk .none none (.fields (.mk [])) (Array.mk []))
noncomputable def h293 (P : Params) : Obj := (Obj.mk (.type "tuple") none (.seq (.mk [(sv "self" (nat_lit 579)), (sv "left" (nat_lit 580)), (sv "right" (nat_lit 581)), (sv "pen" (nat_lit 582)), (sv "is_selective" (nat_lit 583))]) (nat_lit 0)) (Array.mk []))
noncomputable def h294 (P : Params) : Obj := (Obj.mk (.type "tuple") none (.seq (.mk []) (nat_lit 0)) (Array.mk []))
noncomputable def h295 (P : Params) : Obj := (Obj.mk .none none (Data.func (FuncData.mk (Str.ofString "erase") (Str.ofString "Line.erase") (parsOf (stIn 33 6)) (FuncBody.stmts (bodyOf (stIn 33 6))) (scopeOf (stIn 33 6)) (nat_lit 0) [] .none .none .none .none none .none .none (nat_lit 0))) (Array.mk []))
noncomputable def h296 (P : Params) : Obj := (Obj.mk (.type "code") none (.fields (.mk [(sv "erase" (nat_lit 576)), (sv "Line.erase" (nat_lit 577)), (sv "/claim/cut.py" (nat_lit 578)), (iv (nat_lit 195) (nat_lit 0)), (iv (nat_lit 5) (nat_lit 0)), (iv (nat_lit 0) (nat_lit 0)), (iv (nat_lit 0) (nat_lit 0)), (iv (nat_lit 3) (nat_lit 0)), (.ref (nat_lit 288)), (Value.bool Bool.true), (iv (nat_lit 181) (nat_lit 0)), (.ref (nat_lit 289)), .none, (.ref (nat_lit 290)), (.ref (nat_lit 291)), (.ref (nat_lit 292)), (iv (nat_lit 584) (nat_lit 0)), (iv (nat_lit 195) (nat_lit 0)), (sv "/claim/cut.py" (nat_lit 585))])) (Array.mk []))
noncomputable def h297 (P : Params) : Obj := (Obj.mk (.type "function") none (Data.func (FuncData.mk (Str.ofString "erase") (Str.ofString "Line.erase") (parsOf (stIn 33 6)) (FuncBody.stmts (bodyOf (stIn 33 6))) (scopeOf (stIn 33 6)) (nat_lit 3) [] (.ref (nat_lit 287)) .none .none (sv "termcore.lines" (nat_lit 479)) none (.ref (nat_lit 293)) .none (nat_lit 0))) (Array.mk []))
noncomputable def h298 (P : Params) : Obj := (Obj.mk (.type "tuple") none (.seq (.mk []) (nat_lit 0)) (Array.mk []))
noncomputable def h299 (P : Params) : Obj := (Obj.mk .none none (.fields (.mk [])) (Array.mk []))
noncomputable def h300 (P : Params) : Obj := (Obj.mk (.type "tuple") none (.seq (.mk [(sv "self" (nat_lit 590)), (sv "column" (nat_lit 591)), (sv "many" (nat_lit 592)), (sv "right" (nat_lit 593)), (sv "pen" (nat_lit 594)), (sv "is_back" (nat_lit 595))]) (nat_lit 0)) (Array.mk []))
noncomputable def h301 (P : Params) : Obj := (Obj.mk (.type "tuple") none (.seq (.mk []) (nat_lit 0)) (Array.mk []))
noncomputable def h302 (P : Params) : Obj := (Obj.mk .none none (Data.func (FuncData.mk (Str.ofString "shift") (Str.ofString "Line.shift") (parsOf (stIn 33 7)) (FuncBody.stmts (bodyOf (stIn 33 7))) (scopeOf (stIn 33 7)) (nat_lit 0) [] .none .none .none .none none .none .none (nat_lit 0))) (Array.mk []))
noncomputable def h303 (P : Params) : Obj := (Obj.mk (.type "code") none (.fields (.mk [(sv "shift" (nat_lit 587)), (sv "Line.shift" (nat_lit 588)), (sv "/claim/cut.py" (nat_lit 589)), (iv (nat_lit 198) (nat_lit 0)), (iv (nat_lit 6) (nat_lit 0)), (iv (nat_lit 0) (nat_lit 0)), (iv (nat_lit 0) (nat_lit 0)), (iv (nat_lit 3) (nat_lit 0)), (.ref (nat_lit 295)), (Value.bool Bool.true), (iv (nat_lit 181) (nat_lit 0)), (.ref (nat_lit 296)), .none, (.ref (nat_lit 297)), (.ref (nat_lit 298)), (.ref (nat_lit 299)), (iv (nat_lit 596) (nat_lit 0)), (iv (nat_lit 198) (nat_lit 0)), (sv "/claim/cut.py" (nat_lit 597))])) (Array.mk []))
noncomputable def h304 (P : Params) : Obj := (Obj.mk (.type "function") none (Data.func (FuncData.mk (Str.ofString "shift") (Str.ofString "Line.shift") (parsOf (stIn 33 7)) (FuncBody.stmts (bodyOf (stIn 33 7))) (scopeOf (stIn 33 7)) (nat_lit 3) [] .none .none .none (sv "termcore.lines" (nat_lit 479)) none (.ref (nat_lit 300)) .none (nat_lit 0))) (Array.mk []))
noncomputable def h305 (P : Params) : Obj := (Obj.mk (.type "tuple") none (.seq (.mk []) (nat_lit 0)) (Array.mk []))
noncomputable def h306 (P : Params) : Obj := (Obj.mk .none none (.fields (.mk [])) (Array.mk []))
noncomputable def h307 (P : Params) : Obj := (Obj.mk (.type "tuple") none (.seq (.mk [(sv "self" (nat_lit 602)), (sv "column" (nat_lit 603)), (sv "many" (nat_lit 604)), (sv "right" (nat_lit 605)), (sv "pen" (nat_lit 606))]) (nat_lit 0)) (Array.mk []))
noncomputable def h308 (P : Params) : Obj := (Obj.mk (.type "tuple") none (.seq (.mk []) (nat_lit 0)) (Array.mk []))
noncomputable def h309 (P : Params) : Obj := (Obj.mk .none none (Data.func (FuncData.mk (Str.ofString "insert") (Str.ofString "Line.insert") (parsOf (stIn 33 8)) (FuncBody.stmts (bodyOf (stIn 33 8))) (scopeOf (stIn 33 8)) (nat_lit 0) [] .none .none .none .none none .none .none (nat_lit 0))) (Array.mk []))
noncomputable def h310 (P : Params) : Obj := (Obj.mk (.type "code") none (.fields (.mk [(sv "insert" (nat_lit 599)), (sv "Line.insert" (nat_lit 600)), (sv "/claim/cut.py" (nat_lit 601)), (iv (nat_lit 201) (nat_lit 0)), (iv (nat_lit 5) (nat_lit 0)), (iv (nat_lit 0) (nat_lit 0)), (iv (nat_lit 0) (nat_lit 0)), (iv (nat_lit 3) (nat_lit 0)), (.ref (nat_lit 302)), (Value.bool Bool.true), (iv (nat_lit 181) (nat_lit 0)), (.ref (nat_lit 303)), .none, (.ref (nat_lit 304)), (.ref (nat_lit 305)), (.ref (nat_lit 306)), (iv (nat_lit 607) (nat_lit 0)), (iv (nat_lit 201) (nat_lit 0)), (sv "/claim/cut.py" (nat_lit 608))])) (Array.mk []))
noncomputable def h311 (P : Params) : Obj := (Obj.mk (.type "function") none (Data.func (FuncData.mk (Str.ofString "insert") (Str.ofString "Line.insert") (parsOf (stIn 33 8)) (FuncBody.stmts (bodyOf (stIn 33 8))) (scopeOf (stIn 33 8)) (nat_lit 3) [] .none .none .none (sv "termcore.lines" (nat_lit 479)) none (.ref (nat_lit 307)) .none (nat_lit 0))) (Array.mk []))
noncomputable def h312 (P : Params) : Obj := (Obj.mk (.type "tuple") none (.seq (.mk []) (nat_lit 0)) (Array.mk []))
noncomputable def h313 (P : Params) : Obj := (Obj.mk .none none (.fields (.mk [])) (Array.mk []))
noncomputable def h314 (P : Params) : Obj := (Obj.mk (.type "tuple") none (.seq (.mk [(sv "self" (nat_lit 613)), (sv "column" (nat_lit 614)), (sv "many" (nat_lit 615)), (sv "right" (nat_lit 616)), (sv "pen" (nat_lit 617))]) (nat_lit 0)) (Array.mk []))
noncomputable def h315 (P : Params) : Obj := (Obj.mk (.type "tuple") none (.seq (.mk []) (nat_lit 0)) (Array.mk []))
noncomputable def h316 (P : Params) : Obj := (Obj.mk .none none (Data.func (FuncData.mk (Str.ofString "delete") (Str.ofString "Line.delete") (parsOf (stIn 33 9)) (FuncBody.stmts (bodyOf (stIn 33 9))) (scopeOf (stIn 33 9)) (nat_lit 0) [] .none .none .none .none none .none .none (nat_lit 0))) (Array.mk []))
noncomputable def h317 (P : Params) : Obj := (Obj.mk (.type "code") none (.fields (.mk [(sv "delete" (nat_lit 610)), (sv "Line.delete" (nat_lit 611)), (sv "/claim/cut.py" (nat_lit 612)), (iv (nat_lit 204) (nat_lit 0)), (iv (nat_lit 5) (nat_lit 0)), (iv (nat_lit 0) (nat_lit 0)), (iv (nat_lit 0) (nat_lit 0)), (iv (nat_lit 3) (nat_lit 0)), (.ref (nat_lit 309)), (Value.bool Bool.true), (iv (nat_lit 181) (nat_lit 0)), (.ref (nat_lit 310)), .none, (.ref (nat_lit 311)), (.ref (nat_lit 312)), (.ref (nat_lit 313)), (iv (nat_lit 618) (nat_lit 0)), (iv (nat_lit 204) (nat_lit 0)), (sv "/claim/cut.py" (nat_lit 619))])) (Array.mk []))
noncomputable def h318 (P : Params) : Obj := (Obj.mk (.type "function") none (Data.func (FuncData.mk (Str.ofString "delete") (Str.ofString "Line.delete") (parsOf (stIn 33 9)) (FuncBody.stmts (bodyOf (stIn 33 9))) (scopeOf (stIn 33 9)) (nat_lit 3) [] .none .none .none (sv "termcore.lines" (nat_lit 479)) none (.ref (nat_lit 314)) .none (nat_lit 0))) (Array.mk []))
noncomputable def h319 (P : Params) : Obj := (Obj.mk (.type "tuple") none (.seq (.mk []) (nat_lit 0)) (Array.mk []))
noncomputable def h320 (P : Params) : Obj := (Obj.mk .none none (.fields (.mk [])) (Array.mk []))
noncomputable def h321 (P : Params) : Obj := (Obj.mk (.type "tuple") none (.seq (.mk [(sv "self" (nat_lit 624)), (sv "left" (nat_lit 625)), (sv "right" (nat_lit 626)), (sv "cell" (nat_lit 627))]) (nat_lit 0)) (Array.mk []))
noncomputable def h322 (P : Params) : Obj := (Obj.mk (.type "tuple") none (.seq (.mk []) (nat_lit 0)) (Array.mk []))
noncomputable def h323 (P : Params) : Obj := (Obj.mk .none none (Data.func (FuncData.mk (Str.ofString "fill") (Str.ofString "Line.fill") (parsOf (stIn 33 10)) (FuncBody.stmts (bodyOf (stIn 33 10))) (scopeOf (stIn 33 10)) (nat_lit 0) [] .none .none .none .none none .none .none (nat_lit 0))) (Array.mk []))
noncomputable def h324 (P : Params) : Obj := (Obj.mk (.type "code") none (.fields (.mk [(sv "fill" (nat_lit 621)), (sv "Line.fill" (nat_lit 622)), (sv "/claim/cut.py" (nat_lit 623)), (iv (nat_lit 207) (nat_lit 0)), (iv (nat_lit 4) (nat_lit 0)), (iv (nat_lit 0) (nat_lit 0)), (iv (nat_lit 0) (nat_lit 0)), (iv (nat_lit 3) (nat_lit 0)), (.ref (nat_lit 316)), (Value.bool Bool.true), (iv (nat_lit 181) (nat_lit 0)), (.ref (nat_lit 317)), .none, (.ref (nat_lit 318)), (.ref (nat_lit 319)), (.ref (nat_lit 320)), (iv (nat_lit 628) (nat_lit 0)), (iv (nat_lit 207) (nat_lit 0)), (sv "/claim/cut.py" (nat_lit 629))])) (Array.mk []))
noncomputable def h325 (P : Params) : Obj := (Obj.mk (.type "function") none (Data.func (FuncData.mk (Str.ofString "fill") (Str.ofString "Line.fill") (parsOf (stIn 33 10)) (FuncBody.stmts (bodyOf (stIn 33 10))) (scopeOf (stIn 33 10)) (nat_lit 3) [] .none .none .none (sv "termcore.lines" (nat_lit 479)) none (.ref (nat_lit 321)) .none (nat_lit 0))) (Array.mk []))
noncomputable def h326 (P : Params) : Obj := (Obj.mk (.type "tuple") none (.seq (.mk []) (nat_lit 0)) (Array.mk []))
noncomputable def h327 (P : Params) : Obj := (Obj.mk .none none (.fields (.mk [])) (Array.mk []))
noncomputable def h328 (P : Params) : Obj := (Obj.mk (.type "tuple") none (.seq (.mk [(sv "self" (nat_lit 634))]) (nat_lit 0)) (Array.mk []))
noncomputable def h329 (P : Params) : Obj := (Obj.mk (.type "tuple") none (.seq (.mk []) (nat_lit 0)) (Array.mk []))
noncomputable def h330 (P : Params) : Obj := (Obj.mk .none none (Data.func (FuncData.mk (Str.ofString "copy") (Str.ofString "Line.copy") (parsOf (stIn 33 11)) (FuncBody.stmts (bodyOf (stIn 33 11))) (scopeOf (stIn 33 11)) (nat_lit 0) [] .none .none .none .none none .none .none (nat_lit 0))) (Array.mk []))
noncomputable def h331 (P : Params) : Obj := (Obj.mk (.type "code") none (.fields (.mk [(sv "copy" (nat_lit 631)), (sv "Line.copy" (nat_lit 632)), (sv "/claim/cut.py" (nat_lit 633)), (iv (nat_lit 210) (nat_lit 0)), (iv (nat_lit 1) (nat_lit 0)), (iv (nat_lit 0) (nat_lit 0)), (iv (nat_lit 0) (nat_lit 0)), (iv (nat_lit 3) (nat_lit 0)), (.ref (nat_lit 323)), (Value.bool Bool.true), (iv (nat_lit 181) (nat_lit 0)), (.ref (nat_lit 324)), .none, (.ref (nat_lit 325)), (.ref (nat_lit 326)), (.ref (nat_lit 327)), (iv (nat_lit 635) (nat_lit 0)), (iv (nat_lit 210) (nat_lit 0)), (sv "/claim/cut.py" (nat_lit 636))])) (Array.mk []))
noncomputable def h332 (P : Params) : Obj := (Obj.mk (.type "function") none (Data.func (FuncData.mk (Str.ofString "copy") (Str.ofString "Line.copy") (parsOf (stIn 33 11)) (FuncBody.stmts (bodyOf (stIn 33 11))) (scopeOf (stIn 33 11)) (nat_lit 3) [] .none .none .none (sv "termcore.lines" (nat_lit 479)) none (.ref (nat_lit 328)) .none (nat_lit 0))) (Array.mk []))
noncomputable def h333 (P : Params) : Obj := (Obj.mk (.type "tuple") none (.seq (.mk [(iv (nat_lit 0) (nat_lit 638)), .none]) (nat_lit 0)) (Array.mk []))
noncomputable def h334 (P : Params) : Obj := (Obj.mk (.type "tuple") none (.seq (.mk []) (nat_lit 0)) (Array.mk []))
noncomputable def h335 (P : Params) : Obj := (Obj.mk .none none (.fields (.mk [])) (Array.mk []))
noncomputable def h336 (P : Params) : Obj := (Obj.mk (.type "tuple") none (.seq (.mk [(sv "self" (nat_lit 642)), (sv "left" (nat_lit 643)), (sv "right" (nat_lit 644))]) (nat_lit 0)) (Array.mk []))
noncomputable def h337 (P : Params) : Obj := (Obj.mk (.type "tuple") none (.seq (.mk []) (nat_lit 0)) (Array.mk []))
noncomputable def h338 (P : Params) : Obj := (Obj.mk .none none (Data.func (FuncData.mk (Str.ofString "codes") (Str.ofString "Line.codes") (parsOf (stIn 33 12)) (FuncBody.stmts (bodyOf (stIn 33 12))) (scopeOf (stIn 33 12)) (nat_lit 0) [] .none .none .none .none none .none .none (nat_lit 0))) (Array.mk []))
noncomputable def h339 (P : Params) : Obj := (Obj.mk (.type "code") none (.fields (.mk [(sv "codes" (nat_lit 639)), (sv "Line.codes" (nat_lit 640)), (sv "/claim/cut.py" (nat_lit 641)), (iv (nat_lit 213) (nat_lit 0)), (iv (nat_lit 3) (nat_lit 0)), (iv (nat_lit 0) (nat_lit 0)), (iv (nat_lit 0) (nat_lit 0)), (iv (nat_lit 3) (nat_lit 0)), (.ref (nat_lit 331)), (Value.bool Bool.true), (iv (nat_lit 181) (nat_lit 0)), (.ref (nat_lit 332)), .none, (.ref (nat_lit 333)), (.ref (nat_lit 334)), (.ref (nat_lit 335)), (iv (nat_lit 645) (nat_lit 0)), (iv (nat_lit 213) (nat_lit 0)), (sv "/claim/cut.py" (nat_lit 646))])) (Array.mk []))
noncomputable def h340 (P : Params) : Obj := (Obj.mk (.type "function") none (Data.func (FuncData.mk (Str.ofString "codes") (Str.ofString "Line.codes") (parsOf (stIn 33 12)) (FuncBody.stmts (bodyOf (stIn 33 12))) (scopeOf (stIn 33 12)) (nat_lit 3) [] (.ref (nat_lit 330)) .none .none (sv "termcore.lines" (nat_lit 479)) none (.ref (nat_lit 336)) .none (nat_lit 0))) (Array.mk []))
noncomputable def h341 (P : Params) : Obj := (Obj.mk (.type "tuple") none (.seq (.mk []) (nat_lit 0)) (Array.mk []))
noncomputable def h342 (P : Params) : Obj := (Obj.mk .none none (.fields (.mk [])) (Array.mk []))
noncomputable def h343 (P : Params) : Obj := (Obj.mk (.type "tuple") none (.seq (.mk [(sv "self" (nat_lit 651))]) (nat_lit 0)) (Array.mk []))
noncomputable def h344 (P : Params) : Obj := (Obj.mk (.type "tuple") none (.seq (.mk []) (nat_lit 0)) (Array.mk []))
noncomputable def h345 (P : Params) : Obj := (Obj.mk .none none (Data.func (FuncData.mk (Str.ofString "used") (Str.ofString "Line.used") (parsOf (stIn 33 13)) (FuncBody.stmts (bodyOf (stIn 33 13))) (scopeOf (stIn 33 13)) (nat_lit 0) [] .none .none .none .none none .none .none (nat_lit 0))) (Array.mk []))
noncomputable def h346 (P : Params) : Obj := (Obj.mk (.type "code") none (.fields (.mk [(sv "used" (nat_lit 648)), (sv "Line.used" (nat_lit 649)), (sv "/claim/cut.py" (nat_lit 650)), (iv (nat_lit 216) (nat_lit 0)), (iv (nat_lit 1) (nat_lit 0)), (iv (nat_lit 0) (nat_lit 0)), (iv (nat_lit 0) (nat_lit 0)), (iv (nat_lit 3) (nat_lit 0)), (.ref (nat_lit 338)), (Value.bool Bool.true), (iv (nat_lit 181) (nat_lit 0)), (.ref (nat_lit 339)), .none, (.ref (nat_lit 340)), (.ref (nat_lit 341)), (.ref (nat_lit 342)), (iv (nat_lit 652) (nat_lit 0)), (iv (nat_lit 216) (nat_lit 0)), (sv "/claim/cut.py" (nat_lit 653))])) (Array.mk []))
noncomputable def h347 (P : Params) : Obj := (Obj.mk (.type "function") none (Data.func (FuncData.mk (Str.ofString "used") (Str.ofString "Line.used") (parsOf (stIn 33 13)) (FuncBody.stmts (bodyOf (stIn 33 13))) (scopeOf (stIn 33 13)) (nat_lit 3) [] .none .none .none (sv "termcore.lines" (nat_lit 479)) none (.ref (nat_lit 343)) .none (nat_lit 0))) (Array.mk []))
noncomputable def h348 (P : Params) : Obj := (Obj.mk (.type "tuple") none (.seq (.mk []) (nat_lit 0)) (Array.mk []))
noncomputable def h349 (P : Params) : Obj := (Obj.mk .none none (.fields (.mk [])) (Array.mk []))
noncomputable def h350 (P : Params) : Obj := (Obj.mk (.type "tuple") none (.seq (.mk [(sv "self" (nat_lit 658)), (sv "columns" (nat_lit 659)), (sv "pen" (nat_lit 660))]) (nat_lit 0)) (Array.mk []))
noncomputable def h351 (P : Params) : Obj := (Obj.mk (.type "tuple") none (.seq (.mk []) (nat_lit 0)) (Array.mk []))
noncomputable def h352 (P : Params) : Obj := (Obj.mk .none none (Data.func (FuncData.mk (Str.ofString "resized") (Str.ofString "Line.resized") (parsOf (stIn 33 14)) (FuncBody.stmts (bodyOf (stIn 33 14))) (scopeOf (stIn 33 14)) (nat_lit 0) [] .none .none .none .none none .none .none (nat_lit 0))) (Array.mk []))
noncomputable def h353 (P : Params) : Obj := (Obj.mk (.type "code") none (.fields (.mk [(sv "resized" (nat_lit 655)), (sv "Line.resized" (nat_lit 656)), (sv "/claim/cut.py" (nat_lit 657)), (iv (nat_lit 219) (nat_lit 0)), (iv (nat_lit 3) (nat_lit 0)), (iv (nat_lit 0) (nat_lit 0)), (iv (nat_lit 0) (nat_lit 0)), (iv (nat_lit 3) (nat_lit 0)), (.ref (nat_lit 345)), (Value.bool Bool.true), (iv (nat_lit 181) (nat_lit 0)), (.ref (nat_lit 346)), .none, (.ref (nat_lit 347)), (.ref (nat_lit 348)), (.ref (nat_lit 349)), (iv (nat_lit 661) (nat_lit 0)), (iv (nat_lit 219) (nat_lit 0)), (sv "/claim/cut.py" (nat_lit 662))])) (Array.mk []))
noncomputable def h354 (P : Params) : Obj := (Obj.mk (.type "function") none (Data.func (FuncData.mk (Str.ofString "resized") (Str.ofString "Line.resized") (parsOf (stIn 33 14)) (FuncBody.stmts (bodyOf (stIn 33 14))) (scopeOf (stIn 33 14)) (nat_lit 3) [] .none .none .none (sv "termcore.lines" (nat_lit 479)) none (.ref (nat_lit 350)) .none (nat_lit 0))) (Array.mk []))
noncomputable def h355 (P : Params) : Obj := (Obj.mk (.type "tuple") none (.seq (.mk []) (nat_lit 0)) (Array.mk []))
noncomputable def h356 (P : Params) : Obj := (Obj.mk .none none (.fields (.mk [])) (Array.mk []))
noncomputable def h357 (P : Params) : Obj := (Obj.mk (.type "tuple") none (.seq (.mk [(sv "self" (nat_lit 667)), (sv "other" (nat_lit 668))]) (nat_lit 0)) (Array.mk []))
noncomputable def h358 (P : Params) : Obj := (Obj.mk (.type "tuple") none (.seq (.mk []) (nat_lit 0)) (Array.mk []))
noncomputable def h359 (P : Params) : Obj := (Obj.mk .none none (Data.func (FuncData.mk (Str.ofString "equals") (Str.ofString "Line.equals") (parsOf (stIn 33 15)) (FuncBody.stmts (bodyOf (stIn 33 15))) (scopeOf (stIn 33 15)) (nat_lit 0) [] .none .none .none .none none .none .none (nat_lit 0))) (Array.mk []))
noncomputable def h360 (P : Params) : Obj := (Obj.mk (.type "code") none (.fields (.mk [(sv "equals" (nat_lit 664)), (sv "Line.equals" (nat_lit 665)), (sv "/claim/cut.py" (nat_lit 666)), (iv (nat_lit 222) (nat_lit 0)), (iv (nat_lit 2) (nat_lit 0)), (iv (nat_lit 0) (nat_lit 0)), (iv (nat_lit 0) (nat_lit 0)), (iv (nat_lit 3) (nat_lit 0)), (.ref (nat_lit 352)), (Value.bool Bool.true), (iv (nat_lit 181) (nat_lit 0)), (.ref (nat_lit 353)), .none, (.ref (nat_lit 354)), (.ref (nat_lit 355)), (.ref (nat_lit 356)), (iv (nat_lit 669) (nat_lit 0)), (iv (nat_lit 222) (nat_lit 0)), (sv "/claim/cut.py" (nat_lit 670))])) (Array.mk []))
noncomputable def h361 (P : Params) : Obj := (Obj.mk (.type "function") none (Data.func (FuncData.mk (Str.ofString "equals") (Str.ofString "Line.equals") (parsOf (stIn 33 15)) (FuncBody.stmts (bodyOf (stIn 33 15))) (scopeOf (stIn 33 15)) (nat_lit 3) [] .none .none .none (sv "termcore.lines" (nat_lit 479)) none (.ref (nat_lit 357)) .none (nat_lit 0))) (Array.mk []))
noncomputable def h362 (P : Params) : Obj := (Obj.mk (.type "tuple") none (.seq (.mk [(sv "cells" (nat_lit 672)), (sv "is_wrapped" (nat_lit 673)), (sv "size" (nat_lit 674))]) (nat_lit 0)) (Array.mk []))
noncomputable def h363 (P : Params) : Obj := (Obj.mk (.type "dict") none (Data.dict (Array.mk [(de P "__module__" (nat_lit 521) (sv "termcore.lines" (nat_lit 479))), (de P "__firstlineno__" (nat_lit 525) (iv (nat_lit 172) (nat_lit 524))), (de P "__init__" (nat_lit 534) (.ref (nat_lit 250))), (de P "columns" (nat_lit 542) (.ref (nat_lit 258))), (de P "shown" (nat_lit 549) (.ref (nat_lit 265))), (de P "part" (nat_lit 557) (.ref (nat_lit 272))), (de P "put" (nat_lit 566) (.ref (nat_lit 279))), (de P "put_cells" (nat_lit 575) (.ref (nat_lit 286))), (de P "erase" (nat_lit 586) (.ref (nat_lit 294))), (de P "shift" (nat_lit 598) (.ref (nat_lit 301))), (de P "insert" (nat_lit 609) (.ref (nat_lit 308))), (de P "delete" (nat_lit 620) (.ref (nat_lit 315))), (de P "fill" (nat_lit 630) (.ref (nat_lit 322))), (de P "copy" (nat_lit 637) (.ref (nat_lit 329))), (de P "codes" (nat_lit 647) (.ref (nat_lit 337))), (de P "used" (nat_lit 654) (.ref (nat_lit 344))), (de P "resized" (nat_lit 663) (.ref (nat_lit 351))), (de P "equals" (nat_lit 671) (.ref (nat_lit 358))), (de P "__static_attributes__" (nat_lit 675) (.ref (nat_lit 359))), (de P "__dict__" (nat_lit 677) (.ref (nat_lit 362))), (de P "__weakref__" (nat_lit 679) (.ref (nat_lit 363))), (de P "__doc__" (nat_lit 680) .none)]) (nat_lit 4)) (Array.mk []))
noncomputable def h364 (P : Params) : Obj := (Obj.mk (.type "type") none (Data.cls (ClassData.mk (Str.ofString "Line") [(.type "object")] [(.ref (nat_lit 361)), (.type "object")] (nat_lit 360) (Str.ofString "Line") Bool.true [] [] Bool.false none Bool.false)) (Array.mk [none, none, (some (sv "Line" (nat_lit 514))), (some (sv "Line" (nat_lit 522))), (some (Value.builtin "object.__new__")), (some (Value.bool Bool.true))]))
noncomputable def h365 (P : Params) : Obj := (Obj.mk (.type "getset_descriptor") none (.fields (.mk [(sv "__dict__" (nat_lit 676)), (.ref (nat_lit 361)), (Value.builtin "function.__dict__"), (Value.builtin "function.__dict__#set")])) (Array.mk []))
noncomputable def h366 (P : Params) : Obj := (Obj.mk (.type "getset_descriptor") none (.fields (.mk [(sv "__weakref__" (nat_lit 678)), (.ref (nat_lit 361)), (Value.builtin "ExceptionGroup.__weakref__"), .none])) (Array.mk []))
noncomputable def h367 (P : Params) : Obj := (Obj.mk (.type "super") none (.fields (.mk [(.ref (nat_lit 361)), (.ref (nat_lit 361)), (.ref (nat_lit 361))])) (Array.mk []))
noncomputable def h368 (P : Params) : Obj := (Obj.mk (.type "builtin_function_or_method") none (.fields (.mk [(Value.builtin "object.__init_subclass__"), (.ref (nat_lit 361))])) (Array.mk []))
noncomputable def t5 (P : Params) : BT := (.node (boot_o_0 P) (.node (boot_o_1 P) (.node (h238 P) (.node (boot_o_7 P) (.node (h7 P) (.node (h23 P) (.node (h58 P) (.node (h124 P) (.node (h258 P) .nil .nil) .nil) (.node (h190 P) (.node (h322 P) .nil .nil) .nil)) (.node (h92 P) (.node (h158 P) (.node (h290 P) .nil .nil) .nil) (.node (h224 P) (.node (h354 P) .nil .nil) .nil))) (.node (h42 P) (.node (h76 P) (.node (h142 P) (.node (h274 P) .nil .nil) .nil) (.node (h206 P) (.node (h338 P) .nil .nil) .nil)) (.node (h108 P) (.node (h174 P) (.node (h306 P) .nil .nil) .nil) (.node (h242 P) .nil .nil)))) (.node (h15 P) (.node (h31 P) (.node (h66 P) (.node (h132 P) (.node (h266 P) .nil .nil) .nil) (.node (h198 P) (.node (h330 P) .nil .nil) .nil)) (.node (h100 P) (.node (h166 P) (.node (h298 P) .nil .nil) .nil) (.node (h232 P) (.node (h362 P) .nil .nil) .nil))) (.node (h50 P) (.node (h84 P) (.node (h150 P) (.node (h282 P) .nil .nil) .nil) (.node (h214 P) (.node (h346 P) .nil .nil) .nil)) (.node (h116 P) (.node (h182 P) (.node (h314 P) .nil .nil) .nil) (.node (h250 P) .nil .nil))))) (.node (h0 P) (.node (h11 P) (.node (h27 P) (.node (h62 P) (.node (h128 P) (.node (h262 P) .nil .nil) .nil) (.node (h194 P) (.node (h326 P) .nil .nil) .nil)) (.node (h96 P) (.node (h162 P) (.node (h294 P) .nil .nil) .nil) (.node (h228 P) (.node (h358 P) .nil .nil) .nil))) (.node (h46 P) (.node (h80 P) (.node (h146 P) (.node (h278 P) .nil .nil) .nil) (.node (h210 P) (.node (h342 P) .nil .nil) .nil)) (.node (h112 P) (.node (h178 P) (.node (h310 P) .nil .nil) .nil) (.node (h246 P) .nil .nil)))) (.node (h19 P) (.node (h35 P) (.node (h70 P) (.node (h136 P) (.node (h270 P) .nil .nil) .nil) (.node (h202 P) (.node (h334 P) .nil .nil) .nil)) (.node (h104 P) (.node (h170 P) (.node (h302 P) .nil .nil) .nil) (.node (h236 P) (.node (h366 P) .nil .nil) .nil))) (.node (h54 P) (.node (h88 P) (.node (h154 P) (.node (h286 P) .nil .nil) .nil) (.node (h220 P) (.node (h350 P) .nil .nil) .nil)) (.node (h120 P) (.node (h186 P) (.node (h318 P) .nil .nil) .nil) (.node (h254 P) .nil .nil)))))) (.node (boot_o_5 P) (.node (boot_o_9 P) (.node (h9 P) (.node (h25 P) (.node (h60 P) (.node (h126 P) (.node (h260 P) .nil .nil) .nil) (.node (h192 P) (.node (h324 P) .nil .nil) .nil)) (.node (h94 P) (.node (h160 P) (.node (h292 P) .nil .nil) .nil) (.node (h226 P) (.node (h356 P) .nil .nil) .nil))) (.node (h44 P) (.node (h78 P) (.node (h144 P) (.node (h276 P) .nil .nil) .nil) (.node (h208 P) (.node (h340 P) .nil .nil) .nil)) (.node (h110 P) (.node (h176 P) (.node (h308 P) .nil .nil) .nil) (.node (h244 P) .nil .nil)))) (.node (h17 P) (.node (h33 P) (.node (h68 P) (.node (h134 P) (.node (h268 P) .nil .nil) .nil) (.node (h200 P) (.node (h332 P) .nil .nil) .nil)) (.node (h102 P) (.node (h168 P) (.node (h300 P) .nil .nil) .nil) (.node (h234 P) (.node (h364 P) .nil .nil) .nil))) (.node (h52 P) (.node (h86 P) (.node (h152 P) (.node (h284 P) .nil .nil) .nil) (.node (h218 P) (.node (h348 P) .nil .nil) .nil)) (.node (h118 P) (.node (h184 P) (.node (h316 P) .nil .nil) .nil) (.node (h252 P) .nil .nil))))) (.node (h2 P) (.node (h13 P) (.node (h29 P) (.node (h64 P) (.node (h130 P) (.node (h264 P) .nil .nil) .nil) (.node (h196 P) (.node (h328 P) .nil .nil) .nil)) (.node (h98 P) (.node (h164 P) (.node (h296 P) .nil .nil) .nil) (.node (h230 P) (.node (h360 P) .nil .nil) .nil))) (.node (h48 P) (.node (h82 P) (.node (h148 P) (.node (h280 P) .nil .nil) .nil) (.node (h212 P) (.node (h344 P) .nil .nil) .nil)) (.node (h114 P) (.node (h180 P) (.node (h312 P) .nil .nil) .nil) (.node (h248 P) .nil .nil)))) (.node (h21 P) (.node (h40 P) (.node (h74 P) (.node (h140 P) (.node (h272 P) .nil .nil) .nil) (.node (h204 P) (.node (h336 P) .nil .nil) .nil)) (.node (h106 P) (.node (h172 P) (.node (h304 P) .nil .nil) .nil) (.node (h240 P) (.node (h368 P) .nil .nil) .nil))) (.node (h56 P) (.node (h90 P) (.node (h156 P) (.node (h288 P) .nil .nil) .nil) (.node (h222 P) (.node (h352 P) .nil .nil) .nil)) (.node (h122 P) (.node (h188 P) (.node (h320 P) .nil .nil) .nil) (.node (h256 P) .nil .nil))))))) (.node (h4 P) (.node (boot_o_4 P) (.node (boot_o_8 P) (.node (h8 P) (.node (h24 P) (.node (h59 P) (.node (h125 P) (.node (h259 P) .nil .nil) .nil) (.node (h191 P) (.node (h323 P) .nil .nil) .nil)) (.node (h93 P) (.node (h159 P) (.node (h291 P) .nil .nil) .nil) (.node (h225 P) (.node (h355 P) .nil .nil) .nil))) (.node (h43 P) (.node (h77 P) (.node (h143 P) (.node (h275 P) .nil .nil) .nil) (.node (h207 P) (.node (h339 P) .nil .nil) .nil)) (.node (h109 P) (.node (h175 P) (.node (h307 P) .nil .nil) .nil) (.node (h243 P) .nil .nil)))) (.node (h16 P) (.node (h38 P) (.node (h67 P) (.node (h133 P) (.node (h267 P) .nil .nil) .nil) (.node (h199 P) (.node (h331 P) .nil .nil) .nil)) (.node (h101 P) (.node (h167 P) (.node (h299 P) .nil .nil) .nil) (.node (h233 P) (.node (h363 P) .nil .nil) .nil))) (.node (h51 P) (.node (h85 P) (.node (h151 P) (.node (h283 P) .nil .nil) .nil) (.node (h217 P) (.node (h347 P) .nil .nil) .nil)) (.node (h117 P) (.node (h183 P) (.node (h315 P) .nil .nil) .nil) (.node (h251 P) .nil .nil))))) (.node (h239 P) (.node (h12 P) (.node (h28 P) (.node (h63 P) (.node (h129 P) (.node (h263 P) .nil .nil) .nil) (.node (h195 P) (.node (h327 P) .nil .nil) .nil)) (.node (h97 P) (.node (h163 P) (.node (h295 P) .nil .nil) .nil) (.node (h229 P) (.node (h359 P) .nil .nil) .nil))) (.node (h47 P) (.node (h81 P) (.node (h147 P) (.node (h279 P) .nil .nil) .nil) (.node (h211 P) (.node (h343 P) .nil .nil) .nil)) (.node (h113 P) (.node (h179 P) (.node (h311 P) .nil .nil) .nil) (.node (h247 P) .nil .nil)))) (.node (h20 P) (.node (h39 P) (.node (h71 P) (.node (h139 P) (.node (h271 P) .nil .nil) .nil) (.node (h203 P) (.node (h335 P) .nil .nil) .nil)) (.node (h105 P) (.node (h171 P) (.node (h303 P) .nil .nil) .nil) (.node (h237 P) (.node (h367 P) .nil .nil) .nil))) (.node (h55 P) (.node (h89 P) (.node (h155 P) (.node (h287 P) .nil .nil) .nil) (.node (h221 P) (.node (h351 P) .nil .nil) .nil)) (.node (h121 P) (.node (h187 P) (.node (h319 P) .nil .nil) .nil) (.node (h255 P) .nil .nil)))))) (.node (boot_o_6 P) (.node (boot_o_10 P) (.node (h10 P) (.node (h26 P) (.node (h61 P) (.node (h127 P) (.node (h261 P) .nil .nil) .nil) (.node (h193 P) (.node (h325 P) .nil .nil) .nil)) (.node (h95 P) (.node (h161 P) (.node (h293 P) .nil .nil) .nil) (.node (h227 P) (.node (h357 P) .nil .nil) .nil))) (.node (h45 P) (.node (h79 P) (.node (h145 P) (.node (h277 P) .nil .nil) .nil) (.node (h209 P) (.node (h341 P) .nil .nil) .nil)) (.node (h111 P) (.node (h177 P) (.node (h309 P) .nil .nil) .nil) (.node (h245 P) .nil .nil)))) (.node (h18 P) (.node (h34 P) (.node (h69 P) (.node (h135 P) (.node (h269 P) .nil .nil) .nil) (.node (h201 P) (.node (h333 P) .nil .nil) .nil)) (.node (h103 P) (.node (h169 P) (.node (h301 P) .nil .nil) .nil) (.node (h235 P) (.node (h365 P) .nil .nil) .nil))) (.node (h53 P) (.node (h87 P) (.node (h153 P) (.node (h285 P) .nil .nil) .nil) (.node (h219 P) (.node (h349 P) .nil .nil) .nil)) (.node (h119 P) (.node (h185 P) (.node (h317 P) .nil .nil) .nil) (.node (h253 P) .nil .nil))))) (.node (h3 P) (.node (h14 P) (.node (h30 P) (.node (h65 P) (.node (h131 P) (.node (h265 P) .nil .nil) .nil) (.node (h197 P) (.node (h329 P) .nil .nil) .nil)) (.node (h99 P) (.node (h165 P) (.node (h297 P) .nil .nil) .nil) (.node (h231 P) (.node (h361 P) .nil .nil) .nil))) (.node (h49 P) (.node (h83 P) (.node (h149 P) (.node (h281 P) .nil .nil) .nil) (.node (h213 P) (.node (h345 P) .nil .nil) .nil)) (.node (h115 P) (.node (h181 P) (.node (h313 P) .nil .nil) .nil) (.node (h249 P) .nil .nil)))) (.node (h22 P) (.node (h41 P) (.node (h75 P) (.node (h141 P) (.node (h273 P) .nil .nil) .nil) (.node (h205 P) (.node (h337 P) .nil .nil) .nil)) (.node (h107 P) (.node (h173 P) (.node (h305 P) .nil .nil) .nil) (.node (h241 P) .nil .nil))) (.node (h57 P) (.node (h91 P) (.node (h157 P) (.node (h289 P) .nil .nil) .nil) (.node (h223 P) (.node (h353 P) .nil .nil) .nil)) (.node (h123 P) (.node (h189 P) (.node (h321 P) .nil .nil) .nil) (.node (h257 P) .nil .nil))))))))
noncomputable def s5 (w : World) (os : OsState) : SharedT := SharedT.mk (t5 w.params) (nat_lit 366) (Life.mk [] [] [] (nat_lit 0) [] [] Bool.false (Array.mk []) [] (nat_lit 0) Bool.false Bool.false Bool.false (Int.ofNat (nat_lit 0)) [(Int.ofNat (nat_lit 2000)), (Int.ofNat (nat_lit 10)), (Int.ofNat (nat_lit 10))] Bool.false (nat_lit 0) Bool.true [] [] (nat_lit 0) Bool.false) (Array.mk []) (Drawn.mk (nat_lit 0) (nat_lit 0) (nat_lit 0) (nat_lit 0)) (nat_lit 683) os
noncomputable def pos5 : Pos := (Pos.mk (nat_lit 172) (nat_lit 0) (nat_lit 223) (nat_lit 17))
noncomputable def l5 : List Stmt := [stAt 33]
noncomputable def h369 (P : Params) : Obj := (Obj.mk (.type "dict") none (Data.dict (Array.mk [(de P "__name__" (nat_lit 165) (sv "termcore.grid" (nat_lit 694))), (de P "__doc__" (nat_lit 166) .none), (de P "__package__" (nat_lit 167) .none), (de P "__loader__" (nat_lit 168) (Value.builtin "__main__.__loader__#opaque")), (de P "__spec__" (nat_lit 169) .none), (de P "__annotations__" (nat_lit 170) (.ref (nat_lit 6))), (de P "__builtins__" (nat_lit 171) (.ref (nat_lit 4))), (de P "__file__" (nat_lit 173) (sv "/claim/cut.py" (nat_lit 172))), (de P "__cached__" (nat_lit 174) .none), (de P "_wall" (nat_lit 193) (.ref (nat_lit 21))), (de P "NO_COLOUR" (nat_lit 198) (Value.int (Int.negSucc (nat_lit 0)) (nat_lit 197))), (de P "PLAIN" (nat_lit 201) (.ref (nat_lit 22))), (de P "BACK" (nat_lit 203) (iv (nat_lit 2) (nat_lit 202))), (de P "LINE_FEED" (nat_lit 205) (iv (nat_lit 10) (nat_lit 204))), (de P "BLANK" (nat_lit 207) (iv (nat_lit 32) (nat_lit 206))), (de P "TermError" (nat_lit 236) (.ref (nat_lit 40))), (de P "BadSize" (nat_lit 252) (.ref (nat_lit 53))), (de P "erased_pen" (nat_lit 259) (.ref (nat_lit 62))), (de P "blank_cell" (nat_lit 266) (.ref (nat_lit 69))), (de P "is_blank" (nat_lit 273) (.ref (nat_lit 76))), (de P "View" (nat_lit 353) (.ref (nat_lit 135))), (de P "view_width" (nat_lit 365) (.ref (nat_lit 146))), (de P "cell_codes" (nat_lit 372) (.ref (nat_lit 153))), (de P "view_codes" (nat_lit 378) (.ref (nat_lit 158))), (de P "OPENERS" (nat_lit 382) (Value.bytes (Array.mk [(40 : UInt8), (91 : UInt8), (123 : UInt8)]) (nat_lit 381))), (de P "CLOSERS" (nat_lit 384) (Value.bytes (Array.mk [(41 : UInt8), (93 : UInt8), (125 : UInt8)]) (nat_lit 383))), (de P "copy_signs" (nat_lit 395) (.ref (nat_lit 165))), (de P "copy_index" (nat_lit 406) (.ref (nat_lit 172))), (de P "copy_sort" (nat_lit 414) (.ref (nat_lit 179))), (de P "next_word" (nat_lit 426) (.ref (nat_lit 186))), (de P "next_word_end" (nat_lit 437) (.ref (nat_lit 193))), (de P "previous_word" (nat_lit 448) (.ref (nat_lit 200))), (de P "matching_bracket" (nat_lit 463) (.ref (nat_lit 207))), (de P "jump_place" (nat_lit 478) (.ref (nat_lit 214))), (de P "LINE_SIZES" (nat_lit 485) (.ref (nat_lit 215))), (de P "line_blanks" (nat_lit 493) (.ref (nat_lit 222))), (de P "line_slice" (nat_lit 503) (.ref (nat_lit 229))), (de P "line_codes" (nat_lit 513) (.ref (nat_lit 236))), (de P "Line" (nat_lit 682) (.ref (nat_lit 361))), (de P "line_of" (nat_lit 693) (.ref (nat_lit 373)))]) (nat_lit 40)) (Array.mk []))
noncomputable def h370 (P : Params) : Obj := (Obj.mk .none none (.fields (.mk [(iv (nat_lit 1) (nat_lit 0)), (iv (nat_lit 0) (nat_lit 0)), (.ref (nat_lit 20)), (iv (nat_lit 10) (nat_lit 0)), (iv (nat_lit 0) (nat_lit 0)), (.ref (nat_lit 28)), (iv (nat_lit 14) (nat_lit 0)), (iv (nat_lit 0) (nat_lit 0)), (.ref (nat_lit 49)), (iv (nat_lit 16) (nat_lit 0)), (iv (nat_lit 0) (nat_lit 0)), (.ref (nat_lit 61)), (iv (nat_lit 18) (nat_lit 0)), (iv (nat_lit 0) (nat_lit 0)), (.ref (nat_lit 68)), (iv (nat_lit 20) (nat_lit 0)), (iv (nat_lit 0) (nat_lit 0)), (.ref (nat_lit 75)), (iv (nat_lit 23) (nat_lit 0)), (iv (nat_lit 0) (nat_lit 0)), (.ref (nat_lit 82)), (iv (nat_lit 47) (nat_lit 0)), (iv (nat_lit 0) (nat_lit 0)), (.ref (nat_lit 145)), (iv (nat_lit 57) (nat_lit 0)), (iv (nat_lit 0) (nat_lit 0)), (.ref (nat_lit 152)), (iv (nat_lit 61) (nat_lit 0)), (iv (nat_lit 0) (nat_lit 0)), (.ref (nat_lit 157)), (iv (nat_lit 73) (nat_lit 0)), (iv (nat_lit 0) (nat_lit 0)), (.ref (nat_lit 164)), (iv (nat_lit 79) (nat_lit 0)), (iv (nat_lit 0) (nat_lit 0)), (.ref (nat_lit 171)), (iv (nat_lit 88) (nat_lit 0)), (iv (nat_lit 0) (nat_lit 0)), (.ref (nat_lit 178)), (iv (nat_lit 92) (nat_lit 0)), (iv (nat_lit 0) (nat_lit 0)), (.ref (nat_lit 185)), (iv (nat_lit 101) (nat_lit 0)), (iv (nat_lit 0) (nat_lit 0)), (.ref (nat_lit 192)), (iv (nat_lit 109) (nat_lit 0)), (iv (nat_lit 0) (nat_lit 0)), (.ref (nat_lit 199)), (iv (nat_lit 118) (nat_lit 0)), (iv (nat_lit 0) (nat_lit 0)), (.ref (nat_lit 206)), (iv (nat_lit 140) (nat_lit 0)), (iv (nat_lit 0) (nat_lit 0)), (.ref (nat_lit 213)), (iv (nat_lit 154) (nat_lit 0)), (iv (nat_lit 0) (nat_lit 0)), (.ref (nat_lit 221)), (iv (nat_lit 156) (nat_lit 0)), (iv (nat_lit 0) (nat_lit 0)), (.ref (nat_lit 228)), (iv (nat_lit 163) (nat_lit 0)), (iv (nat_lit 0) (nat_lit 0)), (.ref (nat_lit 235)), (iv (nat_lit 172) (nat_lit 0)), (iv (nat_lit 0) (nat_lit 0)), (.ref (nat_lit 242)), (iv (nat_lit 224) (nat_lit 0)), (iv (nat_lit 0) (nat_lit 0)), (.ref (nat_lit 372))])) (Array.mk []))
noncomputable def h371 (P : Params) : Obj := (Obj.mk (.type "tuple") none (.seq (.mk [(Value.bool Bool.false), (sv "single" (nat_lit 481))]) (nat_lit 0)) (Array.mk []))
noncomputable def h372 (P : Params) : Obj := (Obj.mk (.type "tuple") none (.seq (.mk []) (nat_lit 0)) (Array.mk []))
noncomputable def h373 (P : Params) : Obj := (Obj.mk .none none (.fields (.mk [])) (Array.mk []))
noncomputable def h374 (P : Params) : Obj := (Obj.mk (.type "tuple") none (.seq (.mk [(sv "cells" (nat_lit 687)), (sv "is_wrapped" (nat_lit 688)), (sv "size" (nat_lit 689)), (sv "found" (nat_lit 690))]) (nat_lit 0)) (Array.mk []))
noncomputable def h375 (P : Params) : Obj := (Obj.mk (.type "tuple") none (.seq (.mk []) (nat_lit 0)) (Array.mk []))
noncomputable def h376 (P : Params) : Obj := (Obj.mk .none none (Data.func (FuncData.mk (Str.ofString "line_of") (Str.ofString "line_of") (parsOf (stAt 34)) (FuncBody.stmts (bodyOf (stAt 34))) (scopeOf (stAt 34)) (nat_lit 0) [] .none .none .none .none none .none .none (nat_lit 0))) (Array.mk []))
noncomputable def h377 (P : Params) : Obj := (Obj.mk (.type "code") none (.fields (.mk [(sv "line_of" (nat_lit 684)), (sv "line_of" (nat_lit 685)), (sv "/claim/cut.py" (nat_lit 686)), (iv (nat_lit 224) (nat_lit 0)), (iv (nat_lit 3) (nat_lit 0)), (iv (nat_lit 0) (nat_lit 0)), (iv (nat_lit 0) (nat_lit 0)), (iv (nat_lit 3) (nat_lit 0)), (.ref (nat_lit 367)), (Value.bool Bool.true), (iv (nat_lit 181) (nat_lit 0)), (.ref (nat_lit 368)), .none, (.ref (nat_lit 369)), (.ref (nat_lit 370)), (.ref (nat_lit 371)), (iv (nat_lit 691) (nat_lit 0)), (iv (nat_lit 224) (nat_lit 0)), (sv "/claim/cut.py" (nat_lit 692))])) (Array.mk []))
noncomputable def h378 (P : Params) : Obj := (Obj.mk (.type "function") none (Data.func (FuncData.mk (Str.ofString "line_of") (Str.ofString "line_of") (parsOf (stAt 34)) (FuncBody.stmts (bodyOf (stAt 34))) (scopeOf (stAt 34)) (nat_lit 3) [] (.ref (nat_lit 366)) .none .none (sv "termcore.lines" (nat_lit 479)) none (.ref (nat_lit 372)) .none (nat_lit 0))) (Array.mk []))
noncomputable def t6 (P : Params) : BT := (.node (boot_o_0 P) (.node (boot_o_1 P) (.node (h369 P) (.node (boot_o_7 P) (.node (h7 P) (.node (h23 P) (.node (h58 P) (.node (h124 P) (.node (h258 P) .nil .nil) .nil) (.node (h190 P) (.node (h322 P) .nil .nil) .nil)) (.node (h92 P) (.node (h158 P) (.node (h290 P) .nil .nil) .nil) (.node (h224 P) (.node (h354 P) .nil .nil) .nil))) (.node (h42 P) (.node (h76 P) (.node (h142 P) (.node (h274 P) .nil .nil) .nil) (.node (h206 P) (.node (h338 P) .nil .nil) .nil)) (.node (h108 P) (.node (h174 P) (.node (h306 P) .nil .nil) .nil) (.node (h242 P) (.node (h372 P) .nil .nil) .nil)))) (.node (h15 P) (.node (h31 P) (.node (h66 P) (.node (h132 P) (.node (h266 P) .nil .nil) .nil) (.node (h198 P) (.node (h330 P) .nil .nil) .nil)) (.node (h100 P) (.node (h166 P) (.node (h298 P) .nil .nil) .nil) (.node (h232 P) (.node (h362 P) .nil .nil) .nil))) (.node (h50 P) (.node (h84 P) (.node (h150 P) (.node (h282 P) .nil .nil) .nil) (.node (h214 P) (.node (h346 P) .nil .nil) .nil)) (.node (h116 P) (.node (h182 P) (.node (h314 P) .nil .nil) .nil) (.node (h250 P) .nil .nil))))) (.node (h0 P) (.node (h11 P) (.node (h27 P) (.node (h62 P) (.node (h128 P) (.node (h262 P) .nil .nil) .nil) (.node (h194 P) (.node (h326 P) .nil .nil) .nil)) (.node (h96 P) (.node (h162 P) (.node (h294 P) .nil .nil) .nil) (.node (h228 P) (.node (h358 P) .nil .nil) .nil))) (.node (h46 P) (.node (h80 P) (.node (h146 P) (.node (h278 P) .nil .nil) .nil) (.node (h210 P) (.node (h342 P) .nil .nil) .nil)) (.node (h112 P) (.node (h178 P) (.node (h310 P) .nil .nil) .nil) (.node (h246 P) (.node (h376 P) .nil .nil) .nil)))) (.node (h19 P) (.node (h35 P) (.node (h70 P) (.node (h136 P) (.node (h270 P) .nil .nil) .nil) (.node (h202 P) (.node (h334 P) .nil .nil) .nil)) (.node (h104 P) (.node (h170 P) (.node (h302 P) .nil .nil) .nil) (.node (h236 P) (.node (h366 P) .nil .nil) .nil))) (.node (h54 P) (.node (h88 P) (.node (h154 P) (.node (h286 P) .nil .nil) .nil) (.node (h220 P) (.node (h350 P) .nil .nil) .nil)) (.node (h120 P) (.node (h186 P) (.node (h318 P) .nil .nil) .nil) (.node (h254 P) .nil .nil)))))) (.node (boot_o_5 P) (.node (boot_o_9 P) (.node (h9 P) (.node (h25 P) (.node (h60 P) (.node (h126 P) (.node (h260 P) .nil .nil) .nil) (.node (h192 P) (.node (h324 P) .nil .nil) .nil)) (.node (h94 P) (.node (h160 P) (.node (h292 P) .nil .nil) .nil) (.node (h226 P) (.node (h356 P) .nil .nil) .nil))) (.node (h44 P) (.node (h78 P) (.node (h144 P) (.node (h276 P) .nil .nil) .nil) (.node (h208 P) (.node (h340 P) .nil .nil) .nil)) (.node (h110 P) (.node (h176 P) (.node (h308 P) .nil .nil) .nil) (.node (h244 P) (.node (h374 P) .nil .nil) .nil)))) (.node (h17 P) (.node (h33 P) (.node (h68 P) (.node (h134 P) (.node (h268 P) .nil .nil) .nil) (.node (h200 P) (.node (h332 P) .nil .nil) .nil)) (.node (h102 P) (.node (h168 P) (.node (h300 P) .nil .nil) .nil) (.node (h234 P) (.node (h364 P) .nil .nil) .nil))) (.node (h52 P) (.node (h86 P) (.node (h152 P) (.node (h284 P) .nil .nil) .nil) (.node (h218 P) (.node (h348 P) .nil .nil) .nil)) (.node (h118 P) (.node (h184 P) (.node (h316 P) .nil .nil) .nil) (.node (h252 P) .nil .nil))))) (.node (h2 P) (.node (h13 P) (.node (h29 P) (.node (h64 P) (.node (h130 P) (.node (h264 P) .nil .nil) .nil) (.node (h196 P) (.node (h328 P) .nil .nil) .nil)) (.node (h98 P) (.node (h164 P) (.node (h296 P) .nil .nil) .nil) (.node (h230 P) (.node (h360 P) .nil .nil) .nil))) (.node (h48 P) (.node (h82 P) (.node (h148 P) (.node (h280 P) .nil .nil) .nil) (.node (h212 P) (.node (h344 P) .nil .nil) .nil)) (.node (h114 P) (.node (h180 P) (.node (h312 P) .nil .nil) .nil) (.node (h248 P) (.node (h378 P) .nil .nil) .nil)))) (.node (h21 P) (.node (h40 P) (.node (h74 P) (.node (h140 P) (.node (h272 P) .nil .nil) .nil) (.node (h204 P) (.node (h336 P) .nil .nil) .nil)) (.node (h106 P) (.node (h172 P) (.node (h304 P) .nil .nil) .nil) (.node (h240 P) (.node (h368 P) .nil .nil) .nil))) (.node (h56 P) (.node (h90 P) (.node (h156 P) (.node (h288 P) .nil .nil) .nil) (.node (h222 P) (.node (h352 P) .nil .nil) .nil)) (.node (h122 P) (.node (h188 P) (.node (h320 P) .nil .nil) .nil) (.node (h256 P) .nil .nil))))))) (.node (h4 P) (.node (boot_o_4 P) (.node (boot_o_8 P) (.node (h8 P) (.node (h24 P) (.node (h59 P) (.node (h125 P) (.node (h259 P) .nil .nil) .nil) (.node (h191 P) (.node (h323 P) .nil .nil) .nil)) (.node (h93 P) (.node (h159 P) (.node (h291 P) .nil .nil) .nil) (.node (h225 P) (.node (h355 P) .nil .nil) .nil))) (.node (h43 P) (.node (h77 P) (.node (h143 P) (.node (h275 P) .nil .nil) .nil) (.node (h207 P) (.node (h339 P) .nil .nil) .nil)) (.node (h109 P) (.node (h175 P) (.node (h307 P) .nil .nil) .nil) (.node (h243 P) (.node (h373 P) .nil .nil) .nil)))) (.node (h16 P) (.node (h38 P) (.node (h67 P) (.node (h133 P) (.node (h267 P) .nil .nil) .nil) (.node (h199 P) (.node (h331 P) .nil .nil) .nil)) (.node (h101 P) (.node (h167 P) (.node (h299 P) .nil .nil) .nil) (.node (h233 P) (.node (h363 P) .nil .nil) .nil))) (.node (h51 P) (.node (h85 P) (.node (h151 P) (.node (h283 P) .nil .nil) .nil) (.node (h217 P) (.node (h347 P) .nil .nil) .nil)) (.node (h117 P) (.node (h183 P) (.node (h315 P) .nil .nil) .nil) (.node (h251 P) .nil .nil))))) (.node (h370 P) (.node (h12 P) (.node (h28 P) (.node (h63 P) (.node (h129 P) (.node (h263 P) .nil .nil) .nil) (.node (h195 P) (.node (h327 P) .nil .nil) .nil)) (.node (h97 P) (.node (h163 P) (.node (h295 P) .nil .nil) .nil) (.node (h229 P) (.node (h359 P) .nil .nil) .nil))) (.node (h47 P) (.node (h81 P) (.node (h147 P) (.node (h279 P) .nil .nil) .nil) (.node (h211 P) (.node (h343 P) .nil .nil) .nil)) (.node (h113 P) (.node (h179 P) (.node (h311 P) .nil .nil) .nil) (.node (h247 P) (.node (h377 P) .nil .nil) .nil)))) (.node (h20 P) (.node (h39 P) (.node (h71 P) (.node (h139 P) (.node (h271 P) .nil .nil) .nil) (.node (h203 P) (.node (h335 P) .nil .nil) .nil)) (.node (h105 P) (.node (h171 P) (.node (h303 P) .nil .nil) .nil) (.node (h237 P) (.node (h367 P) .nil .nil) .nil))) (.node (h55 P) (.node (h89 P) (.node (h155 P) (.node (h287 P) .nil .nil) .nil) (.node (h221 P) (.node (h351 P) .nil .nil) .nil)) (.node (h121 P) (.node (h187 P) (.node (h319 P) .nil .nil) .nil) (.node (h255 P) .nil .nil)))))) (.node (boot_o_6 P) (.node (boot_o_10 P) (.node (h10 P) (.node (h26 P) (.node (h61 P) (.node (h127 P) (.node (h261 P) .nil .nil) .nil) (.node (h193 P) (.node (h325 P) .nil .nil) .nil)) (.node (h95 P) (.node (h161 P) (.node (h293 P) .nil .nil) .nil) (.node (h227 P) (.node (h357 P) .nil .nil) .nil))) (.node (h45 P) (.node (h79 P) (.node (h145 P) (.node (h277 P) .nil .nil) .nil) (.node (h209 P) (.node (h341 P) .nil .nil) .nil)) (.node (h111 P) (.node (h177 P) (.node (h309 P) .nil .nil) .nil) (.node (h245 P) (.node (h375 P) .nil .nil) .nil)))) (.node (h18 P) (.node (h34 P) (.node (h69 P) (.node (h135 P) (.node (h269 P) .nil .nil) .nil) (.node (h201 P) (.node (h333 P) .nil .nil) .nil)) (.node (h103 P) (.node (h169 P) (.node (h301 P) .nil .nil) .nil) (.node (h235 P) (.node (h365 P) .nil .nil) .nil))) (.node (h53 P) (.node (h87 P) (.node (h153 P) (.node (h285 P) .nil .nil) .nil) (.node (h219 P) (.node (h349 P) .nil .nil) .nil)) (.node (h119 P) (.node (h185 P) (.node (h317 P) .nil .nil) .nil) (.node (h253 P) .nil .nil))))) (.node (h3 P) (.node (h14 P) (.node (h30 P) (.node (h65 P) (.node (h131 P) (.node (h265 P) .nil .nil) .nil) (.node (h197 P) (.node (h329 P) .nil .nil) .nil)) (.node (h99 P) (.node (h165 P) (.node (h297 P) .nil .nil) .nil) (.node (h231 P) (.node (h361 P) .nil .nil) .nil))) (.node (h49 P) (.node (h83 P) (.node (h149 P) (.node (h281 P) .nil .nil) .nil) (.node (h213 P) (.node (h345 P) .nil .nil) .nil)) (.node (h115 P) (.node (h181 P) (.node (h313 P) .nil .nil) .nil) (.node (h249 P) .nil .nil)))) (.node (h22 P) (.node (h41 P) (.node (h75 P) (.node (h141 P) (.node (h273 P) .nil .nil) .nil) (.node (h205 P) (.node (h337 P) .nil .nil) .nil)) (.node (h107 P) (.node (h173 P) (.node (h305 P) .nil .nil) .nil) (.node (h241 P) (.node (h371 P) .nil .nil) .nil))) (.node (h57 P) (.node (h91 P) (.node (h157 P) (.node (h289 P) .nil .nil) .nil) (.node (h223 P) (.node (h353 P) .nil .nil) .nil)) (.node (h123 P) (.node (h189 P) (.node (h321 P) .nil .nil) .nil) (.node (h257 P) .nil .nil))))))))
noncomputable def s6 (w : World) (os : OsState) : SharedT := SharedT.mk (t6 w.params) (nat_lit 374) (Life.mk [] [] [] (nat_lit 0) [] [] Bool.false (Array.mk []) [] (nat_lit 0) Bool.false Bool.false Bool.false (Int.ofNat (nat_lit 0)) [(Int.ofNat (nat_lit 2000)), (Int.ofNat (nat_lit 10)), (Int.ofNat (nat_lit 10))] Bool.false (nat_lit 0) Bool.true [] [] (nat_lit 0) Bool.false) (Array.mk []) (Drawn.mk (nat_lit 0) (nat_lit 0) (nat_lit 0) (nat_lit 0)) (nat_lit 696) os
noncomputable def pos6 : Pos := (Pos.mk (nat_lit 230) (nat_lit 0) (nat_lit 230) (nat_lit 8))
noncomputable def l6 : List Stmt := [stAt 34, stAt 35]
noncomputable def h379 (P : Params) : Obj := (Obj.mk (.type "dict") none (Data.dict (Array.mk [(de P "__name__" (nat_lit 165) (sv "termcore.grid" (nat_lit 694))), (de P "__doc__" (nat_lit 166) .none), (de P "__package__" (nat_lit 167) .none), (de P "__loader__" (nat_lit 168) (Value.builtin "__main__.__loader__#opaque")), (de P "__spec__" (nat_lit 169) .none), (de P "__annotations__" (nat_lit 170) (.ref (nat_lit 6))), (de P "__builtins__" (nat_lit 171) (.ref (nat_lit 4))), (de P "__file__" (nat_lit 173) (sv "/claim/cut.py" (nat_lit 172))), (de P "__cached__" (nat_lit 174) .none), (de P "_wall" (nat_lit 193) (.ref (nat_lit 21))), (de P "NO_COLOUR" (nat_lit 198) (Value.int (Int.negSucc (nat_lit 0)) (nat_lit 197))), (de P "PLAIN" (nat_lit 201) (.ref (nat_lit 22))), (de P "BACK" (nat_lit 203) (iv (nat_lit 2) (nat_lit 202))), (de P "LINE_FEED" (nat_lit 205) (iv (nat_lit 10) (nat_lit 204))), (de P "BLANK" (nat_lit 207) (iv (nat_lit 32) (nat_lit 206))), (de P "TermError" (nat_lit 236) (.ref (nat_lit 40))), (de P "BadSize" (nat_lit 252) (.ref (nat_lit 53))), (de P "erased_pen" (nat_lit 259) (.ref (nat_lit 62))), (de P "blank_cell" (nat_lit 266) (.ref (nat_lit 69))), (de P "is_blank" (nat_lit 273) (.ref (nat_lit 76))), (de P "View" (nat_lit 353) (.ref (nat_lit 135))), (de P "view_width" (nat_lit 365) (.ref (nat_lit 146))), (de P "cell_codes" (nat_lit 372) (.ref (nat_lit 153))), (de P "view_codes" (nat_lit 378) (.ref (nat_lit 158))), (de P "OPENERS" (nat_lit 382) (Value.bytes (Array.mk [(40 : UInt8), (91 : UInt8), (123 : UInt8)]) (nat_lit 381))), (de P "CLOSERS" (nat_lit 384) (Value.bytes (Array.mk [(41 : UInt8), (93 : UInt8), (125 : UInt8)]) (nat_lit 383))), (de P "copy_signs" (nat_lit 395) (.ref (nat_lit 165))), (de P "copy_index" (nat_lit 406) (.ref (nat_lit 172))), (de P "copy_sort" (nat_lit 414) (.ref (nat_lit 179))), (de P "next_word" (nat_lit 426) (.ref (nat_lit 186))), (de P "next_word_end" (nat_lit 437) (.ref (nat_lit 193))), (de P "previous_word" (nat_lit 448) (.ref (nat_lit 200))), (de P "matching_bracket" (nat_lit 463) (.ref (nat_lit 207))), (de P "jump_place" (nat_lit 478) (.ref (nat_lit 214))), (de P "LINE_SIZES" (nat_lit 485) (.ref (nat_lit 215))), (de P "line_blanks" (nat_lit 493) (.ref (nat_lit 222))), (de P "line_slice" (nat_lit 503) (.ref (nat_lit 229))), (de P "line_codes" (nat_lit 513) (.ref (nat_lit 236))), (de P "Line" (nat_lit 682) (.ref (nat_lit 361))), (de P "line_of" (nat_lit 693) (.ref (nat_lit 373))), (de P "Grid" (nat_lit 893) (.ref (nat_lit 522)))]) (nat_lit 41)) (Array.mk []))
noncomputable def h380 (P : Params) : Obj := (Obj.mk .none none (.fields (.mk [(iv (nat_lit 1) (nat_lit 0)), (iv (nat_lit 0) (nat_lit 0)), (.ref (nat_lit 20)), (iv (nat_lit 10) (nat_lit 0)), (iv (nat_lit 0) (nat_lit 0)), (.ref (nat_lit 28)), (iv (nat_lit 14) (nat_lit 0)), (iv (nat_lit 0) (nat_lit 0)), (.ref (nat_lit 49)), (iv (nat_lit 16) (nat_lit 0)), (iv (nat_lit 0) (nat_lit 0)), (.ref (nat_lit 61)), (iv (nat_lit 18) (nat_lit 0)), (iv (nat_lit 0) (nat_lit 0)), (.ref (nat_lit 68)), (iv (nat_lit 20) (nat_lit 0)), (iv (nat_lit 0) (nat_lit 0)), (.ref (nat_lit 75)), (iv (nat_lit 23) (nat_lit 0)), (iv (nat_lit 0) (nat_lit 0)), (.ref (nat_lit 82)), (iv (nat_lit 47) (nat_lit 0)), (iv (nat_lit 0) (nat_lit 0)), (.ref (nat_lit 145)), (iv (nat_lit 57) (nat_lit 0)), (iv (nat_lit 0) (nat_lit 0)), (.ref (nat_lit 152)), (iv (nat_lit 61) (nat_lit 0)), (iv (nat_lit 0) (nat_lit 0)), (.ref (nat_lit 157)), (iv (nat_lit 73) (nat_lit 0)), (iv (nat_lit 0) (nat_lit 0)), (.ref (nat_lit 164)), (iv (nat_lit 79) (nat_lit 0)), (iv (nat_lit 0) (nat_lit 0)), (.ref (nat_lit 171)), (iv (nat_lit 88) (nat_lit 0)), (iv (nat_lit 0) (nat_lit 0)), (.ref (nat_lit 178)), (iv (nat_lit 92) (nat_lit 0)), (iv (nat_lit 0) (nat_lit 0)), (.ref (nat_lit 185)), (iv (nat_lit 101) (nat_lit 0)), (iv (nat_lit 0) (nat_lit 0)), (.ref (nat_lit 192)), (iv (nat_lit 109) (nat_lit 0)), (iv (nat_lit 0) (nat_lit 0)), (.ref (nat_lit 199)), (iv (nat_lit 118) (nat_lit 0)), (iv (nat_lit 0) (nat_lit 0)), (.ref (nat_lit 206)), (iv (nat_lit 140) (nat_lit 0)), (iv (nat_lit 0) (nat_lit 0)), (.ref (nat_lit 213)), (iv (nat_lit 154) (nat_lit 0)), (iv (nat_lit 0) (nat_lit 0)), (.ref (nat_lit 221)), (iv (nat_lit 156) (nat_lit 0)), (iv (nat_lit 0) (nat_lit 0)), (.ref (nat_lit 228)), (iv (nat_lit 163) (nat_lit 0)), (iv (nat_lit 0) (nat_lit 0)), (.ref (nat_lit 235)), (iv (nat_lit 172) (nat_lit 0)), (iv (nat_lit 0) (nat_lit 0)), (.ref (nat_lit 242)), (iv (nat_lit 224) (nat_lit 0)), (iv (nat_lit 0) (nat_lit 0)), (.ref (nat_lit 372)), (iv (nat_lit 231) (nat_lit 0)), (iv (nat_lit 0) (nat_lit 0)), (.ref (nat_lit 379))])) (Array.mk []))
noncomputable def h381 (P : Params) : Obj := (Obj.mk (.type "tuple") none (.seq (.mk []) (nat_lit 0)) (Array.mk []))
noncomputable def h382 (P : Params) : Obj := (Obj.mk (.type "builtin_function_or_method") none (.fields (.mk [(Value.builtin "type.__prepare__"), (.type "type")])) (Array.mk []))
noncomputable def h383 (P : Params) : Obj := (Obj.mk (.type "dict") none (Data.dict (Array.mk [(de P "__module__" (nat_lit 703) (sv "termcore.grid" (nat_lit 694))), (de P "__qualname__" (nat_lit 705) (sv "Grid" (nat_lit 704))), (de P "__firstlineno__" (nat_lit 707) (iv (nat_lit 231) (nat_lit 706))), (de P "__init__" (nat_lit 713) (.ref (nat_lit 385))), (de P "line" (nat_lit 721) (.ref (nat_lit 392))), (de P "whole_area" (nat_lit 728) (.ref (nat_lit 399))), (de P "is_wide" (nat_lit 736) (.ref (nat_lit 406))), (de P "fresh" (nat_lit 745) (.ref (nat_lit 413))), (de P "part_above" (nat_lit 753) (.ref (nat_lit 420))), (de P "scroll_up" (nat_lit 763) (.ref (nat_lit 427))), (de P "scroll_down" (nat_lit 773) (.ref (nat_lit 434))), (de P "unwrap" (nat_lit 781) (.ref (nat_lit 441))), (de P "insert_columns" (nat_lit 792) (.ref (nat_lit 448))), (de P "delete_columns" (nat_lit 803) (.ref (nat_lit 455))), (de P "cells_of" (nat_lit 813) (.ref (nat_lit 462))), (de P "put_cells" (nat_lit 823) (.ref (nat_lit 469))), (de P "erase_area" (nat_lit 833) (.ref (nat_lit 477))), (de P "fill_area" (nat_lit 842) (.ref (nat_lit 484))), (de P "copy_area" (nat_lit 852) (.ref (nat_lit 491))), (de P "cells_in" (nat_lit 860) (.ref (nat_lit 498))), (de P "copy" (nat_lit 867) (.ref (nat_lit 505))), (de P "equals" (nat_lit 875) (.ref (nat_lit 512))), (de P "text" (nat_lit 882) (.ref (nat_lit 519))), (de P "__static_attributes__" (nat_lit 886) (.ref (nat_lit 520)))]) (nat_lit 24)) (Array.mk []))
noncomputable def h384 (P : Params) : Obj := (Obj.mk (.type "tuple") none (.seq (.mk []) (nat_lit 0)) (Array.mk []))
noncomputable def h385 (P : Params) : Obj := (Obj.mk .none none (.fields (.mk [(iv (nat_lit 233) (nat_lit 0)), (iv (nat_lit 4) (nat_lit 0)), (.ref (nat_lit 384)), (iv (nat_lit 240) (nat_lit 0)), (iv (nat_lit 4) (nat_lit 0)), (.ref (nat_lit 391)), (iv (nat_lit 243) (nat_lit 0)), (iv (nat_lit 4) (nat_lit 0)), (.ref (nat_lit 398)), (iv (nat_lit 246) (nat_lit 0)), (iv (nat_lit 4) (nat_lit 0)), (.ref (nat_lit 405)), (iv (nat_lit 249) (nat_lit 0)), (iv (nat_lit 4) (nat_lit 0)), (.ref (nat_lit 412)), (iv (nat_lit 252) (nat_lit 0)), (iv (nat_lit 4) (nat_lit 0)), (.ref (nat_lit 419)), (iv (nat_lit 255) (nat_lit 0)), (iv (nat_lit 4) (nat_lit 0)), (.ref (nat_lit 426)), (iv (nat_lit 258) (nat_lit 0)), (iv (nat_lit 4) (nat_lit 0)), (.ref (nat_lit 433)), (iv (nat_lit 261) (nat_lit 0)), (iv (nat_lit 4) (nat_lit 0)), (.ref (nat_lit 440)), (iv (nat_lit 264) (nat_lit 0)), (iv (nat_lit 4) (nat_lit 0)), (.ref (nat_lit 447)), (iv (nat_lit 267) (nat_lit 0)), (iv (nat_lit 4) (nat_lit 0)), (.ref (nat_lit 454)), (iv (nat_lit 270) (nat_lit 0)), (iv (nat_lit 4) (nat_lit 0)), (.ref (nat_lit 461)), (iv (nat_lit 273) (nat_lit 0)), (iv (nat_lit 4) (nat_lit 0)), (.ref (nat_lit 468)), (iv (nat_lit 276) (nat_lit 0)), (iv (nat_lit 4) (nat_lit 0)), (.ref (nat_lit 476)), (iv (nat_lit 279) (nat_lit 0)), (iv (nat_lit 4) (nat_lit 0)), (.ref (nat_lit 483)), (iv (nat_lit 282) (nat_lit 0)), (iv (nat_lit 4) (nat_lit 0)), (.ref (nat_lit 490)), (iv (nat_lit 285) (nat_lit 0)), (iv (nat_lit 4) (nat_lit 0)), (.ref (nat_lit 497)), (iv (nat_lit 288) (nat_lit 0)), (iv (nat_lit 4) (nat_lit 0)), (.ref (nat_lit 504)), (iv (nat_lit 291) (nat_lit 0)), (iv (nat_lit 4) (nat_lit 0)), (.ref (nat_lit 511)), (iv (nat_lit 294) (nat_lit 0)), (iv (nat_lit 4) (nat_lit 0)), (.ref (nat_lit 518))])) (Array.mk []))
noncomputable def h386 (P : Params) : Obj := (Obj.mk (.type "code") none (.fields (.mk [(sv "Grid" (nat_lit 698)), (sv "Grid" (nat_lit 699)), (sv "/claim/cut.py" (nat_lit 700)), (iv (nat_lit 231) (nat_lit 0)), (iv (nat_lit 0) (nat_lit 0)), (iv (nat_lit 0) (nat_lit 0)), (iv (nat_lit 0) (nat_lit 0)), (iv (nat_lit 0) (nat_lit 0)), (.ref (nat_lit 377)), (Value.bool Bool.false), (iv (nat_lit 181) (nat_lit 0)), (.ref (nat_lit 378)), .none, .none, .none, .none, (iv (nat_lit 701) (nat_lit 0)), (iv (nat_lit 231) (nat_lit 0)), (sv "/claim/cut.py" (nat_lit 702))])) (Array.mk []))
noncomputable def h387 (P : Params) : Obj := (Obj.mk (.type "frame") none Data.plain (Array.mk [(some (.ref (nat_lit 379))), (some (.ref (nat_lit 3))), (some (.ref (nat_lit 376))), none, (some (sv "termcore.grid" (nat_lit 694))), none, (some (.ref (nat_lit 0)))]))
noncomputable def h388 (P : Params) : Obj := (Obj.mk (.type "tuple") none (.seq (.mk []) (nat_lit 0)) (Array.mk []))
noncomputable def h389 (P : Params) : Obj := (Obj.mk .none none (.fields (.mk [])) (Array.mk []))
noncomputable def h390 (P : Params) : Obj := (Obj.mk .none none (Data.func (FuncData.mk (Str.ofString "__init__") (Str.ofString "Grid.__init__") (parsOf (stIn 36 0)) (FuncBody.stmts (bodyOf (stIn 36 0))) (scopeOf (stIn 36 0)) (nat_lit 0) [] .none .none .none .none none .none .none (nat_lit 0))) (Array.mk []))
noncomputable def h391 (P : Params) : Obj := (Obj.mk (.type "code") none (.fields (.mk [(sv "__init__" (nat_lit 708)), (sv "Grid.__init__" (nat_lit 709)), (sv "/claim/cut.py" (nat_lit 710)), (iv (nat_lit 233) (nat_lit 0)), (iv (nat_lit 3) (nat_lit 0)), (iv (nat_lit 0) (nat_lit 0)), (iv (nat_lit 0) (nat_lit 0)), (iv (nat_lit 3) (nat_lit 0)), (.ref (nat_lit 381)), (Value.bool Bool.true), (iv (nat_lit 181) (nat_lit 0)), (.ref (nat_lit 382)), .none, .none, .none, (.ref (nat_lit 383)), (iv (nat_lit 711) (nat_lit 0)), (iv (nat_lit 233) (nat_lit 0)), (sv "/claim/cut.py" (nat_lit 712))])) (Array.mk []))
noncomputable def h392 (P : Params) : Obj := (Obj.mk (.type "function") none (Data.func (FuncData.mk (Str.ofString "__init__") (Str.ofString "Grid.__init__") (parsOf (stIn 36 0)) (FuncBody.stmts (bodyOf (stIn 36 0))) (scopeOf (stIn 36 0)) (nat_lit 3) [] .none .none .none (sv "termcore.grid" (nat_lit 694)) none (.ref (nat_lit 384)) .none (nat_lit 0))) (Array.mk []))
noncomputable def h393 (P : Params) : Obj := (Obj.mk (.type "tuple") none (.seq (.mk []) (nat_lit 0)) (Array.mk []))
noncomputable def h394 (P : Params) : Obj := (Obj.mk .none none (.fields (.mk [])) (Array.mk []))
noncomputable def h395 (P : Params) : Obj := (Obj.mk (.type "tuple") none (.seq (.mk [(sv "self" (nat_lit 717)), (sv "row" (nat_lit 718))]) (nat_lit 0)) (Array.mk []))
noncomputable def h396 (P : Params) : Obj := (Obj.mk (.type "tuple") none (.seq (.mk []) (nat_lit 0)) (Array.mk []))
noncomputable def h397 (P : Params) : Obj := (Obj.mk .none none (Data.func (FuncData.mk (Str.ofString "line") (Str.ofString "Grid.line") (parsOf (stIn 36 1)) (FuncBody.stmts (bodyOf (stIn 36 1))) (scopeOf (stIn 36 1)) (nat_lit 0) [] .none .none .none .none none .none .none (nat_lit 0))) (Array.mk []))
noncomputable def h398 (P : Params) : Obj := (Obj.mk (.type "code") none (.fields (.mk [(sv "line" (nat_lit 714)), (sv "Grid.line" (nat_lit 715)), (sv "/claim/cut.py" (nat_lit 716)), (iv (nat_lit 240) (nat_lit 0)), (iv (nat_lit 2) (nat_lit 0)), (iv (nat_lit 0) (nat_lit 0)), (iv (nat_lit 0) (nat_lit 0)), (iv (nat_lit 3) (nat_lit 0)), (.ref (nat_lit 386)), (Value.bool Bool.true), (iv (nat_lit 181) (nat_lit 0)), (.ref (nat_lit 387)), .none, (.ref (nat_lit 388)), (.ref (nat_lit 389)), (.ref (nat_lit 390)), (iv (nat_lit 719) (nat_lit 0)), (iv (nat_lit 240) (nat_lit 0)), (sv "/claim/cut.py" (nat_lit 720))])) (Array.mk []))
noncomputable def h399 (P : Params) : Obj := (Obj.mk (.type "function") none (Data.func (FuncData.mk (Str.ofString "line") (Str.ofString "Grid.line") (parsOf (stIn 36 1)) (FuncBody.stmts (bodyOf (stIn 36 1))) (scopeOf (stIn 36 1)) (nat_lit 3) [] .none .none .none (sv "termcore.grid" (nat_lit 694)) none (.ref (nat_lit 391)) .none (nat_lit 0))) (Array.mk []))
noncomputable def h400 (P : Params) : Obj := (Obj.mk (.type "tuple") none (.seq (.mk []) (nat_lit 0)) (Array.mk []))
noncomputable def h401 (P : Params) : Obj := (Obj.mk .none none (.fields (.mk [])) (Array.mk []))
noncomputable def h402 (P : Params) : Obj := (Obj.mk (.type "tuple") none (.seq (.mk [(sv "self" (nat_lit 725))]) (nat_lit 0)) (Array.mk []))
noncomputable def h403 (P : Params) : Obj := (Obj.mk (.type "tuple") none (.seq (.mk []) (nat_lit 0)) (Array.mk []))
noncomputable def h404 (P : Params) : Obj := (Obj.mk .none none (Data.func (FuncData.mk (Str.ofString "whole_area") (Str.ofString "Grid.whole_area") (parsOf (stIn 36 2)) (FuncBody.stmts (bodyOf (stIn 36 2))) (scopeOf (stIn 36 2)) (nat_lit 0) [] .none .none .none .none none .none .none (nat_lit 0))) (Array.mk []))
noncomputable def h405 (P : Params) : Obj := (Obj.mk (.type "code") none (.fields (.mk [(sv "whole_area" (nat_lit 722)), (sv "Grid.whole_area" (nat_lit 723)), (sv "/claim/cut.py" (nat_lit 724)), (iv (nat_lit 243) (nat_lit 0)), (iv (nat_lit 1) (nat_lit 0)), (iv (nat_lit 0) (nat_lit 0)), (iv (nat_lit 0) (nat_lit 0)), (iv (nat_lit 3) (nat_lit 0)), (.ref (nat_lit 393)), (Value.bool Bool.true), (iv (nat_lit 181) (nat_lit 0)), (.ref (nat_lit 394)), .none, (.ref (nat_lit 395)), (.ref (nat_lit 396)), (.ref (nat_lit 397)), (iv (nat_lit 726) (nat_lit 0)), (iv (nat_lit 243) (nat_lit 0)), (sv "/claim/cut.py" (nat_lit 727))])) (Array.mk []))
noncomputable def h406 (P : Params) : Obj := (Obj.mk (.type "function") none (Data.func (FuncData.mk (Str.ofString "whole_area") (Str.ofString "Grid.whole_area") (parsOf (stIn 36 2)) (FuncBody.stmts (bodyOf (stIn 36 2))) (scopeOf (stIn 36 2)) (nat_lit 3) [] .none .none .none (sv "termcore.grid" (nat_lit 694)) none (.ref (nat_lit 398)) .none (nat_lit 0))) (Array.mk []))
noncomputable def h407 (P : Params) : Obj := (Obj.mk (.type "tuple") none (.seq (.mk []) (nat_lit 0)) (Array.mk []))
noncomputable def h408 (P : Params) : Obj := (Obj.mk .none none (.fields (.mk [])) (Array.mk []))
noncomputable def h409 (P : Params) : Obj := (Obj.mk (.type "tuple") none (.seq (.mk [(sv "self" (nat_lit 732)), (sv "area" (nat_lit 733))]) (nat_lit 0)) (Array.mk []))
noncomputable def h410 (P : Params) : Obj := (Obj.mk (.type "tuple") none (.seq (.mk []) (nat_lit 0)) (Array.mk []))
noncomputable def h411 (P : Params) : Obj := (Obj.mk .none none (Data.func (FuncData.mk (Str.ofString "is_wide") (Str.ofString "Grid.is_wide") (parsOf (stIn 36 3)) (FuncBody.stmts (bodyOf (stIn 36 3))) (scopeOf (stIn 36 3)) (nat_lit 0) [] .none .none .none .none none .none .none (nat_lit 0))) (Array.mk []))
noncomputable def h412 (P : Params) : Obj := (Obj.mk (.type "code") none (.fields (.mk [(sv "is_wide" (nat_lit 729)), (sv "Grid.is_wide" (nat_lit 730)), (sv "/claim/cut.py" (nat_lit 731)), (iv (nat_lit 246) (nat_lit 0)), (iv (nat_lit 2) (nat_lit 0)), (iv (nat_lit 0) (nat_lit 0)), (iv (nat_lit 0) (nat_lit 0)), (iv (nat_lit 3) (nat_lit 0)), (.ref (nat_lit 400)), (Value.bool Bool.true), (iv (nat_lit 181) (nat_lit 0)), (.ref (nat_lit 401)), .none, (.ref (nat_lit 402)), (.ref (nat_lit 403)), (.ref (nat_lit 404)), (iv (nat_lit 734) (nat_lit 0)), (iv (nat_lit 246) (nat_lit 0)), (sv "/claim/cut.py" (nat_lit 735))])) (Array.mk []))
noncomputable def h413 (P : Params) : Obj := (Obj.mk (.type "function") none (Data.func (FuncData.mk (Str.ofString "is_wide") (Str.ofString "Grid.is_wide") (parsOf (stIn 36 3)) (FuncBody.stmts (bodyOf (stIn 36 3))) (scopeOf (stIn 36 3)) (nat_lit 3) [] .none .none .none (sv "termcore.grid" (nat_lit 694)) none (.ref (nat_lit 405)) .none (nat_lit 0))) (Array.mk []))
noncomputable def h414 (P : Params) : Obj := (Obj.mk (.type "tuple") none (.seq (.mk []) (nat_lit 0)) (Array.mk []))
noncomputable def h415 (P : Params) : Obj := (Obj.mk .none none (.fields (.mk [])) (Array.mk []))
noncomputable def h416 (P : Params) : Obj := (Obj.mk (.type "tuple") none (.seq (.mk [(sv "self" (nat_lit 740)), (sv "many" (nat_lit 741)), (sv "pen" (nat_lit 742))]) (nat_lit 0)) (Array.mk []))
noncomputable def h417 (P : Params) : Obj := (Obj.mk (.type "tuple") none (.seq (.mk []) (nat_lit 0)) (Array.mk []))
noncomputable def h418 (P : Params) : Obj := (Obj.mk .none none (Data.func (FuncData.mk (Str.ofString "fresh") (Str.ofString "Grid.fresh") (parsOf (stIn 36 4)) (FuncBody.stmts (bodyOf (stIn 36 4))) (scopeOf (stIn 36 4)) (nat_lit 0) [] .none .none .none .none none .none .none (nat_lit 0))) (Array.mk []))
noncomputable def h419 (P : Params) : Obj := (Obj.mk (.type "code") none (.fields (.mk [(sv "fresh" (nat_lit 737)), (sv "Grid.fresh" (nat_lit 738)), (sv "/claim/cut.py" (nat_lit 739)), (iv (nat_lit 249) (nat_lit 0)), (iv (nat_lit 3) (nat_lit 0)), (iv (nat_lit 0) (nat_lit 0)), (iv (nat_lit 0) (nat_lit 0)), (iv (nat_lit 3) (nat_lit 0)), (.ref (nat_lit 407)), (Value.bool Bool.true), (iv (nat_lit 181) (nat_lit 0)), (.ref (nat_lit 408)), .none, (.ref (nat_lit 409)), (.ref (nat_lit 410)), (.ref (nat_lit 411)), (iv (nat_lit 743) (nat_lit 0)), (iv (nat_lit 249) (nat_lit 0)), (sv "/claim/cut.py" (nat_lit 744))])) (Array.mk []))
noncomputable def h420 (P : Params) : Obj := (Obj.mk (.type "function") none (Data.func (FuncData.mk (Str.ofString "fresh") (Str.ofString "Grid.fresh") (parsOf (stIn 36 4)) (FuncBody.stmts (bodyOf (stIn 36 4))) (scopeOf (stIn 36 4)) (nat_lit 3) [] .none .none .none (sv "termcore.grid" (nat_lit 694)) none (.ref (nat_lit 412)) .none (nat_lit 0))) (Array.mk []))
noncomputable def h421 (P : Params) : Obj := (Obj.mk (.type "tuple") none (.seq (.mk []) (nat_lit 0)) (Array.mk []))
noncomputable def h422 (P : Params) : Obj := (Obj.mk .none none (.fields (.mk [])) (Array.mk []))
noncomputable def h423 (P : Params) : Obj := (Obj.mk (.type "tuple") none (.seq (.mk [(sv "self" (nat_lit 749)), (sv "row" (nat_lit 750))]) (nat_lit 0)) (Array.mk []))
noncomputable def h424 (P : Params) : Obj := (Obj.mk (.type "tuple") none (.seq (.mk []) (nat_lit 0)) (Array.mk []))
noncomputable def h425 (P : Params) : Obj := (Obj.mk .none none (Data.func (FuncData.mk (Str.ofString "part_above") (Str.ofString "Grid.part_above") (parsOf (stIn 36 5)) (FuncBody.stmts (bodyOf (stIn 36 5))) (scopeOf (stIn 36 5)) (nat_lit 0) [] .none .none .none .none none .none .none (nat_lit 0))) (Array.mk []))
noncomputable def h426 (P : Params) : Obj := (Obj.mk (.type "code") none (.fields (.mk [(sv "part_above" (nat_lit 746)), (sv "Grid.part_above" (nat_lit 747)), (sv "/claim/cut.py" (nat_lit 748)), (iv (nat_lit 252) (nat_lit 0)), (iv (nat_lit 2) (nat_lit 0)), (iv (nat_lit 0) (nat_lit 0)), (iv (nat_lit 0) (nat_lit 0)), (iv (nat_lit 3) (nat_lit 0)), (.ref (nat_lit 414)), (Value.bool Bool.true), (iv (nat_lit 181) (nat_lit 0)), (.ref (nat_lit 415)), .none, (.ref (nat_lit 416)), (.ref (nat_lit 417)), (.ref (nat_lit 418)), (iv (nat_lit 751) (nat_lit 0)), (iv (nat_lit 252) (nat_lit 0)), (sv "/claim/cut.py" (nat_lit 752))])) (Array.mk []))
noncomputable def h427 (P : Params) : Obj := (Obj.mk (.type "function") none (Data.func (FuncData.mk (Str.ofString "part_above") (Str.ofString "Grid.part_above") (parsOf (stIn 36 5)) (FuncBody.stmts (bodyOf (stIn 36 5))) (scopeOf (stIn 36 5)) (nat_lit 3) [] .none .none .none (sv "termcore.grid" (nat_lit 694)) none (.ref (nat_lit 419)) .none (nat_lit 0))) (Array.mk []))
noncomputable def h428 (P : Params) : Obj := (Obj.mk (.type "tuple") none (.seq (.mk []) (nat_lit 0)) (Array.mk []))
noncomputable def h429 (P : Params) : Obj := (Obj.mk .none none (.fields (.mk [])) (Array.mk []))
noncomputable def h430 (P : Params) : Obj := (Obj.mk (.type "tuple") none (.seq (.mk [(sv "self" (nat_lit 757)), (sv "area" (nat_lit 758)), (sv "many" (nat_lit 759)), (sv "pen" (nat_lit 760))]) (nat_lit 0)) (Array.mk []))
noncomputable def h431 (P : Params) : Obj := (Obj.mk (.type "tuple") none (.seq (.mk []) (nat_lit 0)) (Array.mk []))
noncomputable def h432 (P : Params) : Obj := (Obj.mk .none none (Data.func (FuncData.mk (Str.ofString "scroll_up") (Str.ofString "Grid.scroll_up") (parsOf (stIn 36 6)) (FuncBody.stmts (bodyOf (stIn 36 6))) (scopeOf (stIn 36 6)) (nat_lit 0) [] .none .none .none .none none .none .none (nat_lit 0))) (Array.mk []))
noncomputable def h433 (P : Params) : Obj := (Obj.mk (.type "code") none (.fields (.mk [(sv "scroll_up" (nat_lit 754)), (sv "Grid.scroll_up" (nat_lit 755)), (sv "/claim/cut.py" (nat_lit 756)), (iv (nat_lit 255) (nat_lit 0)), (iv (nat_lit 4) (nat_lit 0)), (iv (nat_lit 0) (nat_lit 0)), (iv (nat_lit 0) (nat_lit 0)), (iv (nat_lit 3) (nat_lit 0)), (.ref (nat_lit 421)), (Value.bool Bool.true), (iv (nat_lit 181) (nat_lit 0)), (.ref (nat_lit 422)), .none, (.ref (nat_lit 423)), (.ref (nat_lit 424)), (.ref (nat_lit 425)), (iv (nat_lit 761) (nat_lit 0)), (iv (nat_lit 255) (nat_lit 0)), (sv "/claim/cut.py" (nat_lit 762))])) (Array.mk []))
noncomputable def h434 (P : Params) : Obj := (Obj.mk (.type "function") none (Data.func (FuncData.mk (Str.ofString "scroll_up") (Str.ofString "Grid.scroll_up") (parsOf (stIn 36 6)) (FuncBody.stmts (bodyOf (stIn 36 6))) (scopeOf (stIn 36 6)) (nat_lit 3) [] .none .none .none (sv "termcore.grid" (nat_lit 694)) none (.ref (nat_lit 426)) .none (nat_lit 0))) (Array.mk []))
noncomputable def h435 (P : Params) : Obj := (Obj.mk (.type "tuple") none (.seq (.mk []) (nat_lit 0)) (Array.mk []))
noncomputable def h436 (P : Params) : Obj := (Obj.mk .none none (.fields (.mk [])) (Array.mk []))
noncomputable def h437 (P : Params) : Obj := (Obj.mk (.type "tuple") none (.seq (.mk [(sv "self" (nat_lit 767)), (sv "area" (nat_lit 768)), (sv "many" (nat_lit 769)), (sv "pen" (nat_lit 770))]) (nat_lit 0)) (Array.mk []))
noncomputable def h438 (P : Params) : Obj := (Obj.mk (.type "tuple") none (.seq (.mk []) (nat_lit 0)) (Array.mk []))
noncomputable def h439 (P : Params) : Obj := (Obj.mk .none none (Data.func (FuncData.mk (Str.ofString "scroll_down") (Str.ofString "Grid.scroll_down") (parsOf (stIn 36 7)) (FuncBody.stmts (bodyOf (stIn 36 7))) (scopeOf (stIn 36 7)) (nat_lit 0) [] .none .none .none .none none .none .none (nat_lit 0))) (Array.mk []))
noncomputable def h440 (P : Params) : Obj := (Obj.mk (.type "code") none (.fields (.mk [(sv "scroll_down" (nat_lit 764)), (sv "Grid.scroll_down" (nat_lit 765)), (sv "/claim/cut.py" (nat_lit 766)), (iv (nat_lit 258) (nat_lit 0)), (iv (nat_lit 4) (nat_lit 0)), (iv (nat_lit 0) (nat_lit 0)), (iv (nat_lit 0) (nat_lit 0)), (iv (nat_lit 3) (nat_lit 0)), (.ref (nat_lit 428)), (Value.bool Bool.true), (iv (nat_lit 181) (nat_lit 0)), (.ref (nat_lit 429)), .none, (.ref (nat_lit 430)), (.ref (nat_lit 431)), (.ref (nat_lit 432)), (iv (nat_lit 771) (nat_lit 0)), (iv (nat_lit 258) (nat_lit 0)), (sv "/claim/cut.py" (nat_lit 772))])) (Array.mk []))
noncomputable def h441 (P : Params) : Obj := (Obj.mk (.type "function") none (Data.func (FuncData.mk (Str.ofString "scroll_down") (Str.ofString "Grid.scroll_down") (parsOf (stIn 36 7)) (FuncBody.stmts (bodyOf (stIn 36 7))) (scopeOf (stIn 36 7)) (nat_lit 3) [] .none .none .none (sv "termcore.grid" (nat_lit 694)) none (.ref (nat_lit 433)) .none (nat_lit 0))) (Array.mk []))
noncomputable def h442 (P : Params) : Obj := (Obj.mk (.type "tuple") none (.seq (.mk []) (nat_lit 0)) (Array.mk []))
noncomputable def h443 (P : Params) : Obj := (Obj.mk .none none (.fields (.mk [])) (Array.mk []))
noncomputable def h444 (P : Params) : Obj := (Obj.mk (.type "tuple") none (.seq (.mk [(sv "self" (nat_lit 777)), (sv "area" (nat_lit 778))]) (nat_lit 0)) (Array.mk []))
noncomputable def h445 (P : Params) : Obj := (Obj.mk (.type "tuple") none (.seq (.mk []) (nat_lit 0)) (Array.mk []))
noncomputable def h446 (P : Params) : Obj := (Obj.mk .none none (Data.func (FuncData.mk (Str.ofString "unwrap") (Str.ofString "Grid.unwrap") (parsOf (stIn 36 8)) (FuncBody.stmts (bodyOf (stIn 36 8))) (scopeOf (stIn 36 8)) (nat_lit 0) [] .none .none .none .none none .none .none (nat_lit 0))) (Array.mk []))
noncomputable def h447 (P : Params) : Obj := (Obj.mk (.type "code") none (.fields (.mk [(sv "unwrap" (nat_lit 774)), (sv "Grid.unwrap" (nat_lit 775)), (sv "/claim/cut.py" (nat_lit 776)), (iv (nat_lit 261) (nat_lit 0)), (iv (nat_lit 2) (nat_lit 0)), (iv (nat_lit 0) (nat_lit 0)), (iv (nat_lit 0) (nat_lit 0)), (iv (nat_lit 3) (nat_lit 0)), (.ref (nat_lit 435)), (Value.bool Bool.true), (iv (nat_lit 181) (nat_lit 0)), (.ref (nat_lit 436)), .none, (.ref (nat_lit 437)), (.ref (nat_lit 438)), (.ref (nat_lit 439)), (iv (nat_lit 779) (nat_lit 0)), (iv (nat_lit 261) (nat_lit 0)), (sv "/claim/cut.py" (nat_lit 780))])) (Array.mk []))
noncomputable def h448 (P : Params) : Obj := (Obj.mk (.type "function") none (Data.func (FuncData.mk (Str.ofString "unwrap") (Str.ofString "Grid.unwrap") (parsOf (stIn 36 8)) (FuncBody.stmts (bodyOf (stIn 36 8))) (scopeOf (stIn 36 8)) (nat_lit 3) [] .none .none .none (sv "termcore.grid" (nat_lit 694)) none (.ref (nat_lit 440)) .none (nat_lit 0))) (Array.mk []))
noncomputable def h449 (P : Params) : Obj := (Obj.mk (.type "tuple") none (.seq (.mk []) (nat_lit 0)) (Array.mk []))
noncomputable def h450 (P : Params) : Obj := (Obj.mk .none none (.fields (.mk [])) (Array.mk []))
noncomputable def h451 (P : Params) : Obj := (Obj.mk (.type "tuple") none (.seq (.mk [(sv "self" (nat_lit 785)), (sv "area" (nat_lit 786)), (sv "column" (nat_lit 787)), (sv "many" (nat_lit 788)), (sv "pen" (nat_lit 789))]) (nat_lit 0)) (Array.mk []))
noncomputable def h452 (P : Params) : Obj := (Obj.mk (.type "tuple") none (.seq (.mk []) (nat_lit 0)) (Array.mk []))
noncomputable def h453 (P : Params) : Obj := (Obj.mk .none none (Data.func (FuncData.mk (Str.ofString "insert_columns") (Str.ofString "Grid.insert_columns") (parsOf (stIn 36 9)) (FuncBody.stmts (bodyOf (stIn 36 9))) (scopeOf (stIn 36 9)) (nat_lit 0) [] .none .none .none .none none .none .none (nat_lit 0))) (Array.mk []))
noncomputable def h454 (P : Params) : Obj := (Obj.mk (.type "code") none (.fields (.mk [(sv "insert_columns" (nat_lit 782)), (sv "Grid.insert_columns" (nat_lit 783)), (sv "/claim/cut.py" (nat_lit 784)), (iv (nat_lit 264) (nat_lit 0)), (iv (nat_lit 5) (nat_lit 0)), (iv (nat_lit 0) (nat_lit 0)), (iv (nat_lit 0) (nat_lit 0)), (iv (nat_lit 3) (nat_lit 0)), (.ref (nat_lit 442)), (Value.bool Bool.true), (iv (nat_lit 181) (nat_lit 0)), (.ref (nat_lit 443)), .none, (.ref (nat_lit 444)), (.ref (nat_lit 445)), (.ref (nat_lit 446)), (iv (nat_lit 790) (nat_lit 0)), (iv (nat_lit 264) (nat_lit 0)), (sv "/claim/cut.py" (nat_lit 791))])) (Array.mk []))
noncomputable def h455 (P : Params) : Obj := (Obj.mk (.type "function") none (Data.func (FuncData.mk (Str.ofString "insert_columns") (Str.ofString "Grid.insert_columns") (parsOf (stIn 36 9)) (FuncBody.stmts (bodyOf (stIn 36 9))) (scopeOf (stIn 36 9)) (nat_lit 3) [] .none .none .none (sv "termcore.grid" (nat_lit 694)) none (.ref (nat_lit 447)) .none (nat_lit 0))) (Array.mk []))
noncomputable def h456 (P : Params) : Obj := (Obj.mk (.type "tuple") none (.seq (.mk []) (nat_lit 0)) (Array.mk []))
noncomputable def h457 (P : Params) : Obj := (Obj.mk .none none (.fields (.mk [])) (Array.mk []))
noncomputable def h458 (P : Params) : Obj := (Obj.mk (.type "tuple") none (.seq (.mk [(sv "self" (nat_lit 796)), (sv "area" (nat_lit 797)), (sv "column" (nat_lit 798)), (sv "many" (nat_lit 799)), (sv "pen" (nat_lit 800))]) (nat_lit 0)) (Array.mk []))
noncomputable def h459 (P : Params) : Obj := (Obj.mk (.type "tuple") none (.seq (.mk []) (nat_lit 0)) (Array.mk []))
noncomputable def h460 (P : Params) : Obj := (Obj.mk .none none (Data.func (FuncData.mk (Str.ofString "delete_columns") (Str.ofString "Grid.delete_columns") (parsOf (stIn 36 10)) (FuncBody.stmts (bodyOf (stIn 36 10))) (scopeOf (stIn 36 10)) (nat_lit 0) [] .none .none .none .none none .none .none (nat_lit 0))) (Array.mk []))
noncomputable def h461 (P : Params) : Obj := (Obj.mk (.type "code") none (.fields (.mk [(sv "delete_columns" (nat_lit 793)), (sv "Grid.delete_columns" (nat_lit 794)), (sv "/claim/cut.py" (nat_lit 795)), (iv (nat_lit 267) (nat_lit 0)), (iv (nat_lit 5) (nat_lit 0)), (iv (nat_lit 0) (nat_lit 0)), (iv (nat_lit 0) (nat_lit 0)), (iv (nat_lit 3) (nat_lit 0)), (.ref (nat_lit 449)), (Value.bool Bool.true), (iv (nat_lit 181) (nat_lit 0)), (.ref (nat_lit 450)), .none, (.ref (nat_lit 451)), (.ref (nat_lit 452)), (.ref (nat_lit 453)), (iv (nat_lit 801) (nat_lit 0)), (iv (nat_lit 267) (nat_lit 0)), (sv "/claim/cut.py" (nat_lit 802))])) (Array.mk []))
noncomputable def h462 (P : Params) : Obj := (Obj.mk (.type "function") none (Data.func (FuncData.mk (Str.ofString "delete_columns") (Str.ofString "Grid.delete_columns") (parsOf (stIn 36 10)) (FuncBody.stmts (bodyOf (stIn 36 10))) (scopeOf (stIn 36 10)) (nat_lit 3) [] .none .none .none (sv "termcore.grid" (nat_lit 694)) none (.ref (nat_lit 454)) .none (nat_lit 0))) (Array.mk []))
noncomputable def h463 (P : Params) : Obj := (Obj.mk (.type "tuple") none (.seq (.mk []) (nat_lit 0)) (Array.mk []))
noncomputable def h464 (P : Params) : Obj := (Obj.mk .none none (.fields (.mk [])) (Array.mk []))
noncomputable def h465 (P : Params) : Obj := (Obj.mk (.type "tuple") none (.seq (.mk [(sv "self" (nat_lit 807)), (sv "row" (nat_lit 808)), (sv "left" (nat_lit 809)), (sv "right" (nat_lit 810))]) (nat_lit 0)) (Array.mk []))
noncomputable def h466 (P : Params) : Obj := (Obj.mk (.type "tuple") none (.seq (.mk []) (nat_lit 0)) (Array.mk []))
noncomputable def h467 (P : Params) : Obj := (Obj.mk .none none (Data.func (FuncData.mk (Str.ofString "cells_of") (Str.ofString "Grid.cells_of") (parsOf (stIn 36 11)) (FuncBody.stmts (bodyOf (stIn 36 11))) (scopeOf (stIn 36 11)) (nat_lit 0) [] .none .none .none .none none .none .none (nat_lit 0))) (Array.mk []))
noncomputable def h468 (P : Params) : Obj := (Obj.mk (.type "code") none (.fields (.mk [(sv "cells_of" (nat_lit 804)), (sv "Grid.cells_of" (nat_lit 805)), (sv "/claim/cut.py" (nat_lit 806)), (iv (nat_lit 270) (nat_lit 0)), (iv (nat_lit 4) (nat_lit 0)), (iv (nat_lit 0) (nat_lit 0)), (iv (nat_lit 0) (nat_lit 0)), (iv (nat_lit 3) (nat_lit 0)), (.ref (nat_lit 456)), (Value.bool Bool.true), (iv (nat_lit 181) (nat_lit 0)), (.ref (nat_lit 457)), .none, (.ref (nat_lit 458)), (.ref (nat_lit 459)), (.ref (nat_lit 460)), (iv (nat_lit 811) (nat_lit 0)), (iv (nat_lit 270) (nat_lit 0)), (sv "/claim/cut.py" (nat_lit 812))])) (Array.mk []))
noncomputable def h469 (P : Params) : Obj := (Obj.mk (.type "function") none (Data.func (FuncData.mk (Str.ofString "cells_of") (Str.ofString "Grid.cells_of") (parsOf (stIn 36 11)) (FuncBody.stmts (bodyOf (stIn 36 11))) (scopeOf (stIn 36 11)) (nat_lit 3) [] .none .none .none (sv "termcore.grid" (nat_lit 694)) none (.ref (nat_lit 461)) .none (nat_lit 0))) (Array.mk []))
noncomputable def h470 (P : Params) : Obj := (Obj.mk (.type "tuple") none (.seq (.mk []) (nat_lit 0)) (Array.mk []))
noncomputable def h471 (P : Params) : Obj := (Obj.mk .none none (.fields (.mk [])) (Array.mk []))
noncomputable def h472 (P : Params) : Obj := (Obj.mk (.type "tuple") none (.seq (.mk [(sv "self" (nat_lit 817)), (sv "row" (nat_lit 818)), (sv "column" (nat_lit 819)), (sv "cells" (nat_lit 820))]) (nat_lit 0)) (Array.mk []))
noncomputable def h473 (P : Params) : Obj := (Obj.mk (.type "tuple") none (.seq (.mk []) (nat_lit 0)) (Array.mk []))
noncomputable def h474 (P : Params) : Obj := (Obj.mk .none none (Data.func (FuncData.mk (Str.ofString "put_cells") (Str.ofString "Grid.put_cells") (parsOf (stIn 36 12)) (FuncBody.stmts (bodyOf (stIn 36 12))) (scopeOf (stIn 36 12)) (nat_lit 0) [] .none .none .none .none none .none .none (nat_lit 0))) (Array.mk []))
noncomputable def h475 (P : Params) : Obj := (Obj.mk (.type "code") none (.fields (.mk [(sv "put_cells" (nat_lit 814)), (sv "Grid.put_cells" (nat_lit 815)), (sv "/claim/cut.py" (nat_lit 816)), (iv (nat_lit 273) (nat_lit 0)), (iv (nat_lit 4) (nat_lit 0)), (iv (nat_lit 0) (nat_lit 0)), (iv (nat_lit 0) (nat_lit 0)), (iv (nat_lit 3) (nat_lit 0)), (.ref (nat_lit 463)), (Value.bool Bool.true), (iv (nat_lit 181) (nat_lit 0)), (.ref (nat_lit 464)), .none, (.ref (nat_lit 465)), (.ref (nat_lit 466)), (.ref (nat_lit 467)), (iv (nat_lit 821) (nat_lit 0)), (iv (nat_lit 273) (nat_lit 0)), (sv "/claim/cut.py" (nat_lit 822))])) (Array.mk []))
noncomputable def h476 (P : Params) : Obj := (Obj.mk (.type "function") none (Data.func (FuncData.mk (Str.ofString "put_cells") (Str.ofString "Grid.put_cells") (parsOf (stIn 36 12)) (FuncBody.stmts (bodyOf (stIn 36 12))) (scopeOf (stIn 36 12)) (nat_lit 3) [] .none .none .none (sv "termcore.grid" (nat_lit 694)) none (.ref (nat_lit 468)) .none (nat_lit 0))) (Array.mk []))
noncomputable def h477 (P : Params) : Obj := (Obj.mk (.type "tuple") none (.seq (.mk [(Value.bool Bool.false)]) (nat_lit 0)) (Array.mk []))
noncomputable def h478 (P : Params) : Obj := (Obj.mk (.type "tuple") none (.seq (.mk []) (nat_lit 0)) (Array.mk []))
noncomputable def h479 (P : Params) : Obj := (Obj.mk .none none (.fields (.mk [])) (Array.mk []))
noncomputable def h480 (P : Params) : Obj := (Obj.mk (.type "tuple") none (.seq (.mk [(sv "self" (nat_lit 827)), (sv "area" (nat_lit 828)), (sv "pen" (nat_lit 829)), (sv "is_selective" (nat_lit 830))]) (nat_lit 0)) (Array.mk []))
noncomputable def h481 (P : Params) : Obj := (Obj.mk (.type "tuple") none (.seq (.mk []) (nat_lit 0)) (Array.mk []))
noncomputable def h482 (P : Params) : Obj := (Obj.mk .none none (Data.func (FuncData.mk (Str.ofString "erase_area") (Str.ofString "Grid.erase_area") (parsOf (stIn 36 13)) (FuncBody.stmts (bodyOf (stIn 36 13))) (scopeOf (stIn 36 13)) (nat_lit 0) [] .none .none .none .none none .none .none (nat_lit 0))) (Array.mk []))
noncomputable def h483 (P : Params) : Obj := (Obj.mk (.type "code") none (.fields (.mk [(sv "erase_area" (nat_lit 824)), (sv "Grid.erase_area" (nat_lit 825)), (sv "/claim/cut.py" (nat_lit 826)), (iv (nat_lit 276) (nat_lit 0)), (iv (nat_lit 4) (nat_lit 0)), (iv (nat_lit 0) (nat_lit 0)), (iv (nat_lit 0) (nat_lit 0)), (iv (nat_lit 3) (nat_lit 0)), (.ref (nat_lit 471)), (Value.bool Bool.true), (iv (nat_lit 181) (nat_lit 0)), (.ref (nat_lit 472)), .none, (.ref (nat_lit 473)), (.ref (nat_lit 474)), (.ref (nat_lit 475)), (iv (nat_lit 831) (nat_lit 0)), (iv (nat_lit 276) (nat_lit 0)), (sv "/claim/cut.py" (nat_lit 832))])) (Array.mk []))
noncomputable def h484 (P : Params) : Obj := (Obj.mk (.type "function") none (Data.func (FuncData.mk (Str.ofString "erase_area") (Str.ofString "Grid.erase_area") (parsOf (stIn 36 13)) (FuncBody.stmts (bodyOf (stIn 36 13))) (scopeOf (stIn 36 13)) (nat_lit 3) [] (.ref (nat_lit 470)) .none .none (sv "termcore.grid" (nat_lit 694)) none (.ref (nat_lit 476)) .none (nat_lit 0))) (Array.mk []))
noncomputable def h485 (P : Params) : Obj := (Obj.mk (.type "tuple") none (.seq (.mk []) (nat_lit 0)) (Array.mk []))
noncomputable def h486 (P : Params) : Obj := (Obj.mk .none none (.fields (.mk [])) (Array.mk []))
noncomputable def h487 (P : Params) : Obj := (Obj.mk (.type "tuple") none (.seq (.mk [(sv "self" (nat_lit 837)), (sv "area" (nat_lit 838)), (sv "cell" (nat_lit 839))]) (nat_lit 0)) (Array.mk []))
noncomputable def h488 (P : Params) : Obj := (Obj.mk (.type "tuple") none (.seq (.mk []) (nat_lit 0)) (Array.mk []))
noncomputable def h489 (P : Params) : Obj := (Obj.mk .none none (Data.func (FuncData.mk (Str.ofString "fill_area") (Str.ofString "Grid.fill_area") (parsOf (stIn 36 14)) (FuncBody.stmts (bodyOf (stIn 36 14))) (scopeOf (stIn 36 14)) (nat_lit 0) [] .none .none .none .none none .none .none (nat_lit 0))) (Array.mk []))
noncomputable def h490 (P : Params) : Obj := (Obj.mk (.type "code") none (.fields (.mk [(sv "fill_area" (nat_lit 834)), (sv "Grid.fill_area" (nat_lit 835)), (sv "/claim/cut.py" (nat_lit 836)), (iv (nat_lit 279) (nat_lit 0)), (iv (nat_lit 3) (nat_lit 0)), (iv (nat_lit 0) (nat_lit 0)), (iv (nat_lit 0) (nat_lit 0)), (iv (nat_lit 3) (nat_lit 0)), (.ref (nat_lit 478)), (Value.bool Bool.true), (iv (nat_lit 181) (nat_lit 0)), (.ref (nat_lit 479)), .none, (.ref (nat_lit 480)), (.ref (nat_lit 481)), (.ref (nat_lit 482)), (iv (nat_lit 840) (nat_lit 0)), (iv (nat_lit 279) (nat_lit 0)), (sv "/claim/cut.py" (nat_lit 841))])) (Array.mk []))
noncomputable def h491 (P : Params) : Obj := (Obj.mk (.type "function") none (Data.func (FuncData.mk (Str.ofString "fill_area") (Str.ofString "Grid.fill_area") (parsOf (stIn 36 14)) (FuncBody.stmts (bodyOf (stIn 36 14))) (scopeOf (stIn 36 14)) (nat_lit 3) [] .none .none .none (sv "termcore.grid" (nat_lit 694)) none (.ref (nat_lit 483)) .none (nat_lit 0))) (Array.mk []))
noncomputable def h492 (P : Params) : Obj := (Obj.mk (.type "tuple") none (.seq (.mk []) (nat_lit 0)) (Array.mk []))
noncomputable def h493 (P : Params) : Obj := (Obj.mk .none none (.fields (.mk [])) (Array.mk []))
noncomputable def h494 (P : Params) : Obj := (Obj.mk (.type "tuple") none (.seq (.mk [(sv "self" (nat_lit 846)), (sv "area" (nat_lit 847)), (sv "row" (nat_lit 848)), (sv "column" (nat_lit 849))]) (nat_lit 0)) (Array.mk []))
noncomputable def h495 (P : Params) : Obj := (Obj.mk (.type "tuple") none (.seq (.mk []) (nat_lit 0)) (Array.mk []))
noncomputable def h496 (P : Params) : Obj := (Obj.mk .none none (Data.func (FuncData.mk (Str.ofString "copy_area") (Str.ofString "Grid.copy_area") (parsOf (stIn 36 15)) (FuncBody.stmts (bodyOf (stIn 36 15))) (scopeOf (stIn 36 15)) (nat_lit 0) [] .none .none .none .none none .none .none (nat_lit 0))) (Array.mk []))
noncomputable def h497 (P : Params) : Obj := (Obj.mk (.type "code") none (.fields (.mk [(sv "copy_area" (nat_lit 843)), (sv "Grid.copy_area" (nat_lit 844)), (sv "/claim/cut.py" (nat_lit 845)), (iv (nat_lit 282) (nat_lit 0)), (iv (nat_lit 4) (nat_lit 0)), (iv (nat_lit 0) (nat_lit 0)), (iv (nat_lit 0) (nat_lit 0)), (iv (nat_lit 3) (nat_lit 0)), (.ref (nat_lit 485)), (Value.bool Bool.true), (iv (nat_lit 181) (nat_lit 0)), (.ref (nat_lit 486)), .none, (.ref (nat_lit 487)), (.ref (nat_lit 488)), (.ref (nat_lit 489)), (iv (nat_lit 850) (nat_lit 0)), (iv (nat_lit 282) (nat_lit 0)), (sv "/claim/cut.py" (nat_lit 851))])) (Array.mk []))
noncomputable def h498 (P : Params) : Obj := (Obj.mk (.type "function") none (Data.func (FuncData.mk (Str.ofString "copy_area") (Str.ofString "Grid.copy_area") (parsOf (stIn 36 15)) (FuncBody.stmts (bodyOf (stIn 36 15))) (scopeOf (stIn 36 15)) (nat_lit 3) [] .none .none .none (sv "termcore.grid" (nat_lit 694)) none (.ref (nat_lit 490)) .none (nat_lit 0))) (Array.mk []))
noncomputable def h499 (P : Params) : Obj := (Obj.mk (.type "tuple") none (.seq (.mk []) (nat_lit 0)) (Array.mk []))
noncomputable def h500 (P : Params) : Obj := (Obj.mk .none none (.fields (.mk [])) (Array.mk []))
noncomputable def h501 (P : Params) : Obj := (Obj.mk (.type "tuple") none (.seq (.mk [(sv "self" (nat_lit 856)), (sv "area" (nat_lit 857))]) (nat_lit 0)) (Array.mk []))
noncomputable def h502 (P : Params) : Obj := (Obj.mk (.type "tuple") none (.seq (.mk []) (nat_lit 0)) (Array.mk []))
noncomputable def h503 (P : Params) : Obj := (Obj.mk .none none (Data.func (FuncData.mk (Str.ofString "cells_in") (Str.ofString "Grid.cells_in") (parsOf (stIn 36 16)) (FuncBody.stmts (bodyOf (stIn 36 16))) (scopeOf (stIn 36 16)) (nat_lit 0) [] .none .none .none .none none .none .none (nat_lit 0))) (Array.mk []))
noncomputable def h504 (P : Params) : Obj := (Obj.mk (.type "code") none (.fields (.mk [(sv "cells_in" (nat_lit 853)), (sv "Grid.cells_in" (nat_lit 854)), (sv "/claim/cut.py" (nat_lit 855)), (iv (nat_lit 285) (nat_lit 0)), (iv (nat_lit 2) (nat_lit 0)), (iv (nat_lit 0) (nat_lit 0)), (iv (nat_lit 0) (nat_lit 0)), (iv (nat_lit 3) (nat_lit 0)), (.ref (nat_lit 492)), (Value.bool Bool.true), (iv (nat_lit 181) (nat_lit 0)), (.ref (nat_lit 493)), .none, (.ref (nat_lit 494)), (.ref (nat_lit 495)), (.ref (nat_lit 496)), (iv (nat_lit 858) (nat_lit 0)), (iv (nat_lit 285) (nat_lit 0)), (sv "/claim/cut.py" (nat_lit 859))])) (Array.mk []))
noncomputable def h505 (P : Params) : Obj := (Obj.mk (.type "function") none (Data.func (FuncData.mk (Str.ofString "cells_in") (Str.ofString "Grid.cells_in") (parsOf (stIn 36 16)) (FuncBody.stmts (bodyOf (stIn 36 16))) (scopeOf (stIn 36 16)) (nat_lit 3) [] .none .none .none (sv "termcore.grid" (nat_lit 694)) none (.ref (nat_lit 497)) .none (nat_lit 0))) (Array.mk []))
noncomputable def h506 (P : Params) : Obj := (Obj.mk (.type "tuple") none (.seq (.mk []) (nat_lit 0)) (Array.mk []))
noncomputable def h507 (P : Params) : Obj := (Obj.mk .none none (.fields (.mk [])) (Array.mk []))
noncomputable def h508 (P : Params) : Obj := (Obj.mk (.type "tuple") none (.seq (.mk [(sv "self" (nat_lit 864))]) (nat_lit 0)) (Array.mk []))
noncomputable def h509 (P : Params) : Obj := (Obj.mk (.type "tuple") none (.seq (.mk []) (nat_lit 0)) (Array.mk []))
noncomputable def h510 (P : Params) : Obj := (Obj.mk .none none (Data.func (FuncData.mk (Str.ofString "copy") (Str.ofString "Grid.copy") (parsOf (stIn 36 17)) (FuncBody.stmts (bodyOf (stIn 36 17))) (scopeOf (stIn 36 17)) (nat_lit 0) [] .none .none .none .none none .none .none (nat_lit 0))) (Array.mk []))
noncomputable def h511 (P : Params) : Obj := (Obj.mk (.type "code") none (.fields (.mk [(sv "copy" (nat_lit 861)), (sv "Grid.copy" (nat_lit 862)), (sv "/claim/cut.py" (nat_lit 863)), (iv (nat_lit 288) (nat_lit 0)), (iv (nat_lit 1) (nat_lit 0)), (iv (nat_lit 0) (nat_lit 0)), (iv (nat_lit 0) (nat_lit 0)), (iv (nat_lit 3) (nat_lit 0)), (.ref (nat_lit 499)), (Value.bool Bool.true), (iv (nat_lit 181) (nat_lit 0)), (.ref (nat_lit 500)), .none, (.ref (nat_lit 501)), (.ref (nat_lit 502)), (.ref (nat_lit 503)), (iv (nat_lit 865) (nat_lit 0)), (iv (nat_lit 288) (nat_lit 0)), (sv "/claim/cut.py" (nat_lit 866))])) (Array.mk []))
noncomputable def h512 (P : Params) : Obj := (Obj.mk (.type "function") none (Data.func (FuncData.mk (Str.ofString "copy") (Str.ofString "Grid.copy") (parsOf (stIn 36 17)) (FuncBody.stmts (bodyOf (stIn 36 17))) (scopeOf (stIn 36 17)) (nat_lit 3) [] .none .none .none (sv "termcore.grid" (nat_lit 694)) none (.ref (nat_lit 504)) .none (nat_lit 0))) (Array.mk []))
noncomputable def h513 (P : Params) : Obj := (Obj.mk (.type "tuple") none (.seq (.mk []) (nat_lit 0)) (Array.mk []))
noncomputable def h514 (P : Params) : Obj := (Obj.mk .none none (.fields (.mk [])) (Array.mk []))
noncomputable def h515 (P : Params) : Obj := (Obj.mk (.type "tuple") none (.seq (.mk [(sv "self" (nat_lit 871)), (sv "other" (nat_lit 872))]) (nat_lit 0)) (Array.mk []))
noncomputable def h516 (P : Params) : Obj := (Obj.mk (.type "tuple") none (.seq (.mk []) (nat_lit 0)) (Array.mk []))
noncomputable def h517 (P : Params) : Obj := (Obj.mk .none none (Data.func (FuncData.mk (Str.ofString "equals") (Str.ofString "Grid.equals") (parsOf (stIn 36 18)) (FuncBody.stmts (bodyOf (stIn 36 18))) (scopeOf (stIn 36 18)) (nat_lit 0) [] .none .none .none .none none .none .none (nat_lit 0))) (Array.mk []))
noncomputable def h518 (P : Params) : Obj := (Obj.mk (.type "code") none (.fields (.mk [(sv "equals" (nat_lit 868)), (sv "Grid.equals" (nat_lit 869)), (sv "/claim/cut.py" (nat_lit 870)), (iv (nat_lit 291) (nat_lit 0)), (iv (nat_lit 2) (nat_lit 0)), (iv (nat_lit 0) (nat_lit 0)), (iv (nat_lit 0) (nat_lit 0)), (iv (nat_lit 3) (nat_lit 0)), (.ref (nat_lit 506)), (Value.bool Bool.true), (iv (nat_lit 181) (nat_lit 0)), (.ref (nat_lit 507)), .none, (.ref (nat_lit 508)), (.ref (nat_lit 509)), (.ref (nat_lit 510)), (iv (nat_lit 873) (nat_lit 0)), (iv (nat_lit 291) (nat_lit 0)), (sv "/claim/cut.py" (nat_lit 874))])) (Array.mk []))
noncomputable def h519 (P : Params) : Obj := (Obj.mk (.type "function") none (Data.func (FuncData.mk (Str.ofString "equals") (Str.ofString "Grid.equals") (parsOf (stIn 36 18)) (FuncBody.stmts (bodyOf (stIn 36 18))) (scopeOf (stIn 36 18)) (nat_lit 3) [] .none .none .none (sv "termcore.grid" (nat_lit 694)) none (.ref (nat_lit 511)) .none (nat_lit 0))) (Array.mk []))
noncomputable def h520 (P : Params) : Obj := (Obj.mk (.type "tuple") none (.seq (.mk []) (nat_lit 0)) (Array.mk []))
noncomputable def h521 (P : Params) : Obj := (Obj.mk .none none (.fields (.mk [])) (Array.mk []))
noncomputable def h522 (P : Params) : Obj := (Obj.mk (.type "tuple") none (.seq (.mk [(sv "self" (nat_lit 879))]) (nat_lit 0)) (Array.mk []))
noncomputable def h523 (P : Params) : Obj := (Obj.mk (.type "tuple") none (.seq (.mk []) (nat_lit 0)) (Array.mk []))
noncomputable def h524 (P : Params) : Obj := (Obj.mk .none none (Data.func (FuncData.mk (Str.ofString "text") (Str.ofString "Grid.text") (parsOf (stIn 36 19)) (FuncBody.stmts (bodyOf (stIn 36 19))) (scopeOf (stIn 36 19)) (nat_lit 0) [] .none .none .none .none none .none .none (nat_lit 0))) (Array.mk []))
noncomputable def h525 (P : Params) : Obj := (Obj.mk (.type "code") none (.fields (.mk [(sv "text" (nat_lit 876)), (sv "Grid.text" (nat_lit 877)), (sv "/claim/cut.py" (nat_lit 878)), (iv (nat_lit 294) (nat_lit 0)), (iv (nat_lit 1) (nat_lit 0)), (iv (nat_lit 0) (nat_lit 0)), (iv (nat_lit 0) (nat_lit 0)), (iv (nat_lit 3) (nat_lit 0)), (.ref (nat_lit 513)), (Value.bool Bool.true), (iv (nat_lit 181) (nat_lit 0)), (.ref (nat_lit 514)), .none, (.ref (nat_lit 515)), (.ref (nat_lit 516)), (.ref (nat_lit 517)), (iv (nat_lit 880) (nat_lit 0)), (iv (nat_lit 294) (nat_lit 0)), (sv "/claim/cut.py" (nat_lit 881))])) (Array.mk []))
noncomputable def h526 (P : Params) : Obj := (Obj.mk (.type "function") none (Data.func (FuncData.mk (Str.ofString "text") (Str.ofString "Grid.text") (parsOf (stIn 36 19)) (FuncBody.stmts (bodyOf (stIn 36 19))) (scopeOf (stIn 36 19)) (nat_lit 3) [] .none .none .none (sv "termcore.grid" (nat_lit 694)) none (.ref (nat_lit 518)) .none (nat_lit 0))) (Array.mk []))
noncomputable def h527 (P : Params) : Obj := (Obj.mk (.type "tuple") none (.seq (.mk [(sv "columns" (nat_lit 883)), (sv "lines" (nat_lit 884)), (sv "rows" (nat_lit 885))]) (nat_lit 0)) (Array.mk []))
noncomputable def h528 (P : Params) : Obj := (Obj.mk (.type "dict") none (Data.dict (Array.mk [(de P "__module__" (nat_lit 703) (sv "termcore.grid" (nat_lit 694))), (de P "__firstlineno__" (nat_lit 707) (iv (nat_lit 231) (nat_lit 706))), (de P "__init__" (nat_lit 713) (.ref (nat_lit 385))), (de P "line" (nat_lit 721) (.ref (nat_lit 392))), (de P "whole_area" (nat_lit 728) (.ref (nat_lit 399))), (de P "is_wide" (nat_lit 736) (.ref (nat_lit 406))), (de P "fresh" (nat_lit 745) (.ref (nat_lit 413))), (de P "part_above" (nat_lit 753) (.ref (nat_lit 420))), (de P "scroll_up" (nat_lit 763) (.ref (nat_lit 427))), (de P "scroll_down" (nat_lit 773) (.ref (nat_lit 434))), (de P "unwrap" (nat_lit 781) (.ref (nat_lit 441))), (de P "insert_columns" (nat_lit 792) (.ref (nat_lit 448))), (de P "delete_columns" (nat_lit 803) (.ref (nat_lit 455))), (de P "cells_of" (nat_lit 813) (.ref (nat_lit 462))), (de P "put_cells" (nat_lit 823) (.ref (nat_lit 469))), (de P "erase_area" (nat_lit 833) (.ref (nat_lit 477))), (de P "fill_area" (nat_lit 842) (.ref (nat_lit 484))), (de P "copy_area" (nat_lit 852) (.ref (nat_lit 491))), (de P "cells_in" (nat_lit 860) (.ref (nat_lit 498))), (de P "copy" (nat_lit 867) (.ref (nat_lit 505))), (de P "equals" (nat_lit 875) (.ref (nat_lit 512))), (de P "text" (nat_lit 882) (.ref (nat_lit 519))), (de P "__static_attributes__" (nat_lit 886) (.ref (nat_lit 520))), (de P "__dict__" (nat_lit 888) (.ref (nat_lit 523))), (de P "__weakref__" (nat_lit 890) (.ref (nat_lit 524))), (de P "__doc__" (nat_lit 891) .none)]) (nat_lit 4)) (Array.mk []))
noncomputable def h529 (P : Params) : Obj := (Obj.mk (.type "type") none (Data.cls (ClassData.mk (Str.ofString "Grid") [(.type "object")] [(.ref (nat_lit 522)), (.type "object")] (nat_lit 521) (Str.ofString "Grid") Bool.true [] [] Bool.false none Bool.false)) (Array.mk [none, none, (some (sv "Grid" (nat_lit 696))), (some (sv "Grid" (nat_lit 704))), (some (Value.builtin "object.__new__")), (some (Value.bool Bool.true))]))
noncomputable def h530 (P : Params) : Obj := (Obj.mk (.type "getset_descriptor") none (.fields (.mk [(sv "__dict__" (nat_lit 887)), (.ref (nat_lit 522)), (Value.builtin "function.__dict__"), (Value.builtin "function.__dict__#set")])) (Array.mk []))
noncomputable def h531 (P : Params) : Obj := (Obj.mk (.type "getset_descriptor") none (.fields (.mk [(sv "__weakref__" (nat_lit 889)), (.ref (nat_lit 522)), (Value.builtin "ExceptionGroup.__weakref__"), .none])) (Array.mk []))
noncomputable def h532 (P : Params) : Obj := (Obj.mk (.type "super") none (.fields (.mk [(.ref (nat_lit 522)), (.ref (nat_lit 522)), (.ref (nat_lit 522))])) (Array.mk []))
noncomputable def h533 (P : Params) : Obj := (Obj.mk (.type "builtin_function_or_method") none (.fields (.mk [(Value.builtin "object.__init_subclass__"), (.ref (nat_lit 522))])) (Array.mk []))
noncomputable def t7 (P : Params) : BT := (.node (boot_o_0 P) (.node (boot_o_1 P) (.node (h379 P) (.node (boot_o_7 P) (.node (h7 P) (.node (h23 P) (.node (h58 P) (.node (h124 P) (.node (h258 P) (.node (h518 P) .nil .nil) .nil) (.node (h390 P) .nil .nil)) (.node (h190 P) (.node (h322 P) .nil .nil) (.node (h454 P) .nil .nil))) (.node (h92 P) (.node (h158 P) (.node (h290 P) .nil .nil) (.node (h422 P) .nil .nil)) (.node (h224 P) (.node (h354 P) .nil .nil) (.node (h486 P) .nil .nil)))) (.node (h42 P) (.node (h76 P) (.node (h142 P) (.node (h274 P) .nil .nil) (.node (h406 P) .nil .nil)) (.node (h206 P) (.node (h338 P) .nil .nil) (.node (h470 P) .nil .nil))) (.node (h108 P) (.node (h174 P) (.node (h306 P) .nil .nil) (.node (h438 P) .nil .nil)) (.node (h242 P) (.node (h372 P) .nil .nil) (.node (h502 P) .nil .nil))))) (.node (h15 P) (.node (h31 P) (.node (h66 P) (.node (h132 P) (.node (h266 P) (.node (h526 P) .nil .nil) .nil) (.node (h398 P) .nil .nil)) (.node (h198 P) (.node (h330 P) .nil .nil) (.node (h462 P) .nil .nil))) (.node (h100 P) (.node (h166 P) (.node (h298 P) .nil .nil) (.node (h430 P) .nil .nil)) (.node (h232 P) (.node (h362 P) .nil .nil) (.node (h494 P) .nil .nil)))) (.node (h50 P) (.node (h84 P) (.node (h150 P) (.node (h282 P) .nil .nil) (.node (h414 P) .nil .nil)) (.node (h214 P) (.node (h346 P) .nil .nil) (.node (h478 P) .nil .nil))) (.node (h116 P) (.node (h182 P) (.node (h314 P) .nil .nil) (.node (h446 P) .nil .nil)) (.node (h250 P) (.node (h382 P) .nil .nil) (.node (h510 P) .nil .nil)))))) (.node (h0 P) (.node (h11 P) (.node (h27 P) (.node (h62 P) (.node (h128 P) (.node (h262 P) (.node (h522 P) .nil .nil) .nil) (.node (h394 P) .nil .nil)) (.node (h194 P) (.node (h326 P) .nil .nil) (.node (h458 P) .nil .nil))) (.node (h96 P) (.node (h162 P) (.node (h294 P) .nil .nil) (.node (h426 P) .nil .nil)) (.node (h228 P) (.node (h358 P) .nil .nil) (.node (h490 P) .nil .nil)))) (.node (h46 P) (.node (h80 P) (.node (h146 P) (.node (h278 P) .nil .nil) (.node (h410 P) .nil .nil)) (.node (h210 P) (.node (h342 P) .nil .nil) (.node (h474 P) .nil .nil))) (.node (h112 P) (.node (h178 P) (.node (h310 P) .nil .nil) (.node (h442 P) .nil .nil)) (.node (h246 P) (.node (h376 P) .nil .nil) (.node (h506 P) .nil .nil))))) (.node (h19 P) (.node (h35 P) (.node (h70 P) (.node (h136 P) (.node (h270 P) (.node (h530 P) .nil .nil) .nil) (.node (h402 P) .nil .nil)) (.node (h202 P) (.node (h334 P) .nil .nil) (.node (h466 P) .nil .nil))) (.node (h104 P) (.node (h170 P) (.node (h302 P) .nil .nil) (.node (h434 P) .nil .nil)) (.node (h236 P) (.node (h366 P) .nil .nil) (.node (h498 P) .nil .nil)))) (.node (h54 P) (.node (h88 P) (.node (h154 P) (.node (h286 P) .nil .nil) (.node (h418 P) .nil .nil)) (.node (h220 P) (.node (h350 P) .nil .nil) (.node (h482 P) .nil .nil))) (.node (h120 P) (.node (h186 P) (.node (h318 P) .nil .nil) (.node (h450 P) .nil .nil)) (.node (h254 P) (.node (h386 P) .nil .nil) (.node (h514 P) .nil .nil))))))) (.node (boot_o_5 P) (.node (boot_o_9 P) (.node (h9 P) (.node (h25 P) (.node (h60 P) (.node (h126 P) (.node (h260 P) (.node (h520 P) .nil .nil) .nil) (.node (h392 P) .nil .nil)) (.node (h192 P) (.node (h324 P) .nil .nil) (.node (h456 P) .nil .nil))) (.node (h94 P) (.node (h160 P) (.node (h292 P) .nil .nil) (.node (h424 P) .nil .nil)) (.node (h226 P) (.node (h356 P) .nil .nil) (.node (h488 P) .nil .nil)))) (.node (h44 P) (.node (h78 P) (.node (h144 P) (.node (h276 P) .nil .nil) (.node (h408 P) .nil .nil)) (.node (h208 P) (.node (h340 P) .nil .nil) (.node (h472 P) .nil .nil))) (.node (h110 P) (.node (h176 P) (.node (h308 P) .nil .nil) (.node (h440 P) .nil .nil)) (.node (h244 P) (.node (h374 P) .nil .nil) (.node (h504 P) .nil .nil))))) (.node (h17 P) (.node (h33 P) (.node (h68 P) (.node (h134 P) (.node (h268 P) (.node (h528 P) .nil .nil) .nil) (.node (h400 P) .nil .nil)) (.node (h200 P) (.node (h332 P) .nil .nil) (.node (h464 P) .nil .nil))) (.node (h102 P) (.node (h168 P) (.node (h300 P) .nil .nil) (.node (h432 P) .nil .nil)) (.node (h234 P) (.node (h364 P) .nil .nil) (.node (h496 P) .nil .nil)))) (.node (h52 P) (.node (h86 P) (.node (h152 P) (.node (h284 P) .nil .nil) (.node (h416 P) .nil .nil)) (.node (h218 P) (.node (h348 P) .nil .nil) (.node (h480 P) .nil .nil))) (.node (h118 P) (.node (h184 P) (.node (h316 P) .nil .nil) (.node (h448 P) .nil .nil)) (.node (h252 P) (.node (h384 P) .nil .nil) (.node (h512 P) .nil .nil)))))) (.node (h2 P) (.node (h13 P) (.node (h29 P) (.node (h64 P) (.node (h130 P) (.node (h264 P) (.node (h524 P) .nil .nil) .nil) (.node (h396 P) .nil .nil)) (.node (h196 P) (.node (h328 P) .nil .nil) (.node (h460 P) .nil .nil))) (.node (h98 P) (.node (h164 P) (.node (h296 P) .nil .nil) (.node (h428 P) .nil .nil)) (.node (h230 P) (.node (h360 P) .nil .nil) (.node (h492 P) .nil .nil)))) (.node (h48 P) (.node (h82 P) (.node (h148 P) (.node (h280 P) .nil .nil) (.node (h412 P) .nil .nil)) (.node (h212 P) (.node (h344 P) .nil .nil) (.node (h476 P) .nil .nil))) (.node (h114 P) (.node (h180 P) (.node (h312 P) .nil .nil) (.node (h444 P) .nil .nil)) (.node (h248 P) (.node (h378 P) .nil .nil) (.node (h508 P) .nil .nil))))) (.node (h21 P) (.node (h40 P) (.node (h74 P) (.node (h140 P) (.node (h272 P) (.node (h532 P) .nil .nil) .nil) (.node (h404 P) .nil .nil)) (.node (h204 P) (.node (h336 P) .nil .nil) (.node (h468 P) .nil .nil))) (.node (h106 P) (.node (h172 P) (.node (h304 P) .nil .nil) (.node (h436 P) .nil .nil)) (.node (h240 P) (.node (h368 P) .nil .nil) (.node (h500 P) .nil .nil)))) (.node (h56 P) (.node (h90 P) (.node (h156 P) (.node (h288 P) .nil .nil) (.node (h420 P) .nil .nil)) (.node (h222 P) (.node (h352 P) .nil .nil) (.node (h484 P) .nil .nil))) (.node (h122 P) (.node (h188 P) (.node (h320 P) .nil .nil) (.node (h452 P) .nil .nil)) (.node (h256 P) (.node (h388 P) .nil .nil) (.node (h516 P) .nil .nil)))))))) (.node (h4 P) (.node (boot_o_4 P) (.node (boot_o_8 P) (.node (h8 P) (.node (h24 P) (.node (h59 P) (.node (h125 P) (.node (h259 P) (.node (h519 P) .nil .nil) .nil) (.node (h391 P) .nil .nil)) (.node (h191 P) (.node (h323 P) .nil .nil) (.node (h455 P) .nil .nil))) (.node (h93 P) (.node (h159 P) (.node (h291 P) .nil .nil) (.node (h423 P) .nil .nil)) (.node (h225 P) (.node (h355 P) .nil .nil) (.node (h487 P) .nil .nil)))) (.node (h43 P) (.node (h77 P) (.node (h143 P) (.node (h275 P) .nil .nil) (.node (h407 P) .nil .nil)) (.node (h207 P) (.node (h339 P) .nil .nil) (.node (h471 P) .nil .nil))) (.node (h109 P) (.node (h175 P) (.node (h307 P) .nil .nil) (.node (h439 P) .nil .nil)) (.node (h243 P) (.node (h373 P) .nil .nil) (.node (h503 P) .nil .nil))))) (.node (h16 P) (.node (h38 P) (.node (h67 P) (.node (h133 P) (.node (h267 P) (.node (h527 P) .nil .nil) .nil) (.node (h399 P) .nil .nil)) (.node (h199 P) (.node (h331 P) .nil .nil) (.node (h463 P) .nil .nil))) (.node (h101 P) (.node (h167 P) (.node (h299 P) .nil .nil) (.node (h431 P) .nil .nil)) (.node (h233 P) (.node (h363 P) .nil .nil) (.node (h495 P) .nil .nil)))) (.node (h51 P) (.node (h85 P) (.node (h151 P) (.node (h283 P) .nil .nil) (.node (h415 P) .nil .nil)) (.node (h217 P) (.node (h347 P) .nil .nil) (.node (h479 P) .nil .nil))) (.node (h117 P) (.node (h183 P) (.node (h315 P) .nil .nil) (.node (h447 P) .nil .nil)) (.node (h251 P) (.node (h383 P) .nil .nil) (.node (h511 P) .nil .nil)))))) (.node (h380 P) (.node (h12 P) (.node (h28 P) (.node (h63 P) (.node (h129 P) (.node (h263 P) (.node (h523 P) .nil .nil) .nil) (.node (h395 P) .nil .nil)) (.node (h195 P) (.node (h327 P) .nil .nil) (.node (h459 P) .nil .nil))) (.node (h97 P) (.node (h163 P) (.node (h295 P) .nil .nil) (.node (h427 P) .nil .nil)) (.node (h229 P) (.node (h359 P) .nil .nil) (.node (h491 P) .nil .nil)))) (.node (h47 P) (.node (h81 P) (.node (h147 P) (.node (h279 P) .nil .nil) (.node (h411 P) .nil .nil)) (.node (h211 P) (.node (h343 P) .nil .nil) (.node (h475 P) .nil .nil))) (.node (h113 P) (.node (h179 P) (.node (h311 P) .nil .nil) (.node (h443 P) .nil .nil)) (.node (h247 P) (.node (h377 P) .nil .nil) (.node (h507 P) .nil .nil))))) (.node (h20 P) (.node (h39 P) (.node (h71 P) (.node (h139 P) (.node (h271 P) (.node (h531 P) .nil .nil) .nil) (.node (h403 P) .nil .nil)) (.node (h203 P) (.node (h335 P) .nil .nil) (.node (h467 P) .nil .nil))) (.node (h105 P) (.node (h171 P) (.node (h303 P) .nil .nil) (.node (h435 P) .nil .nil)) (.node (h237 P) (.node (h367 P) .nil .nil) (.node (h499 P) .nil .nil)))) (.node (h55 P) (.node (h89 P) (.node (h155 P) (.node (h287 P) .nil .nil) (.node (h419 P) .nil .nil)) (.node (h221 P) (.node (h351 P) .nil .nil) (.node (h483 P) .nil .nil))) (.node (h121 P) (.node (h187 P) (.node (h319 P) .nil .nil) (.node (h451 P) .nil .nil)) (.node (h255 P) (.node (h387 P) .nil .nil) (.node (h515 P) .nil .nil))))))) (.node (boot_o_6 P) (.node (boot_o_10 P) (.node (h10 P) (.node (h26 P) (.node (h61 P) (.node (h127 P) (.node (h261 P) (.node (h521 P) .nil .nil) .nil) (.node (h393 P) .nil .nil)) (.node (h193 P) (.node (h325 P) .nil .nil) (.node (h457 P) .nil .nil))) (.node (h95 P) (.node (h161 P) (.node (h293 P) .nil .nil) (.node (h425 P) .nil .nil)) (.node (h227 P) (.node (h357 P) .nil .nil) (.node (h489 P) .nil .nil)))) (.node (h45 P) (.node (h79 P) (.node (h145 P) (.node (h277 P) .nil .nil) (.node (h409 P) .nil .nil)) (.node (h209 P) (.node (h341 P) .nil .nil) (.node (h473 P) .nil .nil))) (.node (h111 P) (.node (h177 P) (.node (h309 P) .nil .nil) (.node (h441 P) .nil .nil)) (.node (h245 P) (.node (h375 P) .nil .nil) (.node (h505 P) .nil .nil))))) (.node (h18 P) (.node (h34 P) (.node (h69 P) (.node (h135 P) (.node (h269 P) (.node (h529 P) .nil .nil) .nil) (.node (h401 P) .nil .nil)) (.node (h201 P) (.node (h333 P) .nil .nil) (.node (h465 P) .nil .nil))) (.node (h103 P) (.node (h169 P) (.node (h301 P) .nil .nil) (.node (h433 P) .nil .nil)) (.node (h235 P) (.node (h365 P) .nil .nil) (.node (h497 P) .nil .nil)))) (.node (h53 P) (.node (h87 P) (.node (h153 P) (.node (h285 P) .nil .nil) (.node (h417 P) .nil .nil)) (.node (h219 P) (.node (h349 P) .nil .nil) (.node (h481 P) .nil .nil))) (.node (h119 P) (.node (h185 P) (.node (h317 P) .nil .nil) (.node (h449 P) .nil .nil)) (.node (h253 P) (.node (h385 P) .nil .nil) (.node (h513 P) .nil .nil)))))) (.node (h3 P) (.node (h14 P) (.node (h30 P) (.node (h65 P) (.node (h131 P) (.node (h265 P) (.node (h525 P) .nil .nil) .nil) (.node (h397 P) .nil .nil)) (.node (h197 P) (.node (h329 P) .nil .nil) (.node (h461 P) .nil .nil))) (.node (h99 P) (.node (h165 P) (.node (h297 P) .nil .nil) (.node (h429 P) .nil .nil)) (.node (h231 P) (.node (h361 P) .nil .nil) (.node (h493 P) .nil .nil)))) (.node (h49 P) (.node (h83 P) (.node (h149 P) (.node (h281 P) .nil .nil) (.node (h413 P) .nil .nil)) (.node (h213 P) (.node (h345 P) .nil .nil) (.node (h477 P) .nil .nil))) (.node (h115 P) (.node (h181 P) (.node (h313 P) .nil .nil) (.node (h445 P) .nil .nil)) (.node (h249 P) (.node (h381 P) .nil .nil) (.node (h509 P) .nil .nil))))) (.node (h22 P) (.node (h41 P) (.node (h75 P) (.node (h141 P) (.node (h273 P) (.node (h533 P) .nil .nil) .nil) (.node (h405 P) .nil .nil)) (.node (h205 P) (.node (h337 P) .nil .nil) (.node (h469 P) .nil .nil))) (.node (h107 P) (.node (h173 P) (.node (h305 P) .nil .nil) (.node (h437 P) .nil .nil)) (.node (h241 P) (.node (h371 P) .nil .nil) (.node (h501 P) .nil .nil)))) (.node (h57 P) (.node (h91 P) (.node (h157 P) (.node (h289 P) .nil .nil) (.node (h421 P) .nil .nil)) (.node (h223 P) (.node (h353 P) .nil .nil) (.node (h485 P) .nil .nil))) (.node (h123 P) (.node (h189 P) (.node (h321 P) .nil .nil) (.node (h453 P) .nil .nil)) (.node (h257 P) (.node (h389 P) .nil .nil) (.node (h517 P) .nil .nil)))))))))
noncomputable def s7 (w : World) (os : OsState) : SharedT := SharedT.mk (t7 w.params) (nat_lit 527) (Life.mk [] [] [] (nat_lit 0) [] [] Bool.false (Array.mk []) [] (nat_lit 0) Bool.false Bool.false Bool.false (Int.ofNat (nat_lit 0)) [(Int.ofNat (nat_lit 2000)), (Int.ofNat (nat_lit 10)), (Int.ofNat (nat_lit 10))] Bool.false (nat_lit 0) Bool.true [] [] (nat_lit 0) Bool.false) (Array.mk []) (Drawn.mk (nat_lit 0) (nat_lit 0) (nat_lit 0) (nat_lit 0)) (nat_lit 894) os
noncomputable def pos7 : Pos := (Pos.mk (nat_lit 231) (nat_lit 0) (nat_lit 295) (nat_lit 17))
noncomputable def l7 : List Stmt := [stAt 36]
noncomputable def h534 (P : Params) : Obj := (Obj.mk (.type "dict") none (Data.dict (Array.mk [(de P "__name__" (nat_lit 165) (sv "law_og0279_01" (nat_lit 894))), (de P "__doc__" (nat_lit 166) .none), (de P "__package__" (nat_lit 167) .none), (de P "__loader__" (nat_lit 168) (Value.builtin "__main__.__loader__#opaque")), (de P "__spec__" (nat_lit 169) .none), (de P "__annotations__" (nat_lit 170) (.ref (nat_lit 6))), (de P "__builtins__" (nat_lit 171) (.ref (nat_lit 4))), (de P "__file__" (nat_lit 173) (sv "/claim/cut.py" (nat_lit 172))), (de P "__cached__" (nat_lit 174) .none), (de P "_wall" (nat_lit 193) (.ref (nat_lit 21))), (de P "NO_COLOUR" (nat_lit 198) (Value.int (Int.negSucc (nat_lit 0)) (nat_lit 197))), (de P "PLAIN" (nat_lit 201) (.ref (nat_lit 22))), (de P "BACK" (nat_lit 203) (iv (nat_lit 2) (nat_lit 202))), (de P "LINE_FEED" (nat_lit 205) (iv (nat_lit 10) (nat_lit 204))), (de P "BLANK" (nat_lit 207) (iv (nat_lit 32) (nat_lit 206))), (de P "TermError" (nat_lit 236) (.ref (nat_lit 40))), (de P "BadSize" (nat_lit 252) (.ref (nat_lit 53))), (de P "erased_pen" (nat_lit 259) (.ref (nat_lit 62))), (de P "blank_cell" (nat_lit 266) (.ref (nat_lit 69))), (de P "is_blank" (nat_lit 273) (.ref (nat_lit 76))), (de P "View" (nat_lit 353) (.ref (nat_lit 135))), (de P "view_width" (nat_lit 365) (.ref (nat_lit 146))), (de P "cell_codes" (nat_lit 372) (.ref (nat_lit 153))), (de P "view_codes" (nat_lit 378) (.ref (nat_lit 158))), (de P "OPENERS" (nat_lit 382) (Value.bytes (Array.mk [(40 : UInt8), (91 : UInt8), (123 : UInt8)]) (nat_lit 381))), (de P "CLOSERS" (nat_lit 384) (Value.bytes (Array.mk [(41 : UInt8), (93 : UInt8), (125 : UInt8)]) (nat_lit 383))), (de P "copy_signs" (nat_lit 395) (.ref (nat_lit 165))), (de P "copy_index" (nat_lit 406) (.ref (nat_lit 172))), (de P "copy_sort" (nat_lit 414) (.ref (nat_lit 179))), (de P "next_word" (nat_lit 426) (.ref (nat_lit 186))), (de P "next_word_end" (nat_lit 437) (.ref (nat_lit 193))), (de P "previous_word" (nat_lit 448) (.ref (nat_lit 200))), (de P "matching_bracket" (nat_lit 463) (.ref (nat_lit 207))), (de P "jump_place" (nat_lit 478) (.ref (nat_lit 214))), (de P "LINE_SIZES" (nat_lit 485) (.ref (nat_lit 215))), (de P "line_blanks" (nat_lit 493) (.ref (nat_lit 222))), (de P "line_slice" (nat_lit 503) (.ref (nat_lit 229))), (de P "line_codes" (nat_lit 513) (.ref (nat_lit 236))), (de P "Line" (nat_lit 682) (.ref (nat_lit 361))), (de P "line_of" (nat_lit 693) (.ref (nat_lit 373))), (de P "Grid" (nat_lit 893) (.ref (nat_lit 522))), (de P "_law_pen" (nat_lit 904) (.ref (nat_lit 527))), (de P "_law_codes" (nat_lit 917) (.ref (nat_lit 528))), (de P "_law_deck" (nat_lit 923) (.ref (nat_lit 533))), (de P "_law_draw" (nat_lit 931) (.ref (nat_lit 540))), (de P "_law_row" (nat_lit 943) (.ref (nat_lit 547))), (de P "_law_signs" (nat_lit 956) (.ref (nat_lit 554))), (de P "_law_sort" (nat_lit 964) (.ref (nat_lit 561))), (de P "_law_at" (nat_lit 970) (.ref (nat_lit 566))), (de P "_law_words" (nat_lit 976) (.ref (nat_lit 571))), (de P "_law_bracket" (nat_lit 989) (.ref (nat_lit 578))), (de P "_law_jump" (nat_lit 1002) (.ref (nat_lit 585))), (de P "_law_view" (nat_lit 1014) (.ref (nat_lit 592))), (de P "law" (nat_lit 1020) (.ref (nat_lit 597)))]) (nat_lit 54)) (Array.mk []))
noncomputable def h535 (P : Params) : Obj := (Obj.mk .none none (.fields (.mk [(iv (nat_lit 1) (nat_lit 0)), (iv (nat_lit 0) (nat_lit 0)), (.ref (nat_lit 20)), (iv (nat_lit 10) (nat_lit 0)), (iv (nat_lit 0) (nat_lit 0)), (.ref (nat_lit 28)), (iv (nat_lit 14) (nat_lit 0)), (iv (nat_lit 0) (nat_lit 0)), (.ref (nat_lit 49)), (iv (nat_lit 16) (nat_lit 0)), (iv (nat_lit 0) (nat_lit 0)), (.ref (nat_lit 61)), (iv (nat_lit 18) (nat_lit 0)), (iv (nat_lit 0) (nat_lit 0)), (.ref (nat_lit 68)), (iv (nat_lit 20) (nat_lit 0)), (iv (nat_lit 0) (nat_lit 0)), (.ref (nat_lit 75)), (iv (nat_lit 23) (nat_lit 0)), (iv (nat_lit 0) (nat_lit 0)), (.ref (nat_lit 82)), (iv (nat_lit 47) (nat_lit 0)), (iv (nat_lit 0) (nat_lit 0)), (.ref (nat_lit 145)), (iv (nat_lit 57) (nat_lit 0)), (iv (nat_lit 0) (nat_lit 0)), (.ref (nat_lit 152)), (iv (nat_lit 61) (nat_lit 0)), (iv (nat_lit 0) (nat_lit 0)), (.ref (nat_lit 157)), (iv (nat_lit 73) (nat_lit 0)), (iv (nat_lit 0) (nat_lit 0)), (.ref (nat_lit 164)), (iv (nat_lit 79) (nat_lit 0)), (iv (nat_lit 0) (nat_lit 0)), (.ref (nat_lit 171)), (iv (nat_lit 88) (nat_lit 0)), (iv (nat_lit 0) (nat_lit 0)), (.ref (nat_lit 178)), (iv (nat_lit 92) (nat_lit 0)), (iv (nat_lit 0) (nat_lit 0)), (.ref (nat_lit 185)), (iv (nat_lit 101) (nat_lit 0)), (iv (nat_lit 0) (nat_lit 0)), (.ref (nat_lit 192)), (iv (nat_lit 109) (nat_lit 0)), (iv (nat_lit 0) (nat_lit 0)), (.ref (nat_lit 199)), (iv (nat_lit 118) (nat_lit 0)), (iv (nat_lit 0) (nat_lit 0)), (.ref (nat_lit 206)), (iv (nat_lit 140) (nat_lit 0)), (iv (nat_lit 0) (nat_lit 0)), (.ref (nat_lit 213)), (iv (nat_lit 154) (nat_lit 0)), (iv (nat_lit 0) (nat_lit 0)), (.ref (nat_lit 221)), (iv (nat_lit 156) (nat_lit 0)), (iv (nat_lit 0) (nat_lit 0)), (.ref (nat_lit 228)), (iv (nat_lit 163) (nat_lit 0)), (iv (nat_lit 0) (nat_lit 0)), (.ref (nat_lit 235)), (iv (nat_lit 172) (nat_lit 0)), (iv (nat_lit 0) (nat_lit 0)), (.ref (nat_lit 242)), (iv (nat_lit 224) (nat_lit 0)), (iv (nat_lit 0) (nat_lit 0)), (.ref (nat_lit 372)), (iv (nat_lit 231) (nat_lit 0)), (iv (nat_lit 0) (nat_lit 0)), (.ref (nat_lit 379)), (iv (nat_lit 299) (nat_lit 0)), (iv (nat_lit 0) (nat_lit 0)), (.ref (nat_lit 532)), (iv (nat_lit 304) (nat_lit 0)), (iv (nat_lit 0) (nat_lit 0)), (.ref (nat_lit 539)), (iv (nat_lit 309) (nat_lit 0)), (iv (nat_lit 0) (nat_lit 0)), (.ref (nat_lit 546)), (iv (nat_lit 322) (nat_lit 0)), (iv (nat_lit 0) (nat_lit 0)), (.ref (nat_lit 553)), (iv (nat_lit 334) (nat_lit 0)), (iv (nat_lit 0) (nat_lit 0)), (.ref (nat_lit 560)), (iv (nat_lit 336) (nat_lit 0)), (iv (nat_lit 0) (nat_lit 0)), (.ref (nat_lit 565)), (iv (nat_lit 339) (nat_lit 0)), (iv (nat_lit 0) (nat_lit 0)), (.ref (nat_lit 570)), (iv (nat_lit 349) (nat_lit 0)), (iv (nat_lit 0) (nat_lit 0)), (.ref (nat_lit 577)), (iv (nat_lit 364) (nat_lit 0)), (iv (nat_lit 0) (nat_lit 0)), (.ref (nat_lit 584)), (iv (nat_lit 374) (nat_lit 0)), (iv (nat_lit 0) (nat_lit 0)), (.ref (nat_lit 591)), (iv (nat_lit 379) (nat_lit 0)), (iv (nat_lit 0) (nat_lit 0)), (.ref (nat_lit 596))])) (Array.mk []))
noncomputable def h536 (P : Params) : Obj := (Obj.mk (.type "tuple") none (.seq (.mk [(iv (nat_lit 0) (nat_lit 896)), (Value.int (Int.negSucc (nat_lit 0)) (nat_lit 898)), (Value.int (Int.negSucc (nat_lit 0)) (nat_lit 900)), (Value.int (Int.negSucc (nat_lit 0)) (nat_lit 902)), (iv (nat_lit 0) (nat_lit 903))]) (nat_lit 0)) (Array.mk []))
noncomputable def h537 (P : Params) : Obj := (Obj.mk (.type "tuple") none (.seq (.mk [(iv (nat_lit 97) (nat_lit 905)), (iv (nat_lit 97) (nat_lit 906)), (iv (nat_lit 98) (nat_lit 907)), (iv (nat_lit 32) (nat_lit 908)), (iv (nat_lit 45) (nat_lit 909)), (iv (nat_lit 40) (nat_lit 910)), (iv (nat_lit 41) (nat_lit 911)), (iv (nat_lit 91) (nat_lit 912)), (iv (nat_lit 93) (nat_lit 913)), (iv (nat_lit 19968) (nat_lit 914)), (iv (nat_lit 0) (nat_lit 915)), (iv (nat_lit 769) (nat_lit 916))]) (nat_lit 0)) (Array.mk []))
noncomputable def h538 (P : Params) : Obj := (Obj.mk (.type "tuple") none (.seq (.mk []) (nat_lit 0)) (Array.mk []))
noncomputable def h539 (P : Params) : Obj := (Obj.mk .none none (.fields (.mk [])) (Array.mk []))
noncomputable def h540 (P : Params) : Obj := (Obj.mk .none none (Data.func (FuncData.mk (Str.ofString "_law_deck") (Str.ofString "_law_deck") (parsOf (stAt 40)) (FuncBody.stmts (bodyOf (stAt 40))) (scopeOf (stAt 40)) (nat_lit 0) [] .none .none .none .none none .none .none (nat_lit 0))) (Array.mk []))
noncomputable def h541 (P : Params) : Obj := (Obj.mk (.type "code") none (.fields (.mk [(sv "_law_deck" (nat_lit 918)), (sv "_law_deck" (nat_lit 919)), (sv "/claim/cut.py" (nat_lit 920)), (iv (nat_lit 299) (nat_lit 0)), (iv (nat_lit 1) (nat_lit 0)), (iv (nat_lit 0) (nat_lit 0)), (iv (nat_lit 0) (nat_lit 0)), (iv (nat_lit 3) (nat_lit 0)), (.ref (nat_lit 529)), (Value.bool Bool.true), (iv (nat_lit 181) (nat_lit 0)), (.ref (nat_lit 530)), .none, .none, .none, (.ref (nat_lit 531)), (iv (nat_lit 921) (nat_lit 0)), (iv (nat_lit 299) (nat_lit 0)), (sv "/claim/cut.py" (nat_lit 922))])) (Array.mk []))
noncomputable def h542 (P : Params) : Obj := (Obj.mk (.type "function") none (Data.func (FuncData.mk (Str.ofString "_law_deck") (Str.ofString "_law_deck") (parsOf (stAt 40)) (FuncBody.stmts (bodyOf (stAt 40))) (scopeOf (stAt 40)) (nat_lit 3) [] .none .none .none (sv "law_og0279_01" (nat_lit 894)) none (.ref (nat_lit 532)) .none (nat_lit 0))) (Array.mk []))
noncomputable def h543 (P : Params) : Obj := (Obj.mk (.type "tuple") none (.seq (.mk []) (nat_lit 0)) (Array.mk []))
noncomputable def h544 (P : Params) : Obj := (Obj.mk .none none (.fields (.mk [])) (Array.mk []))
noncomputable def h545 (P : Params) : Obj := (Obj.mk (.type "tuple") none (.seq (.mk [(sv "deck" (nat_lit 927)), (sv "many" (nat_lit 928))]) (nat_lit 0)) (Array.mk []))
noncomputable def h546 (P : Params) : Obj := (Obj.mk (.type "tuple") none (.seq (.mk []) (nat_lit 0)) (Array.mk []))
noncomputable def h547 (P : Params) : Obj := (Obj.mk .none none (Data.func (FuncData.mk (Str.ofString "_law_draw") (Str.ofString "_law_draw") (parsOf (stAt 41)) (FuncBody.stmts (bodyOf (stAt 41))) (scopeOf (stAt 41)) (nat_lit 0) [] .none .none .none .none none .none .none (nat_lit 0))) (Array.mk []))
noncomputable def h548 (P : Params) : Obj := (Obj.mk (.type "code") none (.fields (.mk [(sv "_law_draw" (nat_lit 924)), (sv "_law_draw" (nat_lit 925)), (sv "/claim/cut.py" (nat_lit 926)), (iv (nat_lit 304) (nat_lit 0)), (iv (nat_lit 2) (nat_lit 0)), (iv (nat_lit 0) (nat_lit 0)), (iv (nat_lit 0) (nat_lit 0)), (iv (nat_lit 3) (nat_lit 0)), (.ref (nat_lit 534)), (Value.bool Bool.true), (iv (nat_lit 181) (nat_lit 0)), (.ref (nat_lit 535)), .none, (.ref (nat_lit 536)), (.ref (nat_lit 537)), (.ref (nat_lit 538)), (iv (nat_lit 929) (nat_lit 0)), (iv (nat_lit 304) (nat_lit 0)), (sv "/claim/cut.py" (nat_lit 930))])) (Array.mk []))
noncomputable def h549 (P : Params) : Obj := (Obj.mk (.type "function") none (Data.func (FuncData.mk (Str.ofString "_law_draw") (Str.ofString "_law_draw") (parsOf (stAt 41)) (FuncBody.stmts (bodyOf (stAt 41))) (scopeOf (stAt 41)) (nat_lit 3) [] .none .none .none (sv "law_og0279_01" (nat_lit 894)) none (.ref (nat_lit 539)) .none (nat_lit 0))) (Array.mk []))
noncomputable def h550 (P : Params) : Obj := (Obj.mk (.type "tuple") none (.seq (.mk []) (nat_lit 0)) (Array.mk []))
noncomputable def h551 (P : Params) : Obj := (Obj.mk .none none (.fields (.mk [])) (Array.mk []))
noncomputable def h552 (P : Params) : Obj := (Obj.mk (.type "tuple") none (.seq (.mk [(sv "deck" (nat_lit 935)), (sv "columns" (nat_lit 936)), (sv "is_joined" (nat_lit 937)), (sv "cells" (nat_lit 938)), (sv "many" (nat_lit 939)), (sv "code" (nat_lit 940))]) (nat_lit 0)) (Array.mk []))
noncomputable def h553 (P : Params) : Obj := (Obj.mk (.type "tuple") none (.seq (.mk []) (nat_lit 0)) (Array.mk []))
noncomputable def h554 (P : Params) : Obj := (Obj.mk .none none (Data.func (FuncData.mk (Str.ofString "_law_row") (Str.ofString "_law_row") (parsOf (stAt 42)) (FuncBody.stmts (bodyOf (stAt 42))) (scopeOf (stAt 42)) (nat_lit 0) [] .none .none .none .none none .none .none (nat_lit 0))) (Array.mk []))
noncomputable def h555 (P : Params) : Obj := (Obj.mk (.type "code") none (.fields (.mk [(sv "_law_row" (nat_lit 932)), (sv "_law_row" (nat_lit 933)), (sv "/claim/cut.py" (nat_lit 934)), (iv (nat_lit 309) (nat_lit 0)), (iv (nat_lit 3) (nat_lit 0)), (iv (nat_lit 0) (nat_lit 0)), (iv (nat_lit 0) (nat_lit 0)), (iv (nat_lit 3) (nat_lit 0)), (.ref (nat_lit 541)), (Value.bool Bool.true), (iv (nat_lit 181) (nat_lit 0)), (.ref (nat_lit 542)), .none, (.ref (nat_lit 543)), (.ref (nat_lit 544)), (.ref (nat_lit 545)), (iv (nat_lit 941) (nat_lit 0)), (iv (nat_lit 309) (nat_lit 0)), (sv "/claim/cut.py" (nat_lit 942))])) (Array.mk []))
noncomputable def h556 (P : Params) : Obj := (Obj.mk (.type "function") none (Data.func (FuncData.mk (Str.ofString "_law_row") (Str.ofString "_law_row") (parsOf (stAt 42)) (FuncBody.stmts (bodyOf (stAt 42))) (scopeOf (stAt 42)) (nat_lit 3) [] .none .none .none (sv "law_og0279_01" (nat_lit 894)) none (.ref (nat_lit 546)) .none (nat_lit 0))) (Array.mk []))
noncomputable def h557 (P : Params) : Obj := (Obj.mk (.type "tuple") none (.seq (.mk []) (nat_lit 0)) (Array.mk []))
noncomputable def h558 (P : Params) : Obj := (Obj.mk .none none (.fields (.mk [])) (Array.mk []))
noncomputable def h559 (P : Params) : Obj := (Obj.mk (.type "tuple") none (.seq (.mk [(sv "rows" (nat_lit 947)), (sv "joined" (nat_lit 948)), (sv "found" (nat_lit 949)), (sv "row" (nat_lit 950)), (sv "cells" (nat_lit 951)), (sv "width" (nat_lit 952)), (sv "column" (nat_lit 953))]) (nat_lit 0)) (Array.mk []))
noncomputable def h560 (P : Params) : Obj := (Obj.mk (.type "tuple") none (.seq (.mk []) (nat_lit 0)) (Array.mk []))
noncomputable def h561 (P : Params) : Obj := (Obj.mk .none none (Data.func (FuncData.mk (Str.ofString "_law_signs") (Str.ofString "_law_signs") (parsOf (stAt 43)) (FuncBody.stmts (bodyOf (stAt 43))) (scopeOf (stAt 43)) (nat_lit 0) [] .none .none .none .none none .none .none (nat_lit 0))) (Array.mk []))
noncomputable def h562 (P : Params) : Obj := (Obj.mk (.type "code") none (.fields (.mk [(sv "_law_signs" (nat_lit 944)), (sv "_law_signs" (nat_lit 945)), (sv "/claim/cut.py" (nat_lit 946)), (iv (nat_lit 322) (nat_lit 0)), (iv (nat_lit 2) (nat_lit 0)), (iv (nat_lit 0) (nat_lit 0)), (iv (nat_lit 0) (nat_lit 0)), (iv (nat_lit 3) (nat_lit 0)), (.ref (nat_lit 548)), (Value.bool Bool.true), (iv (nat_lit 181) (nat_lit 0)), (.ref (nat_lit 549)), .none, (.ref (nat_lit 550)), (.ref (nat_lit 551)), (.ref (nat_lit 552)), (iv (nat_lit 954) (nat_lit 0)), (iv (nat_lit 322) (nat_lit 0)), (sv "/claim/cut.py" (nat_lit 955))])) (Array.mk []))
noncomputable def h563 (P : Params) : Obj := (Obj.mk (.type "function") none (Data.func (FuncData.mk (Str.ofString "_law_signs") (Str.ofString "_law_signs") (parsOf (stAt 43)) (FuncBody.stmts (bodyOf (stAt 43))) (scopeOf (stAt 43)) (nat_lit 3) [] .none .none .none (sv "law_og0279_01" (nat_lit 894)) none (.ref (nat_lit 553)) .none (nat_lit 0))) (Array.mk []))
noncomputable def h564 (P : Params) : Obj := (Obj.mk (.type "tuple") none (.seq (.mk []) (nat_lit 0)) (Array.mk []))
noncomputable def h565 (P : Params) : Obj := (Obj.mk .none none (.fields (.mk [])) (Array.mk []))
noncomputable def h566 (P : Params) : Obj := (Obj.mk (.type "tuple") none (.seq (.mk [(sv "code" (nat_lit 960)), (sv "separators" (nat_lit 961))]) (nat_lit 0)) (Array.mk []))
noncomputable def h567 (P : Params) : Obj := (Obj.mk (.type "tuple") none (.seq (.mk []) (nat_lit 0)) (Array.mk []))
noncomputable def h568 (P : Params) : Obj := (Obj.mk .none none (Data.func (FuncData.mk (Str.ofString "_law_sort") (Str.ofString "_law_sort") (parsOf (stAt 44)) (FuncBody.stmts (bodyOf (stAt 44))) (scopeOf (stAt 44)) (nat_lit 0) [] .none .none .none .none none .none .none (nat_lit 0))) (Array.mk []))
noncomputable def h569 (P : Params) : Obj := (Obj.mk (.type "code") none (.fields (.mk [(sv "_law_sort" (nat_lit 957)), (sv "_law_sort" (nat_lit 958)), (sv "/claim/cut.py" (nat_lit 959)), (iv (nat_lit 334) (nat_lit 0)), (iv (nat_lit 2) (nat_lit 0)), (iv (nat_lit 0) (nat_lit 0)), (iv (nat_lit 0) (nat_lit 0)), (iv (nat_lit 3) (nat_lit 0)), (.ref (nat_lit 555)), (Value.bool Bool.true), (iv (nat_lit 181) (nat_lit 0)), (.ref (nat_lit 556)), .none, (.ref (nat_lit 557)), (.ref (nat_lit 558)), (.ref (nat_lit 559)), (iv (nat_lit 962) (nat_lit 0)), (iv (nat_lit 334) (nat_lit 0)), (sv "/claim/cut.py" (nat_lit 963))])) (Array.mk []))
noncomputable def h570 (P : Params) : Obj := (Obj.mk (.type "function") none (Data.func (FuncData.mk (Str.ofString "_law_sort") (Str.ofString "_law_sort") (parsOf (stAt 44)) (FuncBody.stmts (bodyOf (stAt 44))) (scopeOf (stAt 44)) (nat_lit 3) [] .none .none .none (sv "law_og0279_01" (nat_lit 894)) none (.ref (nat_lit 560)) .none (nat_lit 0))) (Array.mk []))
noncomputable def h571 (P : Params) : Obj := (Obj.mk (.type "tuple") none (.seq (.mk []) (nat_lit 0)) (Array.mk []))
noncomputable def h572 (P : Params) : Obj := (Obj.mk .none none (.fields (.mk [])) (Array.mk []))
noncomputable def h573 (P : Params) : Obj := (Obj.mk .none none (Data.func (FuncData.mk (Str.ofString "_law_at") (Str.ofString "_law_at") (parsOf (stAt 45)) (FuncBody.stmts (bodyOf (stAt 45))) (scopeOf (stAt 45)) (nat_lit 0) [] .none .none .none .none none .none .none (nat_lit 0))) (Array.mk []))
noncomputable def h574 (P : Params) : Obj := (Obj.mk (.type "code") none (.fields (.mk [(sv "_law_at" (nat_lit 965)), (sv "_law_at" (nat_lit 966)), (sv "/claim/cut.py" (nat_lit 967)), (iv (nat_lit 336) (nat_lit 0)), (iv (nat_lit 2) (nat_lit 0)), (iv (nat_lit 0) (nat_lit 0)), (iv (nat_lit 0) (nat_lit 0)), (iv (nat_lit 3) (nat_lit 0)), (.ref (nat_lit 562)), (Value.bool Bool.true), (iv (nat_lit 181) (nat_lit 0)), (.ref (nat_lit 563)), .none, .none, .none, (.ref (nat_lit 564)), (iv (nat_lit 968) (nat_lit 0)), (iv (nat_lit 336) (nat_lit 0)), (sv "/claim/cut.py" (nat_lit 969))])) (Array.mk []))
noncomputable def h575 (P : Params) : Obj := (Obj.mk (.type "function") none (Data.func (FuncData.mk (Str.ofString "_law_at") (Str.ofString "_law_at") (parsOf (stAt 45)) (FuncBody.stmts (bodyOf (stAt 45))) (scopeOf (stAt 45)) (nat_lit 3) [] .none .none .none (sv "law_og0279_01" (nat_lit 894)) none (.ref (nat_lit 565)) .none (nat_lit 0))) (Array.mk []))
noncomputable def h576 (P : Params) : Obj := (Obj.mk (.type "tuple") none (.seq (.mk []) (nat_lit 0)) (Array.mk []))
noncomputable def h577 (P : Params) : Obj := (Obj.mk .none none (.fields (.mk [])) (Array.mk []))
noncomputable def h578 (P : Params) : Obj := (Obj.mk .none none (Data.func (FuncData.mk (Str.ofString "_law_words") (Str.ofString "_law_words") (parsOf (stAt 46)) (FuncBody.stmts (bodyOf (stAt 46))) (scopeOf (stAt 46)) (nat_lit 0) [] .none .none .none .none none .none .none (nat_lit 0))) (Array.mk []))
noncomputable def h579 (P : Params) : Obj := (Obj.mk (.type "code") none (.fields (.mk [(sv "_law_words" (nat_lit 971)), (sv "_law_words" (nat_lit 972)), (sv "/claim/cut.py" (nat_lit 973)), (iv (nat_lit 339) (nat_lit 0)), (iv (nat_lit 3) (nat_lit 0)), (iv (nat_lit 0) (nat_lit 0)), (iv (nat_lit 0) (nat_lit 0)), (iv (nat_lit 3) (nat_lit 0)), (.ref (nat_lit 567)), (Value.bool Bool.true), (iv (nat_lit 181) (nat_lit 0)), (.ref (nat_lit 568)), .none, .none, .none, (.ref (nat_lit 569)), (iv (nat_lit 974) (nat_lit 0)), (iv (nat_lit 339) (nat_lit 0)), (sv "/claim/cut.py" (nat_lit 975))])) (Array.mk []))
noncomputable def h580 (P : Params) : Obj := (Obj.mk (.type "function") none (Data.func (FuncData.mk (Str.ofString "_law_words") (Str.ofString "_law_words") (parsOf (stAt 46)) (FuncBody.stmts (bodyOf (stAt 46))) (scopeOf (stAt 46)) (nat_lit 3) [] .none .none .none (sv "law_og0279_01" (nat_lit 894)) none (.ref (nat_lit 570)) .none (nat_lit 0))) (Array.mk []))
noncomputable def h581 (P : Params) : Obj := (Obj.mk (.type "tuple") none (.seq (.mk []) (nat_lit 0)) (Array.mk []))
noncomputable def h582 (P : Params) : Obj := (Obj.mk .none none (.fields (.mk [])) (Array.mk []))
noncomputable def h583 (P : Params) : Obj := (Obj.mk (.type "tuple") none (.seq (.mk [(sv "signs" (nat_lit 980)), (sv "place" (nat_lit 981)), (sv "at" (nat_lit 982)), (sv "mine" (nat_lit 983)), (sv "mate" (nat_lit 984)), (sv "stride" (nat_lit 985)), (sv "deep" (nat_lit 986))]) (nat_lit 0)) (Array.mk []))
noncomputable def h584 (P : Params) : Obj := (Obj.mk (.type "tuple") none (.seq (.mk []) (nat_lit 0)) (Array.mk []))
noncomputable def h585 (P : Params) : Obj := (Obj.mk .none none (Data.func (FuncData.mk (Str.ofString "_law_bracket") (Str.ofString "_law_bracket") (parsOf (stAt 47)) (FuncBody.stmts (bodyOf (stAt 47))) (scopeOf (stAt 47)) (nat_lit 0) [] .none .none .none .none none .none .none (nat_lit 0))) (Array.mk []))
noncomputable def h586 (P : Params) : Obj := (Obj.mk (.type "code") none (.fields (.mk [(sv "_law_bracket" (nat_lit 977)), (sv "_law_bracket" (nat_lit 978)), (sv "/claim/cut.py" (nat_lit 979)), (iv (nat_lit 349) (nat_lit 0)), (iv (nat_lit 2) (nat_lit 0)), (iv (nat_lit 0) (nat_lit 0)), (iv (nat_lit 0) (nat_lit 0)), (iv (nat_lit 3) (nat_lit 0)), (.ref (nat_lit 572)), (Value.bool Bool.true), (iv (nat_lit 181) (nat_lit 0)), (.ref (nat_lit 573)), .none, (.ref (nat_lit 574)), (.ref (nat_lit 575)), (.ref (nat_lit 576)), (iv (nat_lit 987) (nat_lit 0)), (iv (nat_lit 349) (nat_lit 0)), (sv "/claim/cut.py" (nat_lit 988))])) (Array.mk []))
noncomputable def h587 (P : Params) : Obj := (Obj.mk (.type "function") none (Data.func (FuncData.mk (Str.ofString "_law_bracket") (Str.ofString "_law_bracket") (parsOf (stAt 47)) (FuncBody.stmts (bodyOf (stAt 47))) (scopeOf (stAt 47)) (nat_lit 3) [] .none .none .none (sv "law_og0279_01" (nat_lit 894)) none (.ref (nat_lit 577)) .none (nat_lit 0))) (Array.mk []))
noncomputable def h588 (P : Params) : Obj := (Obj.mk (.type "tuple") none (.seq (.mk []) (nat_lit 0)) (Array.mk []))
noncomputable def h589 (P : Params) : Obj := (Obj.mk .none none (.fields (.mk [])) (Array.mk []))
noncomputable def h590 (P : Params) : Obj := (Obj.mk (.type "tuple") none (.seq (.mk [(sv "signs" (nat_lit 993)), (sv "place" (nat_lit 994)), (sv "code" (nat_lit 995)), (sv "is_back" (nat_lit 996)), (sv "is_near" (nat_lit 997)), (sv "stride" (nat_lit 998)), (sv "at" (nat_lit 999))]) (nat_lit 0)) (Array.mk []))
noncomputable def h591 (P : Params) : Obj := (Obj.mk (.type "tuple") none (.seq (.mk []) (nat_lit 0)) (Array.mk []))
noncomputable def h592 (P : Params) : Obj := (Obj.mk .none none (Data.func (FuncData.mk (Str.ofString "_law_jump") (Str.ofString "_law_jump") (parsOf (stAt 48)) (FuncBody.stmts (bodyOf (stAt 48))) (scopeOf (stAt 48)) (nat_lit 0) [] .none .none .none .none none .none .none (nat_lit 0))) (Array.mk []))
noncomputable def h593 (P : Params) : Obj := (Obj.mk (.type "code") none (.fields (.mk [(sv "_law_jump" (nat_lit 990)), (sv "_law_jump" (nat_lit 991)), (sv "/claim/cut.py" (nat_lit 992)), (iv (nat_lit 364) (nat_lit 0)), (iv (nat_lit 5) (nat_lit 0)), (iv (nat_lit 0) (nat_lit 0)), (iv (nat_lit 0) (nat_lit 0)), (iv (nat_lit 3) (nat_lit 0)), (.ref (nat_lit 579)), (Value.bool Bool.true), (iv (nat_lit 181) (nat_lit 0)), (.ref (nat_lit 580)), .none, (.ref (nat_lit 581)), (.ref (nat_lit 582)), (.ref (nat_lit 583)), (iv (nat_lit 1000) (nat_lit 0)), (iv (nat_lit 364) (nat_lit 0)), (sv "/claim/cut.py" (nat_lit 1001))])) (Array.mk []))
noncomputable def h594 (P : Params) : Obj := (Obj.mk (.type "function") none (Data.func (FuncData.mk (Str.ofString "_law_jump") (Str.ofString "_law_jump") (parsOf (stAt 48)) (FuncBody.stmts (bodyOf (stAt 48))) (scopeOf (stAt 48)) (nat_lit 3) [] .none .none .none (sv "law_og0279_01" (nat_lit 894)) none (.ref (nat_lit 584)) .none (nat_lit 0))) (Array.mk []))
noncomputable def h595 (P : Params) : Obj := (Obj.mk (.type "tuple") none (.seq (.mk []) (nat_lit 0)) (Array.mk []))
noncomputable def h596 (P : Params) : Obj := (Obj.mk .none none (.fields (.mk [])) (Array.mk []))
noncomputable def h597 (P : Params) : Obj := (Obj.mk (.type "tuple") none (.seq (.mk [(sv "rows" (nat_lit 1006)), (sv "joined" (nat_lit 1007)), (sv "columns" (nat_lit 1008)), (sv "grid" (nat_lit 1009)), (sv "row" (nat_lit 1010)), (sv "cells" (nat_lit 1011))]) (nat_lit 0)) (Array.mk []))
noncomputable def h598 (P : Params) : Obj := (Obj.mk (.type "tuple") none (.seq (.mk []) (nat_lit 0)) (Array.mk []))
noncomputable def h599 (P : Params) : Obj := (Obj.mk .none none (Data.func (FuncData.mk (Str.ofString "_law_view") (Str.ofString "_law_view") (parsOf (stAt 49)) (FuncBody.stmts (bodyOf (stAt 49))) (scopeOf (stAt 49)) (nat_lit 0) [] .none .none .none .none none .none .none (nat_lit 0))) (Array.mk []))
noncomputable def h600 (P : Params) : Obj := (Obj.mk (.type "code") none (.fields (.mk [(sv "_law_view" (nat_lit 1003)), (sv "_law_view" (nat_lit 1004)), (sv "/claim/cut.py" (nat_lit 1005)), (iv (nat_lit 374) (nat_lit 0)), (iv (nat_lit 3) (nat_lit 0)), (iv (nat_lit 0) (nat_lit 0)), (iv (nat_lit 0) (nat_lit 0)), (iv (nat_lit 3) (nat_lit 0)), (.ref (nat_lit 586)), (Value.bool Bool.true), (iv (nat_lit 181) (nat_lit 0)), (.ref (nat_lit 587)), .none, (.ref (nat_lit 588)), (.ref (nat_lit 589)), (.ref (nat_lit 590)), (iv (nat_lit 1012) (nat_lit 0)), (iv (nat_lit 374) (nat_lit 0)), (sv "/claim/cut.py" (nat_lit 1013))])) (Array.mk []))
noncomputable def h601 (P : Params) : Obj := (Obj.mk (.type "function") none (Data.func (FuncData.mk (Str.ofString "_law_view") (Str.ofString "_law_view") (parsOf (stAt 49)) (FuncBody.stmts (bodyOf (stAt 49))) (scopeOf (stAt 49)) (nat_lit 3) [] .none .none .none (sv "law_og0279_01" (nat_lit 894)) none (.ref (nat_lit 591)) .none (nat_lit 0))) (Array.mk []))
noncomputable def h602 (P : Params) : Obj := (Obj.mk (.type "tuple") none (.seq (.mk []) (nat_lit 0)) (Array.mk []))
noncomputable def h603 (P : Params) : Obj := (Obj.mk .none none (.fields (.mk [])) (Array.mk []))
noncomputable def h604 (P : Params) : Obj := (Obj.mk .none none (Data.func (FuncData.mk (Str.ofString "law") (Str.ofString "law") (parsOf (stAt 50)) (FuncBody.stmts (bodyOf (stAt 50))) (scopeOf (stAt 50)) (nat_lit 0) [] .none .none .none .none none .none .none (nat_lit 0))) (Array.mk []))
noncomputable def h605 (P : Params) : Obj := (Obj.mk (.type "code") none (.fields (.mk [(sv "law" (nat_lit 1015)), (sv "law" (nat_lit 1016)), (sv "/claim/cut.py" (nat_lit 1017)), (iv (nat_lit 379) (nat_lit 0)), (iv (nat_lit 1) (nat_lit 0)), (iv (nat_lit 0) (nat_lit 0)), (iv (nat_lit 0) (nat_lit 0)), (iv (nat_lit 3) (nat_lit 0)), (.ref (nat_lit 593)), (Value.bool Bool.true), (iv (nat_lit 181) (nat_lit 0)), (.ref (nat_lit 594)), .none, .none, .none, (.ref (nat_lit 595)), (iv (nat_lit 1018) (nat_lit 0)), (iv (nat_lit 379) (nat_lit 0)), (sv "/claim/cut.py" (nat_lit 1019))])) (Array.mk []))
noncomputable def h606 (P : Params) : Obj := (Obj.mk (.type "function") none (Data.func (FuncData.mk (Str.ofString "law") (Str.ofString "law") (parsOf (stAt 50)) (FuncBody.stmts (bodyOf (stAt 50))) (scopeOf (stAt 50)) (nat_lit 3) [] .none .none .none (sv "law_og0279_01" (nat_lit 894)) none (.ref (nat_lit 596)) .none (nat_lit 0))) (Array.mk []))
noncomputable def t8 (P : Params) : BT := (.node (boot_o_0 P) (.node (boot_o_1 P) (.node (h534 P) (.node (boot_o_7 P) (.node (h7 P) (.node (h23 P) (.node (h58 P) (.node (h124 P) (.node (h258 P) (.node (h518 P) .nil .nil) .nil) (.node (h390 P) .nil .nil)) (.node (h190 P) (.node (h322 P) (.node (h584 P) .nil .nil) .nil) (.node (h454 P) .nil .nil))) (.node (h92 P) (.node (h158 P) (.node (h290 P) (.node (h552 P) .nil .nil) .nil) (.node (h422 P) .nil .nil)) (.node (h224 P) (.node (h354 P) .nil .nil) (.node (h486 P) .nil .nil)))) (.node (h42 P) (.node (h76 P) (.node (h142 P) (.node (h274 P) (.node (h536 P) .nil .nil) .nil) (.node (h406 P) .nil .nil)) (.node (h206 P) (.node (h338 P) (.node (h600 P) .nil .nil) .nil) (.node (h470 P) .nil .nil))) (.node (h108 P) (.node (h174 P) (.node (h306 P) (.node (h568 P) .nil .nil) .nil) (.node (h438 P) .nil .nil)) (.node (h242 P) (.node (h372 P) .nil .nil) (.node (h502 P) .nil .nil))))) (.node (h15 P) (.node (h31 P) (.node (h66 P) (.node (h132 P) (.node (h266 P) (.node (h526 P) .nil .nil) .nil) (.node (h398 P) .nil .nil)) (.node (h198 P) (.node (h330 P) (.node (h592 P) .nil .nil) .nil) (.node (h462 P) .nil .nil))) (.node (h100 P) (.node (h166 P) (.node (h298 P) (.node (h560 P) .nil .nil) .nil) (.node (h430 P) .nil .nil)) (.node (h232 P) (.node (h362 P) .nil .nil) (.node (h494 P) .nil .nil)))) (.node (h50 P) (.node (h84 P) (.node (h150 P) (.node (h282 P) (.node (h544 P) .nil .nil) .nil) (.node (h414 P) .nil .nil)) (.node (h214 P) (.node (h346 P) .nil .nil) (.node (h478 P) .nil .nil))) (.node (h116 P) (.node (h182 P) (.node (h314 P) (.node (h576 P) .nil .nil) .nil) (.node (h446 P) .nil .nil)) (.node (h250 P) (.node (h382 P) .nil .nil) (.node (h510 P) .nil .nil)))))) (.node (h0 P) (.node (h11 P) (.node (h27 P) (.node (h62 P) (.node (h128 P) (.node (h262 P) (.node (h522 P) .nil .nil) .nil) (.node (h394 P) .nil .nil)) (.node (h194 P) (.node (h326 P) (.node (h588 P) .nil .nil) .nil) (.node (h458 P) .nil .nil))) (.node (h96 P) (.node (h162 P) (.node (h294 P) (.node (h556 P) .nil .nil) .nil) (.node (h426 P) .nil .nil)) (.node (h228 P) (.node (h358 P) .nil .nil) (.node (h490 P) .nil .nil)))) (.node (h46 P) (.node (h80 P) (.node (h146 P) (.node (h278 P) (.node (h540 P) .nil .nil) .nil) (.node (h410 P) .nil .nil)) (.node (h210 P) (.node (h342 P) (.node (h604 P) .nil .nil) .nil) (.node (h474 P) .nil .nil))) (.node (h112 P) (.node (h178 P) (.node (h310 P) (.node (h572 P) .nil .nil) .nil) (.node (h442 P) .nil .nil)) (.node (h246 P) (.node (h376 P) .nil .nil) (.node (h506 P) .nil .nil))))) (.node (h19 P) (.node (h35 P) (.node (h70 P) (.node (h136 P) (.node (h270 P) (.node (h530 P) .nil .nil) .nil) (.node (h402 P) .nil .nil)) (.node (h202 P) (.node (h334 P) (.node (h596 P) .nil .nil) .nil) (.node (h466 P) .nil .nil))) (.node (h104 P) (.node (h170 P) (.node (h302 P) (.node (h564 P) .nil .nil) .nil) (.node (h434 P) .nil .nil)) (.node (h236 P) (.node (h366 P) .nil .nil) (.node (h498 P) .nil .nil)))) (.node (h54 P) (.node (h88 P) (.node (h154 P) (.node (h286 P) (.node (h548 P) .nil .nil) .nil) (.node (h418 P) .nil .nil)) (.node (h220 P) (.node (h350 P) .nil .nil) (.node (h482 P) .nil .nil))) (.node (h120 P) (.node (h186 P) (.node (h318 P) (.node (h580 P) .nil .nil) .nil) (.node (h450 P) .nil .nil)) (.node (h254 P) (.node (h386 P) .nil .nil) (.node (h514 P) .nil .nil))))))) (.node (boot_o_5 P) (.node (boot_o_9 P) (.node (h9 P) (.node (h25 P) (.node (h60 P) (.node (h126 P) (.node (h260 P) (.node (h520 P) .nil .nil) .nil) (.node (h392 P) .nil .nil)) (.node (h192 P) (.node (h324 P) (.node (h586 P) .nil .nil) .nil) (.node (h456 P) .nil .nil))) (.node (h94 P) (.node (h160 P) (.node (h292 P) (.node (h554 P) .nil .nil) .nil) (.node (h424 P) .nil .nil)) (.node (h226 P) (.node (h356 P) .nil .nil) (.node (h488 P) .nil .nil)))) (.node (h44 P) (.node (h78 P) (.node (h144 P) (.node (h276 P) (.node (h538 P) .nil .nil) .nil) (.node (h408 P) .nil .nil)) (.node (h208 P) (.node (h340 P) (.node (h602 P) .nil .nil) .nil) (.node (h472 P) .nil .nil))) (.node (h110 P) (.node (h176 P) (.node (h308 P) (.node (h570 P) .nil .nil) .nil) (.node (h440 P) .nil .nil)) (.node (h244 P) (.node (h374 P) .nil .nil) (.node (h504 P) .nil .nil))))) (.node (h17 P) (.node (h33 P) (.node (h68 P) (.node (h134 P) (.node (h268 P) (.node (h528 P) .nil .nil) .nil) (.node (h400 P) .nil .nil)) (.node (h200 P) (.node (h332 P) (.node (h594 P) .nil .nil) .nil) (.node (h464 P) .nil .nil))) (.node (h102 P) (.node (h168 P) (.node (h300 P) (.node (h562 P) .nil .nil) .nil) (.node (h432 P) .nil .nil)) (.node (h234 P) (.node (h364 P) .nil .nil) (.node (h496 P) .nil .nil)))) (.node (h52 P) (.node (h86 P) (.node (h152 P) (.node (h284 P) (.node (h546 P) .nil .nil) .nil) (.node (h416 P) .nil .nil)) (.node (h218 P) (.node (h348 P) .nil .nil) (.node (h480 P) .nil .nil))) (.node (h118 P) (.node (h184 P) (.node (h316 P) (.node (h578 P) .nil .nil) .nil) (.node (h448 P) .nil .nil)) (.node (h252 P) (.node (h384 P) .nil .nil) (.node (h512 P) .nil .nil)))))) (.node (h2 P) (.node (h13 P) (.node (h29 P) (.node (h64 P) (.node (h130 P) (.node (h264 P) (.node (h524 P) .nil .nil) .nil) (.node (h396 P) .nil .nil)) (.node (h196 P) (.node (h328 P) (.node (h590 P) .nil .nil) .nil) (.node (h460 P) .nil .nil))) (.node (h98 P) (.node (h164 P) (.node (h296 P) (.node (h558 P) .nil .nil) .nil) (.node (h428 P) .nil .nil)) (.node (h230 P) (.node (h360 P) .nil .nil) (.node (h492 P) .nil .nil)))) (.node (h48 P) (.node (h82 P) (.node (h148 P) (.node (h280 P) (.node (h542 P) .nil .nil) .nil) (.node (h412 P) .nil .nil)) (.node (h212 P) (.node (h344 P) (.node (h606 P) .nil .nil) .nil) (.node (h476 P) .nil .nil))) (.node (h114 P) (.node (h180 P) (.node (h312 P) (.node (h574 P) .nil .nil) .nil) (.node (h444 P) .nil .nil)) (.node (h248 P) (.node (h378 P) .nil .nil) (.node (h508 P) .nil .nil))))) (.node (h21 P) (.node (h40 P) (.node (h74 P) (.node (h140 P) (.node (h272 P) (.node (h532 P) .nil .nil) .nil) (.node (h404 P) .nil .nil)) (.node (h204 P) (.node (h336 P) (.node (h598 P) .nil .nil) .nil) (.node (h468 P) .nil .nil))) (.node (h106 P) (.node (h172 P) (.node (h304 P) (.node (h566 P) .nil .nil) .nil) (.node (h436 P) .nil .nil)) (.node (h240 P) (.node (h368 P) .nil .nil) (.node (h500 P) .nil .nil)))) (.node (h56 P) (.node (h90 P) (.node (h156 P) (.node (h288 P) (.node (h550 P) .nil .nil) .nil) (.node (h420 P) .nil .nil)) (.node (h222 P) (.node (h352 P) .nil .nil) (.node (h484 P) .nil .nil))) (.node (h122 P) (.node (h188 P) (.node (h320 P) (.node (h582 P) .nil .nil) .nil) (.node (h452 P) .nil .nil)) (.node (h256 P) (.node (h388 P) .nil .nil) (.node (h516 P) .nil .nil)))))))) (.node (h4 P) (.node (boot_o_4 P) (.node (boot_o_8 P) (.node (h8 P) (.node (h24 P) (.node (h59 P) (.node (h125 P) (.node (h259 P) (.node (h519 P) .nil .nil) .nil) (.node (h391 P) .nil .nil)) (.node (h191 P) (.node (h323 P) (.node (h585 P) .nil .nil) .nil) (.node (h455 P) .nil .nil))) (.node (h93 P) (.node (h159 P) (.node (h291 P) (.node (h553 P) .nil .nil) .nil) (.node (h423 P) .nil .nil)) (.node (h225 P) (.node (h355 P) .nil .nil) (.node (h487 P) .nil .nil)))) (.node (h43 P) (.node (h77 P) (.node (h143 P) (.node (h275 P) (.node (h537 P) .nil .nil) .nil) (.node (h407 P) .nil .nil)) (.node (h207 P) (.node (h339 P) (.node (h601 P) .nil .nil) .nil) (.node (h471 P) .nil .nil))) (.node (h109 P) (.node (h175 P) (.node (h307 P) (.node (h569 P) .nil .nil) .nil) (.node (h439 P) .nil .nil)) (.node (h243 P) (.node (h373 P) .nil .nil) (.node (h503 P) .nil .nil))))) (.node (h16 P) (.node (h38 P) (.node (h67 P) (.node (h133 P) (.node (h267 P) (.node (h527 P) .nil .nil) .nil) (.node (h399 P) .nil .nil)) (.node (h199 P) (.node (h331 P) (.node (h593 P) .nil .nil) .nil) (.node (h463 P) .nil .nil))) (.node (h101 P) (.node (h167 P) (.node (h299 P) (.node (h561 P) .nil .nil) .nil) (.node (h431 P) .nil .nil)) (.node (h233 P) (.node (h363 P) .nil .nil) (.node (h495 P) .nil .nil)))) (.node (h51 P) (.node (h85 P) (.node (h151 P) (.node (h283 P) (.node (h545 P) .nil .nil) .nil) (.node (h415 P) .nil .nil)) (.node (h217 P) (.node (h347 P) .nil .nil) (.node (h479 P) .nil .nil))) (.node (h117 P) (.node (h183 P) (.node (h315 P) (.node (h577 P) .nil .nil) .nil) (.node (h447 P) .nil .nil)) (.node (h251 P) (.node (h383 P) .nil .nil) (.node (h511 P) .nil .nil)))))) (.node (h535 P) (.node (h12 P) (.node (h28 P) (.node (h63 P) (.node (h129 P) (.node (h263 P) (.node (h523 P) .nil .nil) .nil) (.node (h395 P) .nil .nil)) (.node (h195 P) (.node (h327 P) (.node (h589 P) .nil .nil) .nil) (.node (h459 P) .nil .nil))) (.node (h97 P) (.node (h163 P) (.node (h295 P) (.node (h557 P) .nil .nil) .nil) (.node (h427 P) .nil .nil)) (.node (h229 P) (.node (h359 P) .nil .nil) (.node (h491 P) .nil .nil)))) (.node (h47 P) (.node (h81 P) (.node (h147 P) (.node (h279 P) (.node (h541 P) .nil .nil) .nil) (.node (h411 P) .nil .nil)) (.node (h211 P) (.node (h343 P) (.node (h605 P) .nil .nil) .nil) (.node (h475 P) .nil .nil))) (.node (h113 P) (.node (h179 P) (.node (h311 P) (.node (h573 P) .nil .nil) .nil) (.node (h443 P) .nil .nil)) (.node (h247 P) (.node (h377 P) .nil .nil) (.node (h507 P) .nil .nil))))) (.node (h20 P) (.node (h39 P) (.node (h71 P) (.node (h139 P) (.node (h271 P) (.node (h531 P) .nil .nil) .nil) (.node (h403 P) .nil .nil)) (.node (h203 P) (.node (h335 P) (.node (h597 P) .nil .nil) .nil) (.node (h467 P) .nil .nil))) (.node (h105 P) (.node (h171 P) (.node (h303 P) (.node (h565 P) .nil .nil) .nil) (.node (h435 P) .nil .nil)) (.node (h237 P) (.node (h367 P) .nil .nil) (.node (h499 P) .nil .nil)))) (.node (h55 P) (.node (h89 P) (.node (h155 P) (.node (h287 P) (.node (h549 P) .nil .nil) .nil) (.node (h419 P) .nil .nil)) (.node (h221 P) (.node (h351 P) .nil .nil) (.node (h483 P) .nil .nil))) (.node (h121 P) (.node (h187 P) (.node (h319 P) (.node (h581 P) .nil .nil) .nil) (.node (h451 P) .nil .nil)) (.node (h255 P) (.node (h387 P) .nil .nil) (.node (h515 P) .nil .nil))))))) (.node (boot_o_6 P) (.node (boot_o_10 P) (.node (h10 P) (.node (h26 P) (.node (h61 P) (.node (h127 P) (.node (h261 P) (.node (h521 P) .nil .nil) .nil) (.node (h393 P) .nil .nil)) (.node (h193 P) (.node (h325 P) (.node (h587 P) .nil .nil) .nil) (.node (h457 P) .nil .nil))) (.node (h95 P) (.node (h161 P) (.node (h293 P) (.node (h555 P) .nil .nil) .nil) (.node (h425 P) .nil .nil)) (.node (h227 P) (.node (h357 P) .nil .nil) (.node (h489 P) .nil .nil)))) (.node (h45 P) (.node (h79 P) (.node (h145 P) (.node (h277 P) (.node (h539 P) .nil .nil) .nil) (.node (h409 P) .nil .nil)) (.node (h209 P) (.node (h341 P) (.node (h603 P) .nil .nil) .nil) (.node (h473 P) .nil .nil))) (.node (h111 P) (.node (h177 P) (.node (h309 P) (.node (h571 P) .nil .nil) .nil) (.node (h441 P) .nil .nil)) (.node (h245 P) (.node (h375 P) .nil .nil) (.node (h505 P) .nil .nil))))) (.node (h18 P) (.node (h34 P) (.node (h69 P) (.node (h135 P) (.node (h269 P) (.node (h529 P) .nil .nil) .nil) (.node (h401 P) .nil .nil)) (.node (h201 P) (.node (h333 P) (.node (h595 P) .nil .nil) .nil) (.node (h465 P) .nil .nil))) (.node (h103 P) (.node (h169 P) (.node (h301 P) (.node (h563 P) .nil .nil) .nil) (.node (h433 P) .nil .nil)) (.node (h235 P) (.node (h365 P) .nil .nil) (.node (h497 P) .nil .nil)))) (.node (h53 P) (.node (h87 P) (.node (h153 P) (.node (h285 P) (.node (h547 P) .nil .nil) .nil) (.node (h417 P) .nil .nil)) (.node (h219 P) (.node (h349 P) .nil .nil) (.node (h481 P) .nil .nil))) (.node (h119 P) (.node (h185 P) (.node (h317 P) (.node (h579 P) .nil .nil) .nil) (.node (h449 P) .nil .nil)) (.node (h253 P) (.node (h385 P) .nil .nil) (.node (h513 P) .nil .nil)))))) (.node (h3 P) (.node (h14 P) (.node (h30 P) (.node (h65 P) (.node (h131 P) (.node (h265 P) (.node (h525 P) .nil .nil) .nil) (.node (h397 P) .nil .nil)) (.node (h197 P) (.node (h329 P) (.node (h591 P) .nil .nil) .nil) (.node (h461 P) .nil .nil))) (.node (h99 P) (.node (h165 P) (.node (h297 P) (.node (h559 P) .nil .nil) .nil) (.node (h429 P) .nil .nil)) (.node (h231 P) (.node (h361 P) .nil .nil) (.node (h493 P) .nil .nil)))) (.node (h49 P) (.node (h83 P) (.node (h149 P) (.node (h281 P) (.node (h543 P) .nil .nil) .nil) (.node (h413 P) .nil .nil)) (.node (h213 P) (.node (h345 P) .nil .nil) (.node (h477 P) .nil .nil))) (.node (h115 P) (.node (h181 P) (.node (h313 P) (.node (h575 P) .nil .nil) .nil) (.node (h445 P) .nil .nil)) (.node (h249 P) (.node (h381 P) .nil .nil) (.node (h509 P) .nil .nil))))) (.node (h22 P) (.node (h41 P) (.node (h75 P) (.node (h141 P) (.node (h273 P) (.node (h533 P) .nil .nil) .nil) (.node (h405 P) .nil .nil)) (.node (h205 P) (.node (h337 P) (.node (h599 P) .nil .nil) .nil) (.node (h469 P) .nil .nil))) (.node (h107 P) (.node (h173 P) (.node (h305 P) (.node (h567 P) .nil .nil) .nil) (.node (h437 P) .nil .nil)) (.node (h241 P) (.node (h371 P) .nil .nil) (.node (h501 P) .nil .nil)))) (.node (h57 P) (.node (h91 P) (.node (h157 P) (.node (h289 P) (.node (h551 P) .nil .nil) .nil) (.node (h421 P) .nil .nil)) (.node (h223 P) (.node (h353 P) .nil .nil) (.node (h485 P) .nil .nil))) (.node (h123 P) (.node (h189 P) (.node (h321 P) (.node (h583 P) .nil .nil) .nil) (.node (h453 P) .nil .nil)) (.node (h257 P) (.node (h389 P) .nil .nil) (.node (h517 P) .nil .nil)))))))))
noncomputable def s8 (w : World) (os : OsState) : SharedT := SharedT.mk (t8 w.params) (nat_lit 598) (Life.mk [] [] [] (nat_lit 0) [] [] Bool.false (Array.mk []) [] (nat_lit 0) Bool.false Bool.false Bool.false (Int.ofNat (nat_lit 0)) [(Int.ofNat (nat_lit 2000)), (Int.ofNat (nat_lit 10)), (Int.ofNat (nat_lit 10))] Bool.false (nat_lit 0) Bool.true [] [] (nat_lit 0) Bool.false) (Array.mk []) (Drawn.mk (nat_lit 0) (nat_lit 0) (nat_lit 0) (nat_lit 0)) (nat_lit 1021) os
noncomputable def pos8 : Pos := (Pos.mk (nat_lit 379) (nat_lit 0) (nat_lit 401) (nat_lit 15))
noncomputable def l8 : List Stmt := [stAt 37, stAt 38, stAt 39, stAt 40, stAt 41, stAt 42, stAt 43, stAt 44, stAt 45, stAt 46, stAt 47, stAt 48, stAt 49, stAt 50]
noncomputable def hZ (P : Params) : Heap := Heap.mk (Array.mk [boot_o_0 P, boot_o_1 P, h4 P, h534 P, boot_o_4 P, boot_o_5 P, boot_o_6 P, boot_o_7 P, boot_o_8 P, boot_o_9 P, boot_o_10 P, h0 P, h535 P, h2 P, h3 P, h7 P, h8 P, h9 P, h10 P, h11 P, h12 P, h13 P, h14 P, h15 P, h16 P, h17 P, h18 P, h19 P, h20 P, h21 P, h22 P, h23 P, h24 P, h25 P, h26 P, h27 P, h28 P, h29 P, h30 P, h31 P, h38 P, h33 P, h34 P, h35 P, h39 P, h40 P, h41 P, h42 P, h43 P, h44 P, h45 P, h46 P, h47 P, h48 P, h49 P, h50 P, h51 P, h52 P, h53 P, h54 P, h55 P, h56 P, h57 P, h58 P, h59 P, h60 P, h61 P, h62 P, h63 P, h64 P, h65 P, h66 P, h67 P, h68 P, h69 P, h70 P, h71 P, h74 P, h75 P, h76 P, h77 P, h78 P, h79 P, h80 P, h81 P, h82 P, h83 P, h84 P, h85 P, h86 P, h87 P, h88 P, h89 P, h90 P, h91 P, h92 P, h93 P, h94 P, h95 P, h96 P, h97 P, h98 P, h99 P, h100 P, h101 P, h102 P, h103 P, h104 P, h105 P, h106 P, h107 P, h108 P, h109 P, h110 P, h111 P, h112 P, h113 P, h114 P, h115 P, h116 P, h117 P, h118 P, h119 P, h120 P, h121 P, h122 P, h123 P, h124 P, h125 P, h126 P, h127 P, h128 P, h129 P, h130 P, h131 P, h132 P, h133 P, h134 P, h135 P, h136 P, h139 P, h140 P, h141 P, h142 P, h143 P, h144 P, h145 P, h146 P, h147 P, h148 P, h149 P, h150 P, h151 P, h152 P, h153 P, h154 P, h155 P, h156 P, h157 P, h158 P, h159 P, h160 P, h161 P, h162 P, h163 P, h164 P, h165 P, h166 P, h167 P, h168 P, h169 P, h170 P, h171 P, h172 P, h173 P, h174 P, h175 P, h176 P, h177 P, h178 P, h179 P, h180 P, h181 P, h182 P, h183 P, h184 P, h185 P, h186 P, h187 P, h188 P, h189 P, h190 P, h191 P, h192 P, h193 P, h194 P, h195 P, h196 P, h197 P, h198 P, h199 P, h200 P, h201 P, h202 P, h203 P, h204 P, h205 P, h206 P, h207 P, h208 P, h209 P, h210 P, h211 P, h212 P, h213 P, h214 P, h217 P, h218 P, h219 P, h220 P, h221 P, h222 P, h223 P, h224 P, h225 P, h226 P, h227 P, h228 P, h229 P, h230 P, h231 P, h232 P, h233 P, h234 P, h235 P, h236 P, h237 P, h240 P, h241 P, h242 P, h243 P, h244 P, h245 P, h246 P, h247 P, h248 P, h249 P, h250 P, h251 P, h252 P, h253 P, h254 P, h255 P, h256 P, h257 P, h258 P, h259 P, h260 P, h261 P, h262 P, h263 P, h264 P, h265 P, h266 P, h267 P, h268 P, h269 P, h270 P, h271 P, h272 P, h273 P, h274 P, h275 P, h276 P, h277 P, h278 P, h279 P, h280 P, h281 P, h282 P, h283 P, h284 P, h285 P, h286 P, h287 P, h288 P, h289 P, h290 P, h291 P, h292 P, h293 P, h294 P, h295 P, h296 P, h297 P, h298 P, h299 P, h300 P, h301 P, h302 P, h303 P, h304 P, h305 P, h306 P, h307 P, h308 P, h309 P, h310 P, h311 P, h312 P, h313 P, h314 P, h315 P, h316 P, h317 P, h318 P, h319 P, h320 P, h321 P, h322 P, h323 P, h324 P, h325 P, h326 P, h327 P, h328 P, h329 P, h330 P, h331 P, h332 P, h333 P, h334 P, h335 P, h336 P, h337 P, h338 P, h339 P, h340 P, h341 P, h342 P, h343 P, h344 P, h345 P, h346 P, h347 P, h348 P, h349 P, h350 P, h351 P, h352 P, h353 P, h354 P, h355 P, h356 P, h357 P, h358 P, h359 P, h360 P, h361 P, h362 P, h363 P, h364 P, h365 P, h366 P, h367 P, h368 P, h371 P, h372 P, h373 P, h374 P, h375 P, h376 P, h377 P, h378 P, h381 P, h382 P, h383 P, h384 P, h385 P, h386 P, h387 P, h388 P, h389 P, h390 P, h391 P, h392 P, h393 P, h394 P, h395 P, h396 P, h397 P, h398 P, h399 P, h400 P, h401 P, h402 P, h403 P, h404 P, h405 P, h406 P, h407 P, h408 P, h409 P, h410 P, h411 P, h412 P, h413 P, h414 P, h415 P, h416 P, h417 P, h418 P, h419 P, h420 P, h421 P, h422 P, h423 P, h424 P, h425 P, h426 P, h427 P, h428 P, h429 P, h430 P, h431 P, h432 P, h433 P, h434 P, h435 P, h436 P, h437 P, h438 P, h439 P, h440 P, h441 P, h442 P, h443 P, h444 P, h445 P, h446 P, h447 P, h448 P, h449 P, h450 P, h451 P, h452 P, h453 P, h454 P, h455 P, h456 P, h457 P, h458 P, h459 P, h460 P, h461 P, h462 P, h463 P, h464 P, h465 P, h466 P, h467 P, h468 P, h469 P, h470 P, h471 P, h472 P, h473 P, h474 P, h475 P, h476 P, h477 P, h478 P, h479 P, h480 P, h481 P, h482 P, h483 P, h484 P, h485 P, h486 P, h487 P, h488 P, h489 P, h490 P, h491 P, h492 P, h493 P, h494 P, h495 P, h496 P, h497 P, h498 P, h499 P, h500 P, h501 P, h502 P, h503 P, h504 P, h505 P, h506 P, h507 P, h508 P, h509 P, h510 P, h511 P, h512 P, h513 P, h514 P, h515 P, h516 P, h517 P, h518 P, h519 P, h520 P, h521 P, h522 P, h523 P, h524 P, h525 P, h526 P, h527 P, h528 P, h529 P, h530 P, h531 P, h532 P, h533 P, h536 P, h537 P, h538 P, h539 P, h540 P, h541 P, h542 P, h543 P, h544 P, h545 P, h546 P, h547 P, h548 P, h549 P, h550 P, h551 P, h552 P, h553 P, h554 P, h555 P, h556 P, h557 P, h558 P, h559 P, h560 P, h561 P, h562 P, h563 P, h564 P, h565 P, h566 P, h567 P, h568 P, h569 P, h570 P, h571 P, h572 P, h573 P, h574 P, h575 P, h576 P, h577 P, h578 P, h579 P, h580 P, h581 P, h582 P, h583 P, h584 P, h585 P, h586 P, h587 P, h588 P, h589 P, h590 P, h591 P, h592 P, h593 P, h594 P, h595 P, h596 P, h597 P, h598 P, h599 P, h600 P, h601 P, h602 P, h603 P, h604 P, h605 P, h606 P]) (Life.mk [] [] [] (nat_lit 0) [] [] Bool.false (Array.mk []) [] (nat_lit 0) Bool.false Bool.false Bool.false (Int.ofNat (nat_lit 0)) [(Int.ofNat (nat_lit 2000)), (Int.ofNat (nat_lit 10)), (Int.ofNat (nat_lit 10))] Bool.false (nat_lit 0) Bool.true [] [] (nat_lit 0) Bool.false)
noncomputable def sZ (w : World) (os : OsState) : Shared := Shared.mk (hZ w.params) (Array.mk []) (Drawn.mk (nat_lit 0) (nat_lit 0) (nat_lit 0) (nat_lit 0)) (nat_lit 1021) os
noncomputable def view0 : Program := { p0 with main := { p0.main with body := [stAt 0, stAt 2, stAt 3, stAt 4, stAt 5, stAt 6, stAt 7, stAt 8, stAt 9, stAt 10, stAt 11, stAt 13, stAt 14, stAt 15, stAt 16, stAt 18, stAt 19, stAt 20, stAt 21, stAt 22, stAt 23, stAt 24, stAt 25, stAt 26, stAt 27, stAt 29, stAt 30, stAt 31, stAt 32, stAt 33, stAt 36, stAt 38, stAt 39, stAt 40, stAt 41, stAt 42, stAt 43, stAt 44, stAt 45, stAt 46, stAt 47, stAt 48, stAt 49, stAt 50] } }
noncomputable def loose0 : List Str := [(Str.ofString "PLAIN"), (Str.ofString "TermError"), (Str.ofString "Line"), (Str.ofString "line_of")]
noncomputable def K0 (P : Params) : Frag := [(nat_lit 0, boot_o_0 P), (nat_lit 1, boot_o_1 P), (nat_lit 2, h4 P), (nat_lit 3, h534 P), (nat_lit 4, boot_o_4 P), (nat_lit 5, boot_o_5 P), (nat_lit 6, boot_o_6 P), (nat_lit 7, boot_o_7 P), (nat_lit 8, boot_o_8 P), (nat_lit 9, boot_o_9 P), (nat_lit 10, boot_o_10 P), (nat_lit 11, h0 P), (nat_lit 12, h535 P), (nat_lit 13, h2 P), (nat_lit 14, h3 P), (nat_lit 15, h7 P), (nat_lit 16, h8 P), (nat_lit 17, h9 P), (nat_lit 18, h10 P), (nat_lit 19, h11 P), (nat_lit 20, h12 P), (nat_lit 21, h13 P), (nat_lit 22, h14 P), (nat_lit 23, h15 P), (nat_lit 24, h16 P), (nat_lit 25, h17 P), (nat_lit 26, h18 P), (nat_lit 27, h19 P), (nat_lit 28, h20 P), (nat_lit 29, h21 P), (nat_lit 30, h22 P), (nat_lit 31, h23 P), (nat_lit 32, h24 P), (nat_lit 33, h25 P), (nat_lit 34, h26 P), (nat_lit 35, h27 P), (nat_lit 36, h28 P), (nat_lit 37, h29 P), (nat_lit 38, h30 P), (nat_lit 39, h31 P), (nat_lit 40, h38 P), (nat_lit 41, h33 P), (nat_lit 42, h34 P), (nat_lit 43, h35 P), (nat_lit 44, h39 P), (nat_lit 45, h40 P), (nat_lit 46, h41 P), (nat_lit 47, h42 P), (nat_lit 48, h43 P), (nat_lit 49, h44 P), (nat_lit 50, h45 P), (nat_lit 51, h46 P), (nat_lit 52, h47 P), (nat_lit 53, h48 P), (nat_lit 54, h49 P), (nat_lit 55, h50 P), (nat_lit 56, h51 P), (nat_lit 57, h52 P), (nat_lit 58, h53 P), (nat_lit 59, h54 P), (nat_lit 60, h55 P), (nat_lit 61, h56 P), (nat_lit 62, h57 P), (nat_lit 63, h58 P), (nat_lit 64, h59 P), (nat_lit 65, h60 P), (nat_lit 66, h61 P), (nat_lit 67, h62 P), (nat_lit 68, h63 P), (nat_lit 69, h64 P), (nat_lit 70, h65 P), (nat_lit 71, h66 P), (nat_lit 72, h67 P), (nat_lit 73, h68 P), (nat_lit 74, h69 P), (nat_lit 75, h70 P), (nat_lit 76, h71 P), (nat_lit 77, h74 P), (nat_lit 78, h75 P), (nat_lit 79, h76 P), (nat_lit 80, h77 P), (nat_lit 81, h78 P), (nat_lit 82, h79 P), (nat_lit 83, h80 P), (nat_lit 84, h81 P), (nat_lit 85, h82 P), (nat_lit 86, h83 P), (nat_lit 87, h84 P), (nat_lit 88, h85 P), (nat_lit 89, h86 P), (nat_lit 90, h87 P), (nat_lit 91, h88 P), (nat_lit 92, h89 P), (nat_lit 93, h90 P), (nat_lit 94, h91 P), (nat_lit 95, h92 P), (nat_lit 96, h93 P), (nat_lit 97, h94 P), (nat_lit 98, h95 P), (nat_lit 99, h96 P), (nat_lit 100, h97 P), (nat_lit 101, h98 P), (nat_lit 102, h99 P), (nat_lit 103, h100 P), (nat_lit 104, h101 P), (nat_lit 105, h102 P), (nat_lit 106, h103 P), (nat_lit 107, h104 P), (nat_lit 108, h105 P), (nat_lit 109, h106 P), (nat_lit 110, h107 P), (nat_lit 111, h108 P), (nat_lit 112, h109 P), (nat_lit 113, h110 P), (nat_lit 114, h111 P), (nat_lit 115, h112 P), (nat_lit 116, h113 P), (nat_lit 117, h114 P), (nat_lit 118, h115 P), (nat_lit 119, h116 P), (nat_lit 120, h117 P), (nat_lit 121, h118 P), (nat_lit 122, h119 P), (nat_lit 123, h120 P), (nat_lit 124, h121 P), (nat_lit 125, h122 P), (nat_lit 126, h123 P), (nat_lit 127, h124 P), (nat_lit 128, h125 P), (nat_lit 129, h126 P), (nat_lit 130, h127 P), (nat_lit 131, h128 P), (nat_lit 132, h129 P), (nat_lit 133, h130 P), (nat_lit 134, h131 P), (nat_lit 135, h132 P), (nat_lit 136, h133 P), (nat_lit 137, h134 P), (nat_lit 138, h135 P), (nat_lit 139, h136 P), (nat_lit 140, h139 P), (nat_lit 141, h140 P), (nat_lit 142, h141 P), (nat_lit 143, h142 P), (nat_lit 144, h143 P), (nat_lit 145, h144 P), (nat_lit 146, h145 P), (nat_lit 147, h146 P), (nat_lit 148, h147 P), (nat_lit 149, h148 P), (nat_lit 150, h149 P), (nat_lit 151, h150 P), (nat_lit 152, h151 P), (nat_lit 153, h152 P), (nat_lit 154, h153 P), (nat_lit 155, h154 P), (nat_lit 156, h155 P), (nat_lit 157, h156 P), (nat_lit 158, h157 P), (nat_lit 159, h158 P), (nat_lit 160, h159 P), (nat_lit 161, h160 P), (nat_lit 162, h161 P), (nat_lit 163, h162 P), (nat_lit 164, h163 P), (nat_lit 165, h164 P), (nat_lit 166, h165 P), (nat_lit 167, h166 P), (nat_lit 168, h167 P), (nat_lit 169, h168 P), (nat_lit 170, h169 P), (nat_lit 171, h170 P), (nat_lit 172, h171 P), (nat_lit 173, h172 P), (nat_lit 174, h173 P), (nat_lit 175, h174 P), (nat_lit 176, h175 P), (nat_lit 177, h176 P), (nat_lit 178, h177 P), (nat_lit 179, h178 P), (nat_lit 180, h179 P), (nat_lit 181, h180 P), (nat_lit 182, h181 P), (nat_lit 183, h182 P), (nat_lit 184, h183 P), (nat_lit 185, h184 P), (nat_lit 186, h185 P), (nat_lit 187, h186 P), (nat_lit 188, h187 P), (nat_lit 189, h188 P), (nat_lit 190, h189 P), (nat_lit 191, h190 P), (nat_lit 192, h191 P), (nat_lit 193, h192 P), (nat_lit 194, h193 P), (nat_lit 195, h194 P), (nat_lit 196, h195 P), (nat_lit 197, h196 P), (nat_lit 198, h197 P), (nat_lit 199, h198 P), (nat_lit 200, h199 P), (nat_lit 201, h200 P), (nat_lit 202, h201 P), (nat_lit 203, h202 P), (nat_lit 204, h203 P), (nat_lit 205, h204 P), (nat_lit 206, h205 P), (nat_lit 207, h206 P), (nat_lit 208, h207 P), (nat_lit 209, h208 P), (nat_lit 210, h209 P), (nat_lit 211, h210 P), (nat_lit 212, h211 P), (nat_lit 213, h212 P), (nat_lit 214, h213 P), (nat_lit 215, h214 P), (nat_lit 216, h217 P), (nat_lit 217, h218 P), (nat_lit 218, h219 P), (nat_lit 219, h220 P), (nat_lit 220, h221 P), (nat_lit 221, h222 P), (nat_lit 222, h223 P), (nat_lit 223, h224 P), (nat_lit 224, h225 P), (nat_lit 225, h226 P), (nat_lit 226, h227 P), (nat_lit 227, h228 P), (nat_lit 228, h229 P), (nat_lit 229, h230 P), (nat_lit 230, h231 P), (nat_lit 231, h232 P), (nat_lit 232, h233 P), (nat_lit 233, h234 P), (nat_lit 234, h235 P), (nat_lit 235, h236 P), (nat_lit 236, h237 P), (nat_lit 237, h240 P), (nat_lit 238, h241 P), (nat_lit 239, h242 P), (nat_lit 240, h243 P), (nat_lit 241, h244 P), (nat_lit 242, h245 P), (nat_lit 243, h246 P), (nat_lit 244, h247 P), (nat_lit 245, h248 P), (nat_lit 246, h249 P), (nat_lit 247, h250 P), (nat_lit 248, h251 P), (nat_lit 249, h252 P), (nat_lit 250, h253 P), (nat_lit 251, h254 P), (nat_lit 252, h255 P), (nat_lit 253, h256 P), (nat_lit 254, h257 P), (nat_lit 255, h258 P), (nat_lit 256, h259 P), (nat_lit 257, h260 P), (nat_lit 258, h261 P), (nat_lit 259, h262 P), (nat_lit 260, h263 P), (nat_lit 261, h264 P), (nat_lit 262, h265 P), (nat_lit 263, h266 P), (nat_lit 264, h267 P), (nat_lit 265, h268 P), (nat_lit 266, h269 P), (nat_lit 267, h270 P), (nat_lit 268, h271 P), (nat_lit 269, h272 P), (nat_lit 270, h273 P), (nat_lit 271, h274 P), (nat_lit 272, h275 P), (nat_lit 273, h276 P), (nat_lit 274, h277 P), (nat_lit 275, h278 P), (nat_lit 276, h279 P), (nat_lit 277, h280 P), (nat_lit 278, h281 P), (nat_lit 279, h282 P), (nat_lit 280, h283 P), (nat_lit 281, h284 P), (nat_lit 282, h285 P), (nat_lit 283, h286 P), (nat_lit 284, h287 P), (nat_lit 285, h288 P), (nat_lit 286, h289 P), (nat_lit 287, h290 P), (nat_lit 288, h291 P), (nat_lit 289, h292 P), (nat_lit 290, h293 P), (nat_lit 291, h294 P), (nat_lit 292, h295 P), (nat_lit 293, h296 P), (nat_lit 294, h297 P), (nat_lit 295, h298 P), (nat_lit 296, h299 P), (nat_lit 297, h300 P), (nat_lit 298, h301 P), (nat_lit 299, h302 P), (nat_lit 300, h303 P), (nat_lit 301, h304 P), (nat_lit 302, h305 P), (nat_lit 303, h306 P), (nat_lit 304, h307 P), (nat_lit 305, h308 P), (nat_lit 306, h309 P), (nat_lit 307, h310 P), (nat_lit 308, h311 P), (nat_lit 309, h312 P), (nat_lit 310, h313 P), (nat_lit 311, h314 P), (nat_lit 312, h315 P), (nat_lit 313, h316 P), (nat_lit 314, h317 P), (nat_lit 315, h318 P), (nat_lit 316, h319 P), (nat_lit 317, h320 P), (nat_lit 318, h321 P), (nat_lit 319, h322 P), (nat_lit 320, h323 P), (nat_lit 321, h324 P), (nat_lit 322, h325 P), (nat_lit 323, h326 P), (nat_lit 324, h327 P), (nat_lit 325, h328 P), (nat_lit 326, h329 P), (nat_lit 327, h330 P), (nat_lit 328, h331 P), (nat_lit 329, h332 P), (nat_lit 330, h333 P), (nat_lit 331, h334 P), (nat_lit 332, h335 P), (nat_lit 333, h336 P), (nat_lit 334, h337 P), (nat_lit 335, h338 P), (nat_lit 336, h339 P), (nat_lit 337, h340 P), (nat_lit 338, h341 P), (nat_lit 339, h342 P), (nat_lit 340, h343 P), (nat_lit 341, h344 P), (nat_lit 342, h345 P), (nat_lit 343, h346 P), (nat_lit 344, h347 P), (nat_lit 345, h348 P), (nat_lit 346, h349 P), (nat_lit 347, h350 P), (nat_lit 348, h351 P), (nat_lit 349, h352 P), (nat_lit 350, h353 P), (nat_lit 351, h354 P), (nat_lit 352, h355 P), (nat_lit 353, h356 P), (nat_lit 354, h357 P), (nat_lit 355, h358 P), (nat_lit 356, h359 P), (nat_lit 357, h360 P), (nat_lit 358, h361 P), (nat_lit 359, h362 P), (nat_lit 360, h363 P), (nat_lit 361, h364 P), (nat_lit 362, h365 P), (nat_lit 363, h366 P), (nat_lit 364, h367 P), (nat_lit 365, h368 P), (nat_lit 366, h371 P), (nat_lit 367, h372 P), (nat_lit 368, h373 P), (nat_lit 369, h374 P), (nat_lit 370, h375 P), (nat_lit 371, h376 P), (nat_lit 372, h377 P), (nat_lit 373, h378 P), (nat_lit 374, h381 P), (nat_lit 375, h382 P), (nat_lit 376, h383 P), (nat_lit 377, h384 P), (nat_lit 378, h385 P), (nat_lit 379, h386 P), (nat_lit 380, h387 P), (nat_lit 381, h388 P), (nat_lit 382, h389 P), (nat_lit 383, h390 P), (nat_lit 384, h391 P), (nat_lit 385, h392 P), (nat_lit 386, h393 P), (nat_lit 387, h394 P), (nat_lit 388, h395 P), (nat_lit 389, h396 P), (nat_lit 390, h397 P), (nat_lit 391, h398 P), (nat_lit 392, h399 P), (nat_lit 393, h400 P), (nat_lit 394, h401 P), (nat_lit 395, h402 P), (nat_lit 396, h403 P), (nat_lit 397, h404 P), (nat_lit 398, h405 P), (nat_lit 399, h406 P), (nat_lit 400, h407 P), (nat_lit 401, h408 P), (nat_lit 402, h409 P), (nat_lit 403, h410 P), (nat_lit 404, h411 P), (nat_lit 405, h412 P), (nat_lit 406, h413 P), (nat_lit 407, h414 P), (nat_lit 408, h415 P), (nat_lit 409, h416 P), (nat_lit 410, h417 P), (nat_lit 411, h418 P), (nat_lit 412, h419 P), (nat_lit 413, h420 P), (nat_lit 414, h421 P), (nat_lit 415, h422 P), (nat_lit 416, h423 P), (nat_lit 417, h424 P), (nat_lit 418, h425 P), (nat_lit 419, h426 P), (nat_lit 420, h427 P), (nat_lit 421, h428 P), (nat_lit 422, h429 P), (nat_lit 423, h430 P), (nat_lit 424, h431 P), (nat_lit 425, h432 P), (nat_lit 426, h433 P), (nat_lit 427, h434 P), (nat_lit 428, h435 P), (nat_lit 429, h436 P), (nat_lit 430, h437 P), (nat_lit 431, h438 P), (nat_lit 432, h439 P), (nat_lit 433, h440 P), (nat_lit 434, h441 P), (nat_lit 435, h442 P), (nat_lit 436, h443 P), (nat_lit 437, h444 P), (nat_lit 438, h445 P), (nat_lit 439, h446 P), (nat_lit 440, h447 P), (nat_lit 441, h448 P), (nat_lit 442, h449 P), (nat_lit 443, h450 P), (nat_lit 444, h451 P), (nat_lit 445, h452 P), (nat_lit 446, h453 P), (nat_lit 447, h454 P), (nat_lit 448, h455 P), (nat_lit 449, h456 P), (nat_lit 450, h457 P), (nat_lit 451, h458 P), (nat_lit 452, h459 P), (nat_lit 453, h460 P), (nat_lit 454, h461 P), (nat_lit 455, h462 P), (nat_lit 456, h463 P), (nat_lit 457, h464 P), (nat_lit 458, h465 P), (nat_lit 459, h466 P), (nat_lit 460, h467 P), (nat_lit 461, h468 P), (nat_lit 462, h469 P), (nat_lit 463, h470 P), (nat_lit 464, h471 P), (nat_lit 465, h472 P), (nat_lit 466, h473 P), (nat_lit 467, h474 P), (nat_lit 468, h475 P), (nat_lit 469, h476 P), (nat_lit 470, h477 P), (nat_lit 471, h478 P), (nat_lit 472, h479 P), (nat_lit 473, h480 P), (nat_lit 474, h481 P), (nat_lit 475, h482 P), (nat_lit 476, h483 P), (nat_lit 477, h484 P), (nat_lit 478, h485 P), (nat_lit 479, h486 P), (nat_lit 480, h487 P), (nat_lit 481, h488 P), (nat_lit 482, h489 P), (nat_lit 483, h490 P), (nat_lit 484, h491 P), (nat_lit 485, h492 P), (nat_lit 486, h493 P), (nat_lit 487, h494 P), (nat_lit 488, h495 P), (nat_lit 489, h496 P), (nat_lit 490, h497 P), (nat_lit 491, h498 P), (nat_lit 492, h499 P), (nat_lit 493, h500 P), (nat_lit 494, h501 P), (nat_lit 495, h502 P), (nat_lit 496, h503 P), (nat_lit 497, h504 P), (nat_lit 498, h505 P), (nat_lit 499, h506 P), (nat_lit 500, h507 P), (nat_lit 501, h508 P), (nat_lit 502, h509 P), (nat_lit 503, h510 P), (nat_lit 504, h511 P), (nat_lit 505, h512 P), (nat_lit 506, h513 P), (nat_lit 507, h514 P), (nat_lit 508, h515 P), (nat_lit 509, h516 P), (nat_lit 510, h517 P), (nat_lit 511, h518 P), (nat_lit 512, h519 P), (nat_lit 513, h520 P), (nat_lit 514, h521 P), (nat_lit 515, h522 P), (nat_lit 516, h523 P), (nat_lit 517, h524 P), (nat_lit 518, h525 P), (nat_lit 519, h526 P), (nat_lit 520, h527 P), (nat_lit 521, h528 P), (nat_lit 522, h529 P), (nat_lit 523, h530 P), (nat_lit 524, h531 P), (nat_lit 525, h532 P), (nat_lit 526, h533 P), (nat_lit 527, h536 P), (nat_lit 528, h537 P), (nat_lit 529, h538 P), (nat_lit 530, h539 P), (nat_lit 531, h540 P), (nat_lit 532, h541 P), (nat_lit 533, h542 P), (nat_lit 534, h543 P), (nat_lit 535, h544 P), (nat_lit 536, h545 P), (nat_lit 537, h546 P), (nat_lit 538, h547 P), (nat_lit 539, h548 P), (nat_lit 540, h549 P), (nat_lit 541, h550 P), (nat_lit 542, h551 P), (nat_lit 543, h552 P), (nat_lit 544, h553 P), (nat_lit 545, h554 P), (nat_lit 546, h555 P), (nat_lit 547, h556 P), (nat_lit 548, h557 P), (nat_lit 549, h558 P), (nat_lit 550, h559 P), (nat_lit 551, h560 P), (nat_lit 552, h561 P), (nat_lit 553, h562 P), (nat_lit 554, h563 P), (nat_lit 555, h564 P), (nat_lit 556, h565 P), (nat_lit 557, h566 P), (nat_lit 558, h567 P), (nat_lit 559, h568 P), (nat_lit 560, h569 P), (nat_lit 561, h570 P), (nat_lit 562, h571 P), (nat_lit 563, h572 P), (nat_lit 564, h573 P), (nat_lit 565, h574 P), (nat_lit 566, h575 P), (nat_lit 567, h576 P), (nat_lit 568, h577 P), (nat_lit 569, h578 P), (nat_lit 570, h579 P), (nat_lit 571, h580 P), (nat_lit 572, h581 P), (nat_lit 573, h582 P), (nat_lit 574, h583 P), (nat_lit 575, h584 P), (nat_lit 576, h585 P), (nat_lit 577, h586 P), (nat_lit 578, h587 P), (nat_lit 579, h588 P), (nat_lit 580, h589 P), (nat_lit 581, h590 P), (nat_lit 582, h591 P), (nat_lit 583, h592 P), (nat_lit 584, h593 P), (nat_lit 585, h594 P), (nat_lit 586, h595 P), (nat_lit 587, h596 P), (nat_lit 588, h597 P), (nat_lit 589, h598 P), (nat_lit 590, h599 P), (nat_lit 591, h600 P), (nat_lit 592, h601 P), (nat_lit 593, h602 P), (nat_lit 594, h603 P), (nat_lit 595, h604 P), (nat_lit 596, h605 P), (nat_lit 597, h606 P)]
theorem run_pre (w : World) (os : OsState) : topGo treeTable p0 w m0 ann0 (nat_lit 12) ⟨boot_heap w.params, Array.mk [], boot_drawn, boot_toks, os⟩ (topStub p0) = some (sA w os, ⟨denote treeTable c0, c0, posA, [topFrame q0]⟩) := by
  rw [PySem.W.Fast.te15667345088766844465, PySem.W.Fast.te14364793385576792824, PySem.W.Fast.te11892475500146522536]
  kernel_rfl
theorem run_block (w : World) (os : OsState) : segRun treeTable p0 w m0 ann0 (nat_lit 1) (Nat.succ (nat_lit 0)) (sA w os) ⟨(blockStart b0 env0).wrap (fun _ => doneF .next) deadEnd id id, c0, posA, [topFrame q0]⟩ = some (.next, (sB w os).abs, c0, posB) := by
  rw [PySem.W.Fast.te14374325043358763698, PySem.W.Fast.te14364793385576792824, PySem.W.Fast.te1066825118222455980]
  kernel_rfl
theorem run0 (w : World) (os : OsState) : segRunT treeTable p0 w m0 ann0 (nat_lit 1) (Nat.succ (nat_lit 326)) (sB w os) ⟨(execs l0 env0).wrap doneF deadEnd id id, c0, posB, [topFrame q0]⟩ = some (.next, s0 w os, c0, pos0) := by
  rw [PySem.W.Fast.te10110043849684766642, PySem.W.Fast.te14364793385576792824, PySem.W.Fast.te12563942051412417395]
  kernel_rfl
theorem run1 (w : World) (os : OsState) : segRunT treeTable p0 w m0 ann0 (nat_lit 1) (Nat.succ (nat_lit 309)) (s0 w os) ⟨(execs l1 env0).wrap doneF deadEnd id id, c0, pos0, [topFrame q0]⟩ = some (.next, s1 w os, c0, pos1) := by
  rw [PySem.W.Fast.te10110043849684766642, PySem.W.Fast.te14364793385576792824, PySem.W.Fast.te12563942051412417395]
  kernel_rfl
theorem run2 (w : World) (os : OsState) : segRunT treeTable p0 w m0 ann0 (nat_lit 1) (Nat.succ (nat_lit 415)) (s1 w os) ⟨(execs l2 env0).wrap doneF deadEnd id id, c0, pos1, [topFrame q0]⟩ = some (.next, s2 w os, c0, pos2) := by
  rw [PySem.W.Fast.te10110043849684766642, PySem.W.Fast.te14364793385576792824, PySem.W.Fast.te12563942051412417395]
  kernel_rfl
theorem run3 (w : World) (os : OsState) : segRunT treeTable p0 w m0 ann0 (nat_lit 1) (Nat.succ (nat_lit 409)) (s2 w os) ⟨(execs l3 env0).wrap doneF deadEnd id id, c0, pos2, [topFrame q0]⟩ = some (.next, s3 w os, c0, pos3) := by
  rw [PySem.W.Fast.te10110043849684766642, PySem.W.Fast.te14364793385576792824, PySem.W.Fast.te12563942051412417395]
  kernel_rfl
theorem run4 (w : World) (os : OsState) : segRunT treeTable p0 w m0 ann0 (nat_lit 1) (Nat.succ (nat_lit 94)) (s3 w os) ⟨(execs l4 env0).wrap doneF deadEnd id id, c0, pos3, [topFrame q0]⟩ = some (.next, s4 w os, c0, pos4) := by
  rw [PySem.W.Fast.te10110043849684766642, PySem.W.Fast.te14364793385576792824, PySem.W.Fast.te12563942051412417395]
  kernel_rfl
theorem run5 (w : World) (os : OsState) : segRunT treeTable p0 w m0 ann0 (nat_lit 1) (Nat.succ (nat_lit 781)) (s4 w os) ⟨(execs l5 env0).wrap doneF deadEnd id id, c0, pos4, [topFrame q0]⟩ = some (.next, s5 w os, c0, pos5) := by
  rw [PySem.W.Fast.te10110043849684766642, PySem.W.Fast.te14364793385576792824, PySem.W.Fast.te12563942051412417395]
  kernel_rfl
theorem run6 (w : World) (os : OsState) : segRunT treeTable p0 w m0 ann0 (nat_lit 1) (Nat.succ (nat_lit 54)) (s5 w os) ⟨(execs l6 env0).wrap doneF deadEnd id id, c0, pos5, [topFrame q0]⟩ = some (.next, s6 w os, c0, pos6) := by
  rw [PySem.W.Fast.te10110043849684766642, PySem.W.Fast.te14364793385576792824, PySem.W.Fast.te12563942051412417395]
  kernel_rfl
theorem run7 (w : World) (os : OsState) : segRunT treeTable p0 w m0 ann0 (nat_lit 1) (Nat.succ (nat_lit 846)) (s6 w os) ⟨(execs l7 env0).wrap doneF deadEnd id id, c0, pos6, [topFrame q0]⟩ = some (.next, s7 w os, c0, pos7) := by
  rw [PySem.W.Fast.te10110043849684766642, PySem.W.Fast.te14364793385576792824, PySem.W.Fast.te12563942051412417395]
  kernel_rfl
theorem run8 (w : World) (os : OsState) : segRunT treeTable p0 w m0 ann0 (nat_lit 1) (Nat.succ (nat_lit 398)) (s7 w os) ⟨(execs l8 env0).wrap doneF deadEnd id id, c0, pos7, [topFrame q0]⟩ = some (.next, s8 w os, c0, pos8) := by
  rw [PySem.W.Fast.te10110043849684766642, PySem.W.Fast.te14364793385576792824, PySem.W.Fast.te12563942051412417395]
  kernel_rfl
theorem run_fin (w : World) (os : OsState) : topRun treeTable p0 w m0 ann0 (Nat.succ (nat_lit 1)) (s8 w os).abs ⟨doneF .next, c0, pos8, [topFrame q0]⟩ = some (sZ w os) := by
  rw [PySem.W.Fast.te14082659384304107361, PySem.W.Fast.te14364793385576792824]
  kernel_rfl
theorem b0_eq : b0 = l0 ++ (l1 ++ (l2 ++ (l3 ++ (l4 ++ (l5 ++ (l6 ++ (l7 ++ (l8 ++ [])))))))) := by kernel_rfl
theorem piece1 {w : World} {n N : Nat} {s s' : SharedT} {r : Shared} {l rest : List Stmt} {pos p' : Pos} (h : segRunT treeTable p0 w m0 ann0 1 n s ⟨(execs l env0).wrap doneF deadEnd id id, c0, pos, [topFrame q0]⟩ = some (.next, s', c0, p'))
    (k : topRun treeTable p0 w m0 ann0 N s'.abs (restOf rest env0 c0 p' [topFrame q0]) = some r) : topRun treeTable p0 w m0 ann0 (n + N) s.abs (restOf (l ++ rest) env0 c0 pos [topFrame q0]) = some r := piece_app (segRun_of h) k
noncomputable def M0 : Nat := nat_lit 12 + (Nat.succ (nat_lit 0) + (Nat.succ (nat_lit 326) + (Nat.succ (nat_lit 309) + (Nat.succ (nat_lit 415) + (Nat.succ (nat_lit 409) + (Nat.succ (nat_lit 94) + (Nat.succ (nat_lit 781) + (Nat.succ (nat_lit 54) + (Nat.succ (nat_lit 846) + (Nat.succ (nat_lit 398) + (Nat.succ (nat_lit 1))))))))))))
theorem run_all (w : World) (os : OsState) : topRun treeTable p0 w m0 ann0 M0 ⟨boot_heap w.params, Array.mk [], boot_drawn, boot_toks, os⟩ (topStub p0) = some (sZ w os) := by
  have k := piece_nil (env := env0) (run_fin w os)
  have k := piece1 (run8 w os) k
  have k := piece1 (run7 w os) k
  have k := piece1 (run6 w os) k
  have k := piece1 (run5 w os) k
  have k := piece1 (run4 w os) k
  have k := piece1 (run3 w os) k
  have k := piece1 (run2 w os) k
  have k := piece1 (run1 w os) k
  have k := piece1 (run0 w os) k
  rw [← b0_eq] at k
  exact go_top (run_pre w os) (piece_block (run_block w os) k)
noncomputable def lv0 : List (Str × WData) := [(Str.ofString "PLAIN", .tuple [.int 0, .int (-1), .int (-1), .int (-1), .int 0])]
noncomputable def Xt0 (s : Shared) : Bool := xlAt view0 lv0 s && recOk (RowW.records (OpenRow.toRowW PySem.Challenge.rw_og0279_01.row)) s
theorem size0 (w : World) : ((boot_heap w.params).isNs mainGlobals && (Array.mk [] : Array GenState).size == 0, (boot_heap w.params).objs.size, (boot_heap w.params).nsMap mainGlobals "__annotations__") = (true, m0, ann0) := by
  kernel_rfl
theorem open0 : ∀ w : World, (fencedOpening treeTable p0 w 8000).map (fun s => (s.heap, s.gens, s.drawn, s.toks)) = some (boot_heap w.params, Array.mk [], boot_drawn, boot_toks) :=
  boot_open (by kernel_rfl) (by kernel_rfl) (fun s => by kernel_rfl)
theorem look1 (w : World) (os : OsState) : (staticsOk (importedModules p0.main.body) (boot_heap w.params) (hZ w.params) && namesBound p0 (hZ w.params) && gensDone (sZ w os) && laidKept (boot_heap w.params) (hZ w.params)) = true := by kernel_rfl
theorem look2 (w : World) (os : OsState) : openSeen view0 loose0 (importedModules p0.main.body) Xt0 true (sZ w os) = openGood view0 loose0 := by
  rw [PySem.W.Fast.te4187177175401517315]
  kernel_rfl
theorem left0 : LeftO p0 view0 loose0 Xt0 (fun s => s.heap) (fun w => hZ w.params) 8000 :=
  LeftO.of_pieces (H₀ := boot_heap) (H₁ := hZ) (m₀ := m0) (ann := ann0) (M := M0) open0 size0 run_all (by kernel_rfl) fun w => funext fun os => looks_pair (look1 w os) (looks_pair (look2 w os) rfl)
theorem said_names : namesResolve PySem.Challenge.rw_og0279_01.row.prog = true := by
  rw [PySem.W.Fast.te8377067652309620493]
  kernel_rfl
theorem said_meet : (namesMeet PySem.Challenge.rw_og0279_01.row.prog PySem.Challenge.rw_og0279_01.row.prog.main.body fun _ n => attrL n) = true := by
  rw [PySem.W.Fast.te17119622794617984870]
  kernel_rfl
theorem said_look : looksOpen PySem.Challenge.rw_og0279_01.row.prog = true := by
  delta looksOpen
  (repeat' with_reducible refine look_both ?_ ?_)
  all_goals (first | with_reducible exact said_names | with_reducible exact said_meet | (rw [PySem.W.Fast.te8326940854005059898]; kernel_rfl) | kernel_rfl)
theorem said0 : OpenLaw.wellSaid PySem.Challenge.rw_og0279_01 = true := by
  delta OpenLaw.wellSaid OpenRow.wellSaid OpenRow.partSaid
  (repeat' with_reducible refine look_both ?_ ?_)
  all_goals (first | with_reducible exact said_look | kernel_rfl)
noncomputable def YP0 (w : World) (h : Heap) : Prop := ∀ a o, (hZ w.params).get? a = some o → h.get? a = some o
theorem head0 (call : WalkO view0 loose0 (XL view0 lv0) YP0 (OpenRow.toRowW PySem.Challenge.rw_og0279_01.row) ⟨Str.ofString "law", parsOf (stAt 50), bodyOf (stAt 50), scopeOf (stAt 50), ⟨379, 0, 401, 15⟩⟩ [] (fun f vs => PySem.call f vs)) : PySem.Challenge.rw_og0279_01.Holds := by
  refine holds_law said0 fun said => ?_
  refine holds_open (q := view0) (loose := loose0) (Xt := Xt0) (XP := XL view0 lv0) (Yf := fun s => s.heap) (Ya := fun w => hZ w.params) (YP := YP0) (N := 8000) left0 (fun w s e => ?_) (fun w h h' y k a o e => k a o (y a o e)) (fun s e => xl_of s (Bool.and_eq_true_iff.mp e).1) XL.keeps (by kernel_rfl) (by kernel_rfl) (by kernel_rfl) (fun s e => recFacts_of (Bool.and_eq_true_iff.mp e).2) (by kernel_rfl) said (by kernel_rfl) ⟨rfl, rfl, rfl, rfl, rfl, by decide +kernel⟩ ?hw call
  · intro a o h
    rw [e]; exact h
  case hw => exact ⟨[.list [.int 3, .int 1]], by decide +kernel, by decide +kernel⟩
noncomputable def num : Nat → List Obj → Frag
  | _, [] => []
  | n, o :: r => (n, o) :: num (n + 1) r
theorem num_in : ∀ {l : List Obj} {n : Nat} {a : Addr} {o : Obj}, (num n l).lookup a = some o → ∃ i, a = n + i ∧ l[i]? = some o
  | [], _, _, _, e => nomatch e
  | x :: r, n, a, o, e => by
    rw [num, List.lookup_cons] at e
    cases h : a == n with
    | true => rw [h] at e; cases e; exact ⟨0, eq_of_beq h, rfl⟩
    | false => rw [h] at e; obtain ⟨i, e1, e2⟩ := num_in e; exact ⟨i + 1, e1.trans (Nat.succ_add n i), e2⟩
theorem K0_num (P : Params) : K0 P = num 0 (hZ P).objs.toList := by kernel_rfl
theorem alive0 (P : Params) : ((hZ P).objs.toList.all fun o => o.alive) = true := by kernel_rfl
theorem K0_in (P : Params) : (K0 P).In (hZ P) := fun a o e => by
  rw [K0_num] at e
  obtain ⟨i, e1, e2⟩ := num_in e
  rw [Nat.zero_add] at e1
  subst e1
  exact (Heap.get?_eq_some _ _ _).2 ⟨by rw [← Array.getElem?_toList]; exact e2, List.all_eq_true.mp (alive0 P) o (List.mem_of_getElem? e2)⟩
theorem gvK {cx : Cx} {x : Str} {f : Value} (e : nsIn cx.K mainGlobals x = some (some f)) : GV cx x (.raw f) := ⟨f, vr_raw, .inl (mg_of cx.kin cx.gns e)⟩
theorem gvB {cx : Cx} {x : Str} {v : Value} (hb : ∀ x : Str, x ≠ "__name__" → cx.mb x = bootBuiltins x) (e : nsIn cx.K mainGlobals x = some none) (hn : x ≠ "__name__") (hv : bootBuiltins x = some v) : GV cx x (.raw v) := ⟨v, vr_raw, .inr ⟨mg_none_of cx.kin cx.gns e, (hb x hn).trans hv⟩⟩
theorem gvI {cx : Cx} {x : Str} {i : Int} {t : Tok} (e : nsIn cx.K mainGlobals x = some (some (.int i t))) : GV cx x (.int i) := ⟨_, vr_int, .inl (mg_of cx.kin cx.gns e)⟩
theorem gvY {cx : Cx} {x : Str} {b : Array UInt8} {t : Tok} (e : nsIn cx.K mainGlobals x = some (some (.bytes b t))) : GV cx x (.bytes b) := ⟨_, vr_bytes, .inl (mg_of cx.kin cx.gns e)⟩
theorem gvT {cx : Cx} {x : Str} {a : Addr} {vs : List Value} {n : Nat} {Vs : List Val} (e : nsIn cx.K mainGlobals x = some (some (.ref a))) (l : cx.K.lookup a = some (tupOf (List.toArray vs) n)) (r : VRs cx.w.params cx.h₀.get? vs Vs) : GV cx x (.tup Vs) := ⟨_, vr_tup (cx.kin _ _ l) r, .inl (mg_of cx.kin cx.gns e)⟩
noncomputable def cxOf (w : World) (s : Shared) (mg mb : Str → Option Value) (KX : (K0 w.params).In s.heap) (g : s.heap.Ns mainGlobals mg) (b : s.heap.Ns builtinsNs mb) (n : s.heap.NoLimit) : Cx :=
  ⟨p0, w, K0 w.params, s.heap, s.os, mg, mb, KX, g, b, n⟩
section
variable {w : World} {s : Shared} {mg mb : Str → Option Value} (KX : (K0 w.params).In s.heap) (g : s.heap.Ns mainGlobals mg) (b : s.heap.Ns builtinsNs mb) (n : s.heap.NoLimit)
noncomputable def topOf (hb : ∀ x : Str, x ≠ "__name__" → mb x = bootBuiltins x) : Top0 (cxOf w s mg mb KX g b n) where
  f_erased_pen := 62
  g_erased_pen := gvK (by kernel_rfl)
  h_erased_pen := ⟨_, _, _, _, _, _, _, _, _, KX _ _ rfl, codeRec_of KX rfl⟩
  f_blank_cell := 69
  g_blank_cell := gvK (by kernel_rfl)
  h_blank_cell := ⟨_, _, _, _, _, _, _, _, _, KX _ _ rfl, codeRec_of KX rfl⟩
  f_is_blank := 76
  g_is_blank := gvK (by kernel_rfl)
  h_is_blank := ⟨_, _, _, _, _, _, _, _, _, KX _ _ rfl, codeRec_of KX rfl⟩
  f_view_width := 146
  g_view_width := gvK (by kernel_rfl)
  h_view_width := ⟨_, _, _, _, _, _, _, _, _, KX _ _ rfl, codeRec_of KX rfl⟩
  f_cell_codes := 153
  g_cell_codes := gvK (by kernel_rfl)
  h_cell_codes := ⟨_, _, _, _, _, _, _, _, _, KX _ _ rfl, codeRec_of KX rfl⟩
  f_view_codes := 158
  g_view_codes := gvK (by kernel_rfl)
  h_view_codes := ⟨_, _, _, _, _, _, _, _, _, KX _ _ rfl, codeRec_of KX rfl⟩
  f_copy_signs := 165
  g_copy_signs := gvK (by kernel_rfl)
  h_copy_signs := ⟨_, _, _, _, _, _, _, _, _, KX _ _ rfl, codeRec_of KX rfl⟩
  f_copy_index := 172
  g_copy_index := gvK (by kernel_rfl)
  h_copy_index := ⟨_, _, _, _, _, _, _, _, _, KX _ _ rfl, codeRec_of KX rfl⟩
  f_copy_sort := 179
  g_copy_sort := gvK (by kernel_rfl)
  h_copy_sort := ⟨_, _, _, _, _, _, _, _, _, KX _ _ rfl, codeRec_of KX rfl⟩
  f_next_word := 186
  g_next_word := gvK (by kernel_rfl)
  h_next_word := ⟨_, _, _, _, _, _, _, _, _, KX _ _ rfl, codeRec_of KX rfl⟩
  f_next_word_end := 193
  g_next_word_end := gvK (by kernel_rfl)
  h_next_word_end := ⟨_, _, _, _, _, _, _, _, _, KX _ _ rfl, codeRec_of KX rfl⟩
  f_previous_word := 200
  g_previous_word := gvK (by kernel_rfl)
  h_previous_word := ⟨_, _, _, _, _, _, _, _, _, KX _ _ rfl, codeRec_of KX rfl⟩
  f_matching_bracket := 207
  g_matching_bracket := gvK (by kernel_rfl)
  h_matching_bracket := ⟨_, _, _, _, _, _, _, _, _, KX _ _ rfl, codeRec_of KX rfl⟩
  f_jump_place := 214
  g_jump_place := gvK (by kernel_rfl)
  h_jump_place := ⟨_, _, _, _, _, _, _, _, _, KX _ _ rfl, codeRec_of KX rfl⟩
  f_line_blanks := 222
  g_line_blanks := gvK (by kernel_rfl)
  h_line_blanks := ⟨_, _, _, _, _, _, _, _, _, KX _ _ rfl, codeRec_of KX rfl⟩
  f_line_slice := 229
  g_line_slice := gvK (by kernel_rfl)
  h_line_slice := ⟨_, _, _, _, _, _, _, _, _, KX _ _ rfl, codeRec_of KX rfl⟩
  f_line_of := 373
  g_line_of := gvK (by kernel_rfl)
  d_line_of := .ref 366
  v_line_of := vr_tup (KX _ _ rfl) ⟨vr_bool, vr_str, trivial⟩
  h_line_of := ⟨_, _, _, _, _, _, _, _, _, KX _ _ rfl, codeRec_of KX rfl⟩
  f_law_deck := 533
  g_law_deck := gvK (by kernel_rfl)
  h_law_deck := ⟨_, _, _, _, _, _, _, _, _, KX _ _ rfl, codeRec_of KX rfl⟩
  f_law_draw := 540
  g_law_draw := gvK (by kernel_rfl)
  h_law_draw := ⟨_, _, _, _, _, _, _, _, _, KX _ _ rfl, codeRec_of KX rfl⟩
  f_law_row := 547
  g_law_row := gvK (by kernel_rfl)
  h_law_row := ⟨_, _, _, _, _, _, _, _, _, KX _ _ rfl, codeRec_of KX rfl⟩
  f_law_signs := 554
  g_law_signs := gvK (by kernel_rfl)
  h_law_signs := ⟨_, _, _, _, _, _, _, _, _, KX _ _ rfl, codeRec_of KX rfl⟩
  f_law_sort := 561
  g_law_sort := gvK (by kernel_rfl)
  h_law_sort := ⟨_, _, _, _, _, _, _, _, _, KX _ _ rfl, codeRec_of KX rfl⟩
  f_law_at := 566
  g_law_at := gvK (by kernel_rfl)
  h_law_at := ⟨_, _, _, _, _, _, _, _, _, KX _ _ rfl, codeRec_of KX rfl⟩
  f_law_words := 571
  g_law_words := gvK (by kernel_rfl)
  h_law_words := ⟨_, _, _, _, _, _, _, _, _, KX _ _ rfl, codeRec_of KX rfl⟩
  f_law_bracket := 578
  g_law_bracket := gvK (by kernel_rfl)
  h_law_bracket := ⟨_, _, _, _, _, _, _, _, _, KX _ _ rfl, codeRec_of KX rfl⟩
  f_law_jump := 585
  g_law_jump := gvK (by kernel_rfl)
  h_law_jump := ⟨_, _, _, _, _, _, _, _, _, KX _ _ rfl, codeRec_of KX rfl⟩
  f_law_view := 592
  g_law_view := gvK (by kernel_rfl)
  h_law_view := ⟨_, _, _, _, _, _, _, _, _, KX _ _ rfl, codeRec_of KX rfl⟩
  c_View := 135
  g_View := gvK (by kernel_rfl)
  k_View := ⟨by kernel_rfl, by kernel_rfl, by kernel_rfl, by kernel_rfl, by kernel_rfl⟩
  m_View := by kernel_rfl
  p_View := by kernel_rfl
  o_View_history := by unfold OwnName; kernel_rfl
  o_View_grid := by unfold OwnName; kernel_rfl
  f_View_init := 90
  n_View_init := ⟨by kernel_rfl, by kernel_rfl⟩
  h_View_init := ⟨_, _, _, _, _, _, _, _, _, KX _ _ rfl, codeRec_of KX rfl⟩
  f_View_above := 97
  n_View_above := ⟨by kernel_rfl, by kernel_rfl⟩
  h_View_above := ⟨_, _, _, _, _, _, _, _, _, KX _ _ rfl, codeRec_of KX rfl⟩
  f_View_rows := 104
  n_View_rows := ⟨by kernel_rfl, by kernel_rfl⟩
  h_View_rows := ⟨_, _, _, _, _, _, _, _, _, KX _ _ rfl, codeRec_of KX rfl⟩
  f_View_line := 111
  n_View_line := ⟨by kernel_rfl, by kernel_rfl⟩
  h_View_line := ⟨_, _, _, _, _, _, _, _, _, KX _ _ rfl, codeRec_of KX rfl⟩
  f_View_is_joined := 118
  n_View_is_joined := ⟨by kernel_rfl, by kernel_rfl⟩
  h_View_is_joined := ⟨_, _, _, _, _, _, _, _, _, KX _ _ rfl, codeRec_of KX rfl⟩
  c_Line := 361
  g_Line := gvK (by kernel_rfl)
  k_Line := ⟨by kernel_rfl, by kernel_rfl, by kernel_rfl, by kernel_rfl, by kernel_rfl⟩
  m_Line := by kernel_rfl
  p_Line := by kernel_rfl
  o_Line_cells := by unfold OwnName; kernel_rfl
  o_Line_is_wrapped := by unfold OwnName; kernel_rfl
  o_Line_size := by unfold OwnName; kernel_rfl
  f_Line_init := 250
  n_Line_init := ⟨by kernel_rfl, by kernel_rfl⟩
  h_Line_init := ⟨_, _, _, _, _, _, _, _, _, KX _ _ rfl, codeRec_of KX rfl⟩
  c_Grid := 522
  g_Grid := gvK (by kernel_rfl)
  k_Grid := ⟨by kernel_rfl, by kernel_rfl, by kernel_rfl, by kernel_rfl, by kernel_rfl⟩
  m_Grid := by kernel_rfl
  p_Grid := by kernel_rfl
  o_Grid_rows := by unfold OwnName; kernel_rfl
  o_Grid_columns := by unfold OwnName; kernel_rfl
  o_Grid_lines := by unfold OwnName; kernel_rfl
  f_Grid_init := 385
  n_Grid_init := ⟨by kernel_rfl, by kernel_rfl⟩
  h_Grid_init := ⟨_, _, _, _, _, _, _, _, _, KX _ _ rfl, codeRec_of KX rfl⟩
  g_NO_COLOUR := gvI (t := 197) (by kernel_rfl)
  g_PLAIN := gvT (a := 22) (by kernel_rfl) rfl ⟨vr_int, vr_int, vr_int, vr_int, vr_int, trivial⟩
  g_BACK := gvI (t := 202) (by kernel_rfl)
  g_LINE_FEED := gvI (t := 204) (by kernel_rfl)
  g_BLANK := gvI (t := 206) (by kernel_rfl)
  g_OPENERS := gvY (t := 381) (by kernel_rfl)
  g_CLOSERS := gvY (t := 383) (by kernel_rfl)
  g_LINE_SIZES := gvT (a := 215) (by kernel_rfl) rfl ⟨vr_str, vr_str, vr_str, vr_str, trivial⟩
  g_law_pen := gvT (a := 527) (by kernel_rfl) rfl ⟨vr_int, vr_int, vr_int, vr_int, vr_int, trivial⟩
  g_law_codes := gvT (a := 528) (by kernel_rfl) rfl ⟨vr_int, vr_int, vr_int, vr_int, vr_int, vr_int, vr_int, vr_int, vr_int, vr_int, vr_int, vr_int, trivial⟩
  b_len := gvB hb (by kernel_rfl) (by decide) (by boot_fast)
  b_min := gvB hb (by kernel_rfl) (by decide) (by boot_fast)
  b_max := gvB hb (by kernel_rfl) (by decide) (by boot_fast)
  b_int := gvB hb (by kernel_rfl) (by decide) (by boot_fast)
  b_range := gvB hb (by kernel_rfl) (by decide) (by boot_fast)
  b_list := gvB hb (by kernel_rfl) (by decide) (by boot_fast)
  b_tuple := gvB hb (by kernel_rfl) (by decide) (by boot_fast)
  b_enumerate := gvB hb (by kernel_rfl) (by decide) (by boot_fast)
end
theorem well_ints {P : Params} {h : Heap} {I : Im} {ws : List Int} : ∀ {vs : List Value}, WellAll P h vs (ofPys (ws.map PyData.int)) → VRs P I vs (ws.map Val.int) := by
  induction ws with
  | nil => intro vs h; cases h; trivial
  | cons x xs ih =>
    intro vs h
    cases h with
    | cons a r =>
      cases a with
      | int i t => exact ⟨vr_int, ih r⟩
theorem script_vr {P : Params} {h : Heap} {ws : List Int} {v : Value} (W : Well P h v (ofPy (.list (ws.map .int)))) : VR P h.get? v (.lst (ws.map .int)) := by
  rw [ofPy] at W
  cases W with
  | list ho hv => exact vr_lst ho (well_ints hv)
theorem law_code {w : World} {s : Shared} {mg mb : Str → Option Value} (KX : (K0 w.params).In s.heap) (g : s.heap.Ns mainGlobals mg) (b : s.heap.Ns builtinsNs mb) (n : s.heap.NoLimit) (hb : ∀ x : Str, x ≠ "__name__" → mb x = bootBuiltins x)
    (hg : s.gens = #[]) {fa : Addr} (hm : mg (Str.ofString "law") = some (.ref fa)) {v : Value} {ws : List Int} (hl : ws.length ≤ 63) (W : Well w.params s.heap v (ofPy (.list (ws.map .int)))) :
    codeAny (model p0 w) callerA (.call (.ref fa) ⟨[v], []⟩) (fun r s' => r = .ok (.ret (.bool true)) ∧ (∀ b o, s.heap.get? b = some o → s'.heap.get? b = some o) ∧ s'.os = s.os ∧ s'.gens = #[]) s := by
  have e := mg_of KX g (n := Str.ofString "law") (v := .ref 597) (by kernel_rfl)
  rw [hm] at e
  cases e
  have hf : Fn (cxOf w s mg mb KX g b n) 597 (Str.ofString "law") 50 .none := ⟨_, _, _, _, _, _, _, _, _, KX _ _ rfl, codeRec_of KX rfl⟩
  have S : St (cxOf w s mg mb KX g b n) s.heap.get? (fun _ => none) s := ⟨fun _ _ h => h, fun _ _ h => h, (fun _ _ h => nomatch h), (fun _ _ h => nomatch h), hg, rfl⟩
  refine codeAny_mono (f_law (k := 0) (Q := fun V _ => V = .bool true) (topOf KX g b n hb) hf (show ws.length ≤ 1000 by omega) (fun _ => rfl) callerA s.heap.get? s (.ref 597) [v] ⟨rfl, by decide +kernel, by decide +kernel⟩ S vr_raw ⟨script_vr W, trivial⟩) fun r s' z => ?_
  rcases r with e | (u | _ | _ | _)
  · exact z.elim
  all_goals first | exact z.elim | skip
  obtain ⟨I', σ', V, t, S', vr, e⟩ := z
  subst e
  cases un_bool vr
  exact ⟨rfl, fun b o hb => t.keep b o (fun h => h) rfl hb, S'.os, S'.gens⟩
end Mine
set_option maxRecDepth 100000 in
set_option maxHeartbeats 8000000 in
theorem PySem.Challenge.cw_og0279_01_holds : PySem.Challenge.rw_og0279_01.Holds := by
  open PySem PySem.W PyProof.Rows Mine in
  refine head0 ?_
  intro w s₀ s₁ mg mb G Y fa o pm cd doc dV kV ho hd' hcd hD hmg hg args vals as hpre hlay hrd hwl hlo
  have KX : (K0 w.params).In s₁.heap := (K0_in w.params).keeps Y
  refine Ground.open G ?_
  intro T B D TE TW
  clear D B TE TW hD hcd hd' ho
  wrow_args hpre hlay hrd hwl hlo
  all_goals (first
    | refine callC_kw (enter_call ?_) | refine enter_call ?_)
  all_goals (try refine codeAny_mono ?_ (fun _ _ g => GoodW.toG g))
  refine codeAny_mono (law_code KX T.g T.b T.nolimit T.builtins hg hmg ?_ (by assumption)) fun r s' z => ?_
  · omega
  obtain ⟨e, k, o, g⟩ := z
  subst e
  refine ⟨.inl ⟨_, .bool true, [], rfl, raisesW_false (by wrow_none_raised), .bool _, ?_, unshared_nil⟩, k, o, g⟩
  wrow_post
