import PyProof.Rows.All
import PyProof.StationsW
import PyProof.Cells
import PyProof.CompFree
import PyProof.Rows.Tup
import PyProof.RangeIter
import PyProof.TupleIter
import PyProof.PlainList
import PyProof.DefCall
import PyProof.RulesTry
import PyProof.RulesAs
import PyProof.Rows.Catch
import PyProof.RangeFor
import OpenK.KRaise
import KE.KTryMore
import PyProof.NsDelKeeps
import OpenK.KLine
import PyProof.SumWalkG
import PyProof.SeqI3
import PyProof.ZipIter
import PyProof.Rows.AttrNodeAny
import PyProof.AssignAttr
import PyProof.Rows.TupMore
import Lean
import PySem.Challenge.RW_uf030027_10
set_option Elab.async false
set_option autoImplicit false
namespace Mine
open PySem PyProof.Rows

/-- plain values -/
inductive PV where
  | none
  | bool (b : Bool)
  | int (i : Int)
  | str (x : Str)
  | tup (xs : List PV)
  | ref (a : Addr)
  | lst (a : Addr) (ns : List Int)
  | exc (a : Addr) (c : Addr)
  | rng (lo hi : Int)

/-- what the store keeps at an address -/
inductive AO where
  | list (xs : List PV)
  | raw (o : Obj)

noncomputable abbrev Sto := Addr → Option AO
noncomputable abbrev Env' := Str → Option PV

/-- a range object -/
noncomputable def IsRng (h : Heap) (a : Addr) (lo hi : Int) : Prop := ∃ t1 t2 t3, IsRange h a lo hi 1 t1 t2 t3

mutual
inductive Rep (base h : Heap) : Value → PV → Prop
  | none : Rep base h Value.none PV.none
  | bool (b : Bool) : Rep base h (Value.bool b) (PV.bool b)
  | int (i : Int) (t : Tok) : Rep base h (Value.int i t) (PV.int i)
  | str (x : Str) (t : Tok) : Rep base h (Value.str x t) (PV.str x)
  | tup {a : Addr} {o : Obj} {vs : List Value} {n : Nat} {xs : List PV} : h.get? a = some o → o.cls = .type "tuple" → o.data = .seq vs.toArray n → Reps base h vs xs → Rep base h (Value.ref a) (PV.tup xs)
  | ref (a : Addr) : Rep base h (Value.ref a) (PV.ref a)
  | lst {a : Addr} {vs : List Value} {ns : List Int} : base.IsList a vs.toArray → vs.map (fun v => match v with | Value.int i _ => some i | _ => Option.none) = ns.map some → Rep base h (Value.ref a) (PV.lst a ns)
  | exc {a c : Addr} {o : Obj} {vs : Array Value} : h.get? a = some o → o.cls = .ref c → o.data = .fields vs → Rep base h (Value.ref a) (PV.exc a c)
  | rng {a : Addr} {lo hi : Int} : IsRng h a lo hi → Rep base h (Value.ref a) (PV.rng lo hi)
inductive Reps (base h : Heap) : List Value → List PV → Prop
  | nil : Reps base h [] []
  | cons {v : Value} {vs : List Value} {x : PV} {xs : List PV} : Rep base h v x → Reps base h vs xs → Reps base h (v :: vs) (x :: xs)
end

/-- the objects on which Rep leans -/
noncomputable def Firm (o : Obj) : Prop := (∃ vs, o.data = .fields vs ∧ (o.cls = .type "range" ∨ ∃ c, o.cls = .ref c)) ∨ (o.cls = .type "tuple" ∧ ∃ xs n, o.data = .seq xs n)

theorem Rep.mono {base h h' : Heap} (k : ∀ b o, h.get? b = some o → Firm o → h'.get? b = some o) {v : Value} {x : PV} (r : Rep base h v x) : Rep base h' v x :=
  Rep.rec (motive_1 := fun v x _ => Rep base h' v x) (motive_2 := fun vs xs _ => Reps base h' vs xs)
    .none .bool .int .str (fun ho hc hd _ ih => .tup (k _ _ ho (.inr ⟨hc, _, _, hd⟩)) hc hd ih) .ref (fun h1 h2 => .lst h1 h2) (fun ho hc hd => .exc (k _ _ ho (.inl ⟨_, hd, .inr ⟨_, hc⟩⟩)) hc hd)
    (fun e => .rng (e.elim fun t1 e => e.elim fun t2 e => e.elim fun t3 ho => ⟨t1, t2, t3, k _ _ ho (.inl ⟨_, rfl, .inl rfl⟩)⟩)) .nil (fun _ _ ih1 ih2 => .cons ih1 ih2) r
theorem Reps.mono {base h h' : Heap} (k : ∀ b o, h.get? b = some o → Firm o → h'.get? b = some o) {vs : List Value} {xs : List PV} (r : Reps base h vs xs) : Reps base h' vs xs :=
  Reps.rec (motive_1 := fun _ _ _ => True) (motive_2 := fun vs xs _ => Reps base h' vs xs)
    trivial (fun _ => trivial) (fun _ _ => trivial) (fun _ _ => trivial) (fun _ _ _ _ _ => trivial) (fun _ => trivial) (fun _ _ => trivial) (fun _ _ _ => trivial) (fun _ => trivial) .nil (fun r _ _ ih2 => .cons (r.mono k) ih2) r
section
variable {base h : Heap} {v : Value}
theorem inv_none (r : Rep base h v .none) : v = .none := by cases r; rfl
theorem inv_bool {b : Bool} (r : Rep base h v (.bool b)) : v = .bool b := by cases r; rfl
theorem inv_int {i : Int} (r : Rep base h v (.int i)) : ∃ t, v = .int i t := by cases r; exact ⟨_, rfl⟩
theorem inv_str {x : Str} (r : Rep base h v (.str x)) : ∃ t, v = .str x t := by cases r; exact ⟨_, rfl⟩
theorem inv_ref {a : Addr} (r : Rep base h v (.ref a)) : v = .ref a := by cases r; rfl
theorem inv_tup {xs : List PV} (r : Rep base h v (.tup xs)) : ∃ a o vs n, v = .ref a ∧ h.get? a = some o ∧ o.cls = .type "tuple" ∧ o.data = .seq vs.toArray n ∧ Reps base h vs xs := by cases r with | tup ho hc hd rs => exact ⟨_, _, _, _, rfl, ho, hc, hd, rs⟩
theorem inv_lst {a : Addr} {ns : List Int} (r : Rep base h v (.lst a ns)) : v = .ref a ∧ ∃ vs : List Value, base.IsList a vs.toArray ∧ vs.map (fun v => match v with | Value.int i _ => some i | _ => Option.none) = ns.map some := by cases r with | lst h1 h2 => exact ⟨rfl, _, h1, h2⟩
theorem inv_rng {lo hi : Int} (r : Rep base h v (.rng lo hi)) : ∃ a, v = .ref a ∧ IsRng h a lo hi := by cases r with | rng h1 => exact ⟨_, rfl, h1⟩
theorem inv_exc {a c : Addr} (r : Rep base h v (.exc a c)) : ∃ o, v = .ref a ∧ h.get? a = some o ∧ o.cls = .ref c := by cases r with | exc h1 h2 h3 => exact ⟨_, rfl, h1, h2⟩
theorem reps_one {vals : List Value} {p : PV} (R : Reps base h vals [p]) : ∃ v, vals = [v] ∧ Rep base h v p := by cases R with | cons r rs => cases rs; exact ⟨_, rfl, r⟩
end
theorem Rep.keeps {base h h' : Heap} {v : Value} {x : PV} (r : Rep base h v x) (k : ∀ b o, h.get? b = some o → h'.get? b = some o) : Rep base h' v x := r.mono fun b o e _ => k b o e
theorem Reps.keeps {base h h' : Heap} {v : List Value} {x : List PV} (r : Reps base h v x) (k : ∀ b o, h.get? b = some o → h'.get? b = some o) : Reps base h' v x := r.mono fun b o e _ => k b o e

theorem Reps.ind {base h : Heap} {M : List Value → List PV → Prop} (nil : M [] []) (cons : ∀ {v vs x xs}, Rep base h v x → Reps base h vs xs → M vs xs → M (v :: vs) (x :: xs)) {vs : List Value} {xs : List PV} (r : Reps base h vs xs) : M vs xs :=
  Reps.rec (motive_1 := fun _ _ _ => True) (motive_2 := fun vs xs _ => M vs xs)
    trivial (fun _ => trivial) (fun _ _ => trivial) (fun _ _ => trivial) (fun _ _ _ _ _ => trivial) (fun _ => trivial) (fun _ _ => trivial) (fun _ _ _ => trivial) (fun _ => trivial) nil (fun a r _ ih => cons a r ih) r
theorem Reps.length {base h : Heap} {vs : List Value} {xs : List PV} (r : Reps base h vs xs) : vs.length = xs.length :=
  r.ind (M := fun vs xs => vs.length = xs.length) rfl fun _ _ ih => congrArg Nat.succ ih
theorem Reps.append {base h : Heap} {vs ws : List Value} {xs ys : List PV} (r : Reps base h vs xs) (q : Reps base h ws ys) : Reps base h (vs ++ ws) (xs ++ ys) :=
  r.ind (M := fun vs xs => Reps base h (vs ++ ws) (xs ++ ys)) q fun a _ ih => .cons a ih
theorem Reps.get {base h : Heap} {vs : List Value} {xs : List PV} (r : Reps base h vs xs) {k : Nat} {x : PV} (hx : xs[k]? = some x) : ∃ v, vs[k]? = some v ∧ Rep base h v x := by
  revert k
  refine r.ind (M := fun vs xs => ∀ {k : Nat}, xs[k]? = some x → ∃ v, vs[k]? = some v ∧ Rep base h v x) (fun e => ?_) fun a _ ih k e => ?_
  · cases e
  · cases k with
    | zero => cases e; exact ⟨_, rfl, a⟩
    | succ k => exact ih (k := k) e
theorem Reps.get' {base h : Heap} {vs : List Value} {xs : List PV} (r : Reps base h vs xs) {k : Nat} {v : Value} (hv : vs[k]? = some v) : ∃ x, xs[k]? = some x ∧ Rep base h v x := by
  revert k
  refine r.ind (M := fun vs xs => ∀ {k : Nat}, vs[k]? = some v → ∃ x, xs[k]? = some x ∧ Rep base h v x) (fun e => ?_) fun a _ ih k e => ?_
  · cases e
  · cases k with
    | zero => cases e; exact ⟨_, rfl, a⟩
    | succ k => exact ih (k := k) e
theorem Reps.take {base h : Heap} {vs : List Value} {xs : List PV} (r : Reps base h vs xs) : ∀ k, Reps base h (vs.take k) (xs.take k) :=
  r.ind (M := fun vs xs => ∀ k, Reps base h (vs.take k) (xs.take k)) (fun k => by cases k <;> exact .nil) fun a _ ih k => by
    cases k with
    | zero => exact .nil
    | succ k => exact .cons a (ih k)
theorem Reps.drop {base h : Heap} {vs : List Value} {xs : List PV} (r : Reps base h vs xs) : ∀ k, Reps base h (vs.drop k) (xs.drop k) :=
  r.ind (M := fun vs xs => ∀ k, Reps base h (vs.drop k) (xs.drop k)) (fun k => by cases k <;> exact .nil) fun a r ih k => by
    cases k with
    | zero => exact .cons a r
    | succ k => exact ih k
theorem Reps.set {base h : Heap} {vs : List Value} {xs : List PV} (r : Reps base h vs xs) (k : Nat) {v : Value} {x : PV} (a : Rep base h v x) : Reps base h (vs.set k v) (xs.set k x) := by
  revert k
  refine r.ind (M := fun vs xs => ∀ k, Reps base h (vs.set k v) (xs.set k x)) (fun k => by cases k <;> exact .nil) fun b r ih k => ?_
  cases k with
  | zero => exact .cons a r
  | succ k => exact .cons b (ih k)

/-- the store is borne by the heap -/
noncomputable def Sim (base h : Heap) (σ : Sto) : Prop := ∀ a ao, σ a = some ao → match ao with
  | .list xs => ∃ vs : List Value, h.PlainList a vs.toArray ∧ Reps base h vs xs
  | .raw o => h.get? a = some o ∧ (o.data = .plain ∨ ∃ es n, o.data = .dict es n)

noncomputable def frs (fr : List Env) : List Addr := fr.filterMap (·.frame)

noncomputable abbrev nobody : Addr → Prop := fun _ => False

structure Step (fr : List Env) (own : Addr → Prop) (σ : Sto) (h : Heap) (σ' : Sto) (h' : Heap) : Prop where
  other : ∀ b o, h.get? b = some o → b ∉ frs fr → ¬ own b → σ b = none → h'.get? b = some o
  frame : ∀ b o, h.get? b = some o → b ∈ frs fr → ¬ own b → ∃ sl, h'.get? b = some { o with slots := sl }
  live : ∀ b o, h.get? b = some o → ¬ own b → ∃ o', h'.get? b = some o'
  new : ∀ a, σ a = none → ¬ own a → h.get? a ≠ none → σ' a = none
  dom : ∀ a, σ a ≠ none → σ' a ≠ none

theorem Step.refl {fr : List Env} {own : Addr → Prop} {σ : Sto} {h : Heap} : Step fr own σ h σ h :=
  ⟨fun _ _ e _ _ _ => e, fun _ o e _ _ => ⟨o.slots, e⟩, fun _ o e _ => ⟨o, e⟩, fun _ e _ _ => e, fun _ e => e⟩
theorem Step.trans {fr : List Env} {own : Addr → Prop} {σ σ₁ σ₂ : Sto} {h h₁ h₂ : Heap} (x : Step fr own σ h σ₁ h₁) (y : Step fr own σ₁ h₁ σ₂ h₂) : Step fr own σ h σ₂ h₂ where
  other := fun b o e n1 n2 s => y.other b o (x.other b o e n1 n2 s) n1 n2 (x.new b s n2 (by rw [e]; simp))
  frame := fun b o e n1 n2 => by
    obtain ⟨sl, e1⟩ := x.frame b o e n1 n2
    obtain ⟨sl2, e2⟩ := y.frame b _ e1 n1 n2
    exact ⟨sl2, e2⟩
  live := fun b o e n => by
    obtain ⟨o1, e1⟩ := x.live b o e n
    exact y.live b o1 e1 n
  new := fun a s n e => by
    refine y.new a (x.new a s n e) n ?_
    cases q : h.get? a with
    | none => exact absurd q e
    | some o => obtain ⟨o1, e1⟩ := x.live a o q n; rw [e1]; simp
  dom := fun a s => y.dom a (x.dom a s)
theorem Step.own {fr : List Env} {own own' : Addr → Prop} {σ σ₁ : Sto} {h h₁ : Heap} (x : Step fr own σ h σ₁ h₁) (k : ∀ b, own b → own' b) : Step fr own' σ h σ₁ h₁ where
  other := fun b o e n1 n2 s => x.other b o e n1 (fun q => n2 (k b q)) s
  frame := fun b o e n1 n2 => x.frame b o e n1 (fun q => n2 (k b q))
  live := fun b o e n => x.live b o e (fun q => n (k b q))
  new := fun a s n => x.new a s (fun q => n (k a q))
  dom := x.dom

structure Hp (base : Heap) (fr : List Env) (σ : Sto) (h : Heap) : Prop where
  stays : base.StaysIn h
  frames : h.FunFrames base fr
  sim : Sim base h σ
  fresh : ∀ a, σ a ≠ none → base.get? a = none ∧ a ∉ frs fr
  dicts : ∀ b ∈ frs fr, ∃ o es n, h.get? b = some o ∧ o.data = .dict es n

theorem Sim.not_firm {base h : Heap} {σ : Sto} (S : Sim base h σ) {b : Addr} {o : Obj} (e : h.get? b = some o) (f : Firm o) : σ b = none := by
  cases q : σ b with
  | none => rfl
  | some ao =>
    have := S b ao q
    cases ao with
    | list xs =>
      obtain ⟨vs, ⟨n, ho⟩, _⟩ := this
      rw [e] at ho; cases ho
      rcases f with ⟨ws, hw, _⟩ | ⟨hw, _⟩
      · cases hw
      · injection hw with hw; exact absurd hw (by decide)
    | raw o' =>
      obtain ⟨ho, hd⟩ := this
      rw [e] at ho; cases ho
      rcases f with ⟨ws, hw, _⟩ | ⟨_, xs, n, hw⟩ <;> rcases hd with hd | ⟨es, m, hd⟩ <;> rw [hd] at hw <;> cases hw

theorem notFirm_dict {o : Obj} {es : Array DictEntry} {n : Nat} (hd : o.data = .dict es n) : ¬ Firm o := by
  rintro (⟨vs, q, _⟩ | ⟨_, xs, m, q⟩) <;> rw [hd] at q <;> cases q
theorem notFirm_cell {o : Obj} {ov : Option Value} (hd : o.data = .cell ov) : ¬ Firm o := by
  rintro (⟨vs, q, _⟩ | ⟨_, xs, m, q⟩) <;> rw [hd] at q <;> cases q
theorem Hp.firm {base h : Heap} {fr : List Env} {σ : Sto} (H : Hp base fr σ h) {b : Addr} {o : Obj} (e : h.get? b = some o) (f : Firm o) : b ∉ frs fr ∧ σ b = none := by
  refine ⟨fun m => ?_, H.sim.not_firm e f⟩
  obtain ⟨o', es, n, h1, h2⟩ := H.dicts b m
  rw [e] at h1; cases h1
  exact notFirm_dict h2 f
theorem Step.rep {base h h' : Heap} {fr : List Env} {σ σ' : Sto} {v : Value} {p : PV} (x : Step fr nobody σ h σ' h') (H : Hp base fr σ h) (r : Rep base h v p) : Rep base h' v p :=
  r.mono fun b o e f => x.other b o e (H.firm e f).1 id (H.firm e f).2
theorem Step.reps {base h h' : Heap} {fr : List Env} {σ σ' : Sto} {v : List Value} {p : List PV} (x : Step fr nobody σ h σ' h') (H : Hp base fr σ h) (r : Reps base h v p) : Reps base h' v p :=
  r.mono fun b o e f => x.other b o e (H.firm e f).1 id (H.firm e f).2

theorem funFrames_step {base h h' : Heap} : ∀ {l : List Env}, h.FunFrames base l → (∀ b o, h.get? b = some o → (∀ vs, o.data ≠ .fields vs) → b ∈ frs l → ∃ o', h'.get? b = some o' ∧ ∀ vs, o'.data ≠ .fields vs) → h'.FunFrames base l
  | [], _, _ => trivial
  | env :: l, ⟨hk, ⟨L, o, hf, hn, ho, hd⟩, hr⟩, k => by
    have hm : L ∈ frs (env :: l) := List.mem_filterMap.mpr ⟨env, .head _, hf⟩
    obtain ⟨o', ho', hd'⟩ := k L o ho hd hm
    refine ⟨hk, ⟨L, o', hf, hn, ho', hd'⟩, funFrames_step hr fun b o e d m => k b o e d ?_⟩
    obtain ⟨en, he, hf'⟩ := List.mem_filterMap.mp m
    exact List.mem_filterMap.mpr ⟨en, .tail _ he, hf'⟩

theorem Hp.step {base h h' : Heap} {fr : List Env} {σ σ' : Sto} (H : Hp base fr σ h) (x : Step fr nobody σ h σ' h') (S : Sim base h' σ') : Hp base fr σ' h' where
  stays := fun b o e => x.other b o (H.stays b o e) (fun m => by rw [(H.frames.mem m).1] at e; cases e) id (by
    cases q : σ b with
    | none => rfl
    | some ao => have := (H.fresh b (by rw [q]; simp)).1; rw [e] at this; cases this)
  frames := funFrames_step H.frames fun b o e d m => by
    obtain ⟨sl, hs⟩ := x.frame b o e m id
    exact ⟨_, hs, d⟩
  sim := S
  fresh := fun a n => by
    by_cases q : σ a = none
    · have hn : h.get? a = none := by
        cases e : h.get? a with
        | none => rfl
        | some o => exact absurd (x.new a q id (by rw [e]; simp)) n
      refine ⟨?_, fun m => ?_⟩
      · cases e : base.get? a with
        | none => rfl
        | some o => rw [H.stays a o e] at hn; cases hn
      · obtain ⟨_, o, ho, _⟩ := H.frames.mem m
        rw [hn] at ho; cases ho
    · exact H.fresh a q
  dicts := fun b m => by
    obtain ⟨o, es, n, ho, hd⟩ := H.dicts b m
    obtain ⟨sl, hs⟩ := x.frame b o ho m id
    exact ⟨_, es, n, hs, hd⟩
end Mine

set_option autoImplicit false
namespace Mine
open PySem PyProof.Rows

/-- the run's fixed part -/
structure Gx where
  prog : Program
  w : World
  base : Heap
  K : List (Addr × Obj)
  mg : Str → Option Value
  mb : Str → Option Value
  inK : ∀ a o, K.lookup a = some o → base.get? a = some o
  hg : base.Ns mainGlobals mg
  hb : base.Ns builtinsNs mb
  nolimit : base.NoLimit

noncomputable abbrev Gx.M (g : Gx) : Model := model g.prog g.w

/-- the frame's names: what stands in the table (of heap h), what the values lean on (B) -/
structure Loc (base B h : Heap) (env : Env) (ρ : Env') : Prop where
  ns : ∃ m, h.Ns env.locals m ∧ ∀ x p, ρ x = some p → env.kindOf x = some .local → ∃ v, m x = some v ∧ Rep base B v p
  cell : ∀ x, env.kindOf x = some .cell → ∃ c ov, env.cells.lookup x = some c ∧ B.IsCell c ov ∧ ∀ p, ρ x = some p → ∃ v, ov = some v ∧ Rep base B v p

structure St (g : Gx) (fr : List Env) (env : Env) (ρ : Env') (σ : Sto) (h : Heap) : Prop where
  hp : Hp g.base fr σ h
  loc : Loc g.base h h env ρ
  nl : σ env.locals = none

noncomputable def Room (n : Nat) (A : Around) : Prop := A.depth + n < recursionLimit ∧ A.units + 8 * n + 100 < cLine
theorem Room.lt {n : Nat} {A : Around} (r : Room n A) : A.depth < recursionLimit := by have := r.1; omega
theorem Room.units {n : Nat} {A : Around} (r : Room n A) : A.units + 100 < cLine := by have := r.2; omega
theorem Room.le {n m : Nat} {A : Around} (r : Room n A) (h : m ≤ n) : Room m A := ⟨by have := r.1; omega, by have := r.2; omega⟩
theorem Room.deeper {n : Nat} {A : Around} {env : Env} (r : Room (n + 1) A) : Room n (A.deeper env) := by
  obtain ⟨h1, h2⟩ := r
  refine ⟨?_, ?_⟩
  · show A.depth + 1 + n < _; omega
  · show A.units + 3 + 8 * n + 100 < _; omega

/-- the setting of a run in a frame: the frames are fr, names are looked up in env -/
structure Cx (g : Gx) (n : Nat) (q : Bool) (A : Around) (fr : List Env) (env : Env) : Prop where
  frames : A.frames = some fr
  room : Room n A
  quiet : q = true → A.handled = none
  kind : env.scope.kind = .function
  globals : env.globals = mainGlobals
  builtins : env.builtins = builtinsNs
  inj : ∀ x y c, env.cells.lookup x = some c → env.cells.lookup y = some c → x = y
  nbase : g.base.get? env.locals = none
  cbase : ∀ x c, env.cells.lookup x = some c → g.base.get? c = none

/-- an exception in flight (just made | come from a callee | noted at this frame) -/
noncomputable def Fly (B : Heap) (fr : List Env) (x c : Addr) (h' : Heap) : Prop :=
  B.StaysIn h' ∧ h'.FunFrames B fr ∧ B.get? x = none ∧
  ((∃ t o, h'.get? x = some o ∧ o.cls = .ref c ∧ o.data = .fields #[.ref t, .none, .none, .none, .bool false, .none]) ∨
   (∃ a0, h'.TracedW B x (.ref c) a0) ∨
   (∃ a0 L env outer, fr = env :: outer ∧ env.frame = some L ∧ h'.TracedAtW B x (.ref c) a0 (rawInt L)))

structure ExcB (g : Gx) (fr : List Env) (own : Addr → Prop) (σ : Sto) (h : Heap) (σ' : Sto) (B h' : Heap) (x c : Addr) : Prop where
  other : ∀ b o, h.get? b = some o → b ∉ frs fr → ¬ own b → σ b = none → B.get? b = some o
  frame : ∀ b o, h.get? b = some o → b ∈ frs fr → ¬ own b → ∃ sl, h'.get? b = some { o with slots := sl }
  sim : Sim g.base B σ'
  new : ∀ a, σ a = none → ¬ own a → h.get? a ≠ none → σ' a = none
  dom : ∀ a, σ a ≠ none → σ' a ≠ none
  stays : g.base.StaysIn B
  nofr : ∀ b ∈ frs fr, B.get? b = none
  dicts : ∀ b ∈ frs fr, ∃ o es n, h'.get? b = some o ∧ o.data = .dict es n
  fly : Fly B fr x c h'

noncomputable abbrev TE := Env' → Sto → (PV → Sto → Prop) → (Addr → Sto → Prop) → Prop
inductive Fl where
  | next | brk | cont
  | ret (v : PV)
noncomputable abbrev TS := Env' → Sto → (Fl → Env' → Sto → Prop) → (Addr → Env' → Sto → Prop) → Prop

inductive PostE (g : Gx) (fr : List Env) (σ : Sto) (s : Shared) (Q : PV → Sto → Prop) (v : Value) (s' : Shared) : Prop
  | mk (h' : Heap) (tk : Nat) (p : PV) (σ' : Sto) : s' = { s with heap := h', toks := tk } → Step fr nobody σ s.heap σ' h' → Sim g.base h' σ' → Rep g.base h' v p → Q p σ' → PostE g fr σ s Q v s'
inductive PostX (g : Gx) (fr : List Env) (σ : Sto) (s : Shared) (X : Addr → Sto → Prop) (v : Value) (s' : Shared) : Prop
  | mk (h' : Heap) (tk : Nat) (x c : Addr) (σ' : Sto) (B : Heap) : v = .ref x → s' = { s with heap := h', toks := tk } → ExcB g fr nobody σ s.heap σ' B h' x c → X c σ' → PostX g fr σ s X v s'

noncomputable def owned (env : Env) : Addr → Prop := fun b => b = env.locals ∨ ∃ y, env.kindOf y = some .cell ∧ env.cells.lookup y = some b

inductive FlRep (base h : Heap) : Flow → Fl → Prop
  | next : FlRep base h .next .next
  | brk : FlRep base h .brk .brk
  | cont : FlRep base h .cont .cont
  | ret {v : Value} {p : PV} : Rep base h v p → FlRep base h (.ret v) (.ret p)

inductive PostS (g : Gx) (fr : List Env) (env : Env) (σ : Sto) (s : Shared) (Q : Fl → Env' → Sto → Prop) (f : Flow) (s' : Shared) : Prop
  | mk (h' : Heap) (tk : Nat) (fl : Fl) (ρ' : Env') (σ' : Sto) : s' = { s with heap := h', toks := tk } → Step fr (owned env) σ s.heap σ' h' → St g fr env ρ' σ' h' → FlRep g.base h' f fl → Q fl ρ' σ' → PostS g fr env σ s Q f s'
inductive PostXS (g : Gx) (fr : List Env) (env : Env) (σ : Sto) (s : Shared) (X : Addr → Env' → Sto → Prop) (v : Value) (s' : Shared) : Prop
  | mk (h' : Heap) (tk : Nat) (x c : Addr) (ρ' : Env') (σ' : Sto) (B : Heap) : v = .ref x → s' = { s with heap := h', toks := tk } → ExcB g fr (owned env) σ s.heap σ' B h' x c → Loc g.base B h' env ρ' → X c ρ' σ' → PostXS g fr env σ s X v s'

/-- an expression is told by a transformer -/
noncomputable def SoundE (g : Gx) (n : Nat) (q : Bool) (sc : Scope) (e : Expr) (t : TE) : Prop :=
  ∀ (A : Around) (fr : List Env) (env : Env), Cx g n q A fr env → env.scope = sc → ∀ (s : Shared) (ρ : Env') (σ : Sto) (Q : PV → Sto → Prop) (X : Addr → Sto → Prop),
    St g fr env ρ σ s.heap → t ρ σ Q X → wpAny g.M A (eval e env) (PostE g fr σ s Q) (PostX g fr σ s X) s

/-- several, from the left -/
noncomputable abbrev TEs := Env' → Sto → (List PV → Sto → Prop) → (Addr → Sto → Prop) → Prop

/-- a condition -/
noncomputable abbrev TB := Env' → Sto → (Bool → Sto → Prop) → (Addr → Sto → Prop) → Prop
inductive PostB (g : Gx) (fr : List Env) (σ : Sto) (s : Shared) (Q : Bool → Sto → Prop) (b : Bool) (s' : Shared) : Prop
  | mk (h' : Heap) (tk : Nat) (σ' : Sto) : s' = { s with heap := h', toks := tk } → Step fr nobody σ s.heap σ' h' → Sim g.base h' σ' → Q b σ' → PostB g fr σ s Q b s'
noncomputable def SoundB (g : Gx) (n : Nat) (q : Bool) (sc : Scope) (e : Expr) (t : TB) : Prop :=
  ∀ (A : Around) (fr : List Env) (env : Env), Cx g n q A fr env → env.scope = sc → ∀ (s : Shared) (ρ : Env') (σ : Sto) (Q : Bool → Sto → Prop) (X : Addr → Sto → Prop),
    St g fr env ρ σ s.heap → t ρ σ Q X → wpAny g.M A (isTrue e env (eval e env)) (PostB g fr σ s Q) (PostX g fr σ s X) s

noncomputable def SoundS (g : Gx) (n : Nat) (q : Bool) (sc : Scope) (st : Stmt) (t : TS) : Prop :=
  ∀ (A : Around) (outer : List Env) (env : Env), Cx g n q A (env :: outer) env → env.scope = sc → env.frame = some env.locals → ∀ (s : Shared) (ρ : Env') (σ : Sto) (Q : Fl → Env' → Sto → Prop) (X : Addr → Env' → Sto → Prop),
    St g (env :: outer) env ρ σ s.heap → t ρ σ Q X → wpAny g.M A (exec st env) (PostS g (env :: outer) env σ s Q) (PostXS g (env :: outer) env σ s X) s
noncomputable def SoundSs (g : Gx) (n : Nat) (q : Bool) (sc : Scope) (st : List Stmt) (t : TS) : Prop :=
  ∀ (A : Around) (outer : List Env) (env : Env), Cx g n q A (env :: outer) env → env.scope = sc → env.frame = some env.locals → ∀ (s : Shared) (ρ : Env') (σ : Sto) (Q : Fl → Env' → Sto → Prop) (X : Addr → Env' → Sto → Prop),
    St g (env :: outer) env ρ σ s.heap → t ρ σ Q X → wpAny g.M A (execs st env) (PostS g (env :: outer) env σ s Q) (PostXS g (env :: outer) env σ s X) s

/-! moving along -/
theorem IsCell.notIn {base h : Heap} {σ : Sto} (S : Sim base h σ) {c : Addr} {ov : Option Value} (hc : h.IsCell c ov) : σ c = none := by
  obtain ⟨o, ho, hd⟩ := hc
  cases q : σ c with
  | none => rfl
  | some ao =>
    have := S c ao q
    cases ao with
    | list xs => obtain ⟨vs, ⟨n, ho'⟩, _⟩ := this; rw [ho] at ho'; cases ho'; cases hd
    | raw o' => obtain ⟨ho', hd'⟩ := this; rw [ho] at ho'; cases ho'; rcases hd' with hd' | ⟨_, _, hd'⟩ <;> rw [hd] at hd' <;> cases hd'
theorem IsCell.notFr {base h : Heap} {fr : List Env} {σ : Sto} (H : Hp base fr σ h) {c : Addr} {ov : Option Value} (hc : h.IsCell c ov) : c ∉ frs fr := fun m => by
  obtain ⟨o, ho, hd⟩ := hc
  obtain ⟨o', es, n, ho', hd'⟩ := H.dicts c m
  rw [ho] at ho'; cases ho'; rw [hd] at hd'; cases hd'

theorem Ns.up {h h' : Heap} {a : Addr} {m : Str → Option Value} (hn : h.Ns a m) (k : ∀ o, h.get? a = some o → ∃ sl, h'.get? a = some { o with slots := sl }) : h'.Ns a m := by
  obtain ⟨o, es, ep, ho, hd, r⟩ := hn
  obtain ⟨sl, hs⟩ := k o ho
  exact ⟨_, es, ep, hs, hd, r⟩
theorem IsCell.up {h h' : Heap} {a : Addr} {ov : Option Value} (hn : h.IsCell a ov) (k : ∀ o, h.get? a = some o → ∃ sl, h'.get? a = some { o with slots := sl }) : h'.IsCell a ov := by
  obtain ⟨o, ho, hd⟩ := hn
  obtain ⟨sl, hs⟩ := k o ho
  exact ⟨_, hs, hd⟩

theorem St.step {g : Gx} {fr : List Env} {env : Env} {ρ : Env'} {σ σ' : Sto} {h h' : Heap} (H : St g fr env ρ σ h) (x : Step fr nobody σ h σ' h') (S : Sim g.base h' σ') : St g fr env ρ σ' h' := by
  have up : ∀ b o, h.get? b = some o → σ b = none → ∃ sl, h'.get? b = some { o with slots := sl } := fun b o e n => by
    by_cases m : b ∈ frs fr
    · exact x.frame b o e m id
    · exact ⟨o.slots, x.other b o e m id n⟩
  obtain ⟨hp, ⟨⟨m, hn, hm⟩, hc⟩, nl⟩ := H
  refine ⟨hp.step x S, ⟨⟨m, Ns.up hn fun o e => up _ o e nl, fun y p e k => ?_⟩, fun y k => ?_⟩, ?_⟩
  · obtain ⟨v, hv, r⟩ := hm y p e k
    exact ⟨v, hv, x.rep hp r⟩
  · obtain ⟨c, ov, h1, h2, h3⟩ := hc y k
    refine ⟨c, ov, h1, IsCell.up h2 fun o e => up _ o e (IsCell.notIn hp.sim h2), fun p e => ?_⟩
    obtain ⟨v, e1, r⟩ := h3 p e
    exact ⟨v, e1, x.rep hp r⟩
  · refine x.new _ nl id ?_
    obtain ⟨o, es, ep, ho, _⟩ := hn
    rw [ho]; simp

theorem ExcB.before {g : Gx} {fr : List Env} {own : Addr → Prop} {σ σ₁ σ₂ : Sto} {h h₁ B h₂ : Heap} {x c : Addr} (a : Step fr own σ h σ₁ h₁) (e : ExcB g fr own σ₁ h₁ σ₂ B h₂ x c) : ExcB g fr own σ h σ₂ B h₂ x c where
  other := fun b o e1 n1 n2 n3 => e.other b o (a.other b o e1 n1 n2 n3) n1 n2 (a.new b n3 n2 (by rw [e1]; simp))
  frame := fun b o e1 n1 n2 => by
    obtain ⟨sl, h1⟩ := a.frame b o e1 n1 n2
    obtain ⟨sl2, h2⟩ := e.frame b _ h1 n1 n2
    exact ⟨sl2, h2⟩
  sim := e.sim
  new := fun b n n2 e1 => by
    refine e.new b (a.new b n n2 e1) n2 ?_
    cases q : h.get? b with
    | none => exact absurd q e1
    | some o => obtain ⟨o1, h1⟩ := a.live b o q n2; rw [h1]; simp
  dom := fun b n => e.dom b (a.dom b n)
  stays := e.stays
  nofr := e.nofr
  dicts := e.dicts
  fly := e.fly
theorem ExcB.own {g : Gx} {fr : List Env} {own own' : Addr → Prop} {σ σ₂ : Sto} {h B h₂ : Heap} {x c : Addr} (e : ExcB g fr own σ h σ₂ B h₂ x c) (k : ∀ b, own b → own' b) : ExcB g fr own' σ h σ₂ B h₂ x c :=
  { e with other := fun b o e1 n1 n2 n3 => e.other b o e1 n1 (fun q => n2 (k b q)) n3, frame := fun b o e1 n1 n2 => e.frame b o e1 n1 (fun q => n2 (k b q)), new := fun a s n => e.new a s (fun q => n (k a q)) }

theorem PostE.up {g : Gx} {fr : List Env} {σ σ₁ : Sto} {s : Shared} {h₁ : Heap} {tk : Nat} {Q : PV → Sto → Prop} {v : Value} {s' : Shared} (a : Step fr nobody σ s.heap σ₁ h₁) (p : PostE g fr σ₁ { s with heap := h₁, toks := tk } Q v s') : PostE g fr σ s Q v s' := by
  obtain ⟨h', tk', p, σ', rfl, b, S, r, hq⟩ := p
  exact ⟨h', tk', p, σ', rfl, a.trans b, S, r, hq⟩
theorem PostB.up {g : Gx} {fr : List Env} {σ σ₁ : Sto} {s : Shared} {h₁ : Heap} {tk : Nat} {Q : Bool → Sto → Prop} {v : Bool} {s' : Shared} (a : Step fr nobody σ s.heap σ₁ h₁) (p : PostB g fr σ₁ { s with heap := h₁, toks := tk } Q v s') : PostB g fr σ s Q v s' := by
  obtain ⟨h', tk', σ', rfl, b, S, hq⟩ := p
  exact ⟨h', tk', σ', rfl, a.trans b, S, hq⟩
theorem PostX.up {g : Gx} {fr : List Env} {σ σ₁ : Sto} {s : Shared} {h₁ : Heap} {tk : Nat} {X : Addr → Sto → Prop} {v : Value} {s' : Shared} (a : Step fr nobody σ s.heap σ₁ h₁) (p : PostX g fr σ₁ { s with heap := h₁, toks := tk } X v s') : PostX g fr σ s X v s' := by
  obtain ⟨h', tk', x, c, σ', B, rfl, rfl, e, hx⟩ := p
  exact ⟨h', tk', x, c, σ', B, rfl, rfl, ExcB.before a e, hx⟩

/-- one step of an evaluation, then the rest -/
theorem bindE {g : Gx} {fr : List Env} {A : Around} {σ : Sto} {s : Shared} {t : Sem Value} {Q₁ : PV → Sto → Prop} {X : Addr → Sto → Prop} {f : Value → Shared → Prop}
    (h : wpAny g.M A t (PostE g fr σ s Q₁) (PostX g fr σ s X) s)
    (k : ∀ v h₁ tk p σ₁, Step fr nobody σ s.heap σ₁ h₁ → Sim g.base h₁ σ₁ → Rep g.base h₁ v p → Q₁ p σ₁ → f v { s with heap := h₁, toks := tk }) :
    wpAny g.M A t f (PostX g fr σ s X) s :=
  wpAny_mono h (fun v _ ⟨h', tk, p, σ', e, b, S, r, hq⟩ => e ▸ k v h' tk p σ' b S r hq) fun _ _ x => x

theorem doneE {g : Gx} {fr : List Env} {σ : Sto} {s : Shared} {Q : PV → Sto → Prop} {v : Value} {p : PV} {tk : Nat} (S : Sim g.base s.heap σ) (r : Rep g.base s.heap v p) (hq : Q p σ) : PostE g fr σ s Q v { s with toks := tk } :=
  ⟨s.heap, tk, p, σ, rfl, Step.refl, S, r, hq⟩

/-! names and constants -/
noncomputable def tName (x : Str) : TE := fun ρ σ Q _ => match ρ x with
  | some p => Q p σ
  | none => False
noncomputable def tConst (p : PV) : TE := fun _ σ Q _ => Q p σ

section
variable {g : Gx} {n : Nat} {q : Bool} {sc : Scope}
theorem sound_local {x : Str} {pos : Pos} (hl : sc.names.lookup x = some .local) (hd : (x == ("__debug__" : Str)) = false) : SoundE g n q sc (.Name x pos) (tName x) := by
  intro A fr env C hsc s ρ σ Q X H ht
  subst hsc
  unfold tName at ht
  split at ht
  · rename_i p hp
    obtain ⟨⟨m, hn, hm⟩, _⟩ := H.loc
    obtain ⟨v, hv, r⟩ := hm x p hp hl
    exact wpAny_Name (wpAny_loadName_local C.kind hl hn hv (doneE (tk := s.toks) H.hp.sim r ht)) hd
  · exact ht.elim
theorem sound_cell {x : Str} {pos : Pos} (hl : sc.names.lookup x = some .cell) (hd : (x == ("__debug__" : Str)) = false) : SoundE g n q sc (.Name x pos) (tName x) := by
  intro A fr env C hsc s ρ σ Q X H ht
  subst hsc
  unfold tName at ht
  split at ht
  · rename_i p hp
    obtain ⟨c, ov, h1, h2, h3⟩ := H.loc.cell x hl
    obtain ⟨v, rfl, r⟩ := h3 p hp
    exact wpAny_Name (wpAny_loadName_cell C.kind hl h1 h2 (doneE (tk := s.toks) H.hp.sim r ht)) hd
  · exact ht.elim
theorem sound_int {i : Int} {k : Nat} {pos : Pos} : SoundE g n q sc (.Constant (.int i) k pos) (tConst (.int i)) := by
  intro A fr env C hsc s ρ σ Q X H ht
  exact wpAny_Constant_int (doneE H.hp.sim (.int _ _) ht)
theorem sound_str {x : Str} {k : Nat} {pos : Pos} : SoundE g n q sc (.Constant (.str x) k pos) (tConst (.str x)) := by
  intro A fr env C hsc s ρ σ Q X H ht
  exact wpAny_mkText (doneE H.hp.sim (.str _ _) ht)
theorem sound_bool {b : Bool} {k : Nat} {pos : Pos} : SoundE g n q sc (.Constant (.bool b) k pos) (tConst (.bool b)) := by
  intro A fr env C hsc s ρ σ Q X H ht
  exact wpAny_pure (doneE (tk := s.toks) H.hp.sim (.bool _) ht)
theorem sound_none {k : Nat} {pos : Pos} : SoundE g n q sc (.Constant .none k pos) (tConst .none) := by
  intro A fr env C hsc s ρ σ Q X H ht
  exact wpAny_pure (doneE (tk := s.toks) H.hp.sim .none ht)
end
end Mine

set_option autoImplicit false
namespace Mine
open PySem PyProof.Rows

noncomputable def setL (ρ : Env') (x : Str) (p : PV) : Env' := fun y => if y = x then some p else ρ y

/-- one own object turned -/
theorem turned {base h h' : Heap} {fr : List Env} {own : Addr → Prop} {σ : Sto} {a : Addr} (H : Hp base fr σ h) (ho : own a) (hs : Heap.SameBut a h h') (hsz : ∃ o', h'.get? a = some o' ∧ ((∃ es n, o'.data = .dict es n) ∨ ((∃ ov, o'.data = .cell ov) ∧ a ∉ frs fr)))
    (hb : base.get? a = none) (hσ : σ a = none) (hf : ∀ o, h.get? a = some o → ¬ Firm o) : Step fr own σ h σ h' ∧ Hp base fr σ h' ∧ (∀ {v : Value} {p : PV}, Rep base h v p → Rep base h' v p) := by
  have firm : ∀ b o, h.get? b = some o → Firm o → h'.get? b = some o := fun b o e f => by
    have : b ≠ a := by rintro rfl; exact hf o e f
    exact (hs.2 b this).trans e
  refine ⟨⟨fun b o e _ n _ => ?_, fun b o e _ n => ?_, fun b o e n => ?_, fun _ e _ _ => e, fun _ e => e⟩, ⟨fun b o e => ?_, ?_, ?_, H.fresh, fun b m => ?_⟩, fun r => r.mono firm⟩
  · exact (hs.2 b (by rintro rfl; exact n ho)).trans e
  · exact ⟨o.slots, (hs.2 b (by rintro rfl; exact n ho)).trans e⟩
  · by_cases q : b = a
    · subst q; obtain ⟨o', h1, _⟩ := hsz; exact ⟨o', h1⟩
    · exact ⟨o, (hs.2 b q).trans e⟩
  · exact (hs.2 b (by rintro rfl; rw [hb] at e; cases e)).trans (H.stays b o e)
  · refine funFrames_step H.frames fun b o e d m => ?_
    by_cases q : b = a
    · subst q
      obtain ⟨o', h1, h2⟩ := hsz
      refine ⟨o', h1, fun vs z => ?_⟩
      rcases h2 with ⟨es, n, h2⟩ | ⟨⟨ov, h2⟩, _⟩ <;> rw [h2] at z <;> cases z
    · exact ⟨o, (hs.2 b q).trans e, d⟩
  · intro c ao e
    have hne : c ≠ a := by rintro rfl; rw [hσ] at e; cases e
    have := H.sim c ao e
    cases ao with
    | list xs =>
      obtain ⟨vs, ⟨m, h1⟩, r⟩ := this
      exact ⟨vs, ⟨m, (hs.2 c hne).trans h1⟩, r.mono firm⟩
    | raw o => exact ⟨(hs.2 c hne).trans this.1, this.2⟩
  · by_cases q : b = a
    · subst q
      obtain ⟨o', h1, h2⟩ := hsz
      rcases h2 with ⟨es, n, h2⟩ | ⟨_, h2⟩
      · exact ⟨o', es, n, h1, h2⟩
      · exact absurd m h2
    · obtain ⟨o, es, n, h1, h2⟩ := H.dicts b m
      exact ⟨o, es, n, (hs.2 b q).trans h1, h2⟩

theorem store {g : Gx} {n : Nat} {q : Bool} {A : Around} {fr : List Env} {env : Env} {s : Shared} {ρ : Env'} {σ : Sto} {x : Str} {v : Value} {p : PV} {E : Value → Shared → Prop} {Q : Unit → Shared → Prop} (C : Cx g n q A fr env) (H : St g fr env ρ σ s.heap)
    (hx : env.kindOf x = some .local ∨ env.kindOf x = some .cell) (r : Rep g.base s.heap v p)
    (k : ∀ h' tk, Step fr (owned env) σ s.heap σ h' → St g fr env (setL ρ x p) σ h' → Q () { s with heap := h', toks := tk }) : wpAny g.M A (storeName env x v) Q E s := by
  obtain ⟨hp, ⟨⟨m, hn, hm⟩, hc⟩, nl⟩ := H
  have hLd : ∀ o, s.heap.get? env.locals = some o → ¬ Firm o := fun o e => by
    obtain ⟨o', es, ep, ho, hd, _⟩ := hn
    rw [e] at ho; cases ho; exact notFirm_dict hd
  rcases hx with hx | hx
  · refine wpAny_storeName_local hx hn (fun h' hn' hs' => ?_) (by rw [C.kind]; rfl)
    have hsz : ∃ o', h'.get? env.locals = some o' ∧ ((∃ es n, o'.data = .dict es n) ∨ ((∃ ov, o'.data = .cell ov) ∧ env.locals ∉ frs fr)) := by
      obtain ⟨o', es, ep, ho, hd, _⟩ := hn'
      exact ⟨o', ho, .inl ⟨es, ep, hd⟩⟩
    obtain ⟨S1, H1, R1⟩ := turned (own := owned env) hp (.inl rfl) hs' hsz C.nbase nl hLd
    refine k h' _ S1 ⟨H1, ⟨⟨_, hn', fun y p' e k' => ?_⟩, fun y k' => ?_⟩, nl⟩
    · unfold setL at e
      by_cases hy : y = x
      · subst hy
        rw [if_pos rfl] at e; cases e
        exact ⟨v, by rw [if_pos rfl], R1 r⟩
      · rw [if_neg hy] at e
        obtain ⟨w, h1, h2⟩ := hm y p' e k'
        exact ⟨w, by rw [if_neg hy]; exact h1, R1 h2⟩
    · obtain ⟨c, ov, h1, h2, h3⟩ := hc y k'
      have hcl : c ≠ env.locals := by
        rintro rfl
        obtain ⟨o, ho, hd⟩ := h2
        obtain ⟨o', es, ep, ho', hd', _⟩ := hn
        rw [ho] at ho'; cases ho'; rw [hd] at hd'; cases hd'
      refine ⟨c, ov, h1, h2.sameBut hs' hcl, fun p' e => ?_⟩
      have hy : y ≠ x := by rintro rfl; rw [hx] at k'; cases k'
      unfold setL at e
      rw [if_neg hy] at e
      obtain ⟨w, h4, h5⟩ := h3 p' e
      exact ⟨w, h4, R1 h5⟩
  · obtain ⟨c, ov, h1, h2, _⟩ := hc x hx
    refine wpAny_storeName_cell C.kind hx h1 h2 fun h' hc' hs' => ?_
    have hnf := IsCell.notFr hp h2
    have hsz : ∃ o', h'.get? c = some o' ∧ ((∃ es n, o'.data = .dict es n) ∨ ((∃ ov, o'.data = .cell ov) ∧ c ∉ frs fr)) := by
      obtain ⟨o', ho, hd⟩ := hc'
      exact ⟨o', ho, .inr ⟨⟨_, hd⟩, hnf⟩⟩
    have hcf : ∀ o, s.heap.get? c = some o → ¬ Firm o := fun o e => by
      obtain ⟨o', ho, hd⟩ := h2
      rw [e] at ho; cases ho; exact notFirm_cell hd
    obtain ⟨S1, H1, R1⟩ := turned (own := owned env) hp (.inr ⟨x, hx, h1⟩) hs' hsz (C.cbase _ _ h1) (IsCell.notIn hp.sim h2) hcf
    have hcl : env.locals ≠ c := by
      rintro e
      obtain ⟨o, ho, hd⟩ := h2
      obtain ⟨o', es, ep, ho', hd', _⟩ := hn
      rw [← e, ho'] at ho; cases ho; rw [hd'] at hd; cases hd
    refine k h' s.toks S1 ⟨H1, ⟨⟨m, hn.sameBut hs' hcl, fun y p' e k' => ?_⟩, fun y k' => ?_⟩, nl⟩
    · have hy : y ≠ x := by rintro rfl; rw [hx] at k'; cases k'
      unfold setL at e
      rw [if_neg hy] at e
      obtain ⟨w, h3, h4⟩ := hm y p' e k'
      exact ⟨w, h3, R1 h4⟩
    · by_cases hy : y = x
      · subst hy
        refine ⟨c, some v, h1, hc', fun p' e => ?_⟩
        unfold setL at e
        rw [if_pos rfl] at e; cases e
        exact ⟨v, rfl, R1 r⟩
      · obtain ⟨c', ov', h3, h4, h5⟩ := hc y k'
        have hne : c' ≠ c := by rintro rfl; exact hy (C.inj y x _ h3 h1)
        refine ⟨c', ov', h3, h4.sameBut hs' hne, fun p' e => ?_⟩
        unfold setL at e
        rw [if_neg hy] at e
        obtain ⟨w, h6, h7⟩ := h5 p' e
        exact ⟨w, h6, R1 h7⟩

theorem PostS.up {g : Gx} {fr : List Env} {env : Env} {σ σ₁ : Sto} {s : Shared} {h₁ : Heap} {tk : Nat} {Q : Fl → Env' → Sto → Prop} {f : Flow} {s' : Shared} (a : Step fr (owned env) σ s.heap σ₁ h₁) (p : PostS g fr env σ₁ { s with heap := h₁, toks := tk } Q f s') : PostS g fr env σ s Q f s' := by
  obtain ⟨h', tk', fl, ρ', σ', rfl, b, S, r, hq⟩ := p
  exact ⟨h', tk', fl, ρ', σ', rfl, a.trans b, S, r, hq⟩
theorem PostXS.up {g : Gx} {fr : List Env} {env : Env} {σ σ₁ : Sto} {s : Shared} {h₁ : Heap} {tk : Nat} {X : Addr → Env' → Sto → Prop} {v : Value} {s' : Shared} (a : Step fr (owned env) σ s.heap σ₁ h₁) (p : PostXS g fr env σ₁ { s with heap := h₁, toks := tk } X v s') : PostXS g fr env σ s X v s' := by
  obtain ⟨h', tk', x, c, ρ', σ', B, rfl, rfl, e, l, hx⟩ := p
  exact ⟨h', tk', x, c, ρ', σ', B, rfl, rfl, ExcB.before a e, l, hx⟩

theorem ExcB.loc {g : Gx} {fr : List Env} {env : Env} {ρ : Env'} {σ σ' : Sto} {h B h' : Heap} {x c : Addr} (H : St g fr env ρ σ h) (e : ExcB g fr nobody σ h σ' B h' x c) (hL : env.locals ∈ frs fr) : Loc g.base B h' env ρ := by
  obtain ⟨hp, ⟨⟨m, hn, hm⟩, hc⟩, nl⟩ := H
  have firm : ∀ b o, h.get? b = some o → Firm o → B.get? b = some o := fun b o e1 f => e.other b o e1 (hp.firm e1 f).1 id (hp.firm e1 f).2
  refine ⟨⟨m, Ns.up hn fun o h1 => e.frame _ o h1 hL id, fun y p h1 h2 => ?_⟩, fun y k => ?_⟩
  · obtain ⟨v, h3, h4⟩ := hm y p h1 h2
    exact ⟨v, h3, h4.mono firm⟩
  · obtain ⟨c', ov, h1, h2, h3⟩ := hc y k
    refine ⟨c', ov, h1, IsCell.up h2 fun o h4 => ⟨o.slots, e.other _ o h4 (IsCell.notFr hp h2) id (IsCell.notIn hp.sim h2)⟩, fun p h4 => ?_⟩
    obtain ⟨v, h5, h6⟩ := h3 p h4
    exact ⟨v, h5, h6.mono firm⟩

theorem PostX.stmt {g : Gx} {outer : List Env} {env : Env} {ρ : Env'} {σ : Sto} {s : Shared} {X : Addr → Env' → Sto → Prop} {v : Value} {s' : Shared} (H : St g (env :: outer) env ρ σ s.heap) (hf : env.frame = some env.locals) (p : PostX g (env :: outer) σ s (fun c σ' => X c ρ σ') v s') : PostXS g (env :: outer) env σ s X v s' := by
  obtain ⟨h', tk, x, c, σ', B, rfl, rfl, e, hx⟩ := p
  exact ⟨h', tk, x, c, ρ, σ', B, rfl, rfl, e.own (fun _ z => z.elim), ExcB.loc H e (List.mem_filterMap.mpr ⟨env, .head _, hf⟩), hx⟩

/-- an expression's evaluation inside a statement -/
theorem stmtE {g : Gx} {outer : List Env} {env : Env} {A : Around} {ρ : Env'} {σ : Sto} {s : Shared} {t : Sem Value} {Q₁ : PV → Sto → Prop} {X : Addr → Env' → Sto → Prop} {f : Value → Shared → Prop} (H : St g (env :: outer) env ρ σ s.heap) (hf : env.frame = some env.locals)
    (h : wpAny g.M A t (PostE g (env :: outer) σ s Q₁) (PostX g (env :: outer) σ s fun c σ' => X c ρ σ') s)
    (k : ∀ v h₁ tk p σ₁, Step (env :: outer) nobody σ s.heap σ₁ h₁ → St g (env :: outer) env ρ σ₁ h₁ → Rep g.base h₁ v p → Q₁ p σ₁ → f v { s with heap := h₁, toks := tk }) :
    wpAny g.M A t f (PostXS g (env :: outer) env σ s X) s :=
  wpAny_mono h (fun v _ ⟨h', tk, p, σ', e, b, S, r, hq⟩ => e ▸ k v h' tk p σ' b (H.step b S) r hq) fun _ _ x => x.stmt H hf
theorem stmtB {g : Gx} {outer : List Env} {env : Env} {A : Around} {ρ : Env'} {σ : Sto} {s : Shared} {t : Sem Bool} {Q₁ : Bool → Sto → Prop} {X : Addr → Env' → Sto → Prop} {f : Bool → Shared → Prop} (H : St g (env :: outer) env ρ σ s.heap) (hf : env.frame = some env.locals)
    (h : wpAny g.M A t (PostB g (env :: outer) σ s Q₁) (PostX g (env :: outer) σ s fun c σ' => X c ρ σ') s)
    (k : ∀ b h₁ tk σ₁, Step (env :: outer) nobody σ s.heap σ₁ h₁ → St g (env :: outer) env ρ σ₁ h₁ → Q₁ b σ₁ → f b { s with heap := h₁, toks := tk }) :
    wpAny g.M A t f (PostXS g (env :: outer) env σ s X) s :=
  wpAny_mono h (fun v _ ⟨h', tk, σ', e, b, S, hq⟩ => e ▸ k v h' tk σ' b (H.step b S) hq) fun _ _ x => x.stmt H hf
theorem noOwn {fr : List Env} {own : Addr → Prop} {σ σ₁ : Sto} {h h₁ : Heap} (x : Step fr nobody σ h σ₁ h₁) : Step fr own σ h σ₁ h₁ := x.own fun _ z => z.elim

/-! statements -/
noncomputable def tNil : TS := fun ρ σ Q _ => Q .next ρ σ
noncomputable def tSeq (a b : TS) : TS := fun ρ σ Q X => a ρ σ (fun f ρ' σ' => match f with
  | .next => b ρ' σ' Q X
  | f => Q f ρ' σ') X
noncomputable def tSet (x : Str) (e : TE) : TS := fun ρ σ Q X => e ρ σ (fun p σ' => Q .next (setL ρ x p) σ') (fun c σ' => X c ρ σ')
noncomputable def tIf (b : TB) (t e : TS) : TS := fun ρ σ Q X => b ρ σ (fun r σ' => if r = true then t ρ σ' Q X else e ρ σ' Q X) (fun c σ' => X c ρ σ')
noncomputable def tRet (e : TE) : TS := fun ρ σ Q X => e ρ σ (fun p σ' => Q (.ret p) ρ σ') (fun c σ' => X c ρ σ')
noncomputable def tExpr (e : TE) : TS := fun ρ σ Q X => e ρ σ (fun _ σ' => Q .next ρ σ') (fun c σ' => X c ρ σ')

section
variable {g : Gx} {n : Nat} {q : Bool} {sc : Scope}
theorem sound_nil : SoundSs g n q sc [] tNil := by
  intro A outer env C hsc hf s ρ σ Q X H ht
  exact wpAny_execs_nil ⟨s.heap, s.toks, .next, ρ, σ, rfl, Step.refl, H, .next, ht⟩
theorem sound_cons {st : Stmt} {rest : List Stmt} {a b : TS} (h1 : SoundS g n q sc st a) (h2 : SoundSs g n q sc rest b) : SoundSs g n q sc (st :: rest) (tSeq a b) := by
  intro A outer env C hsc hf s ρ σ Q X H ht
  refine wpAny_execs_cons (wpAny_mono (h1 A outer env C hsc hf s ρ σ _ X H ht) (fun f s' hp => ?_) fun _ _ x => x)
  obtain ⟨h', tk, fl, ρ', σ', rfl, S1, H1, r, hq⟩ := hp
  cases r with
  | next =>
    exact wpAny_mono (h2 A outer env C hsc hf { s with heap := h', toks := tk } ρ' σ' Q X H1 hq) (fun _ _ x => x.up S1) fun _ _ x => x.up S1
  | brk => exact ⟨h', tk, .brk, ρ', σ', rfl, S1, H1, .brk, hq⟩
  | cont => exact ⟨h', tk, .cont, ρ', σ', rfl, S1, H1, .cont, hq⟩
  | ret r => exact ⟨h', tk, _, ρ', σ', rfl, S1, H1, .ret r, hq⟩
theorem sound_set {x : Str} {e : Expr} {pos' pos : Pos} {t : TE} (he : SoundE g n q sc e t) (hx : sc.names.lookup x = some .local ∨ sc.names.lookup x = some .cell)
    (hs : ∀ env : Env, env.scope = sc → swapsWith e (some (.Name x pos')) pos.line env = pure false) : SoundS g n q sc (.Assign [.Name x pos'] e pos) (tSet x t) := by
  intro A outer env C hsc hf s ρ σ Q X H ht
  have hx' : env.kindOf x = some .local ∨ env.kindOf x = some .cell := by subst hsc; exact hx
  refine wpAny_Assign_Name (stmtE H hf (he A _ env C hsc s ρ σ _ _ H ht) fun v h₁ tk p σ₁ S1 H1 r hq => ?_) (hs env hsc)
  exact store C H1 hx' r fun h' tk' S2 H2 => ⟨h', tk', .next, _, σ₁, rfl, (noOwn S1).trans S2, H2, .next, hq⟩
theorem sound_if {test : Expr} {body orelse : List Stmt} {pos : Pos} {b : TB} {t e : TS} (hb : SoundB g n q sc test b) (h1 : SoundSs g n q sc body t) (h2 : SoundSs g n q sc orelse e) : SoundS g n q sc (.If test body orelse pos) (tIf b t e) := by
  intro A outer env C hsc hf s ρ σ Q X H ht
  refine wpAny_If (stmtB H hf (hb A _ env C hsc s ρ σ _ _ H ht) fun r h₁ tk σ₁ S1 H1 hq => ?_)
  cases r with
  | true => exact wpAny_mono (h1 A outer env C hsc hf { s with heap := h₁, toks := tk } ρ σ₁ Q X H1 (by simpa using hq)) (fun _ _ x => x.up (noOwn S1)) fun _ _ x => x.up (noOwn S1)
  | false => exact wpAny_mono (h2 A outer env C hsc hf { s with heap := h₁, toks := tk } ρ σ₁ Q X H1 (by simpa using hq)) (fun _ _ x => x.up (noOwn S1)) fun _ _ x => x.up (noOwn S1)
theorem sound_ret {e : Expr} {pos : Pos} {t : TE} (he : SoundE g n q sc e t) : SoundS g n q sc (.Return (some e) pos) (tRet t) := by
  intro A outer env C hsc hf s ρ σ Q X H ht
  refine wpAny_Return_some (stmtE H hf (he A _ env C hsc s ρ σ _ _ H ht) fun v h₁ tk p σ₁ S1 H1 r hq => ?_)
  exact ⟨h₁, tk, .ret p, ρ, σ₁, rfl, noOwn S1, H1, .ret r, hq⟩
end
end Mine

set_option autoImplicit false
namespace Mine
open PySem PyProof.Rows

noncomputable def Held (B : Heap) (env : Env) (outer : List Env) (x c : Addr) (h' : Heap) : Prop :=
  B.StaysIn h' ∧ h'.FunFrames B (env :: outer) ∧ B.get? x = none ∧ ∃ a0 L, env.frame = some L ∧ h'.TracedAtW B x (.ref c) a0 (rawInt L)
noncomputable def Flown (B : Heap) (fr : List Env) (x c : Addr) (h' : Heap) : Prop := B.StaysIn h' ∧ h'.FunFrames B fr ∧ B.get? x = none ∧ ∃ a0, h'.TracedW B x (.ref c) a0
theorem Held.fly {B : Heap} {env : Env} {outer : List Env} {x c : Addr} {h' : Heap} (H : Held B env outer x c h') : Fly B (env :: outer) x c h' := by
  obtain ⟨h1, h2, h3, a0, L, h4, h5⟩ := H
  exact ⟨h1, h2, h3, .inr (.inr ⟨a0, L, env, outer, rfl, h4, h5⟩)⟩
theorem Flown.fly {B : Heap} {fr : List Env} {x c : Addr} {h' : Heap} (H : Flown B fr x c h') : Fly B fr x c h' := by
  obtain ⟨h1, h2, h3, h4⟩ := H
  exact ⟨h1, h2, h3, .inr (.inl h4)⟩

section
variable {M : Model} {A : Around} {E : Value → Shared → Prop} {s : Shared} {B : Heap} {env : Env} {outer : List Env} {L x c : Addr} {Q : Unit → Shared → Prop}
theorem Fly.note (hfr : A.frames = some (env :: outer)) (hf : env.frame = some L) (F : Fly B (env :: outer) x c s.heap)
    (k : ∀ h', Held B env outer x c h' → s.heap.UpToSlots h' → Q () { s with heap := h' }) : wpAny M A (noteFrame (.ref x) env) Q E s := by
  obtain ⟨h1, h2, h3, h4⟩ := F
  rcases h4 with ⟨t, o, ho, hc, hd⟩ | ⟨a0, ht⟩ | ⟨a0, L', env', outer', e1, e2, ht⟩
  · unfold noteFrame
    simp only [hf]
    refine wpAny_bind (wpAny_field ho hd (x := .none) rfl ?_)
    rw [if_neg (by decide)]
    refine wpAny_entryW (a0 := .ref t) hfr h2 hf ho h1 h3 hd (by simp) rfl fun h' hN => ?_
    obtain ⟨k1, k2, k3, k4⟩ := hN
    rw [hc] at k3
    exact k h' ⟨k1, k2, h3, _, L, hf, k3⟩ k4
  · refine wpAny_noteFrame_onW hfr h2 hf ht h1 h3 fun h' hN => ?_
    obtain ⟨k1, k2, k3, k4⟩ := hN
    exact k h' ⟨k1, k2, h3, a0, L, hf, k3⟩ k4
  · cases e1
    rw [hf] at e2; cases e2
    exact wpAny_noteFrame_againW hf ht (k s.heap ⟨h1, h2, h3, a0, L, hf, ht⟩ (.refl _))
theorem Held.land (H : Held B env outer x c s.heap) (k : ∀ h', Flown B (env :: outer) x c h' → s.heap.UpToSlots h' → Q () { s with heap := h' }) : wpAny M A (setFlight (.ref x) none) Q E s := by
  obtain ⟨h1, h2, h3, a0, L, hf, ht⟩ := H
  exact wpAny_setFlight_noneW h1 h2 ht fun h' k1 k2 k3 k4 => k h' ⟨k1, k2, h3, a0, k3⟩ fun b o hb hn => ⟨o.slots, k4 b o hb hn⟩
theorem Flown.land {fr : List Env} (H : Flown B fr x c s.heap) (k : ∀ h', Flown B fr x c h' → s.heap.UpToSlots h' → Q () { s with heap := h' }) : wpAny M A (setFlight (.ref x) none) Q E s := by
  obtain ⟨h1, h2, h3, a0, ht⟩ := H
  exact wpAny_setFlight_noneW h1 h2 ht.at fun h' k1 k2 k3 k4 => k h' ⟨k1, k2, h3, a0, k3⟩ fun b o hb hn => ⟨o.slots, k4 b o hb hn⟩
theorem Flown.tail (H : Flown B (env :: outer) x c s.heap) : Flown B outer x c s.heap := by
  obtain ⟨h1, ⟨_, _, h2⟩, h3, h4⟩ := H
  exact ⟨h1, h2, h3, h4⟩
theorem Fly.leave (hfr : A.frames = some (env :: outer)) (hf : env.frame = some L) (F : Fly B (env :: outer) x c s.heap)
    (k : ∀ h', Flown B outer x c h' → s.heap.UpToSlots h' → Q () { s with heap := h' }) : wpAny M A (leaving env (.ref x)) Q E s := by
  unfold leaving
  refine wpAny_bind (F.note hfr hf fun h' H1 u1 => ?_)
  exact Held.land (s := { s with heap := h' }) H1 fun h'' H2 u2 => k h'' (Flown.tail (s := { s with heap := h'' }) H2) (u1.trans u2)
theorem Held.back {E : Value → Shared → Prop} (H : Held B env outer x c s.heap) (k : ∀ h', Held B env outer x c h' → s.heap.UpToSlots h' → E (.ref x) { s with heap := h' }) : cameBackBy M A env E (.ref x) s := by
  obtain ⟨hkb, hl, hen, a0, L, hf, oe, vs, T, oT, ts, he, hcls, hd, h1, hnT, hTe, hT, hdT, h3⟩ := H
  have hsz3 : 3 < ts.size := (Array.getElem?_eq_some_iff.mp h3).1
  have other : ∀ b, b ≠ T → (s.heap.update T (Obj.mapFields (·.setIfInBounds 3 ((some L).elim Value.none fun f => rawInt f)))).get? b = s.heap.get? b :=
    fun b hb => Heap.get?_update_other _ _ (Ne.symm hb)
  have noRecord : ∀ b o, s.heap.get? b = some o → (∀ vs, o.data ≠ .fields vs) → b ≠ T := fun b o hb hnf q => by
    rw [q, hT] at hb; injection hb with hb; subst hb; exact hnf ts hdT
  unfold cameBackBy
  refine wpAny_bind (wpAny_field he hd h1 ?_)
  rw [if_neg (show ¬ ((Value.ref T == Value.none) = true) from by simp), hf]
  unfold setFlight
  refine wpAny_bind (wpAny_field he hd h1 ?_)
  rw [if_pos (show (Value.ref T != Value.none) = true from by simp)]
  refine wpAny_setField hT hdT hsz3 (k _ ⟨fun b o hbo => (other b fun q => by rw [q, hnT] at hbo; cases hbo).trans (hkb b o hbo),
    hl.of_keeps fun b o hb hnf => ⟨o, (other b (noRecord b o hb hnf)).trans hb, rfl⟩, hen, a0, L, hf, ?_⟩ fun b o hb hnf => ⟨o.slots, (other b (noRecord b o hb hnf)).trans hb⟩)
  exact ⟨oe, vs, T, _, _, (other x (Ne.symm hTe)).trans he, hcls, hd, h1, hnT, hTe, Heap.get?_update_self _ hT (Obj.isFreed_of_fields (Obj.data_mapFields hdT _)), Obj.data_mapFields hdT _, by simp [hsz3]⟩
end

theorem ExcB.turn {g : Gx} {fr : List Env} {own : Addr → Prop} {σ σ' : Sto} {h B h' h'' : Heap} {x c : Addr} (e : ExcB g fr own σ h σ' B h' x c) (u : h'.UpToSlots h'') (F : Fly B fr x c h'') : ExcB g fr own σ h σ' B h'' x c :=
  { e with
    frame := fun b o e1 n1 n2 => by
      obtain ⟨sl, h1⟩ := e.frame b o e1 n1 n2
      obtain ⟨o', es, n, h2, h3⟩ := e.dicts b n1
      rw [h1] at h2; cases h2
      obtain ⟨sl2, h4⟩ := u b _ h1 (fun vs q => by rw [h3] at q; cases q)
      exact ⟨sl2, h4⟩
    dicts := fun b n1 => by
      obtain ⟨o', es, n, h2, h3⟩ := e.dicts b n1
      obtain ⟨sl2, h4⟩ := u b _ h2 (fun vs q => by rw [h3] at q; cases q)
      exact ⟨_, es, n, h4, h3⟩
    fly := F }
theorem Loc.turn {base B h' h'' : Heap} {env : Env} {ρ : Env'} (l : Loc base B h' env ρ) (u : h'.UpToSlots h'') : Loc base B h'' env ρ :=
  ⟨let ⟨m, h1, h2⟩ := l.ns; ⟨m, u.ns h1, h2⟩, l.cell⟩

noncomputable abbrev TF := List PV → Sto → (PV → Sto → Prop) → (Addr → Sto → Prop) → Prop
noncomputable def SoundF (g : Gx) (n : Nat) (q : Bool) (f : Addr) (T : TF) : Prop :=
  ∀ (A : Around) (fr : List Env) (s : Shared) (vals : List Value) (ps : List PV) (σ : Sto) (Q : PV → Sto → Prop) (X : Addr → Sto → Prop), A.frames = some fr → Room n A → (q = true → A.handled = none) →
    Hp g.base fr σ s.heap → Reps g.base s.heap vals ps → T ps σ Q X → wpAny g.M A (call (.ref f) vals) (PostE g fr σ s Q) (PostX g fr σ s X) s

noncomputable def SoundFc (g : Gx) (n : Nat) (q : Bool) (f : Addr) (T : TF) : Prop :=
  ∀ (A : Around) (fr : List Env) (s : Shared) (vals : List Value) (ps : List PV) (σ : Sto) (Q : PV → Sto → Prop) (X : Addr → Sto → Prop), A.frames = some fr → Room n A → (q = true → A.handled = none) →
    Hp g.base fr σ s.heap → Reps g.base s.heap vals ps → T ps σ Q X → codeAny g.M A (.call (.ref f) ⟨vals, []⟩) (fun r s' => match r with | .ok (.ret v) => PostE g fr σ s Q v s' | .ok _ => False | .error e => PostX g fr σ s X e s') s
theorem SoundFc.call {g : Gx} {n : Nat} {q : Bool} {f : Addr} {T : TF} (h : SoundFc g n q f T) : SoundF g n q f T := fun A fr s vals ps σ Q X h1 h2 h3 h4 h5 h6 => wpAny_call (h A fr s vals ps σ Q X h1 h2 h3 h4 h5 h6)

noncomputable def bindP : List Str → List PV → Env' → Env'
  | x :: xs, p :: ps, ρ => bindP xs ps (setL ρ x p)
  | _, _, ρ => ρ
noncomputable def tFun (names : List Str) (tb : TS) : TF := fun ps σ Q X => ps.length = names.length ∧ tb (bindP names ps fun _ => none) σ (fun fl _ σ' => match fl with
  | .ret p => Q p σ'
  | .next => Q .none σ'
  | _ => False) (fun c _ σ' => X c σ')

theorem bindP_rep {base h : Heap} {kindOf : Str → Option NameKind} : ∀ (names : List Str) (vals : List Value) (ps : List PV) (ρ : Env') (m cm : Str → Option Value), Reps base h vals ps →
    (∀ x ∈ names, kindOf x = some .local ∨ kindOf x = some .cell) →
    (∀ x p, ρ x = some p → (kindOf x = some .local → ∃ v, m x = some v ∧ Rep base h v p) ∧ (kindOf x = some .cell → ∃ v, cm x = some v ∧ Rep base h v p)) →
    ∀ x p, bindP names ps ρ x = some p → (kindOf x = some .local → ∃ v, bindL kindOf (names.zip vals) m x = some v ∧ Rep base h v p) ∧ (kindOf x = some .cell → ∃ v, bindC kindOf (names.zip vals) cm x = some v ∧ Rep base h v p)
  | [], vals, ps, ρ, m, cm, _, _, inv, x, p, e => inv x p e
  | y :: ys, [], ps, ρ, m, cm, r, _, inv, x, p, e => by cases r; exact inv x p e
  | y :: ys, v :: vs, ps, ρ, m, cm, r, hk, inv, x, p, e => by
    cases r with
    | cons a r =>
      rename_i p₀ ps
      rw [List.zip_cons_cons]
      unfold bindL bindC
      refine bindP_rep ys vs ps (setL ρ y p₀) _ _ r (fun z hz => hk z (.tail _ hz)) (fun z pz ez => ?_) x p e
      unfold setL at ez
      by_cases hz : z = y
      · subst hz
        rw [if_pos rfl] at ez; cases ez
        refine ⟨fun kl => ⟨v, by rw [if_pos kl, if_pos rfl], a⟩, fun kc => ⟨v, by rw [if_neg (by rw [kc]; decide), if_pos rfl], a⟩⟩
      · rw [if_neg hz] at ez
        obtain ⟨i1, i2⟩ := inv z pz ez
        refine ⟨fun kl => ?_, fun kc => ?_⟩
        · obtain ⟨w, h1, h2⟩ := i1 kl
          refine ⟨w, ?_, h2⟩
          split
          · show (if z = y then _ else _) = _; rw [if_neg hz]; exact h1
          · exact h1
        · obtain ⟨w, h1, h2⟩ := i2 kc
          refine ⟨w, ?_, h2⟩
          split
          · exact h1
          · show (if z = y then _ else _) = _; rw [if_neg hz]; exact h1

theorem frs_cons {env : Env} {outer : List Env} {L : Addr} (h : env.frame = some L) : frs (env :: outer) = L :: frs outer := by
  unfold frs; rw [List.filterMap_cons, h]

theorem fresh_size {h : Heap} {b : Addr} (hb : h.objs.size ≤ b) : h.get? b = none := by
  cases q : h.get? b with
  | none => rfl
  | some o => exact absurd (Heap.lt_size q) (Nat.not_lt.mpr hb)

theorem sound_fun {g : Gx} {n : Nat} {q : Bool} {f : Addr} {o : Obj} {fd : FuncData} {body : List Stmt} {names : List Str} {tb : TS} (ho : g.base.get? f = some o) (hd : o.data = .func fd) (hb : fd.body = .stmts body) (hcl : fd.closure = [])
    (hcd : g.base.CodeRec fd.code fd.qualname) (hgl : fd.globals = mainGlobals) (hbu : fd.builtins = builtinsNs)
    (hbind : ∀ vals : List Value, vals.length = names.length → bindArgs fd ⟨vals, []⟩ = pure (names.zip vals))
    (hk1 : ∀ x ∈ names, fd.scope.names.lookup x = some .local ∨ fd.scope.names.lookup x = some .cell)
    (hk2 : ∀ (L : Nat) (x : Str), fd.scope.names.lookup x = some .cell → ((cellsFrom L fd.scope.names []).lookup x).isSome = true)
    (hco : fd.scope.isCoroutine = false) (hgen : fd.scope.isGenerator = false) (hk : fd.scope.kind = .function)
    (hbody : SoundSs g n q fd.scope body tb) : SoundFc g (n + 1) q f (tFun names tb) := by
  intro A fr s vals ps σ Q X hfr hroom hqu H R ht
  obtain ⟨hlen, ht⟩ := ht
  have hlen' : vals.length = names.length := R.length.trans hlen
  refine codeAny_call_cells hroom.lt (H.stays _ _ ho) hd (g.nolimit.keeps H.stays) (hcd.keeps H.stays) hb (hbind vals hlen') hcl (fun x hx => ?_) (fun s₁ I => ?_) hco hgen hk
  · have hm : x.1 ∈ names := (List.of_mem_zip hx).1
    rcases hk1 _ hm with k | k
    · exact .inl k
    · exact .inr ⟨k, hk2 _ _ k⟩
  obtain ⟨⟨⟨h₁, tk₁, rfl⟩, hns, hkeep, hfresh⟩, hcell, hap, hab⟩ := I
  generalize hE : callEnvC fd s.heap.objs.size f = env' at *
  have e1 : env'.locals = s.heap.objs.size := by subst hE; rfl
  have e2 : env'.frame = some env'.locals := by subst hE; rfl
  have e3 : env'.scope = fd.scope := by subst hE; rfl
  have e4 : env'.cells = cellsFrom (s.heap.objs.size + 1) fd.scope.names [] := by subst hE; rfl
  have e5 : env'.globals = mainGlobals := by subst hE; exact hgl
  have e6 : env'.builtins = builtinsNs := by subst hE; exact hbu
  have hLb : g.base.get? env'.locals = none := by rw [e1]; exact H.stays.fresh
  have cge : ∀ y c, env'.cells.lookup y = some c → s.heap.objs.size < c := fun y c hc => by have := hab y c (mem_of_lookup hc); rw [e1] at this; exact this
  have hcb : ∀ y c, env'.cells.lookup y = some c → g.base.get? c = none := fun y c hc => by
    have := cge y c hc
    cases z : g.base.get? c with
    | none => rfl
    | some o' => exact absurd (Heap.lt_size (H.stays c o' z)) (Nat.not_lt.mpr (Nat.le_of_lt this))
  have C' : Cx g n q (A.deeper env') (env' :: fr) env' := ⟨Around.frames_deeper hfr, hroom.deeper, hqu, by rw [e3]; exact hk, e5, e6,
    fun y z c h1 h2 => name_of_addr hap (mem_of_lookup h1) (mem_of_lookup h2), hLb, hcb⟩
  have hlt : ∀ b o, s.heap.get? b = some o → b ≠ env'.locals := fun b o e z => by
    have := Heap.lt_size e; rw [z, e1] at this; exact Nat.lt_irrefl _ this
  have hno : ∀ b o, s.heap.get? b = some o → ¬ owned env' b := fun b o e hm => by
    rcases hm with z | ⟨y, _, h1⟩
    · exact hlt b o e z
    · exact absurd (Heap.lt_size e) (Nat.not_lt.mpr (Nat.le_of_lt (cge y b h1)))
  have S1 : Sim g.base h₁ σ := fun a ao e => by
    have := H.sim a ao e
    cases ao with
    | list xs => obtain ⟨vs, ⟨m, h1⟩, r⟩ := this; exact ⟨vs, ⟨m, hkeep _ _ h1⟩, r.keeps hkeep⟩
    | raw o' => exact ⟨hkeep _ _ this.1, this.2⟩
  have dl : ∀ a, σ a ≠ none → ∃ o', s.heap.get? a = some o' := fun a hz => by
    cases z : σ a with
    | none => exact absurd z hz
    | some ao =>
      have := H.sim a ao z
      cases ao with
      | list xs => obtain ⟨vs, ⟨m, h1⟩, r⟩ := this; exact ⟨_, h1⟩
      | raw o' => exact ⟨o', this.1⟩
  have hfrs := frs_cons (outer := fr) e2
  have Hp1 : Hp g.base (env' :: fr) σ h₁ := ⟨fun b o' e => hkeep _ _ (H.stays _ _ e),
    Heap.FunFrames.cons (by rw [e3, hk]; decide) e2 hns hLb (H.frames.of_keeps fun b o' e _ => ⟨o', hkeep _ _ e, rfl⟩), S1,
    fun a hz => ⟨(H.fresh a hz).1, by
      rw [hfrs]
      intro hm
      rcases List.mem_cons.mp hm with z | hm
      · obtain ⟨o', h1⟩ := dl a hz; exact hlt a o' h1 z
      · exact (H.fresh a hz).2 hm⟩,
    fun b hm => by
      rw [hfrs] at hm
      rcases List.mem_cons.mp hm with z | hm
      · subst z; obtain ⟨o', es, ep, h1, h2, _⟩ := hns; exact ⟨o', es, ep, h1, h2⟩
      · obtain ⟨o', es, ep, h1, h2⟩ := H.dicts b hm; exact ⟨o', es, ep, hkeep _ _ h1, h2⟩⟩
  have nl1 : σ env'.locals = none := by
    cases z : σ env'.locals with
    | none => rfl
    | some ao => obtain ⟨o', h1⟩ := dl _ (by rw [z]; simp); exact absurd rfl (hlt _ o' h1)
  have BR := bindP_rep (base := g.base) (h := h₁) (kindOf := env'.kindOf) names vals ps (fun _ => none) (fun _ => none) (fun _ => none) (R.keeps hkeep) (fun x hx => by
    have := hk1 x hx
    unfold Env.kindOf; rw [e3]; exact this) (fun x p e => by cases e)
  have L1 : Loc g.base h₁ h₁ env' (bindP names ps fun _ => none) := ⟨⟨_, hns, fun x p e k => (BR x p e).1 k⟩, fun x k => by
    have k' : fd.scope.names.lookup x = some .cell := by rw [← e3]; exact k
    have := hk2 (s.heap.objs.size + 1) x k'
    rw [← e4] at this
    obtain ⟨c, hc⟩ := Option.isSome_iff_exists.mp this
    exact ⟨c, _, hc, hcell x c hc, fun p e => (BR x p e).2 k⟩⟩
  have St1 : St g (env' :: fr) env' (bindP names ps fun _ => none) σ h₁ := ⟨Hp1, L1, nl1⟩
  have res := hbody (A.deeper env') fr env' C' e3 e2 { s with heap := h₁, toks := tk₁ } _ σ _ _ St1 ht
  have notfr : ∀ b o', s.heap.get? b = some o' → (b ∈ frs (env' :: fr) ↔ b ∈ frs fr) := fun b o' e => by
    rw [hfrs]
    constructor
    · intro hm
      rcases List.mem_cons.mp hm with z | hm
      · exact absurd z (hlt b o' e)
      · exact hm
    · exact fun hm => .tail _ hm
  refine wpAny_mono res (fun fl s' hp => ?_) fun v s' hp => ?_
  · obtain ⟨h', tk, fl', ρ', σ', rfl, S2, H2, r, hq⟩ := hp
    have S3 : Step fr nobody σ s.heap σ' h' := ⟨fun b o' e n1 _ n3 => S2.other b o' (hkeep _ _ e) (fun m => n1 ((notfr b o' e).mp m)) (hno b o' e) n3,
      fun b o' e n1 _ => S2.frame b o' (hkeep _ _ e) ((notfr b o' e).mpr n1) (hno b o' e), fun b o' e _ => S2.live b o' (hkeep _ _ e) (hno b o' e),
      fun a n1 _ n3 => by
        cases z : s.heap.get? a with
        | none => exact absurd z n3
        | some o' => exact S2.new a n1 (hno a o' z) (by show h₁.get? a ≠ none; rw [hkeep _ _ z]; simp), S2.dom⟩
    cases r with
    | ret r => exact ⟨h', tk, _, σ', rfl, S3, H2.hp.sim, r, hq⟩
    | next => exact ⟨h', tk, .none, σ', rfl, S3, H2.hp.sim, .none, hq⟩
    | brk => exact hq.elim
    | cont => exact hq.elim
  · obtain ⟨h', tk, x, c, ρ', σ', B, rfl, rfl, e, l, hx⟩ := hp
    refine Fly.leave (s := { s with heap := h', toks := tk }) (Around.frames_deeper hfr) e2 e.fly fun h'' F u => ?_
    refine ⟨h'', tk, x, c, σ', B, rfl, rfl, ⟨fun b o' e1 n1 _ n3 => e.other b o' (hkeep _ _ e1) (fun m => n1 ((notfr b o' e1).mp m)) (hno b o' e1) n3, fun b o' e1 n1 _ => ?_, e.sim, fun a n1 _ n3 => ?_, e.dom, e.stays,
      fun b m => e.nofr b (by rw [hfrs]; exact .tail _ m), fun b m => ?_, F.fly⟩, hx⟩
    · obtain ⟨sl, h1⟩ := e.frame b o' (hkeep _ _ e1) ((notfr b o' e1).mpr n1) (hno b o' e1)
      obtain ⟨o2, es, ep, h2, h3⟩ := e.dicts b ((notfr b o' e1).mpr n1)
      rw [h1] at h2; cases h2
      obtain ⟨sl2, h4⟩ := u b _ h1 (fun vs z => by rw [h3] at z; cases z)
      exact ⟨sl2, h4⟩
    · cases z : s.heap.get? a with
      | none => exact absurd z n3
      | some o' => exact e.new a n1 (hno a o' z) (by show h₁.get? a ≠ none; rw [hkeep _ _ z]; simp)
    · obtain ⟨o2, es, ep, h2, h3⟩ := e.dicts b (by rw [hfrs]; exact .tail _ m)
      obtain ⟨sl2, h4⟩ := u b _ h2 (fun vs z => by rw [h3] at z; cases z)
      exact ⟨_, es, ep, h4, h3⟩
end Mine

set_option autoImplicit false
namespace Mine
open PySem PyProof.Rows

noncomputable def itemsOf (σ : Sto) : PV → Option (List PV)
  | .ref a => match σ a with
    | some (.list xs) => some xs
    | _ => none
  | .tup xs => some xs
  | .lst _ ns => some (ns.map .int)
  | .rng lo hi => some ((List.range (hi - lo).toNat).map fun k => .int (lo + (k : Nat)))
  | _ => none
noncomputable def iterOk : PV → Prop
  | .rng lo hi => -(2 ^ 62) ≤ lo ∧ lo < 2 ^ 62 ∧ -(2 ^ 62) ≤ hi ∧ hi < 2 ^ 62
  | _ => True

noncomputable def NR (p : PV) : Prop := match p with
  | .rng _ _ => False
  | _ => True
noncomputable def IterAt (base h : Heap) (I : Addr) : PV → Nat → Prop
  | .ref a, k => h.IsListIter I a k
  | .lst a _, k => h.IsListIter I a k
  | .tup xs, k => ∃ (t : Addr) (vs : List Value), h.IsTupleIter I t k ∧ h.IsTuple t vs.toArray ∧ Reps base h vs xs
  | .rng lo hi, k => IsRangeIter h I (lo + (k : Int)) (((hi - lo).toNat : Int) - (k : Int)) 1
  | _, _ => False

/-- an iterator's object: a record of no class that Rep leans on -/
noncomputable def IterObj (o : Obj) : Prop := (∃ vs, o.data = .fields vs) ∧ (o.cls = .type "list_iterator" ∨ o.cls = .type "tuple_iterator" ∨ o.cls = .type "range_iterator")
theorem IterObj.notFirm {o : Obj} (i : IterObj o) : ¬ Firm o := by
  obtain ⟨⟨vs, hd⟩, hc⟩ := i
  rintro (⟨ws, _, q | ⟨c, q⟩⟩ | ⟨q, xs, n, q'⟩)
  · rcases hc with hc | hc | hc <;> rw [hc] at q <;> injection q with q <;> exact absurd q (by decide)
  · rcases hc with hc | hc | hc <;> rw [hc] at q <;> cases q
  · rw [hd] at q'; cases q'
theorem IterAt.obj {base h : Heap} {I : Addr} {p : PV} {k : Nat} (i : IterAt base h I p k) : ∃ o, h.get? I = some o ∧ IterObj o := by
  cases p with
  | ref a => obtain ⟨o, h1, h2, h3⟩ := i; exact ⟨o, h1, ⟨_, h3⟩, .inl h2⟩
  | lst a ns => obtain ⟨o, h1, h2, h3⟩ := i; exact ⟨o, h1, ⟨_, h3⟩, .inl h2⟩
  | tup xs => obtain ⟨t, vs, ⟨o, h1, h2, h3⟩, _⟩ := i; exact ⟨o, h1, ⟨_, h3⟩, .inr (.inl h2)⟩
  | rng lo hi => exact ⟨_, i, ⟨_, rfl⟩, .inr (.inr rfl)⟩
  | _ => exact i.elim
theorem IterAt.keep {base h h' : Heap} {I : Addr} {p : PV} {k : Nat} (i : IterAt base h I p k) (hI : ∀ o, h.get? I = some o → h'.get? I = some o) (hf : ∀ b o, h.get? b = some o → Firm o → h'.get? b = some o) : IterAt base h' I p k := by
  cases p with
  | ref a => obtain ⟨o, h1, h2⟩ := i; exact ⟨o, hI o h1, h2⟩
  | lst a ns => obtain ⟨o, h1, h2⟩ := i; exact ⟨o, hI o h1, h2⟩
  | tup xs => obtain ⟨t, vs, ⟨o, h1, h2⟩, ⟨o', h3, h4, n, h5⟩, r⟩ := i; exact ⟨t, vs, ⟨o, hI o h1, h2⟩, ⟨o', hf _ _ h3 (.inr ⟨h4, _, _, h5⟩), h4, n, h5⟩, r.mono hf⟩
  | rng lo hi => exact hI _ i
  | _ => exact i.elim

theorem lst_items {base h : Heap} : ∀ {vs : List Value} {ns : List Int}, vs.map (fun v => match v with | Value.int i _ => some i | _ => Option.none) = ns.map some → Reps base h vs (ns.map .int)
  | [], [], _ => .nil
  | [], n :: ns, e => by simp at e
  | v :: vs, [], e => by simp at e
  | v :: vs, n :: ns, e => by
    simp only [List.map_cons, List.cons.injEq] at e
    obtain ⟨e1, e2⟩ := e
    refine .cons ?_ (lst_items e2)
    cases v with
    | int i t => simp at e1; subst e1; exact .int _ _
    | _ => simp at e1

noncomputable def LR (p : PV) : Prop := match p with
  | .ref _ => True
  | .lst _ _ => True
  | _ => False
theorem list_of {base h : Heap} {fr : List Env} {σ : Sto} {v : Value} {p : PV} {xs : List PV} (H : Hp base fr σ h) (r : Rep base h v p) (hi : itemsOf σ p = some xs) (hn : LR p) : ∃ l, v = .ref l ∧ ∃ vs : List Value, h.IsList l vs.toArray ∧ Reps base h vs xs := by
  cases p with
  | ref a =>
    obtain rfl := inv_ref r
    cases e : σ a with
    | none => rw [itemsOf, e] at hi; cases hi
    | some ao =>
      rw [itemsOf, e] at hi
      cases ao with
      | raw o => cases hi
      | list ys =>
        cases hi
        obtain ⟨vs, hl, rs⟩ := H.sim a _ e
        exact ⟨a, rfl, vs, hl.isList, rs⟩
  | lst a ns =>
    cases hi
    obtain ⟨rfl, vs, ⟨o, h3, h4⟩, h2⟩ := inv_lst r
    exact ⟨a, rfl, vs, ⟨o, H.stays _ _ h3, h4⟩, lst_items h2⟩
  | _ => exact hn.elim
/-- what has items and is no range is a list or a tuple -/
theorem seq_of {base h : Heap} {fr : List Env} {σ : Sto} {v : Value} {p : PV} {xs : List PV} (H : Hp base fr σ h) (r : Rep base h v p) (hi : itemsOf σ p = some xs) (hn : NR p) : ∃ l, v = .ref l ∧ ∃ vs : List Value, (h.IsList l vs.toArray ∨ h.IsTuple l vs.toArray) ∧ Reps base h vs xs := by
  have go : LR p → ∃ l, v = .ref l ∧ ∃ vs : List Value, (h.IsList l vs.toArray ∨ h.IsTuple l vs.toArray) ∧ Reps base h vs xs := fun hl => by
    obtain ⟨l, h1, vs, h2, h3⟩ := list_of H r hi hl
    exact ⟨l, h1, vs, .inl h2, h3⟩
  cases p with
  | ref a => exact go trivial
  | lst a ns => exact go trivial
  | tup ys =>
    cases hi
    obtain ⟨a, o, vs, n, rfl, ho, hc, hd, rs⟩ := inv_tup r
    exact ⟨a, rfl, vs, .inr ⟨o, ho, hc, n, hd⟩, rs⟩
  | rng lo hi => exact hn.elim
  | _ => cases hi
section
variable {g : Gx} {A : Around} {E : Value → Shared → Prop} {s : Shared} {fr : List Env} {σ : Sto}

theorem iter_start {v : Value} {p : PV} {xs : List PV} {Q : Value → Shared → Prop} (H : Hp g.base fr σ s.heap) (r : Rep g.base s.heap v p) (hi : itemsOf σ p = some xs) (ok : iterOk p)
    (k : ∀ I h', (∀ b o, s.heap.get? b = some o → h'.get? b = some o) → s.heap.get? I = none → IterAt g.base h' I p 0 → Q (.ref I) { s with heap := h' }) : wpAny g.M A (pyIter v) Q E s := by
  have fresh : s.heap.get? s.heap.objs.size = none := fresh_size (Nat.le_refl _)
  have kp : ∀ (o' : Obj) b o, s.heap.get? b = some o → (s.heap.push o').get? b = some o := fun o' b o e => Heap.get?_push_of_some _ e
  cases p with
  | rng lo hi' =>
    obtain ⟨a, rfl, t1, t2, t3, hr⟩ := inv_rng r
    obtain ⟨o1, o2, o3, o4⟩ := ok
    refine wpAny_pyIter_range hr (small_one o1 o2 o3 o4) (k _ _ (kp _) fresh ?_)
    show IsRangeIter _ _ _ _ _
    have e : Builtin.Range.rangeSize lo hi' 1 = ((hi' - lo).toNat : Int) := by
      have := rangeSize_one (a := lo) (b := hi')
      rw [this]; split <;> omega
    unfold IsRangeIter
    rw [Heap.get?_push_size _ rfl, e]
    simp
  | tup ys =>
    obtain ⟨a, o, vs, n, rfl, ho, hc, hd, rs⟩ := inv_tup r
    exact wpAny_pyIter_tuple ⟨_, ho, hc, _, hd⟩ (k _ _ (kp _) fresh ⟨_, _, ⟨_, Heap.get?_push_size _ rfl, rfl, rfl⟩, ⟨_, kp _ _ _ ho, hc, _, hd⟩, rs.keeps (kp _)⟩)
  | ref a =>
    obtain ⟨l, hv, vs, hl, rs⟩ := list_of H r hi trivial
    obtain rfl := inv_ref r
    cases hv
    exact wpAny_pyIter_list hl (k _ _ (kp _) fresh ⟨_, Heap.get?_push_size _ rfl, rfl, rfl⟩)
  | lst a ns =>
    obtain ⟨l, hv, vs, hl, rs⟩ := list_of H r hi trivial
    obtain ⟨rfl, _⟩ := inv_lst r
    cases hv
    exact wpAny_pyIter_list hl (k _ _ (kp _) fresh ⟨_, Heap.get?_push_size _ rfl, rfl, rfl⟩)
  | _ => cases hi

theorem iter_item {I : Addr} {p x : PV} {k : Nat} {xs : List PV} {Q : Option Value → Shared → Prop} (H : Hp g.base fr σ s.heap) (hr : ∀ a ns, p = .lst a ns → Rep g.base s.heap (.ref a) p) (hi : itemsOf σ p = some xs) (i : IterAt g.base s.heap I p k) (hx : xs[k]? = some x)
    (kk : ∀ v h' tk, Heap.SameBut I s.heap h' → IterAt g.base h' I p (k + 1) → Rep g.base s.heap v x → Q (some v) { s with heap := h', toks := tk }) : wpAny g.M A (pyNext (.ref I)) Q E s := by
  have io := i.obj
  cases p with
  | ref a =>
    obtain ⟨l, hv, vs, hl, rs⟩ := list_of H (.ref a) hi trivial
    cases hv
    obtain ⟨v, hv, rv⟩ := rs.get hx
    exact wpAny_pyNext_list_item i hl (by simpa using hv) fun h' hit' hs' => kk v h' s.toks hs' hit' rv
  | lst a ns =>
    obtain ⟨l, hv, vs, hl, rs⟩ := list_of H (hr a ns rfl) hi trivial
    cases hv
    obtain ⟨v, hv, rv⟩ := rs.get hx
    exact wpAny_pyNext_list_item i hl (by simpa using hv) fun h' hit' hs' => kk v h' s.toks hs' hit' rv
  | tup ys =>
    simp [itemsOf] at hi; subst hi
    obtain ⟨t, vs, h1, h2, rs⟩ := i
    obtain ⟨v, hv, rv⟩ := rs.get hx
    obtain ⟨o, ho, io⟩ := io
    refine wpAny_pyNext_tuple_item h1 h2 (by simpa using hv) fun h' hit' hs' => kk v h' s.toks hs' ⟨t, vs, hit', ?_, ?_⟩ rv
    · obtain ⟨o', h3, h4, n, h5⟩ := h2
      refine ⟨o', (hs'.2 _ ?_).trans h3, h4, n, h5⟩
      rintro rfl
      rw [ho] at h3; cases h3
      exact io.notFirm (.inr ⟨h4, _, _, h5⟩)
    · exact rs.mono fun b o' e f => (hs'.2 _ (by rintro rfl; rw [ho] at e; cases e; exact io.notFirm f)).trans e
  | rng lo hi' =>
    simp [itemsOf] at hi; subst hi
    rw [List.getElem?_map] at hx
    by_cases hk : k < (hi' - lo).toNat
    · rw [List.getElem?_range hk] at hx
      simp at hx; subst hx
      refine wpAny_pyNext_range_item i (by omega) fun h' hit' hs' => kk _ h' _ hs' ?_ (.int _ _)
      show IsRangeIter h' I _ _ _
      have e1 : lo + ((k + 1 : Nat) : Int) = lo + (k : Int) + 1 := by omega
      have e2 : ((hi' - lo).toNat : Int) - ((k + 1 : Nat) : Int) = ((hi' - lo).toNat : Int) - (k : Int) - 1 := by omega
      rw [e1, e2]; exact hit'
    · rw [List.getElem?_eq_none (by simp; omega)] at hx
      simp at hx
  | _ => exact i.elim

theorem iter_end {I : Addr} {p : PV} {k : Nat} {xs : List PV} {Q : Option Value → Shared → Prop} (hh : A.handled = none) (H : Hp g.base fr σ s.heap) (hr : ∀ a ns, p = .lst a ns → Rep g.base s.heap (.ref a) p) (hi : itemsOf σ p = some xs) (i : IterAt g.base s.heap I p k) (hx : xs[k]? = none)
    (kk : ∀ h' tk, Heap.ExtBut I s.heap h' → Q none { s with heap := h', toks := tk }) : wpAny g.M A (pyNext (.ref I)) Q E s := by
  have none_at : ∀ {vs : List Value}, Reps g.base s.heap vs xs → vs.toArray[k]? = none := fun {vs} rs => by
    rw [List.getElem?_eq_none_iff, ← rs.length] at hx
    simpa using hx
  cases p with
  | ref a =>
    obtain ⟨l, hv, vs, hl, rs⟩ := list_of H (.ref a) hi trivial
    cases hv
    exact wpAny_pyNext_list_end hh i hl (none_at rs) fun h' hs' => kk h' s.toks hs'
  | lst a ns =>
    obtain ⟨l, hv, vs, hl, rs⟩ := list_of H (hr a ns rfl) hi trivial
    cases hv
    exact wpAny_pyNext_list_end hh i hl (none_at rs) fun h' hs' => kk h' s.toks hs'
  | tup ys =>
    simp [itemsOf] at hi; subst hi
    obtain ⟨t, vs, h1, h2, rs⟩ := i
    refine wpAny_pyNext_tuple_end hh h1 h2 ?_ fun h' hs' => kk h' s.toks hs'
    rw [List.getElem?_eq_none_iff] at hx
    simp [rs.length]; omega
  | rng lo hi' =>
    simp [itemsOf] at hi; subst hi
    rw [List.getElem?_eq_none_iff] at hx
    simp at hx
    exact wpAny_pyNext_range_end hh i (by omega) fun h' hs' => kk h' s.toks hs'
  | _ => exact i.elim
end
end Mine

set_option autoImplicit false
namespace Mine
open PySem PyProof.Rows

theorem Sim.keepBut {base h h' : Heap} {σ : Sto} {I : Addr} (S : Sim base h σ) (hI : ∀ o, h.get? I = some o → IterObj o) (k : Heap.ExtBut I h h') : Sim base h' σ := fun a ao e => by
  have firm : ∀ b o, h.get? b = some o → Firm o → h'.get? b = some o := fun b o e f => k b o (by rintro rfl; exact (hI o e).notFirm f) e
  have := S a ao e
  cases ao with
  | list xs =>
    obtain ⟨vs, ⟨n, h1⟩, r⟩ := this
    exact ⟨vs, ⟨n, k a _ (by rintro rfl; obtain ⟨⟨ws, q⟩, _⟩ := hI _ h1; cases q) h1⟩, r.mono firm⟩
  | raw o => exact ⟨k a o (by rintro rfl; obtain ⟨⟨ws, q⟩, _⟩ := hI o this.1; rcases this.2 with z | ⟨es, n, z⟩ <;> rw [z] at q <;> cases q) this.1, this.2⟩
theorem Hp.keepBut {base h h' : Heap} {fr : List Env} {σ : Sto} {I : Addr} (H : Hp base fr σ h) (hI : ∀ o, h.get? I = some o → IterObj o) (hb : base.get? I = none) (k : Heap.ExtBut I h h') : Hp base fr σ h' := by
  have nf : ∀ b ∈ frs fr, ∀ o, h.get? b = some o → b ≠ I := fun b m o e z => by
    subst z
    obtain ⟨o', es, n, h1, h2⟩ := H.dicts b m
    rw [e] at h1; cases h1
    obtain ⟨⟨ws, q⟩, _⟩ := hI o e
    rw [h2] at q; cases q
  refine ⟨fun b o e => k b o (by rintro rfl; rw [hb] at e; cases e) (H.stays b o e), funFrames_step H.frames fun b o e d m => ⟨o, k b o (nf b m o e) e, d⟩, H.sim.keepBut hI k, H.fresh, fun b m => ?_⟩
  obtain ⟨o', es, n, h1, h2⟩ := H.dicts b m
  exact ⟨o', es, n, k b o' (nf b m o' h1) h1, h2⟩
theorem St.keepBut {g : Gx} {fr : List Env} {env : Env} {ρ : Env'} {σ : Sto} {h h' : Heap} {I : Addr} (H : St g fr env ρ σ h) (hI : ∀ o, h.get? I = some o → IterObj o) (hb : g.base.get? I = none) (k : Heap.ExtBut I h h') : St g fr env ρ σ h' := by
  have firm : ∀ b o, h.get? b = some o → Firm o → h'.get? b = some o := fun b o e f => k b o (by rintro rfl; exact (hI o e).notFirm f) e
  obtain ⟨hp, ⟨⟨m, hn, hm⟩, hc⟩, nl⟩ := H
  refine ⟨hp.keepBut hI hb k, ⟨⟨m, Ns.up hn fun o e => ⟨o.slots, k _ o ?_ e⟩, fun y p e1 e2 => ?_⟩, fun y e1 => ?_⟩, nl⟩
  · rintro rfl
    obtain ⟨o', es, ep, h1, h2, _⟩ := hn
    rw [e] at h1; cases h1
    obtain ⟨⟨ws, q⟩, _⟩ := hI o e
    rw [h2] at q; cases q
  · obtain ⟨v, h1, h2⟩ := hm y p e1 e2
    exact ⟨v, h1, h2.mono firm⟩
  · obtain ⟨c, ov, h1, ⟨o, h2, h3⟩, h4⟩ := hc y e1
    refine ⟨c, ov, h1, ⟨o, k c o ?_ h2, h3⟩, fun p e2 => ?_⟩
    · rintro rfl
      obtain ⟨⟨ws, q⟩, _⟩ := hI o h2
      rw [h3] at q; cases q
    · obtain ⟨v, h5, h6⟩ := h4 p e2
      exact ⟨v, h5, h6.mono firm⟩
theorem Step.keepBut {fr : List Env} {own : Addr → Prop} {σ σ' : Sto} {h h' h'' : Heap} {I : Addr} (x : Step fr own σ h σ' h') (hI : h.get? I = none) (k : Heap.ExtBut I h' h'') : Step fr own σ h σ' h'' where
  other := fun b o e n1 n2 n3 => k b o (by rintro rfl; rw [hI] at e; cases e) (x.other b o e n1 n2 n3)
  frame := fun b o e n1 n2 => by
    obtain ⟨sl, h1⟩ := x.frame b o e n1 n2
    exact ⟨sl, k b _ (by rintro rfl; rw [hI] at e; cases e) h1⟩
  live := fun b o e n => by
    obtain ⟨o', h1⟩ := x.live b o e n
    exact ⟨o', k b o' (by rintro rfl; rw [hI] at e; cases e) h1⟩
  new := x.new
  dom := x.dom
theorem Step.keeps {fr : List Env} {own : Addr → Prop} {σ : Sto} {h h' : Heap} (k : ∀ b o, h.get? b = some o → h'.get? b = some o) : Step fr own σ h σ h' :=
  ⟨fun b o e _ _ _ => k b o e, fun b o e _ _ => ⟨o.slots, k b o e⟩, fun b o e _ => ⟨o, k b o e⟩, fun _ e _ _ => e, fun _ e => e⟩
theorem Sim.keeps {base h h' : Heap} {σ : Sto} (S : Sim base h σ) (k : ∀ b o, h.get? b = some o → h'.get? b = some o) : Sim base h' σ := fun a ao e => by
  have := S a ao e
  cases ao with
  | list xs => obtain ⟨vs, ⟨n, h1⟩, r⟩ := this; exact ⟨vs, ⟨n, k _ _ h1⟩, r.keeps k⟩
  | raw o => exact ⟨k _ _ this.1, this.2⟩
theorem St.keeps {g : Gx} {fr : List Env} {env : Env} {ρ : Env'} {σ : Sto} {h h' : Heap} (H : St g fr env ρ σ h) (k : ∀ b o, h.get? b = some o → h'.get? b = some o) : St g fr env ρ σ h' := H.step (Step.keeps k) (H.hp.sim.keeps k)

theorem rep_lst {base h h' : Heap} {v : Value} {a : Addr} {ns : List Int} (r : Rep base h v (.lst a ns)) : Rep base h' (.ref a) (.lst a ns) := by
  cases r with | lst h1 h2 => exact .lst h1 h2

/-- an iterator stays while the body runs -/
theorem IterAt.step {g : Gx} {fr : List Env} {env : Env} {ρ : Env'} {σ σ' : Sto} {h h' : Heap} {I : Addr} {p : PV} {k : Nat} (i : IterAt g.base h I p k) (H : St g fr env ρ σ h) (x : Step fr (owned env) σ h σ' h') : IterAt g.base h' I p k := by
  have nown : ∀ b o, h.get? b = some o → (IterObj o ∨ Firm o) → b ∉ frs fr ∧ ¬ owned env b ∧ σ b = none := fun b o e f => by
    refine ⟨fun m => ?_, fun m => ?_, ?_⟩
    · obtain ⟨o', es, n, h1, h2⟩ := H.hp.dicts b m
      rw [e] at h1; cases h1
      rcases f with ⟨⟨ws, q⟩, _⟩ | f
      · rw [h2] at q; cases q
      · exact notFirm_dict h2 f
    · rcases m with z | ⟨y, z1, z2⟩
      · subst z
        obtain ⟨m, ⟨o', es, ep, h1, h2, _⟩, _⟩ := H.loc.ns
        rw [e] at h1; cases h1
        rcases f with ⟨⟨ws, q⟩, _⟩ | f
        · rw [h2] at q; cases q
        · exact notFirm_dict h2 f
      · obtain ⟨c, ov, h1, ⟨o', h2, h3⟩, _⟩ := H.loc.cell y z1
        rw [h1] at z2; cases z2
        rw [e] at h2; cases h2
        rcases f with ⟨⟨ws, q⟩, _⟩ | f
        · rw [h3] at q; cases q
        · exact notFirm_cell h3 f
    · rcases f with f | f
      · cases z : σ b with
        | none => rfl
        | some ao =>
          have := H.hp.sim b ao z
          obtain ⟨⟨ws, q⟩, _⟩ := f
          cases ao with
          | list xs => obtain ⟨vs, ⟨n, h1⟩, _⟩ := this; rw [e] at h1; cases h1; cases q
          | raw o' => obtain ⟨h1, h2⟩ := this; rw [e] at h1; cases h1; rcases h2 with z | ⟨es, n, z⟩ <;> rw [z] at q <;> cases q
      · exact H.hp.sim.not_firm e f
  obtain ⟨o, ho, io⟩ := i.obj
  refine i.keep (fun o' e => ?_) fun b o' e f => ?_
  · rw [ho] at e; cases e
    obtain ⟨n1, n2, n3⟩ := nown I o ho (.inl io)
    exact x.other I o ho n1 n2 n3
  · obtain ⟨n1, n2, n3⟩ := nown b o' e (.inr f)
    exact x.other b o' e n1 n2 n3

noncomputable def forL (x : Str) (tb : TS) (ok : Sto → Prop) : List PV → TS
  | [] => fun ρ σ Q _ => Q .next ρ σ
  | p :: ps => fun ρ σ Q X => tb (setL ρ x p) σ (fun fl ρ' σ' => match fl with
      | .next => ok σ' ∧ forL x tb ok ps ρ' σ' Q X
      | .cont => ok σ' ∧ forL x tb ok ps ρ' σ' Q X
      | .brk => Q .next ρ' σ'
      | .ret v => Q (.ret v) ρ' σ') X
noncomputable def tFor (x : Str) (ti : TE) (tb : TS) : TS := fun ρ σ Q X => ti ρ σ (fun p σ₁ => ∃ xs, itemsOf σ₁ p = some xs ∧ iterOk p ∧ forL x tb (fun σ' => itemsOf σ' p = some xs) xs ρ σ₁ Q X) (fun c σ' => X c ρ σ')

/-- an exception inside a loop's turn: noted here, it comes back at the loop's own statement -/
theorem noted_back {g : Gx} {A : Around} {outer : List Env} {env : Env} {σ : Sto} {s s₁ : Shared} {X : Addr → Env' → Sto → Prop} {v : Value} (hfr : A.frames = some (env :: outer)) (hf : env.frame = some env.locals)
    (p : PostXS g (env :: outer) env σ s X v s₁) : notedBy g.M A env (cameBackBy g.M A env (PostXS g (env :: outer) env σ s X)) v s₁ := by
  obtain ⟨h', tk, x, c, ρ', σ', B, rfl, rfl, e, l, hx⟩ := p
  refine Fly.note (s := { s with heap := h', toks := tk }) hfr hf e.fly fun h₂ H2 u2 => ?_
  refine Held.back (s := { s with heap := h₂, toks := tk }) H2 fun h₃ H3 u3 => ?_
  exact ⟨h₃, tk, x, c, ρ', σ', B, rfl, rfl, e.turn (u2.trans u3) H3.fly, l.turn (u2.trans u3), hx⟩

inductive ForI (g : Gx) (outer : List Env) (env : Env) (s : Shared) (σ₁ : Sto) (h₁ : Heap) (I : Addr) (p : PV) (xs : List PV) (x : Str) (tb : TS) (Q : Fl → Env' → Sto → Prop) (X : Addr → Env' → Sto → Prop) (m : Nat) (s' : Shared) : Prop
  | mk (k : Nat) (h : Heap) (tk' : Nat) (ρ' : Env') (σ' : Sto) : s' = { s with heap := h, toks := tk' } → m = xs.length + 1 - k → k ≤ xs.length → Step (env :: outer) (owned env) σ₁ h₁ σ' h → St g (env :: outer) env ρ' σ' h → IterAt g.base h I p k →
    itemsOf σ' p = some xs → forL x tb (fun σ' => itemsOf σ' p = some xs) (xs.drop k) ρ' σ' Q X → ForI g outer env s σ₁ h₁ I p xs x tb Q X m s'
section
variable {g : Gx} {n : Nat} {sc : Scope}
theorem sound_for {x : Str} {px pos : Pos} {iter : Expr} {body : List Stmt} {ti : TE} {tb : TS} (hi : SoundE g n true sc iter ti) (hb : SoundSs g n true sc body tb) (hx : sc.names.lookup x = some .local ∨ sc.names.lookup x = some .cell)
    (hs : ∀ (env : Env) (v : Value), foldedSetIterable iter env v = pure v) : SoundS g n true sc (.For (.Name x px) iter body [] pos) (tFor x ti tb) := by
  intro A outer env C hsc hf s ρ σ Q X H ht
  have hx' : env.kindOf x = some .local ∨ env.kindOf x = some .cell := by subst hsc; exact hx
  refine wpAny_For (stmtE H hf (hi A _ env C hsc s ρ σ _ _ H ht) fun v h₁ tk p σ₁ S1 H1 r hq => ?_) (hs env)
  obtain ⟨xs, hxs, hok, hl⟩ := hq
  refine iter_start (s := { s with heap := h₁, toks := tk }) H1.hp r hxs hok fun I h₂ hk2 hI i0 => ?_
  have hbI : g.base.get? I = none := by
    cases z : g.base.get? I with
    | none => rfl
    | some o => rw [H1.hp.stays I o z] at hI; cases hI
  have hr : ∀ (h : Heap) a ns, p = .lst a ns → Rep g.base h (.ref a) p := fun h a ns e => by subst e; exact rep_lst r
  refine codeAny_forLoop (ForI g outer env s σ₁ h₁ I p xs x tb Q X) ?_ (xs.length + 1) ⟨0, h₂, tk, ρ, σ₁, rfl, rfl, Nat.zero_le _, Step.keeps hk2, H1.keeps hk2, i0, hxs, by simpa using hl⟩
  rintro m s' ⟨k, h, tk', ρ', σ', rfl, rfl, hle, S, H', i, hit, hL⟩
  have hIo : ∀ o, h.get? I = some o → IterObj o := fun o e => by obtain ⟨o', h1, h2⟩ := i.obj; rw [e] at h1; cases h1; exact h2
  by_cases hk : k < xs.length
  · have hxk : xs[k]? = some xs[k] := List.getElem?_eq_getElem hk
    rw [List.drop_eq_getElem_cons hk] at hL
    refine iter_item (s := { s with heap := h, toks := tk' }) H'.hp (hr h) hit i hxk fun v' h₃ tk₃ hs₃ i₃ rv => ?_
    have H3 := H'.keepBut hIo hbI hs₃.extBut
    have rv3 : Rep g.base h₃ v' xs[k] := rv.mono fun b o e f => (hs₃.2 b (by rintro rfl; exact (hIo o e).notFirm f)).trans e
    have S3 := S.keepBut hI hs₃.extBut
    refine wpAny_assign_Name (store (s := { s with heap := h₃, toks := tk₃ }) C H3 hx' rv3 fun h₄ tk₄ S4 H4 => ?_)
    have i4 := i₃.step H3 S4
    have S04 := S3.trans S4
    refine wpAny_mono (hb A outer env C hsc hf { s with heap := h₄, toks := tk₄ } _ σ' _ X H4 hL) (fun f s₃ hp => ?_) fun e s₃ hp => noted_back C.frames hf (hp.up ((noOwn S1).trans S04))
    obtain ⟨h₅, tk₅, fl, ρ₅, σ₅, rfl, S5, H5, rf, hq⟩ := hp
    have i5 := i4.step H4 S5
    have S05 := S04.trans S5
    have go : itemsOf σ₅ p = some xs ∧ forL x tb (fun σ' => itemsOf σ' p = some xs) (xs.drop (k + 1)) ρ₅ σ₅ Q X → ∃ m, m < xs.length + 1 - k ∧ ForI g outer env s σ₁ h₁ I p xs x tb Q X m { s with heap := h₅, toks := tk₅ } := fun z =>
      ⟨xs.length + 1 - (k + 1), by omega, ⟨k + 1, h₅, tk₅, ρ₅, σ₅, rfl, rfl, hk, S05, H5, i5, z.1, z.2⟩⟩
    cases rf with
    | next => exact go hq
    | cont => exact go hq
    | brk => exact ⟨h₅, tk₅, .next, ρ₅, σ₅, rfl, (noOwn S1).trans S05, H5, .next, hq⟩
    | ret rv => exact ⟨h₅, tk₅, _, ρ₅, σ₅, rfl, (noOwn S1).trans S05, H5, .ret rv, hq⟩
  · have hke : k = xs.length := by omega
    subst hke
    rw [List.drop_length] at hL
    refine iter_end (s := { s with heap := h, toks := tk' }) (C.quiet rfl) H'.hp (hr h) hit i (List.getElem?_eq_none (Nat.le_refl _)) fun h₃ tk₃ hs₃ => ?_
    exact wpAny_execs_nil ⟨h₃, tk₃, .next, ρ', σ', rfl, (noOwn S1).trans (S.keepBut hI hs₃), H'.keepBut hIo hbI hs₃, .next, hL⟩

end
end Mine

set_option autoImplicit false
namespace Mine
open PySem PyProof.Rows

noncomputable def upd (σ : Sto) (a : Addr) (ao : AO) : Sto := fun b => if b = a then some ao else σ b

/-! arithmetic -/
noncomputable def opP (op : Operator) (a b : PV) (σ : Sto) (Q : PV → Sto → Prop) : Prop :=
  match op with
  | .Add => (∃ x y, a = .int x ∧ b = .int y ∧ Q (.int (x + y)) σ) ∨ ∃ x y xs ys, a = .ref x ∧ b = .ref y ∧ σ x = some (.list xs) ∧ σ y = some (.list ys) ∧ (xs ++ ys).length ≤ 1000000 ∧ ∀ c, σ c = none → Q (.ref c) (upd σ c (.list (xs ++ ys)))
  | .Sub => ∃ x y, a = .int x ∧ b = .int y ∧ Q (.int (x - y)) σ
  | .Mult => ∃ x y, a = .int x ∧ b = .int y ∧ ((-(2 ^ 64) < x ∧ x < 2 ^ 64) ∨ (-(2 ^ 64) < y ∧ y < 2 ^ 64)) ∧ Q (.int (x * y)) σ
  | .FloorDiv => ∃ x y, a = .int x ∧ b = .int y ∧ y ≠ 0 ∧ y.natAbs < 1073741824 ∧ Q (.int (x.fdiv y)) σ
  | .Mod => ∃ x y, a = .int x ∧ b = .int y ∧ y ≠ 0 ∧ Q (.int (x.fmod y)) σ
  | .Pow => ∃ x y, a = .int x ∧ b = .int y ∧ 0 ≤ y ∧ y ≤ 1000 ∧ x.natAbs < 2 ^ 64 ∧ Q (.int (x ^ y.toNat)) σ
  | _ => False
noncomputable def tBin (op : Operator) (l r : TE) : TE := fun ρ σ Q X => l ρ σ (fun a σ₁ => r ρ σ₁ (fun b σ₂ => opP op a b σ₂ Q) X) X
noncomputable def tNeg (e : TE) : TE := fun ρ σ Q X => e ρ σ (fun a σ₁ => match a with
  | .int x => Q (.int (-x)) σ₁
  | _ => False) X

/-! data of a value -/
mutual
inductive DataOf (σ : Sto) : PV → PyData → Prop
  | none : DataOf σ .none .none
  | bool (b : Bool) : DataOf σ (.bool b) (.bool b)
  | int (i : Int) : DataOf σ (.int i) (.int i)
  | str (x : Str) : DataOf σ (.str x) (.str x)
  | tup {xs : List PV} {ds : List PyData} : DatasOf σ xs ds → DataOf σ (.tup xs) (.tuple ds)
  | list {a : Addr} {xs : List PV} {ds : List PyData} : σ a = some (.list xs) → DatasOf σ xs ds → DataOf σ (.ref a) (.list ds)
inductive DatasOf (σ : Sto) : List PV → List PyData → Prop
  | nil : DatasOf σ [] []
  | cons {x : PV} {d : PyData} {xs : List PV} {ds : List PyData} : DataOf σ x d → DatasOf σ xs ds → DatasOf σ (x :: xs) (d :: ds)
end

theorem DataOf.reads {base h : Heap} {σ : Sto} (S : Sim base h σ) {p : PV} {d : PyData} (D : DataOf σ p d) : ∀ v, Rep base h v p → ∃ as, Reads h v d as := by
  refine DataOf.rec (motive_1 := fun p d _ => ∀ v, Rep base h v p → ∃ as, Reads h v d as) (motive_2 := fun ps ds _ => ∀ vs, Reps base h vs ps → ∃ as, ReadsAll h vs ds as) ?_ ?_ ?_ ?_ ?_ ?_ ?_ ?_ D
  · intro v r; obtain rfl := inv_none r; exact ⟨_, .none⟩
  · intro b v r; obtain rfl := inv_bool r; exact ⟨_, .bool b⟩
  · intro i v r; obtain ⟨t, rfl⟩ := inv_int r; exact ⟨_, .int _ _⟩
  · intro x v r; obtain ⟨t, rfl⟩ := inv_str r; exact ⟨_, .str _ _⟩
  · intro xs ds _ ih v r
    obtain ⟨a, o, vs, n, rfl, ho, hc, hd, rs⟩ := inv_tup r
    obtain ⟨as, q⟩ := ih vs rs
    exact ⟨_, .tuple ho hc hd q⟩
  · intro a xs ds e _ ih v r
    obtain rfl := inv_ref r
    obtain ⟨vs, ⟨n, ho⟩, rs⟩ := S _ _ e
    obtain ⟨as, q⟩ := ih vs rs
    exact ⟨_, .list ho rfl rfl q⟩
  · intro vs r; cases r; exact ⟨_, .nil⟩
  · intro x d xs ds _ _ ih1 ih2 vs r
    cases r with
    | cons r rs =>
      obtain ⟨bs, q⟩ := ih1 _ r
      obtain ⟨cs, q'⟩ := ih2 _ rs
      exact ⟨_, .cons q q'⟩
theorem DatasOf.reads {base h : Heap} {σ : Sto} (S : Sim base h σ) {ps : List PV} {ds : List PyData} (D : DatasOf σ ps ds) : ∀ vs, Reps base h vs ps → ∃ as, ReadsAll h vs ds as := by
  refine DatasOf.rec (motive_1 := fun p d _ => True) (motive_2 := fun ps ds _ => ∀ vs, Reps base h vs ps → ∃ as, ReadsAll h vs ds as) trivial (fun _ => trivial) (fun _ => trivial) (fun _ => trivial) (fun _ _ => trivial) (fun _ _ _ => trivial) ?_ ?_ D
  · intro vs r; cases r; exact ⟨_, .nil⟩
  · intro x d xs ds h1 _ _ ih2 vs r
    cases r with
    | cons r rs =>
      obtain ⟨bs, q⟩ := h1.reads S _ r
      obtain ⟨cs, q'⟩ := ih2 _ rs
      exact ⟨_, .cons q q'⟩

noncomputable def eqP (σ : Sto) (a b : PV) (k : Bool → Prop) : Prop := (∃ x y, a = .int x ∧ b = .int y ∧ k (decide (x = y))) ∨ (∃ x y, a = .str x ∧ b = .str y ∧ k (decide (x = y))) ∨
  ∃ d e, DataOf σ a d ∧ DataOf σ b e ∧ SeqAt.shaped d = true ∧ SeqAt.shaped e = true ∧ k (PyData.eqv d e)
noncomputable def isNone : PV → Bool
  | .none => true
  | _ => false
noncomputable def inP (σ : Sto) (a b : PV) (k : Bool → Prop) : Prop := ∃ (x : Int) (l : Addr) (ns : List Int), a = .int x ∧ b = .ref l ∧ σ l = some (.list (ns.map .int)) ∧ k (decide (x ∈ ns))
noncomputable def ints2 (a b : PV) (f : Int → Int → Prop) : Prop := ∃ x y, a = .int x ∧ b = .int y ∧ f x y
noncomputable def cmpP (op : CmpOp) (σ : Sto) (a b : PV) (k : Bool → Prop) : Prop := match op with
  | .Lt => ints2 a b fun x y => k (decide (x < y))
  | .LtE => ints2 a b fun x y => k (decide (x ≤ y))
  | .Gt => ints2 a b fun x y => k (decide (x > y))
  | .GtE => ints2 a b fun x y => k (decide (x ≥ y))
  | .Eq => eqP σ a b k
  | .NotEq => eqP σ a b fun r => k (!r)
  | .Is => b = .none ∧ k (isNone a)
  | .IsNot => b = .none ∧ k (!isNone a)
  | .In => inP σ a b k
  | .NotIn => inP σ a b fun r => k (!r)
noncomputable def tCmp (op : CmpOp) (l r : TE) : TE := fun ρ σ Q X => l ρ σ (fun a σ₁ => r ρ σ₁ (fun b σ₂ => cmpP op σ₂ a b fun c => Q (.bool c) σ₂) X) X
noncomputable def tCmpB (op : CmpOp) (l r : TE) : TB := fun ρ σ Q X => l ρ σ (fun a σ₁ => r ρ σ₁ (fun b σ₂ => cmpP op σ₂ a b fun c => Q c σ₂) X) X
noncomputable def tChain (op op' : CmpOp) (l m r : TE) : TE := fun ρ σ Q X => l ρ σ (fun a σ₁ => m ρ σ₁ (fun b σ₂ => cmpP op σ₂ a b fun c => if c = true then r ρ σ₂ (fun d σ₃ => cmpP op' σ₃ b d fun e => Q (.bool e) σ₃) X else Q (.bool false) σ₂) X) X
noncomputable def tChainB (op op' : CmpOp) (l m r : TE) : TB := fun ρ σ Q X => l ρ σ (fun a σ₁ => m ρ σ₁ (fun b σ₂ => cmpP op σ₂ a b fun c => if c = true then r ρ σ₂ (fun d σ₃ => cmpP op' σ₃ b d fun e => Q e σ₃) X else Q false σ₂) X) X

/-- a pure step: nothing is made but tokens -/
theorem pureE {g : Gx} {fr : List Env} {σ σ₁ : Sto} {s : Shared} {h₁ : Heap} {tk' : Nat} {Q : PV → Sto → Prop} {v : Value} {p : PV} (S1 : Step fr nobody σ s.heap σ₁ h₁) (Sm : Sim g.base h₁ σ₁) (r : Rep g.base h₁ v p) (hq : Q p σ₁) : PostE g fr σ s Q v { s with heap := h₁, toks := tk' } :=
  ⟨h₁, tk', p, σ₁, rfl, S1, Sm, r, hq⟩

theorem datas_ints {σ : Sto} : ∀ ns : List Int, DatasOf σ (ns.map .int) (ns.map .int)
  | [] => .nil
  | n :: ns => .cons (.int n) (datas_ints ns)
theorem canLay_ints : ∀ ns : List Int, PyData.canLayAll0 (ns.map PyData.int) = true
  | [] => rfl
  | n :: ns => by simp [PyData.canLayAll0, PyData.canLay0, canLay_ints ns]
theorem depth_ints : ∀ ns : List Int, PyData.depthAll (ns.map PyData.int) = 0
  | [] => rfl
  | n :: ns => by simp [PyData.depthAll, PyData.depth, depth_ints ns]
theorem any_ints (x : Int) : ∀ ns : List Int, ((ns.map PyData.int).any fun y => PyData.eqv y (.int x)) = decide (x ∈ ns)
  | [] => by simp
  | n :: ns => by
    rw [List.map_cons, List.any_cons, any_ints x ns]
    simp only [PyData.eqv, List.mem_cons]
    by_cases h : x = n
    · subst h; simp
    · have : ¬ n = x := fun e => h e.symm
      simp [h, this]

section
variable {g : Gx} {A : Around} {fr : List Env} {s : Shared} {σ : Sto}
theorem rep_isNone {base h : Heap} {v : Value} {p : PV} (r : Rep base h v p) : (isNone p = true ∧ v = .none) ∨ (isNone p = false ∧ v ≠ .none) := by
  cases r <;> first | exact .inl ⟨rfl, rfl⟩ | exact .inr ⟨rfl, by intro z; cases z⟩
theorem beq_dec {α : Type} [DecidableEq α] {x y : α} : (x == y) = decide (x = y) := by by_cases z : x = y <;> simp [z]
theorem eq_any {n : Nat} {u v : Value} {a b : PV} {k : Bool → Prop} {E : Value → Shared → Prop} (hr : Room n A) (Sm : Sim g.base s.heap σ) (ra : Rep g.base s.heap u a) (rb : Rep g.base s.heap v b) (hk : eqP σ a b k) :
    ∃ c, k c ∧ (∀ {Q : Value → Shared → Prop}, Q (.bool c) s → wpAny g.M A (compareOp .Eq u v) Q E s) ∧ (∀ {Q : Value → Shared → Prop}, Q (.bool (!c)) s → wpAny g.M A (compareOp .NotEq u v) Q E s) := by
  have hu : A.units + 64 < cLine := by have := hr.units; omega
  rcases hk with ⟨x, y, rfl, rfl, hk⟩ | ⟨x, y, rfl, rfl, hk⟩ | ⟨d, e, h1, h2, h3, h4, h5⟩
  · obtain ⟨t, rfl⟩ := inv_int ra
    obtain ⟨t', rfl⟩ := inv_int rb
    exact ⟨_, hk, fun {Q} hq => PyProof.Rows.eq_int (by rw [beq_dec]; exact hq), fun {Q} hq => PyProof.Rows.ne_int (by show Q (.bool (!(x == y))) s; rw [beq_dec]; exact hq)⟩
  · obtain ⟨t, rfl⟩ := inv_str ra
    obtain ⟨t', rfl⟩ := inv_str rb
    exact ⟨_, hk, fun {Q} hq => PyProof.Rows.eq_str (by rw [beq_dec]; exact hq), fun {Q} hq => PyProof.Rows.ne_str (by show Q (.bool (!(x == y))) s; rw [beq_dec]; exact hq)⟩
  · obtain ⟨as, q1⟩ := h1.reads Sm _ ra
    obtain ⟨bs, q2⟩ := h2.reads Sm _ rb
    exact ⟨_, h5, fun hq => eq_dataH q1 q2 h3 h4 hu hq, fun hq => ne_dataH q1 q2 h3 h4 hu hq⟩
theorem in_any {n : Nat} {u v : Value} {a b : PV} {k : Bool → Prop} {E : Value → Shared → Prop} (hr : Room n A) (Sm : Sim g.base s.heap σ) (ra : Rep g.base s.heap u a) (rb : Rep g.base s.heap v b) (hk : inP σ a b k) :
    ∃ c, k c ∧ (∀ {Q : Value → Shared → Prop}, Q (.bool c) s → wpAny g.M A (compareOp .In u v) Q E s) ∧ (∀ {Q : Value → Shared → Prop}, Q (.bool (!c)) s → wpAny g.M A (compareOp .NotIn u v) Q E s) := by
  obtain ⟨x, l, ns, rfl, rfl, h1, h2⟩ := hk
  obtain ⟨t, rfl⟩ := inv_int ra
  obtain rfl := inv_ref rb
  obtain ⟨vs, ⟨m, h3⟩, rs⟩ := Sm _ _ h1
  obtain ⟨as, q⟩ := DatasOf.reads Sm (datas_ints ns) _ rs
  have hun : A.units + 1 + min (PyData.depthAll (ns.map PyData.int)) (PyData.int x).depth < cLine := by
    have := hr.units
    rw [depth_ints]; simp; omega
  exact ⟨_, h2, fun hq => SeqAt.in_list_reads (.list h3 rfl rfl (by simpa using q)) (.int x t) (canLay_ints ns) rfl hun (by rw [any_ints]; exact hq),
    fun hq => SeqAt.notIn_list_reads (.list h3 rfl rfl (by simpa using q)) (.int x t) (canLay_ints ns) rfl hun (by rw [any_ints]; exact hq)⟩
theorem two_any {u v : Value} {a b : PV} {f : Int → Int → Prop} {P : Value → Value → Prop} (ra : Rep g.base s.heap u a) (rb : Rep g.base s.heap v b) (hk : ints2 a b f) (h : ∀ x y t t', f x y → P (.int x t) (.int y t')) : P u v := by
  obtain ⟨x, y, rfl, rfl, hk⟩ := hk
  obtain ⟨t, rfl⟩ := inv_int ra
  obtain ⟨t', rfl⟩ := inv_int rb
  exact h _ _ _ _ hk
/-- comparing two values -/
theorem cmp_any {n : Nat} {op : CmpOp} {u v : Value} {a b : PV} {k : Bool → Prop} {Q : Value → Shared → Prop} {E : Value → Shared → Prop} (hr : Room n A) (Sm : Sim g.base s.heap σ) (ra : Rep g.base s.heap u a) (rb : Rep g.base s.heap v b) (hk : cmpP op σ a b k) (hQ : ∀ c, k c → Q (.bool c) s) :
    wpAny g.M A (compareOp op u v) Q E s := by
  cases op with
  | Lt => exact two_any (P := fun u v => wpAny g.M A (compareOp .Lt u v) Q E s) ra rb hk fun x y t t' h => PyProof.Rows.lt_int (hQ _ h)
  | LtE => exact two_any (P := fun u v => wpAny g.M A (compareOp .LtE u v) Q E s) ra rb hk fun x y t t' h => PyProof.Rows.le_int (hQ _ h)
  | Gt => exact two_any (P := fun u v => wpAny g.M A (compareOp .Gt u v) Q E s) ra rb hk fun x y t t' h => PyProof.Rows.gt_int (hQ _ h)
  | GtE => exact two_any (P := fun u v => wpAny g.M A (compareOp .GtE u v) Q E s) ra rb hk fun x y t t' h => PyProof.Rows.ge_int (hQ _ h)
  | Eq => obtain ⟨c, h1, h2, _⟩ := eq_any hr Sm ra rb hk; exact h2 (hQ _ h1)
  | NotEq => obtain ⟨c, h1, _, h2⟩ := eq_any (k := fun r => k (!r)) hr Sm ra rb hk; exact h2 (hQ _ h1)
  | Is =>
    obtain ⟨rfl, hk⟩ := hk
    obtain rfl := inv_none rb
    rcases rep_isNone ra with ⟨h1, rfl⟩ | ⟨h1, h2⟩
    · rw [h1] at hk; exact is_none_none (hQ _ hk)
    · rw [h1] at hk; exact is_none_ne h2 (hQ _ hk)
  | IsNot =>
    obtain ⟨rfl, hk⟩ := hk
    obtain rfl := inv_none rb
    rcases rep_isNone ra with ⟨h1, rfl⟩ | ⟨h1, h2⟩
    · rw [h1] at hk; exact isnot_none_none (hQ _ hk)
    · rw [h1] at hk; exact isnot_none_ne h2 (hQ _ hk)
  | In => obtain ⟨c, h1, h2, _⟩ := in_any hr Sm ra rb hk; exact h2 (hQ _ h1)
  | NotIn => obtain ⟨c, h1, _, h2⟩ := in_any (k := fun r => k (!r)) hr Sm ra rb hk; exact h2 (hQ _ h1)
end
end Mine

set_option autoImplicit false
set_option linter.unusedVariables false
namespace Mine
open PySem PyProof.Rows PySem.Calls

theorem addList {base h h' : Heap} {fr : List Env} {own : Addr → Prop} {σ : Sto} {c : Addr} {vs : List Value} {xs : List PV} (S : Sim base h σ) (k : ∀ b o, h.get? b = some o → h'.get? b = some o) (hc : h.get? c = none) (hl : h'.PlainList c vs.toArray) (r : Reps base h' vs xs) :
    σ c = none ∧ Step fr own σ h (upd σ c (.list xs)) h' ∧ Sim base h' (upd σ c (.list xs)) := by
  have hσ : σ c = none := by
    cases z : σ c with
    | none => rfl
    | some ao =>
      have := S c ao z
      cases ao with
      | list xs => obtain ⟨vs, ⟨m, h1⟩, _⟩ := this; rw [hc] at h1; cases h1
      | raw o => rw [hc] at this; cases this.1
  refine ⟨hσ, ⟨fun b o e _ _ _ => k b o e, fun b o e _ _ => ⟨o.slots, k b o e⟩, fun b o e _ => ⟨o, k b o e⟩, fun a e _ n => ?_, fun a e => ?_⟩, fun a ao e => ?_⟩
  · unfold upd
    rw [if_neg (by rintro rfl; exact n hc)]; exact e
  · unfold upd
    split
    · simp
    · exact e
  · unfold upd at e
    split at e
    · rename_i q; subst q; cases e; exact ⟨vs, hl, r⟩
    · exact S.keeps k a ao e

theorem newList_any {g : Gx} {A : Around} {fr : List Env} {s : Shared} {σ : Sto} {vs : List Value} {xs : List PV} {Q : Value → Shared → Prop} {E : Value → Shared → Prop} (Sm : Sim g.base s.heap σ) (r : Reps g.base s.heap vs xs) (hsz : vs.length ≤ sizeLine)
    (k : ∀ c h', σ c = none → Step fr nobody σ s.heap (upd σ c (.list xs)) h' → Sim g.base h' (upd σ c (.list xs)) → Q (.ref c) { s with heap := h' }) : wpAny g.M A (newList vs) Q E s := by
  have kp : ∀ b o, s.heap.get? b = some o → (s.heap.push { cls := .type "list", data := .seq vs.toArray }).get? b = some o := fun b o e => Heap.get?_push_of_some _ e
  obtain ⟨h1, h2, h3⟩ := addList (fr := fr) (own := nobody) Sm kp (fresh_size (Nat.le_refl _)) ⟨_, Heap.get?_push_size _ rfl⟩ (r.keeps kp)
  exact wpAny_newList (k _ _ h1 h2 h3) hsz

/-! several expressions -/
inductive PostEs (g : Gx) (fr : List Env) (σ : Sto) (s : Shared) (Q : List PV → Sto → Prop) (vs : List Value) (s' : Shared) : Prop
  | mk (h' : Heap) (tk : Nat) (ps : List PV) (σ' : Sto) : s' = { s with heap := h', toks := tk } → Step fr nobody σ s.heap σ' h' → Sim g.base h' σ' → Reps g.base h' vs ps → Q ps σ' → PostEs g fr σ s Q vs s'
noncomputable def SoundEs (g : Gx) (n : Nat) (q : Bool) (sc : Scope) (es : List Expr) (t : TEs) : Prop :=
  (∀ (env : Env) (pos : Pos), (backTo pos (starEach es env)).any (·.1) = false) ∧
  ∀ (A : Around) (fr : List Env) (env : Env), Cx g n q A fr env → env.scope = sc → ∀ (pos : Pos) (s : Shared) (ρ : Env') (σ : Sto) (Q : List PV → Sto → Prop) (X : Addr → Sto → Prop),
    St g fr env ρ σ s.heap → t ρ σ Q X → wpAny g.M A (spliced (backTo pos (starEach es env))) (PostEs g fr σ s Q) (PostX g fr σ s X) s
noncomputable def tEnil : TEs := fun _ σ Q _ => Q [] σ
noncomputable def tEcons (e : TE) (es : TEs) : TEs := fun ρ σ Q X => e ρ σ (fun p σ₁ => es ρ σ₁ (fun ps σ₂ => Q (p :: ps) σ₂) X) X

section
variable {g : Gx} {n : Nat} {q : Bool} {sc : Scope}
theorem sound_enil : SoundEs g n q sc [] tEnil :=
  ⟨fun _ _ => rfl, fun A fr env C hsc pos s ρ σ Q X H ht => spliced_nil ⟨s.heap, s.toks, [], σ, rfl, Step.refl, H.hp.sim, .nil, ht⟩⟩
theorem sound_econs {e : Expr} {es : List Expr} {t : TE} {ts : TEs} (he : SoundE g n q sc e t) (hes : SoundEs g n q sc es ts) (hns : ∀ env : Env, starEach (e :: es) env = (false, eval e env) :: starEach es env) : SoundEs g n q sc (e :: es) (tEcons t ts) := by
  refine ⟨fun env pos => ?_, fun A fr env C hsc pos s ρ σ Q X H ht => ?_⟩
  · rw [hns]
    show ((false, _) :: backTo pos (starEach es env)).any (·.1) = false
    rw [List.any_cons, hes.1 env pos]; rfl
  · rw [hns]
    show wpAny _ _ (spliced ((false, eval e env) :: backTo pos (starEach es env))) _ _ _
    refine spliced_cons (bindE (he A fr env C hsc s ρ σ _ X H ht) fun v h₁ tk p σ₁ S1 Sm1 r hq => ?_)
    refine wpAny_mono (hes.2 A fr env C hsc pos { s with heap := h₁, toks := tk } ρ σ₁ _ X (H.step S1 Sm1) hq) (fun vs s' hp => ?_) fun _ _ x => x.up S1
    obtain ⟨h₂, tk₂, ps, σ₂, rfl, S2, Sm2, rs, hq⟩ := hp
    exact ⟨h₂, tk₂, p :: ps, σ₂, rfl, S1.trans S2, Sm2, .cons (S2.rep (H.hp.step S1 Sm1) r) rs, hq⟩

theorem evalArgs_es {es : List Expr} {ts : TEs} (hes : SoundEs g n q sc es ts) {A : Around} {fr : List Env} {env : Env} (C : Cx g n q A fr env) (hsc : env.scope = sc) {f : Value} {pos : Pos} {s : Shared} {ρ : Env'} {σ : Sto} {Q : List PV → Sto → Prop} {X : Addr → Sto → Prop}
    (H : St g fr env ρ σ s.heap) (ht : ts ρ σ Q X) : wpAny g.M A (evalArgs f true (backTo pos (starEach es env)) []) (fun a s' => a.kw = [] ∧ PostEs g fr σ s Q a.pos s') (PostX g fr σ s X) s := by
  have h1 := hes.1 env pos
  have h2 := hes.2 A fr env C hsc pos s ρ σ Q X H ht
  generalize backTo pos (starEach es env) = l at h1 h2
  cases l with
  | nil =>
    have h3 := wpAny_mono h2 (fun vs s' (hp : PostEs g fr σ s Q vs s') => hp) fun _ _ x => x
    unfold evalArgs
    show wpAny _ _ (spliced [] >>= _) _ _ s
    refine wpAny_bind (wpAny_mono h3 (fun vs s' hp => ?_) fun _ _ x => x)
    refine wpAny_bind (wpAny_pure (wpAny_holding ?_))
    exact wpAny_bind (wpAny_pure (wpAny_bind (wpAny_pure (wpAny_pure ⟨rfl, hp⟩))))
  | cons a r =>
    obtain ⟨b, x⟩ := a
    have hb : b = false := by
      rw [List.any_cons] at h1
      cases b with
      | false => rfl
      | true => simp at h1
    subst hb
    exact evalArgs_plain (wpAny_mono h2 (fun vs s' hp => ⟨rfl, hp⟩) fun _ _ x => x)

/-! displays -/
noncomputable def tTup (ts : TEs) : TE := fun ρ σ Q X => ts ρ σ (fun ps σ' => ps.length ≤ 1000000 ∧ Q (.tup ps) σ') X
noncomputable def tList (ts : TEs) : TE := fun ρ σ Q X => ts ρ σ (fun ps σ' => ps.length ≤ 1000000 ∧ ∀ c, σ' c = none → Q (.ref c) (upd σ' c (.list ps))) X
theorem big_ok {k : Nat} (h : k ≤ 1000000) : k ≤ sizeLine := by unfold sizeLine; omega
theorem sound_tuple {es : List Expr} {k : Nat} {pos : Pos} {ts : TEs} (hes : SoundEs g n q sc es ts) : SoundE g n q sc (.Tuple es k pos) (tTup ts) := by
  intro A fr env C hsc s ρ σ Q X H ht
  refine Tuple_ (wpAny_mono (hes.2 A fr env C hsc pos s ρ σ _ X H ht) (fun vs s' hp => ?_) fun _ _ x => x)
  obtain ⟨h₂, tk₂, ps, σ₂, rfl, S2, Sm2, rs, hl, hq⟩ := hp
  have kp : ∀ b o, h₂.get? b = some o → (h₂.push { cls := .type "tuple", data := .seq vs.toArray }).get? b = some o := fun b o e => Heap.get?_push_of_some _ e
  refine wpAny_newTuple (s := { s with heap := h₂, toks := tk₂ }) ⟨_, tk₂, .tup ps, σ₂, rfl, S2.trans (Step.keeps kp), Sm2.keeps kp, .tup (Heap.get?_push_size _ rfl) rfl rfl (rs.keeps kp), hq⟩ (by rw [rs.length]; exact big_ok hl)
theorem sound_list {es : List Expr} {pos : Pos} {ts : TEs} (hes : SoundEs g n q sc es ts) : SoundE g n q sc (.List es pos) (tList ts) := by
  intro A fr env C hsc s ρ σ Q X H ht
  refine List_ (wpAny_mono (hes.2 A fr env C hsc pos s ρ σ _ X H ht) (fun vs s' hp => ?_) fun _ _ x => x)
  obtain ⟨h₂, tk₂, ps, σ₂, rfl, S2, Sm2, rs, hl, hq⟩ := hp
  exact newList_any (s := { s with heap := h₂, toks := tk₂ }) Sm2 rs (by rw [rs.length]; exact big_ok hl) fun c h' h1 h2 h3 => ⟨h', tk₂, _, _, rfl, S2.trans h2, h3, .ref c, hq c h1⟩

/-! operators -/
theorem sound_bin {l r : Expr} {op : Operator} {pos : Pos} {tl tr : TE} (hl : SoundE g n q sc l tl) (hr : SoundE g n q sc r tr) : SoundE g n q sc (.BinOp l op r pos) (tBin op tl tr) := by
  intro A fr env C hsc s ρ σ Q X H ht
  refine wpAny_BinOp (bindE (hl A fr env C hsc s ρ σ _ X H ht) fun u h₁ tk a σ₁ S1 Sm1 ra hq => ?_)
  have H1 := H.step S1 Sm1
  refine wpAny_mono (bindE (hr A fr env C hsc { s with heap := h₁, toks := tk } ρ σ₁ _ X H1 hq) fun v h₂ tk₂ b σ₂ S2 Sm2 rb hq => ?_) (fun _ _ x => x) fun _ _ x => x.up S1
  have ra := S2.rep H1.hp ra
  have S := S1.trans S2
  cases op with
  | Add =>
    rcases hq with ⟨x, y, rfl, rfl, hq⟩ | ⟨x, y, xs, ys, rfl, rfl, e1, e2, hle, hq⟩
    · obtain ⟨t, rfl⟩ := inv_int ra
      obtain ⟨t', rfl⟩ := inv_int rb
      exact PyProof.Rows.add_int (pureE S Sm2 (.int _ _) hq)
    · obtain rfl := inv_ref ra
      obtain rfl := inv_ref rb
      obtain ⟨vs, ⟨m1, ho⟩, r1⟩ := Sm2 _ _ e1
      obtain ⟨ws, ⟨m2, ho2⟩, r2⟩ := Sm2 _ _ e2
      have r12 := r1.append r2
      have hsz : (vs ++ ws).length ≤ sizeLine := by rw [r12.length]; exact big_ok hle
      have e : vs.toArray ++ ws.toArray = (vs ++ ws).toArray := by simp
      refine concat_meets (s := { s with heap := h₂, toks := tk₂ }) ⟨_, ho, rfl⟩ ⟨_, ho2, rfl⟩ noFill_list_add seq_list_add PySem.F.slot_list_add PySem.F.entry_list_add (PySem.F.args_list_add_2 _ _) (list_addW _ _ vs.toArray ws.toArray m1 m2 none none #[] #[] (by simpa using hsz)) ⟨ho, ho2, ?_⟩
      rw [e]
      have kp : ∀ b o, h₂.get? b = some o → (h₂.push { cls := .type "list", data := .seq (vs ++ ws).toArray }).get? b = some o := fun b o e => Heap.get?_push_of_some _ e
      obtain ⟨z1, z2, z3⟩ := addList (fr := fr) (own := nobody) Sm2 kp (fresh_size (Nat.le_refl _)) ⟨_, Heap.get?_push_size _ rfl⟩ (r12.keeps kp)
      exact ⟨_, tk₂, _, _, rfl, S.trans z2, z3, .ref _, hq _ z1⟩
  | Sub =>
    exact two_any (s := { s with heap := h₂, toks := tk₂ }) (P := fun u v => wpAny g.M A (binaryOp .Sub u v) _ _ _) ra rb hq fun x y t t' hq => PyProof.Rows.sub_int (pureE S Sm2 (.int _ _) hq)
  | Mult =>
    refine two_any (s := { s with heap := h₂, toks := tk₂ }) (P := fun u v => wpAny g.M A (binaryOp .Mult u v) _ _ _) ra rb hq fun x y t t' hq => ?_
    refine PyProof.Rows.mul_int (pureE S Sm2 (.int _ _) hq.2) ?_
    rcases hq.1 with ⟨z1, z2⟩ | ⟨z1, z2⟩
    · exact IntMulOk.of_left (intBits_le_64 z1 z2)
    · exact IntMulOk.of_right (intBits_le_64 z1 z2)
  | FloorDiv =>
    exact two_any (s := { s with heap := h₂, toks := tk₂ }) (P := fun u v => wpAny g.M A (binaryOp .FloorDiv u v) _ _ _) ra rb hq fun x y t t' hq => PyProof.Rows.floordiv_int hq.1 (pureE S Sm2 (.int _ _) hq.2.2) (.inl (PyProof.noPylong_small hq.2.1))
  | Mod =>
    exact two_any (s := { s with heap := h₂, toks := tk₂ }) (P := fun u v => wpAny g.M A (binaryOp .Mod u v) _ _ _) ra rb hq fun x y t t' hq => PyProof.Rows.mod_int' hq.1 (pureE S Sm2 (.int _ _) hq.2)
  | Pow =>
    refine two_any (s := { s with heap := h₂, toks := tk₂ }) (P := fun u v => wpAny g.M A (binaryOp .Pow u v) _ _ _) ra rb hq fun x y t t' hq => ?_
    obtain ⟨z1, z2, z3, hq⟩ := hq
    refine PyProof.Rows.pow_int z1 ?_ (pureE S Sm2 (.int _ _) hq)
    have hb := PyProof.Rows.intBits_le (k := 64) z3
    have e1 : ((Builtin.Int.intBits _ : Nat) : Int) ≤ 64 := Int.ofNat_le.mpr hb
    refine Int.le_trans (Int.mul_le_mul e1 z2 z1 (by decide)) (by decide)
  | _ => exact hq.elim
end
end Mine

set_option autoImplicit false
set_option linter.unusedVariables false
namespace Mine
open PySem PyProof.Rows PySem.Calls

section
variable {g : Gx} {n : Nat} {q : Bool} {sc : Scope}

theorem sound_neg {x : Expr} {pos : Pos} {t : TE} (hx : SoundE g n q sc x t) : SoundE g n q sc (.UnaryOp .USub x pos) (tNeg t) := by
  intro A fr env C hsc s ρ σ Q X H ht
  refine UnaryOp_ (bindE (hx A fr env C hsc s ρ σ _ X H ht) fun u h₁ tk a σ₁ S1 Sm1 ra hq => ?_)
  cases a with
  | int i => obtain ⟨t, rfl⟩ := inv_int ra; exact PyProof.Rows.neg_int (pureE S1 Sm1 (.int _ _) hq)
  | _ => exact hq.elim

/-! conditions -/
noncomputable def tNot (b : TB) : TB := fun ρ σ Q X => b ρ σ (fun r σ' => Q (!r) σ') X
noncomputable def tAnd (b c : TB) : TB := fun ρ σ Q X => b ρ σ (fun r σ' => if r = true then c ρ σ' Q X else Q false σ') X
noncomputable def tOr (b c : TB) : TB := fun ρ σ Q X => b ρ σ (fun r σ' => if r = true then Q true σ' else c ρ σ' Q X) X
noncomputable def tTrue : TB := fun _ σ Q _ => Q true σ
noncomputable def tFalse : TB := fun _ σ Q _ => Q false σ
noncomputable def tTest (e : TE) : TB := fun ρ σ Q X => e ρ σ (fun p σ' => match p with
  | .bool b => Q b σ'
  | _ => False) X

theorem bindB {A : Around} {fr : List Env} {σ : Sto} {s : Shared} {t : Sem Bool} {Q₁ : Bool → Sto → Prop} {X : Addr → Sto → Prop} {f : Bool → Shared → Prop}
    (h : wpAny g.M A t (PostB g fr σ s Q₁) (PostX g fr σ s X) s)
    (k : ∀ b h₁ tk σ₁, Step fr nobody σ s.heap σ₁ h₁ → Sim g.base h₁ σ₁ → Q₁ b σ₁ → f b { s with heap := h₁, toks := tk }) :
    wpAny g.M A t f (PostX g fr σ s X) s :=
  wpAny_mono h (fun v _ ⟨h', tk, σ', e, b, S, hq⟩ => e ▸ k v h' tk σ' b S hq) fun _ _ x => x

theorem soundB_not {x : Expr} {pos : Pos} {b : TB} (hb : SoundB g n q sc x b) : SoundB g n q sc (.UnaryOp .Not x pos) (tNot b) := by
  intro A fr env C hsc s ρ σ Q X H ht
  exact isTrue_not (bindB (hb A fr env C hsc s ρ σ _ X H ht) fun r h₁ tk σ₁ S1 Sm1 hq => ⟨h₁, tk, σ₁, rfl, S1, Sm1, hq⟩)
theorem soundB_andNil {pos : Pos} : SoundB g n q sc (.BoolOp .And [] pos) tTrue := by
  intro A fr env C hsc s ρ σ Q X H ht
  exact isTrue_and_nil ⟨s.heap, s.toks, σ, rfl, Step.refl, H.hp.sim, ht⟩
theorem soundB_orNil {pos : Pos} : SoundB g n q sc (.BoolOp .Or [] pos) tFalse := by
  intro A fr env C hsc s ρ σ Q X H ht
  exact isTrue_or_nil ⟨s.heap, s.toks, σ, rfl, Step.refl, H.hp.sim, ht⟩
theorem soundB_and {x : Expr} {rest : List Expr} {pos : Pos} {b c : TB} (hb : SoundB g n q sc x b) (hc : SoundB g n q sc (.BoolOp .And rest pos) c) : SoundB g n q sc (.BoolOp .And (x :: rest) pos) (tAnd b c) := by
  intro A fr env C hsc s ρ σ Q X H ht
  refine isTrue_and (bindB (hb A fr env C hsc s ρ σ _ X H ht) fun r h₁ tk σ₁ S1 Sm1 hq => ?_)
  cases r with
  | true =>
    rw [if_pos rfl]
    exact wpAny_mono (hc A fr env C hsc { s with heap := h₁, toks := tk } ρ σ₁ Q X (H.step S1 Sm1) (by simpa using hq)) (fun _ _ x => x.up S1) fun _ _ x => x.up S1
  | false => rw [if_neg (by decide)]; exact ⟨h₁, tk, σ₁, rfl, S1, Sm1, by simpa using hq⟩
theorem soundB_or {x : Expr} {rest : List Expr} {pos : Pos} {b c : TB} (hb : SoundB g n q sc x b) (hc : SoundB g n q sc (.BoolOp .Or rest pos) c) : SoundB g n q sc (.BoolOp .Or (x :: rest) pos) (tOr b c) := by
  intro A fr env C hsc s ρ σ Q X H ht
  refine isTrue_or (bindB (hb A fr env C hsc s ρ σ _ X H ht) fun r h₁ tk σ₁ S1 Sm1 hq => ?_)
  cases r with
  | false =>
    rw [if_neg (by decide)]
    exact wpAny_mono (hc A fr env C hsc { s with heap := h₁, toks := tk } ρ σ₁ Q X (H.step S1 Sm1) (by simpa using hq)) (fun _ _ x => x.up S1) fun _ _ x => x.up S1
  | true => rw [if_pos rfl]; exact ⟨h₁, tk, σ₁, rfl, S1, Sm1, by simpa using hq⟩
/-- a plain expression as a condition -/
theorem soundB_plain {e : Expr} {t : TE} (he : SoundE g n q sc e t) (hp : ∀ (env : Env) (whole : Sem Value), isTrue e env whole = (do let v ← whole; standAt e.pos; holding [v] (truthy v))) : SoundB g n q sc e (tTest t) := by
  intro A fr env C hsc s ρ σ Q X H ht
  refine isTrue_plain (bindE (he A fr env C hsc s ρ σ _ X H ht) fun u h₁ tk a σ₁ S1 Sm1 ra hq => ?_) (hp env _)
  cases a with
  | bool b => obtain rfl := inv_bool ra; exact wpAny_truthy_bool ⟨h₁, tk, σ₁, rfl, S1, Sm1, hq⟩
  | _ => exact hq.elim

theorem sound_cmp {l r : Expr} {op : CmpOp} {pos : Pos} {tl tr : TE} (hl : SoundE g n q sc l tl) (hr : SoundE g n q sc r tr) (hm : behindInMarks op r = false) : SoundE g n q sc (.Compare l [op] [r] pos) (tCmp op tl tr) := by
  intro A fr env C hsc s ρ σ Q X H ht
  refine wpAny_Compare1 (bindE (hl A fr env C hsc s ρ σ _ X H ht) fun u h₁ tk a σ₁ S1 Sm1 ra hq => ?_) hm
  have H1 := H.step S1 Sm1
  refine wpAny_mono (bindE (hr A fr env C hsc { s with heap := h₁, toks := tk } ρ σ₁ _ X H1 hq) fun v h₂ tk₂ b σ₂ S2 Sm2 rb hq => ?_) (fun _ _ x => x) fun _ _ x => x.up S1
  exact cmp_any (s := { s with heap := h₂, toks := tk₂ }) C.room Sm2 (S2.rep H1.hp ra) rb hq fun c hc => ⟨h₂, tk₂, .bool c, σ₂, rfl, S1.trans S2, Sm2, .bool c, hc⟩
theorem soundB_cmp {l r : Expr} {op : CmpOp} {pos : Pos} {tl tr : TE} (hl : SoundE g n q sc l tl) (hr : SoundE g n q sc r tr) (hm : behindInMarks op r = false) : SoundB g n q sc (.Compare l [op] [r] pos) (tCmpB op tl tr) := by
  intro A fr env C hsc s ρ σ Q X H ht
  refine wpAny_isTrue_Compare1 (bindE (hl A fr env C hsc s ρ σ _ X H ht) fun u h₁ tk a σ₁ S1 Sm1 ra hq => ?_) hm
  have H1 := H.step S1 Sm1
  refine wpAny_mono (bindE (hr A fr env C hsc { s with heap := h₁, toks := tk } ρ σ₁ _ X H1 hq) fun v h₂ tk₂ b σ₂ S2 Sm2 rb hq => ?_) (fun _ _ x => x) fun _ _ x => x.up S1
  exact cmp_any (s := { s with heap := h₂, toks := tk₂ }) C.room Sm2 (S2.rep H1.hp ra) rb hq fun c hc => wpAny_truthy_bool ⟨h₂, tk₂, σ₂, rfl, S1.trans S2, Sm2, hc⟩
theorem sound_chain {l m r : Expr} {op op' : CmpOp} {pos : Pos} {tl tm tr : TE} (hl : SoundE g n q sc l tl) (hm' : SoundE g n q sc m tm) (hr : SoundE g n q sc r tr) (hm : lastMarks [op, op'] [m, r] = false) : SoundE g n q sc (.Compare l [op, op'] [m, r] pos) (tChain op op' tl tm tr) := by
  intro A fr env C hsc s ρ σ Q X H ht
  refine Compare_chain (bindE (hl A fr env C hsc s ρ σ _ X H ht) fun u h₁ tk a σ₁ S1 Sm1 ra hq => ?_) hm
  have H1 := H.step S1 Sm1
  refine wpAny_mono (chain_link (bindE (hm' A fr env C hsc { s with heap := h₁, toks := tk } ρ σ₁ _ X H1 hq) fun v h₂ tk₂ b σ₂ S2 Sm2 rb hq => ?_)) (fun _ _ x => x) fun _ _ x => x.up S1
  have H2 := H1.step S2 Sm2
  refine cmp_any (s := { s with heap := h₂, toks := tk₂ }) C.room Sm2 (S2.rep H1.hp ra) rb hq fun c hc => wpAny_truthy_bool ?_
  cases c with
  | false => rw [if_neg (by decide)]; exact ⟨h₂, tk₂, .bool false, σ₂, rfl, S1.trans S2, Sm2, .bool _, by simpa using hc⟩
  | true =>
    rw [if_pos rfl]
    refine wpAny_mono (chain_last (bindE (hr A fr env C hsc { s with heap := h₂, toks := tk₂ } ρ σ₂ _ X H2 (by simpa using hc)) fun v h₃ tk₃ d σ₃ S3 Sm3 rd hq => ?_)) (fun _ _ x => x) fun _ _ x => x.up S2
    exact cmp_any (s := { s with heap := h₃, toks := tk₃ }) C.room Sm3 (S3.rep H2.hp rb) rd hq fun c hc => ⟨h₃, tk₃, .bool c, σ₃, rfl, (S1.trans S2).trans S3, Sm3, .bool c, hc⟩
theorem soundB_chain {l m r : Expr} {op op' : CmpOp} {pos : Pos} {tl tm tr : TE} (hl : SoundE g n q sc l tl) (hm' : SoundE g n q sc m tm) (hr : SoundE g n q sc r tr) (hm : lastMarks [op, op'] [m, r] = false) : SoundB g n q sc (.Compare l [op, op'] [m, r] pos) (tChainB op op' tl tm tr) := by
  intro A fr env C hsc s ρ σ Q X H ht
  refine isTrue_chain (bindE (hl A fr env C hsc s ρ σ _ X H ht) fun u h₁ tk a σ₁ S1 Sm1 ra hq => ?_) hm
  have H1 := H.step S1 Sm1
  refine wpAny_mono (test_link (bindE (hm' A fr env C hsc { s with heap := h₁, toks := tk } ρ σ₁ _ X H1 hq) fun v h₂ tk₂ b σ₂ S2 Sm2 rb hq => ?_)) (fun _ _ x => x) fun _ _ x => x.up S1
  have H2 := H1.step S2 Sm2
  refine cmp_any (s := { s with heap := h₂, toks := tk₂ }) C.room Sm2 (S2.rep H1.hp ra) rb hq fun c hc => wpAny_truthy_bool ?_
  cases c with
  | false => rw [if_neg (by decide)]; exact ⟨h₂, tk₂, σ₂, rfl, S1.trans S2, Sm2, by simpa using hc⟩
  | true =>
    rw [if_pos rfl]
    refine wpAny_mono (test_last (bindE (hr A fr env C hsc { s with heap := h₂, toks := tk₂ } ρ σ₂ _ X H2 (by simpa using hc)) fun v h₃ tk₃ d σ₃ S3 Sm3 rd hq => ?_)) (fun _ _ x => x) fun _ _ x => x.up S2
    exact cmp_any (s := { s with heap := h₃, toks := tk₃ }) C.room Sm3 (S3.rep H2.hp rb) rd hq fun c hc => wpAny_truthy_bool ⟨h₃, tk₃, σ₃, rfl, (S1.trans S2).trans S3, Sm3, hc⟩

/-! and, or, not as values (of bools) -/
noncomputable def tAndE (a b : TE) : TE := fun ρ σ Q X => a ρ σ (fun p σ' => match p with
  | .bool true => b ρ σ' Q X
  | .bool false => Q (.bool false) σ'
  | _ => False) X
noncomputable def tNotE (a : TE) : TE := fun ρ σ Q X => a ρ σ (fun p σ' => match p with
  | .bool b => Q (.bool (!b)) σ'
  | _ => False) X
theorem sound_one {e : Expr} {op : BoolOp} {pos : Pos} {t : TE} (he : SoundE g n q sc e t) : SoundE g n q sc (.BoolOp op [e] pos) t := by
  intro A fr env C hsc s ρ σ Q X H ht
  exact BoolOp_one (he A fr env C hsc s ρ σ Q X H ht)
theorem sound_and {e₁ e₂ : Expr} {rest : List Expr} {pos : Pos} {a b : TE} (h1 : SoundE g n q sc e₁ a) (h2 : SoundE g n q sc (.BoolOp .And (e₂ :: rest) pos) b) : SoundE g n q sc (.BoolOp .And (e₁ :: e₂ :: rest) pos) (tAndE a b) := by
  intro A fr env C hsc s ρ σ Q X H ht
  refine BoolOp_and (bindE (h1 A fr env C hsc s ρ σ _ X H ht) fun u h₁ tk a σ₁ S1 Sm1 ra hq => ?_)
  cases a with
  | bool b =>
    obtain rfl := inv_bool ra
    refine wpAny_truthy_bool ?_
    cases b with
    | true => rw [if_pos rfl]; exact wpAny_mono (h2 A fr env C hsc { s with heap := h₁, toks := tk } ρ σ₁ Q X (H.step S1 Sm1) hq) (fun _ _ x => x.up S1) fun _ _ x => x.up S1
    | false => rw [if_neg (by decide)]; exact ⟨h₁, tk, .bool false, σ₁, rfl, S1, Sm1, .bool _, hq⟩
  | _ => exact hq.elim
theorem sound_not {x : Expr} {pos : Pos} {t : TE} (hx : SoundE g n q sc x t) : SoundE g n q sc (.UnaryOp .Not x pos) (tNotE t) := by
  intro A fr env C hsc s ρ σ Q X H ht
  refine UnaryOp_ (bindE (hx A fr env C hsc s ρ σ _ X H ht) fun u h₁ tk a σ₁ S1 Sm1 ra hq => ?_)
  cases a with
  | bool b => obtain rfl := inv_bool ra; exact not_of (wpAny_truthy_bool ⟨h₁, tk, .bool (!b), σ₁, rfl, S1, Sm1, .bool _, hq⟩)
  | _ => exact hq.elim

/-! items -/
noncomputable def getP (σ : Sto) (a i : PV) (k : PV → Prop) : Prop := ∃ j, i = .int j ∧ -(2 ^ 62) < j ∧ j < 2 ^ 62 ∧ ∃ xs, itemsOf σ a = some xs ∧ NR a ∧ ((0 ≤ j ∧ ∃ x, xs[j.toNat]? = some x ∧ k x) ∨ (j < 0 ∧ 0 ≤ j + xs.length ∧ ∃ x, xs[(j + xs.length).toNat]? = some x ∧ k x))
noncomputable def tItem (a i : TE) : TE := fun ρ σ Q X => a ρ σ (fun p σ₁ => i ρ σ₁ (fun j σ₂ => getP σ₂ p j fun x => Q x σ₂) X) X

theorem item_any {A : Around} {s : Shared} {σ : Sto} {fr : List Env} {value slice : Expr} {u v : Value} {a i : PV} {k : PV → Prop} {Q : Value → Shared → Prop} {E : Value → Shared → Prop} (H : Hp g.base fr σ s.heap) (ra : Rep g.base s.heap u a) (ri : Rep g.base s.heap v i) (hk : getP σ a i k)
    (hQ : ∀ w x, Rep g.base s.heap w x → k x → Q w s) (hs : ∀ l j t, subscripted slice false (.ref l) (.int j t) = operate [.ref l, .int j t] (getItem (.ref l) (.int j t))) : wpAny g.M A (subscriptTail value slice u v) Q E s := by
  obtain ⟨j, rfl, hj0, hj1, xs, hxs, hnr, hk⟩ := hk
  obtain ⟨t, rfl⟩ := inv_int ri
  obtain ⟨l, rfl, vs, hl, rs⟩ := seq_of H ra hxs hnr
  have hlen := rs.length
  have at' : ∀ {m : Nat} {x : PV}, xs[m]? = some x → ∃ w, vs[m]? = some w ∧ Rep g.base s.heap w x ∧ m < vs.length := fun {m x} hx => by
    obtain ⟨w, hw, r⟩ := rs.get hx
    exact ⟨w, hw, r, (List.getElem?_eq_some_iff.mp hw).1⟩
  rcases hl with hl | hl
  · refine tail_any hl.typeIs slot_list_getitem.lookup ?_ (hs _ _ _)
    rcases hk with ⟨h0, x, hx, hk⟩ | ⟨h0, h1, x, hx, hk⟩
    · obtain ⟨w, hw, rw', _⟩ := at' hx
      exact wpAny_getItem_list hl h0 (by omega) (by simpa using hw) (hQ w x rw' hk)
    · obtain ⟨w, hw, rw', _⟩ := at' hx
      exact wpAny_getItem_list_neg hl h0 (by simp; omega) (by omega) (by simpa [hlen] using hw) (hQ w x rw' hk)
  · rcases hk with ⟨h0, x, hx, hk⟩ | ⟨h0, h1, x, hx, hk⟩
    · obtain ⟨w, hw, rw', hlt⟩ := at' hx
      refine item_tupleT (j := j.toNat) hl (by omega) (by omega) ?_ hw (hQ w x rw' hk) (hs _ _ _)
      unfold seqIndex?
      simp only
      rw [if_neg (show ¬ j < 0 by omega), if_pos (by rw [Bool.and_eq_true]; exact ⟨decide_eq_true h0, decide_eq_true (by omega)⟩)]
    · obtain ⟨w, hw, rw', hlt⟩ := at' hx
      refine item_tupleT (j := (j + xs.length).toNat) hl (by omega) (by omega) ?_ hw (hQ w x rw' hk) (hs _ _ _)
      unfold seqIndex?
      simp only
      rw [if_pos h0, hlen, if_pos (by rw [Bool.and_eq_true]; exact ⟨decide_eq_true h1, decide_eq_true (by omega)⟩)]
theorem sound_item {value slice : Expr} {pos : Pos} {a i : TE} (ha : SoundE g n q sc value a) (hi : SoundE g n q sc slice i) (hs : ∀ l j t, subscripted slice false (.ref l) (.int j t) = operate [.ref l, .int j t] (getItem (.ref l) (.int j t))) : SoundE g n q sc (.Subscript value slice pos) (tItem a i) := by
  intro A fr env C hsc s ρ σ Q X H ht
  refine Subscript_ (bindE (ha A fr env C hsc s ρ σ _ X H ht) fun u h₁ tk a σ₁ S1 Sm1 ra hq => ?_)
  have H1 := H.step S1 Sm1
  refine wpAny_mono (bindE (hi A fr env C hsc { s with heap := h₁, toks := tk } ρ σ₁ _ X H1 hq) fun v h₂ tk₂ b σ₂ S2 Sm2 rb hq => ?_) (fun _ _ x => x) fun _ _ x => x.up S1
  exact item_any (s := { s with heap := h₂, toks := tk₂ }) (H1.hp.step S2 Sm2) (S2.rep H1.hp ra) rb hq (fun w x rw' hk => ⟨h₂, tk₂, x, σ₂, rfl, S1.trans S2, Sm2, rw', hk⟩) hs
end
end Mine

set_option autoImplicit false
set_option linter.unusedVariables false
namespace Mine
open PySem PyProof.Rows PySem.Calls

theorem turnList {base h h' : Heap} {fr : List Env} {own : Addr → Prop} {σ : Sto} {a : Addr} {xs xs' : List PV} {vs' : List Value} (H : Hp base fr σ h) (e : σ a = some (.list xs)) (hs : Heap.SameBut a h h') (hl : h'.PlainList a vs'.toArray) (r : Reps base h vs' xs') :
    Step fr own σ h (upd σ a (.list xs')) h' ∧ Sim base h' (upd σ a (.list xs')) := by
  have firm : ∀ b o, h.get? b = some o → Firm o → h'.get? b = some o := fun b o eb f => (hs.2 b (by rintro rfl; rw [(H.firm eb f).2] at e; cases e)).trans eb
  refine ⟨⟨fun b o eb _ _ n => (hs.2 b (by rintro rfl; rw [n] at e; cases e)).trans eb, fun b o eb m _ => ⟨o.slots, (hs.2 b (by rintro rfl; exact (H.fresh b (by rw [e]; simp)).2 m)).trans eb⟩, fun b o eb _ => ?_, fun c n _ _ => ?_, fun c n => ?_⟩, fun c ao ec => ?_⟩
  · by_cases q : b = a
    · subst q; obtain ⟨m, h1⟩ := hl; exact ⟨_, h1⟩
    · exact ⟨o, (hs.2 b q).trans eb⟩
  · unfold upd; rw [if_neg (by rintro rfl; rw [n] at e; cases e)]; exact n
  · unfold upd
    split
    · simp
    · exact n
  · unfold upd at ec
    split at ec
    · rename_i q; subst q; cases ec; exact ⟨vs', hl, r.mono firm⟩
    · rename_i q
      have := H.sim c ao ec
      cases ao with
      | list ys => obtain ⟨vs, ⟨m, h1⟩, r⟩ := this; exact ⟨vs, ⟨m, (hs.2 c q).trans h1⟩, r.mono firm⟩
      | raw o => exact ⟨(hs.2 c q).trans this.1, this.2⟩

section
variable {g : Gx} {n : Nat} {q : Bool} {sc : Scope}

/-! calls by a global name -/
noncomputable def tCall (ts : TEs) (T : TF) : TE := fun ρ σ Q X => ts ρ σ (fun ps σ₁ => T ps σ₁ Q X) X

/-- what a global name holds -/
noncomputable def GlobAt (g : Gx) (x : Str) (v : Value) : Prop := g.mg x = some v ∨ (g.mg x = none ∧ g.mb x = some v)
theorem name_glob {A : Around} {fr : List Env} {env : Env} {s : Shared} {ρ : Env'} {σ : Sto} {x : Str} {pos : Pos} {v : Value} {Q : Value → Shared → Prop} {E : Value → Shared → Prop} (C : Cx g n q A fr env) (H : St g fr env ρ σ s.heap) (hx : env.scope.names.lookup x = some .globalImplicit) (hd : (x == ("__debug__" : Str)) = false)
    (hg : GlobAt g x v) (hQ : Q v s) : wpAny g.M A (eval (.Name x pos) env) Q E s := by
  refine Name_function_global C.kind hx ?_ hd
  rcases hg with h1 | ⟨h1, h2⟩
  · exact loadGlobal_global (by rw [C.globals]; exact g.hg.keeps H.hp.stays) h1 hQ
  · exact loadGlobal_builtin (by rw [C.globals]; exact g.hg.keeps H.hp.stays) h1 (by rw [C.builtins]; exact g.hb.keeps H.hp.stays) h2 hQ

theorem sound_const {x : Str} {pos : Pos} {v : Value} {p : PV} (hx : sc.names.lookup x = some .globalImplicit) (hd : (x == ("__debug__" : Str)) = false) (hg : GlobAt g x v) (hr : ∀ h, Rep g.base h v p) : SoundE g n q sc (.Name x pos) (tConst p) := by
  intro A fr env C hsc s ρ σ Q X H ht
  exact name_glob C H (by rw [hsc]; exact hx) hd hg (doneE (tk := s.toks) H.hp.sim (hr _) ht)

theorem sound_call {m : Nat} {x : Str} {np pos : Pos} {es : List Expr} {ts : TEs} {f : Addr} {o : Obj} {fd : FuncData} {T : TF} (hx : sc.names.lookup x = some .globalImplicit) (hd : (x == ("__debug__" : Str)) = false) (hg : GlobAt g x (.ref f)) (ho : g.base.get? f = some o) (hf : o.data = .func fd)
    (hes : SoundEs g n q sc es ts) (hT : SoundF g m q f T) (hm : m ≤ n) : SoundE g n q sc (.Call (.Name x np) es [] pos) (tCall ts T) := by
  intro A fr env C hsc s ρ σ Q X H ht
  refine wpAny_Call_ofName (name_glob C H (by rw [hsc]; exact hx) hd hg ?_)
  refine callWith_function (o := o) (fd := fd) (wpAny_mono (evalArgs_es hes C hsc H ht) (fun a s' hp => ?_) fun _ _ x => x)
  obtain ⟨hkw, h₁, tk, ps, σ₁, rfl, S1, Sm1, rs, hq⟩ := hp
  obtain ⟨apos, akw⟩ := a
  obtain rfl : akw = [] := hkw
  have H1 := H.step S1 Sm1
  refine ⟨⟨H1.hp.stays _ _ ho, hf⟩, ?_⟩
  exact wpAny_mono (hT A fr { s with heap := h₁, toks := tk } apos ps σ₁ Q X C.frames (C.room.le hm) C.quiet H1.hp rs hq) (fun _ _ x => x.up S1) fun _ _ x => x.up S1

/-- a built-in function, or a class, told by what it does to its arguments -/
noncomputable def SoundBI (g : Gx) (n : Nat) (q : Bool) (f : Value) (T : TF) : Prop :=
  ∀ (A : Around) (fr : List Env) (s : Shared) (vals : List Value) (ps : List PV) (σ : Sto) (Q : PV → Sto → Prop) (X : Addr → Sto → Prop), A.frames = some fr → Room n A → (q = true → A.handled = none) →
    Hp g.base fr σ s.heap → Reps g.base s.heap vals ps → T ps σ Q X → wpAny g.M A (call f vals) (PostE g fr σ s Q) (PostX g fr σ s X) s
theorem sound_callB {x : Str} {np pos : Pos} {es : List Expr} {ts : TEs} {id : String} {T : TF} (hx : sc.names.lookup x = some .globalImplicit) (hd : (x == ("__debug__" : Str)) = false) (hg : GlobAt g x (.builtin id))
    (hes : SoundEs g n q sc es ts) (hT : SoundBI g n q (.builtin id) T) : SoundE g n q sc (.Call (.Name x np) es [] pos) (tCall ts T) := by
  intro A fr env C hsc s ρ σ Q X H ht
  refine wpAny_Call_ofName (name_glob C H (by rw [hsc]; exact hx) hd hg ?_)
  refine callWith_builtin (hes.1 env pos) (wpAny_mono (evalArgs_es hes C hsc H ht) (fun a s' hp => ?_) fun _ _ x => x)
  obtain ⟨hkw, h₁, tk, ps, σ₁, rfl, S1, Sm1, rs, hq⟩ := hp
  obtain ⟨apos, akw⟩ := a
  obtain rfl : akw = [] := hkw
  have H1 := H.step S1 Sm1
  exact wpAny_mono (hT A fr { s with heap := h₁, toks := tk } apos ps σ₁ Q X C.frames C.room C.quiet H1.hp rs hq) (fun _ _ x => x.up S1) fun _ _ x => x.up S1
theorem sound_callT {x : Str} {np pos : Pos} {es : List Expr} {ts : TEs} {id : String} {T : TF} (hx : sc.names.lookup x = some .globalImplicit) (hd : (x == ("__debug__" : Str)) = false) (hg : GlobAt g x (.type id))
    (hes : SoundEs g n q sc es ts) (hT : SoundBI g n q (.type id) T) : SoundE g n q sc (.Call (.Name x np) es [] pos) (tCall ts T) := by
  intro A fr env C hsc s ρ σ Q X H ht
  refine wpAny_Call_ofName (name_glob C H (by rw [hsc]; exact hx) hd hg ?_)
  refine PyProof.Rows.callWith_type (hes.1 env pos) (wpAny_mono (evalArgs_es hes C hsc H ht) (fun a s' hp => ?_) fun _ _ x => x)
  obtain ⟨hkw, h₁, tk, ps, σ₁, rfl, S1, Sm1, rs, hq⟩ := hp
  obtain ⟨apos, akw⟩ := a
  obtain rfl : akw = [] := hkw
  have H1 := H.step S1 Sm1
  exact wpAny_mono (hT A fr { s with heap := h₁, toks := tk } apos ps σ₁ Q X C.frames C.room C.quiet H1.hp rs hq) (fun _ _ x => x.up S1) fun _ _ x => x.up S1

/-! len, range, list, tuple, int -/
noncomputable def lenF : TF := fun ps σ Q _ => ∃ p xs, ps = [p] ∧ NR p ∧ itemsOf σ p = some xs ∧ xs.length < 2 ^ 62 ∧ Q (.int xs.length) σ
theorem bi_len : SoundBI g n q (.builtin "len") lenF := by
  intro A fr s vals ps σ Q X hfr hroom hq H R ht
  obtain ⟨p, xs, rfl, hnr, hxs, hlt, hQ⟩ := ht
  obtain ⟨v, rfl, r⟩ := reps_one R
  obtain ⟨l, rfl, vs, hl, rs⟩ := seq_of H r hxs hnr
  have hlen := rs.length
  have fin : ∀ {tk tk' : Nat}, PostE g fr σ s Q (.int (vs.toArray.size : Nat) tk) { s with toks := tk' } := fun {tk tk'} => ⟨s.heap, tk', _, σ, rfl, Step.refl, H.sim, .int _ _, by rw [List.size_toArray, hlen]; exact hQ⟩
  rcases hl with hl | hl
  · exact len_list hl (by rw [List.size_toArray]; omega) fin
  · exact len_tuple hl (by rw [List.size_toArray]; omega) fin

noncomputable def rangeF : TF := fun ps σ Q _ => ∃ n, ps = [.int n] ∧ Q (.rng 0 n) σ
theorem bi_range : SoundBI g n q (.type "range") rangeF := by
  intro A fr s vals ps σ Q X hfr hroom hq H R ht
  obtain ⟨m, rfl, ht⟩ := ht
  obtain ⟨v, rfl, r⟩ := reps_one R
  obtain ⟨t, rfl⟩ := inv_int r
  have kp : ∀ b o, s.heap.get? b = some o → (s.heap.push { cls := .type "range", data := .fields #[.int 0 s.toks, .int m t, .int 1 (s.toks + 1)] }).get? b = some o := fun b o e => Heap.get?_push_of_some _ e
  exact call_range_1 ⟨_, _, _, σ, rfl, Step.keeps kp, H.sim.keeps kp, .rng ⟨_, _, _, Heap.get?_push_size _ rfl⟩, ht⟩

noncomputable def listF : TF := fun ps σ Q _ => (∃ a xs, ps = [.ref a] ∧ σ a = some (.list xs) ∧ xs.length ≤ 1000000 ∧ ∀ c, σ c = none → Q (.ref c) (upd σ c (.list xs))) ∨
  ∃ lo hi, ps = [.rng lo hi] ∧ iterOk (.rng lo hi) ∧ hi - lo ≤ 1000000 ∧ ∀ c, σ c = none → Q (.ref c) (upd σ c (.list ((List.range (hi - lo).toNat).map fun k => .int (lo + (k : Nat)))))
theorem itemsOf_reps {base h : Heap} {lo : Int} : ∀ {vs : List Value} {k : Nat}, (∀ (i : Nat) v, vs[i]? = some v → ∃ t, v = .int (lo + ((k + i : Nat) : Int)) t) → Reps base h vs ((List.range' k vs.length).map fun j => .int (lo + (j : Nat)))
  | [], k, _ => by simpa using Reps.nil
  | v :: vs, k, hv => by
    rw [List.length_cons, List.range'_succ, List.map_cons]
    refine .cons ?_ (itemsOf_reps fun i w hw => ?_)
    · obtain ⟨t, rfl⟩ := hv 0 v rfl
      exact .int _ _
    · obtain ⟨t, ht⟩ := hv (i + 1) w (by simpa using hw)
      exact ⟨t, by rw [ht]; congr 2; omega⟩
theorem bi_list (hqt : q = true) : SoundBI g n q (.type "list") listF := by
  intro A fr s vals ps σ Q X hfr hroom hq H R ht
  rcases ht with ⟨a, xs, rfl, e, hle, hQ⟩ | ⟨lo, hi, rfl, ⟨o1, o2, o3, o4⟩, hle, hQ⟩
  · obtain ⟨v, rfl, r⟩ := reps_one R
    obtain rfl := inv_ref r
    obtain ⟨vs, ⟨m, hl⟩, rs⟩ := H.sim _ _ e
    refine call_list_seq _ (.inl rfl) hl rfl rfl (fun h' c' hk hD => ?_) (by rw [List.size_toArray, rs.length]; exact big_ok hle)
    obtain ⟨z1, z2, z3⟩ := addList (fr := fr) (own := nobody) H.sim hk (fresh_size (Nat.le_refl _)) ⟨_, hD⟩ (rs.keeps hk)
    exact ⟨h', s.toks, _, _, rfl, z2, z3, .ref _, hQ _ z1⟩
  · obtain ⟨v, rfl, r⟩ := reps_one R
    obtain ⟨a, rfl, t1, t2, t3, hr⟩ := inv_rng r
    have e : Builtin.Range.rangeSize lo hi 1 = ((hi - lo).toNat : Int) := by
      have := rangeSize_one (a := lo) (b := hi)
      rw [this]; split <;> omega
    refine call_list_range (hq hqt) hr (small_one o1 o2 o3 o4) e (by omega) fun h' tk acc c' hk hD hacc => ?_
    have hr : Reps g.base h' acc.toList ((List.range (hi - lo).toNat).map fun k => .int (lo + (k : Nat))) := by
      have hlen : acc.toList.length = (hi - lo).toNat := by simpa using hacc.1
      have := itemsOf_reps (base := g.base) (h := h') (lo := lo) (vs := acc.toList) (k := 0) fun i v hv => by
        obtain ⟨t, ht⟩ := hacc.2 i v (by simpa using hv)
        exact ⟨t, by rw [ht]; simp⟩
      rw [hlen, ← List.range_eq_range'] at this
      exact this
    obtain ⟨z1, z2, z3⟩ := addList (fr := fr) (own := nobody) (vs := acc.toList) H.sim hk (fresh_size (Nat.le_refl _)) ⟨_, by simpa using hD⟩ hr
    exact ⟨h', tk, _, _, rfl, z2, z3, .ref _, hQ _ z1⟩

noncomputable def intF : TF := fun ps σ Q _ => ∃ b, ps = [.bool b] ∧ Q (.int (if b = true then 1 else 0)) σ
theorem bi_int : SoundBI g n q (.type "int") intF := by
  intro A fr s vals ps σ Q X hfr hroom hq H R ht
  obtain ⟨b, rfl, ht⟩ := ht
  obtain ⟨v, rfl, r⟩ := reps_one R
  obtain rfl := inv_bool r
  exact call_int_bool ⟨s.heap, _, _, σ, rfl, Step.refl, H.sim, .int _ _, ht⟩
end
end Mine

set_option autoImplicit false
set_option linter.unusedVariables false
namespace Mine
open PySem PyProof.Rows PySem.Calls

section
variable {g : Gx} {n : Nat} {q : Bool} {sc : Scope}

theorem sound_expr {e : Expr} {pos : Pos} {t : TE} (he : SoundE g n q sc e t) (hs : ∀ env : Env, env.scope = sc → swapsWith e none pos.line env = pure false) : SoundS g n q sc (.Expr e pos) (tExpr t) := by
  intro A outer env C hsc hf s ρ σ Q X H ht
  refine wpAny_Expr_any (stmtE H hf (he A _ env C hsc s ρ σ _ _ H ht) fun v h₁ tk p σ₁ S1 H1 r hq => ?_) ?_ (hs env hsc)
  · exact ⟨h₁, tk, .next, ρ, σ₁, rfl, noOwn S1, H1, .next, hq⟩
  · unfold interactive; rw [C.kind]; rfl

/-! a store at a list's place -/
noncomputable def setP (σ : Sto) (a i v : PV) (k : Sto → Prop) : Prop := ∃ l j xs, a = .ref l ∧ i = .int j ∧ 0 ≤ j ∧ σ l = some (.list xs) ∧ j < xs.length ∧ xs.length ≤ 1000000 ∧ k (upd σ l (.list (xs.set j.toNat v)))
noncomputable def tStore (o i v : TE) : TS := fun ρ σ Q X => v ρ σ (fun p σ₁ => o ρ σ₁ (fun a σ₂ => i ρ σ₂ (fun j σ₃ => setP σ₃ a j p fun σ₄ => Q .next ρ σ₄) (fun c σ' => X c ρ σ')) (fun c σ' => X c ρ σ')) (fun c σ' => X c ρ σ')

theorem mapSeq_plain (its : Array Value) (m : Nat) (f : Array Value → Array Value) : ∃ m', Obj.mapSeq f { cls := .type "list", data := .seq its m } = { cls := .type "list", data := .seq (f its) m' } := ⟨_, rfl⟩
theorem plain_update {h : Heap} {l : Addr} {its : Array Value} (hl : h.PlainList l its) (f : Array Value → Array Value) : (h.update l (Obj.mapSeq f)).PlainList l (f its) := by
  obtain ⟨m, ho⟩ := hl
  obtain ⟨m', e⟩ := mapSeq_plain its m f
  exact ⟨m', by rw [Heap.get?_update_self _ ho (by rw [e]; rfl), e]⟩

theorem setItem_plain {A : Around} {s : Shared} {E : Value → Shared → Prop} {l : Addr} {items : Array Value} {k : Int} {t : Tok} {v : Value} {Q : Unit → Shared → Prop} (hl : s.heap.PlainList l items)
    (h0 : 0 ≤ k) (hfit : k < 2 ^ 63) (hn : k < items.size)
    (hQ : ∀ h', h'.PlainList l (items.setIfInBounds k.toNat v) → Heap.SameBut l s.heap h' → Q () { s with heap := h' }) :
    wpAny g.M A (setItem (.ref l) (.int k t) v) Q E s := by
  obtain ⟨o, ho, hc, ne, hd⟩ := hl.isList
  unfold setItem
  try with_reducible refine wpAny_holding ?_
  first | refine wpAny_bind (wpAny_pure ?_) | skip
  refine wpAny_bind (wpAny_sequenceKey hl.isList.typeIs (by decide) ?_)
  refine wpAny_bind (wpAny_callSpecial?_slot (name := Str.ofString "__setitem__") hl.isList.typeIs slot_list_setitem
    (wpAny_call_entry slot_list_setitem hl.isList.typeIs entry_list_setitem ?_ (args_list_setitem _ _ _)))
  show wpAny _ _ (Builtin.List.listSubscript? (.int k t) >>= _) _ _ s
  refine wpAny_bind (wpAny_listSubscript_int (fitsIndex_of h0 hfit) ?_)
  clear hfit
  obtain ⟨j, rfl⟩ := Int.eq_ofNat_of_zero_le h0
  have hj : j < items.size := by omega
  have hx' : items[j]? = some items[j] := Array.getElem?_eq_getElem hj
  show wpAny _ _ ((seqItemAt l j >>= fun r => pure (r.map (j, ·))) >>= _) _ _ s
  refine wpAny_bind (wpAny_bind (wpAny_seqItemAt ho hd (wpAny_pure ?_)))
  rw [hx']
  show wpAny _ _ (setSeqItemAt l j v >>= _) _ _ s
  have hfin := plain_update hl (·.setIfInBounds j v)
  refine wpAny_bind (wpAny_setSeqItemAt ho hd ?_)
  first
    | exact wpAny_bind (wpAny_pure (wpAny_pure ⟨.none, rfl, wpAny_pure (hQ _ hfin (Heap.SameBut.update ..))⟩))
    | exact wpAny_pure ⟨.none, rfl, wpAny_pure (hQ _ hfin (Heap.SameBut.update ..))⟩

theorem sound_store {o i e : Expr} {pos' pos : Pos} {to ti te : TE} (he : SoundE g n q sc e te) (ho : SoundE g n q sc o to) (hi : SoundE g n q sc i ti) (hs : ∀ env : Env, env.scope = sc → swapsWith e (some (.Subscript o i pos')) pos.line env = pure false) :
    SoundS g n q sc (.Assign [.Subscript o i pos'] e pos) (tStore to ti te) := by
  intro A outer env C hsc hf s ρ σ Q X H ht
  refine wpAny_Assign_Subscript (stmtE H hf (he A _ env C hsc s ρ σ _ _ H ht) fun v h₁ tk p σ₁ S1 H1 r hq => ?_) (hs env hsc)
  refine wpAny_mono (stmtE (s := { s with heap := h₁, toks := tk }) H1 hf (ho A _ env C hsc { s with heap := h₁, toks := tk } ρ σ₁ _ _ H1 hq) fun ov h₂ tk₂ a σ₂ S2 H2 ra hq => ?_) (fun _ _ x => x) fun _ _ x => x.up (noOwn S1)
  refine wpAny_mono (stmtE (s := { s with heap := h₂, toks := tk₂ }) H2 hf (hi A _ env C hsc { s with heap := h₂, toks := tk₂ } ρ σ₂ _ _ H2 hq) fun iv h₃ tk₃ j σ₃ S3 H3 rj hq => ?_) (fun _ _ x => x) fun _ _ x => x.up (noOwn (S1.trans S2))
  have r3 := S3.rep H2.hp (S2.rep H1.hp r)
  have ra := S3.rep H2.hp ra
  obtain ⟨l, k, xs, rfl, rfl, h0, e, hlt, hle, hq⟩ := hq
  obtain rfl := inv_ref ra
  obtain ⟨t, rfl⟩ := inv_int rj
  obtain ⟨vs, hl, rs⟩ := H3.hp.sim _ _ e
  have hlen := rs.length
  refine setItem_plain (s := { s with heap := h₃, toks := tk₃ }) hl h0 (by omega) (by rw [List.size_toArray]; omega) fun h' hl' hs' => ?_
  have hl'' : h'.PlainList l (vs.set k.toNat v).toArray := by simpa using hl'
  obtain ⟨z1, z2⟩ := turnList (own := nobody) H3.hp e hs' hl'' (rs.set k.toNat r3)
  exact ⟨h', tk₃, .next, ρ, _, rfl, noOwn (((S1.trans S2).trans S3).trans z1), H3.step z1 z2, .next, hq⟩

/-! methods of a list -/
noncomputable def appendF (a : Addr) : TF := fun ps σ Q _ => ∃ v xs, ps = [v] ∧ σ a = some (.list xs) ∧ xs.length ≤ 1000000 ∧ Q .none (upd σ a (.list (xs ++ [v])))
noncomputable def tMeth (T : Addr → TF) (o : TE) (ts : TEs) : TE := fun ρ σ Q X => o ρ σ (fun p σ₁ => match p with
  | .ref a => (∃ xs, σ₁ a = some (.list xs)) ∧ ts ρ σ₁ (fun ps σ₂ => T a ps σ₂ Q X) X
  | _ => False) X

noncomputable def SoundMe (g : Gx) (n : Nat) (q : Bool) (id : String) (T : Addr → TF) : Prop :=
  ∀ (A : Around) (fr : List Env) (s : Shared) (a : Addr) (vals : List Value) (ps : List PV) (σ : Sto) (Q : PV → Sto → Prop) (X : Addr → Sto → Prop), A.frames = some fr → Room n A → (q = true → A.handled = none) →
    Hp g.base fr σ s.heap → Reps g.base s.heap vals ps → T a ps σ Q X → wpAny g.M A (call (.builtin id) (.ref a :: vals)) (PostE g fr σ s Q) (PostX g fr σ s X) s

theorem me_append : SoundMe g n q "list.append" appendF := by
  intro A fr s a vals ps σ Q X hfr hroom hq H R ht
  obtain ⟨v, xs, rfl, e, hle, hQ⟩ := ht
  obtain ⟨vv, rfl, r⟩ := reps_one R
  obtain ⟨vs, hl, rs⟩ := H.sim _ _ e
  refine wpAny_list_append_plain hl (fun h' hl' hs' => ?_) (by rw [List.size_toArray, rs.length]; exact big_ok hle)
  have hl'' : h'.PlainList a (vs ++ [vv]).toArray := by simpa using hl'
  obtain ⟨z1, z2⟩ := turnList (own := nobody) H e hs' hl'' (rs.append (.cons r .nil))
  exact ⟨h', s.toks, _, _, rfl, z1, z2, .none, hQ⟩
theorem sound_meth {o : Expr} {name : Str} {apos pos : Pos} {es : List Expr} {id : String} {T : Addr → TF} {to : TE} {ts : TEs} (ho : SoundE g n q sc o to) (hes : SoundEs g n q sc es ts) (hT : SoundMe g n q id T)
    (hbase : ∀ env : Env, env.scope = sc → attributeBase o name env (eval o env) = eval o env)
    (hlen : es.length < 29) (hline : (apos.endLine == pos.line) = true) (slot : Slot "list" name id) (hty : typeOf (.builtin id) = pure (.type "method_descriptor")) :
    SoundE g n q sc (.Call (.Attribute o name apos) es [] pos) (tMeth T to ts) := by
  intro A fr env C hsc s ρ σ Q X H ht
  refine wpAny_Call_method (T := "list") (id := id) (hbase env hsc) ?_ hline PySem.F.plainAttrs_list slot hty (bindE (ho A fr env C hsc s ρ σ _ X H ht) fun u h₁ tk a σ₁ S1 Sm1 ra hq => ?_)
  · have h1 := hes.1 env pos
    have h2 : (backTo pos (starEach es env)).all (fun x => !x.1) = true := by
      rw [List.all_eq_true]
      intro x hx
      rw [List.any_eq_false] at h1
      simpa using h1 x hx
    have h3 : (backToKw pos (keywordEach [] env)).all (fun x => x.1.isSome) = true := rfl
    rw [h2, h3]
    simp only [Bool.and_self, Bool.true_and, List.length_nil, List.isEmpty_nil, if_true, decide_eq_true_eq]
    omega
  have H1 := H.step S1 Sm1
  cases a with
  | ref l =>
    obtain rfl := inv_ref ra
    obtain ⟨⟨xs, e⟩, hq⟩ := hq
    obtain ⟨vs, ⟨m, hl⟩, rs⟩ := Sm1 _ _ e
    refine ⟨⟨_, hl, rfl⟩, fun b hb => ?_, ?_⟩
    · cases hb; exact ⟨_, hl, rfl⟩
    · refine wpAny_mono (callWith_builtin (hes.1 env pos) (wpAny_mono (evalArgs_es (s := { s with heap := h₁, toks := tk }) hes C hsc H1 hq) (fun a s' hp => ?_) fun _ _ x => x)) (fun _ _ x => x) fun _ _ x => x.up S1
      obtain ⟨hkw, h₂, tk₂, ps, σ₂, rfl, S2, Sm2, rs, hq⟩ := hp
      obtain ⟨apos, akw⟩ := a
      obtain rfl : akw = [] := hkw
      have H2 := H1.step S2 Sm2
      exact wpAny_mono (hT A fr { s with heap := h₂, toks := tk₂ } l apos ps σ₂ Q X C.frames C.room C.quiet H2.hp rs hq) (fun _ _ x => x.up (S1.trans S2)) fun _ _ x => PostX.up (s := { s with heap := h₁, toks := tk }) S2 x
  | _ => exact hq.elim
end
end Mine

set_option autoImplicit false
set_option linter.unusedVariables false
namespace Mine
open PySem PyProof.Rows PySem.Calls

/-! an address that no one else knows -/
structure Priv (g : Gx) (fr : List Env) (env : Env) (σ : Sto) (h : Heap) (a : Addr) : Prop where
  nb : g.base.get? a = none
  nf : a ∉ frs fr
  ns : σ a = none
  nl : a ≠ env.locals
  no : ∃ o, h.get? a = some o ∧ ¬ Firm o ∧ ∀ ov, o.data ≠ .cell ov

theorem Priv.firm {g : Gx} {fr : List Env} {env : Env} {σ : Sto} {h : Heap} {a : Addr} (P : Priv g fr env σ h a) {o : Obj} (e : h.get? a = some o) : ¬ Firm o ∧ ∀ ov, o.data ≠ .cell ov := by
  obtain ⟨o', h1, h2⟩ := P.no
  rw [e] at h1; cases h1; exact h2
theorem Priv.up {g : Gx} {fr : List Env} {env env' : Env} {σ σ' : Sto} {h h' : Heap} {a : Addr} (P : Priv g fr env σ h a) (x : Step fr nobody σ h σ' h') : Priv g fr env σ' h' a := by
  obtain ⟨o, h1, h2⟩ := P.no
  exact ⟨P.nb, P.nf, x.new a P.ns id (by rw [h1]; simp), P.nl, o, x.other a o h1 P.nf id P.ns, h2⟩
theorem Priv.at {g : Gx} {fr : List Env} {env : Env} {σ σ' : Sto} {h h' : Heap} {a : Addr} (P : Priv g fr env σ h a) (x : Step fr nobody σ h σ' h') {o : Obj} (e : h.get? a = some o) : h'.get? a = some o := x.other a o e P.nf id P.ns
theorem Priv.but {g : Gx} {fr : List Env} {env : Env} {σ : Sto} {h h' : Heap} {a b : Addr} (P : Priv g fr env σ h a) (k : Heap.ExtBut b h h') (n : a ≠ b) : Priv g fr env σ h' a := by
  obtain ⟨o, h1, h2⟩ := P.no
  exact ⟨P.nb, P.nf, P.ns, P.nl, o, k a o n h1, h2⟩

theorem St.but {g : Gx} {fr : List Env} {env : Env} {ρ : Env'} {σ : Sto} {h h' : Heap} {a : Addr} (H : St g fr env ρ σ h) (P : Priv g fr env σ h a) (k : Heap.ExtBut a h h') : St g fr env ρ σ h' := by
  have firm : ∀ b o, h.get? b = some o → Firm o → h'.get? b = some o := fun b o e f => k b o (by rintro rfl; exact (P.firm e).1 f) e
  obtain ⟨hp, ⟨⟨m, hn, hm⟩, hc⟩, nl⟩ := H
  refine ⟨⟨fun b o e => k b o (by rintro rfl; rw [P.nb] at e; cases e) (hp.stays b o e), funFrames_step hp.frames fun b o e d m => ⟨o, k b o (by rintro rfl; exact P.nf m) e, d⟩, fun c ao e => ?_, hp.fresh, fun b m => ?_⟩, ⟨⟨m, Ns.up hn fun o e => ⟨o.slots, k _ o (Ne.symm P.nl) e⟩, fun y p e1 e2 => ?_⟩, fun y e1 => ?_⟩, nl⟩
  · have hca : c ≠ a := by rintro rfl; rw [P.ns] at e; cases e
    have := hp.sim c ao e
    cases ao with
    | list xs => obtain ⟨vs, ⟨n, h1⟩, r⟩ := this; exact ⟨vs, ⟨n, k c _ hca h1⟩, r.mono firm⟩
    | raw o => exact ⟨k c o hca this.1, this.2⟩
  · obtain ⟨o', es, n, h1, h2⟩ := hp.dicts b m
    exact ⟨o', es, n, k b o' (by rintro rfl; exact P.nf m) h1, h2⟩
  · obtain ⟨v, h1, h2⟩ := hm y p e1 e2
    exact ⟨v, h1, h2.mono firm⟩
  · obtain ⟨c, ov, h1, ⟨o, h2, h3⟩, h4⟩ := hc y e1
    refine ⟨c, ov, h1, ⟨o, k c o ?_ h2, h3⟩, fun p e2 => ?_⟩
    · rintro rfl
      exact (P.firm h2).2 ov h3
    · obtain ⟨v, h5, h6⟩ := h4 p e2
      exact ⟨v, h5, h6.mono firm⟩

theorem Step.but {fr : List Env} {own : Addr → Prop} {σ σ' : Sto} {h h' h'' : Heap} {I : Addr} (x : Step fr own σ h σ' h') (hI : h.get? I = none) (k : Heap.ExtBut I h' h'') : Step fr own σ h σ' h'' := x.keepBut hI k

/-! the cells that a comprehension takes along -/
noncomputable def clOf (env : Env) : List (Str × NameKind) → List (Str × Addr) → List (Str × Addr)
  | [], acc => acc
  | (y, k) :: r, acc => clOf env r (if k == .free then match env.cells.lookup y with | some c => (y, c) :: acc | none => acc else acc)

theorem closure_go (env : Env) (f : Str × NameKind → List (Str × Addr) → Sem (ForInStep (List (Str × Addr)))) (hf : ∀ y k r, f (y, k) r = if (k == NameKind.free) = true then (do let c ← cellOf env y; pure (ForInStep.yield ((y, c) :: r))) else pure (ForInStep.yield r)) :
    ∀ (names : List (Str × NameKind)) (acc : List (Str × Addr)), (∀ y ∈ names, y.2 = .free → (env.cells.lookup y.1).isSome = true) → forIn (m := Sem) names acc f = pure (clOf env names acc)
  | [], acc, _ => rfl
  | (y, k) :: r, acc, h => by
    have ih := closure_go env f hf r
    rw [List.forIn_cons, hf]
    by_cases hk : (k == NameKind.free) = true
    · obtain ⟨c, hc⟩ := Option.isSome_iff_exists.mp (h (y, k) (.head _) (by simpa using hk))
      have hc' : env.cells.lookup y = some c := hc
      have e : cellOf env y = pure c := by unfold cellOf; rw [hc']
      rw [if_pos hk, e, pure_bind, pure_bind]
      show forIn r ((y, c) :: acc) f = _
      rw [ih _ fun z hz => h z (.tail _ hz)]
      simp [clOf, hk, hc']
    · rw [if_neg hk, pure_bind]
      show forIn r acc f = _
      rw [ih _ fun z hz => h z (.tail _ hz)]
      simp [clOf, hk]

theorem closureFor_cl {env : Env} {scope : Scope} (h : ∀ y ∈ scope.names, y.2 = .free → (env.cells.lookup y.1).isSome = true) : closureFor scope env = pure (clOf env scope.names []) := by
  unfold closureFor
  dsimp only
  rw [closure_go env _ (fun y k r => by rfl) scope.names [] h]
  rfl

theorem clOf_from (env : Env) : ∀ (names : List (Str × NameKind)) (acc : List (Str × Addr)), (∀ y c, (y, c) ∈ acc → env.cells.lookup y = some c) → ∀ y c, (y, c) ∈ clOf env names acc → env.cells.lookup y = some c
  | [], acc, h => h
  | (z, k) :: r, acc, h => by
    refine clOf_from env r _ ?_
    split
    · split
      · rename_i c hc
        intro y c' hm
        rcases List.mem_cons.mp hm with e | hm
        · cases e; exact hc
        · exact h y c' hm
      · exact h
    · exact h
theorem clOf_acc (env : Env) : ∀ (names : List (Str × NameKind)) (acc : List (Str × Addr)) (x), x ∈ acc → x ∈ clOf env names acc
  | [], acc, x, h => h
  | (z, k) :: r, acc, x, h => by
    refine clOf_acc env r _ x ?_
    split
    · split
      · exact .tail _ h
      · exact h
    · exact h
theorem clOf_has (env : Env) : ∀ (names : List (Str × NameKind)) (acc : List (Str × Addr)) (y : Str) (c : Addr), (y, NameKind.free) ∈ names → env.cells.lookup y = some c → (y, c) ∈ clOf env names acc
  | [], acc, y, c, h, _ => by simp at h
  | (z, k) :: r, acc, y, c, h, hc => by
    rcases List.mem_cons.mp h with e | h
    · cases e
      refine clOf_acc env r _ _ ?_
      simp [hc]
    · exact clOf_has env r _ y c h hc
theorem lookup_of_mem {l : List (Str × Addr)} {y : Str} {c : Addr} (h : (y, c) ∈ l) : ∃ c', l.lookup y = some c' := by
  induction l with
  | nil => simp at h
  | cons z l ih =>
    obtain ⟨z1, z2⟩ := z
    rw [List.lookup_cons]
    by_cases e : (y == z1) = true
    · rw [e]; exact ⟨z2, rfl⟩
    · have e' : (y == z1) = false := by simpa using e
      rw [e']
      rcases List.mem_cons.mp h with q | h
      · cases q; simp at e
      · exact ih h

theorem relabel_cell {env : Env} : ∀ {names : List (Str × NameKind)} {x : Str}, (∀ y ∈ names, y.2 ≠ .cell) →
    (names.map fun (n, k) => if (k == NameKind.free && env.scope.kind == .function && env.kindOf n == some .cell) then (n, NameKind.cell) else (n, k)).lookup x = some .cell → (x, NameKind.free) ∈ names ∧ env.kindOf x = some .cell
  | [], _, _, h => by simp at h
  | (n, k) :: r, x, hn, h => by
    have ih := @relabel_cell env r x fun y hy => hn y (.tail _ hy)
    simp only [List.map_cons] at h
    by_cases hc : (k == NameKind.free && env.scope.kind == .function && env.kindOf n == some .cell) = true
    · rw [if_pos hc] at h
      simp only [List.lookup_cons] at h
      by_cases e : (x == n) = true
      · simp at e
        subst e
        simp at hc
        refine ⟨?_, hc.2⟩
        rw [hc.1.1]; exact .head _
      · have e' : (x == n) = false := by simpa using e
        rw [e'] at h
        exact ⟨.tail _ (ih h).1, (ih h).2⟩
    · rw [if_neg hc] at h
      simp only [List.lookup_cons] at h
      by_cases e : (x == n) = true
      · rw [e] at h
        simp at h
        exact absurd h (hn (n, k) (.head _))
      · have e' : (x == n) = false := by simpa using e
        rw [e'] at h
        exact ⟨.tail _ (ih h).1, (ih h).2⟩

noncomputable def compR (cs : List Str) (ρ : Env') (x : Str) (p : PV) : Env' := fun y => if y = x then some p else if y ∈ cs then ρ y else none

noncomputable abbrev nope : Addr → Sto → Prop := fun _ _ => False
noncomputable def compL (x : Str) (cs : List Str) (tt : TB) (te : TE) (ok : Sto → Prop) (ρ : Env') : List PV → List PV → Sto → (List PV → Sto → Prop) → Prop
  | [], ys, σ, Q => Q ys σ
  | p :: ps, ys, σ, Q => tt (compR cs ρ x p) σ (fun b σ₁ => if b = true then te (compR cs ρ x p) σ₁ (fun y σ₂ => ok σ₂ ∧ compL x cs tt te ok ρ ps (ys ++ [y]) σ₂ Q) nope else ok σ₁ ∧ compL x cs tt te ok ρ ps ys σ₁ Q) nope
noncomputable def tComp (x : Str) (cs : List Str) (ti : TE) (tt : TB) (te : TE) : TE := fun ρ σ Q X => ti ρ σ (fun p σ₁ => ∃ xs, itemsOf σ₁ p = some xs ∧ iterOk p ∧ xs.length ≤ sizeLine ∧
  compL x cs tt te (fun σ' => itemsOf σ' p = some xs) ρ xs [] σ₁ (fun ys σ₂ => ∀ a, σ₂ a = none → Q (.ref a) (upd σ₂ a (.list ys)))) X

noncomputable def SoundIfs (g : Gx) (n : Nat) (sc : Scope) (ifs : List Expr) (t : TB) : Prop :=
  ∀ (A : Around) (fr : List Env) (env : Env), Cx g n true A fr env → env.scope = sc → ∀ (s : Shared) (ρ : Env') (σ : Sto) (Q : Bool → Sto → Prop) (X : Addr → Sto → Prop),
    St g fr env ρ σ s.heap → t ρ σ Q X → wpAny g.M A (forIn ifs true fun c r => if r = true then do let ok ← isTrue c env (eval c env); pure (ForInStep.yield ok) else pure (ForInStep.yield r)) (PostB g fr σ s Q) (PostX g fr σ s X) s
theorem ifs_nil {g : Gx} {n : Nat} {sc : Scope} : SoundIfs g n sc [] tTrue := fun A fr env C hsc s ρ σ Q X H ht =>
  wpAny_tests_nil ⟨s.heap, s.toks, σ, rfl, Step.refl, H.hp.sim, ht⟩
theorem ifs_one {g : Gx} {n : Nat} {sc : Scope} {c : Expr} {t : TB} (h : SoundB g n true sc c t) : SoundIfs g n sc [c] t := fun A fr env C hsc s ρ σ Q X H ht =>
  wpAny_tests_one (h A fr env C hsc s ρ σ Q X H ht)

theorem PostX.no {g : Gx} {fr : List Env} {σ : Sto} {s s' : Shared} {v : Value} {P : Prop} (p : PostX g fr σ s nope v s') : P := by
  obtain ⟨_, _, _, _, _, _, _, _, _, f⟩ := p
  exact f.elim
end Mine

set_option autoImplicit false
set_option linter.unusedVariables false
namespace Mine
open PySem PyProof.Rows PySem.Calls

section
variable {g : Gx} {n : Nat} {sc sc' : Scope}

/-- what a comprehension's scope must be like -/
structure CompOk (sc sc' scope : Scope) (x : Str) (cs : List Str) : Prop where
  rel : ∀ env : Env, env.scope = sc → relabel scope env = sc'
  kind : scope.kind = .function
  nocell : ∀ y ∈ scope.names, y.2 ≠ .cell
  free : ∀ y ∈ scope.names, y.2 = .free → sc.names.lookup y.1 = some .cell
  names : ∀ y ∈ scope.names, y.2 = .local → scope.names.lookup y.1 = some .local
  hx : scope.names.lookup x = some .local
  cs : ∀ y ∈ cs, sc'.names.lookup y ≠ some .local

theorem comp_inner {scope : Scope} {x : Str} {cs : List Str} {A : Around} {fr : List Env} {env : Env} {ρ : Env'} {σ : Sto} {h : Heap} {D : Addr} {m : Str → Option Value} {v : Value} {p : PV} (K : CompOk sc sc' scope x cs) (C : Cx g n true A fr env) (hsc : env.scope = sc) (H : St g fr env ρ σ h)
    (hD : Priv g fr env σ h D) (hn : h.Ns D m) (hm : m x = some v) (r : Rep g.base h v p) :
    Cx g n true A fr (compEnvC scope (clOf env scope.names []) D env) ∧ (compEnvC scope (clOf env scope.names []) D env).scope = sc' ∧ St g fr (compEnvC scope (clOf env scope.names []) D env) (compR cs ρ x p) σ h := by
  have e1 : (compEnvC scope (clOf env scope.names []) D env).scope = sc' := K.rel env hsc
  have from' : ∀ y c, (clOf env scope.names []).lookup y = some c → env.cells.lookup y = some c := fun y c e => clOf_from env scope.names [] (fun _ _ z => by simp at z) y c (mem_of_lookup e)
  refine ⟨⟨C.frames, C.room, C.quiet, K.kind, C.globals, C.builtins, fun y z c h1 h2 => C.inj y z c (from' _ _ h1) (from' _ _ h2), hD.nb, fun y c h1 => C.cbase y c (from' _ _ h1)⟩, e1, H.hp, ⟨⟨m, hn, fun y p' h1 h2 => ?_⟩, fun y h1 => ?_⟩, hD.ns⟩
  · unfold compR at h1
    by_cases hy : y = x
    · subst hy
      rw [if_pos rfl] at h1; cases h1
      exact ⟨v, hm, r⟩
    · rw [if_neg hy] at h1
      by_cases hc : y ∈ cs
      · exact absurd (by rw [← e1]; exact h2) (K.cs y hc)
      · rw [if_neg hc] at h1; cases h1
  · obtain ⟨h2, h3⟩ := relabel_cell (env := env) (x := y) K.nocell h1
    obtain ⟨c, ov, h4, h5, h6⟩ := H.loc.cell y h3
    obtain ⟨c', h7⟩ := lookup_of_mem (clOf_has env scope.names [] y c h2 h4)
    have h8 := from' _ _ h7
    rw [h4] at h8; cases h8
    refine ⟨c, ov, h7, h5, fun p' h9 => h6 p' ?_⟩
    unfold compR at h9
    by_cases hy : y = x
    · subst hy
      have := lookup_relabel_local (env := env) K.hx
      unfold Env.kindOf compEnvC relabel at h1
      rw [this] at h1; cases h1
    · rw [if_neg hy] at h9
      by_cases hc : y ∈ cs
      · rw [if_pos hc] at h9; exact h9
      · rw [if_neg hc] at h9; cases h9

theorem iter_self {g : Gx} {A : Around} {E : Value → Shared → Prop} {s : Shared} {I : Addr} {p : PV} {k : Nat} {Q : Value → Shared → Prop} (i : IterAt g.base s.heap I p k) (h : Q (.ref I) s) : wpAny g.M A (pyIter (.ref I)) Q E s := by
  cases p with
  | ref a => exact wpAny_pyIter_listiter i h
  | lst a ns => exact wpAny_pyIter_listiter i h
  | tup xs => obtain ⟨t, vs, i, _⟩ := i; exact wpAny_pyIter_tupleiter i h
  | rng lo hi => exact wpAny_pyIter_rangeiter i h
  | _ => exact i.elim

inductive CompI (g : Gx) (fr : List Env) (env : Env) (ρ : Env') (σ : Sto) (s : Shared) (I D T : Addr) (p : PV) (xs : List PV) (x : Str) (cs : List Str) (tt : TB) (te : TE) (Qc : List PV → Sto → Prop) (m : Nat) (s' : Shared) : Prop
  | mk (kk : Nat) (h : Heap) (tk' : Nat) (σ' : Sto) (ys : List PV) (vs : List Value) (mm : Str → Option Value) : s' = { s with heap := h, toks := tk' } → m = xs.length + 1 - kk → kk ≤ xs.length → ys.length ≤ kk → Step fr nobody σ s.heap σ' h → St g fr env ρ σ' h → IterAt g.base h I p kk →
      itemsOf σ' p = some xs → Priv g fr env σ' h T → Priv g fr env σ' h D → Priv g fr env σ' h I → h.Ns T mm → h.PlainList D vs.toArray → Reps g.base h vs ys → compL x cs tt te (fun σ' => itemsOf σ' p = some xs) ρ (xs.drop kk) ys σ' Qc → CompI g fr env ρ σ s I D T p xs x cs tt te Qc m s'
set_option maxHeartbeats 1600000 in
theorem comp_core {scope : Scope} {x : Str} {px pos : Pos} {cs : List Str} {elt iter : Expr} {ifs : List Expr} {tt : TB} {te : TE} (K : CompOk sc sc' scope x cs) (hif : SoundIfs g n sc' ifs tt) (he : SoundE g n true sc' elt te)
    {A : Around} {fr : List Env} {env : Env} {ρ : Env'} {σ : Sto} {s : Shared} {xv : Value} {p : PV} {xs : List PV} {Qc : List PV → Sto → Prop} {E : Value → Shared → Prop} {RR : Value → Addr → Result → Shared → Prop} (C : Cx g n true A fr env) (hsc : env.scope = sc) (H : St g fr env ρ σ s.heap) (r : Rep g.base s.heap xv p) (hxs : itemsOf σ p = some xs) (hok : iterOk p) (hsz : xs.length ≤ sizeLine)
    (hL : compL x cs tt te (fun σ' => itemsOf σ' p = some xs) ρ xs [] σ Qc)
    (k : ∀ D T h' tk ys σ', s.heap.get? D = none → s.heap.get? T = none → D ≠ T → σ' D = none → Step fr nobody σ s.heap (upd σ' D (.list ys)) h' → St g fr env ρ (upd σ' D (.list ys)) h' → Priv g fr env (upd σ' D (.list ys)) h' T → (∃ m, h'.Ns T m) → Qc ys σ' → RR (.ref D) T (.ok .next) { s with heap := h', toks := tk }) :
    wpAny g.M A (pyIter xv) (fun it s₂ => wpAny g.M A (newList []) (fun acc s₃ => wpAny g.M A (newFunctionEnv scope env.globals (clOf env scope.names []) [] env.qual none .none (some env)) (fun cenv s₄ =>
      codeAny g.M A (.compStart (.ListComp elt [⟨.Name x px, iter, ifs, 0⟩] scope pos) 0 it acc { cenv with scope := relabel scope env }) (RR acc cenv.locals) s₄) E s₃) E s₂) E s := by
  refine iter_start (s := s) H.hp r hxs hok fun I h₂ hk2 hI i0 => ?_
  have hr : ∀ (h : Heap) a ns, p = .lst a ns → Rep g.base h (.ref a) p := fun h a ns e => by subst e; exact rep_lst r
  have hIlt : I < h₂.objs.size := by obtain ⟨o, h1, _⟩ := i0.obj; exact Heap.lt_size h1
  refine wpAny_newList ?_ (Nat.zero_le _)
  refine wpAny_newFunctionEnv K.nocell (by intro y hy; simp at hy) (fun h₃ hns₃ hsb₃ => ?_) K.kind
  dsimp only at hns₃ hsb₃ ⊢
  generalize hH2 : h₂.push { cls := .type "list", dict := none, data := .seq ([] : List Value).toArray } = H2 at hns₃ hsb₃ ⊢
  have hT : H2.objs.size = h₂.objs.size + 1 := by rw [← hH2, Heap.size_push]
  have hDT : h₂.objs.size ≠ H2.objs.size := by rw [hT]; exact Nat.ne_of_lt (Nat.lt_succ_self _)
  have up3 : ∀ b o, h₂.get? b = some o → h₃.get? b = some o := fun b o e => hsb₃.extBut b o (by have := Heap.lt_size e; intro z; rw [z, hT] at this; exact Nat.lt_irrefl _ (Nat.lt_of_succ_lt this)) (Heap.get?_push_of_some _ (hH2 ▸ Heap.get?_push_of_some _ e))
  have hacc : h₃.PlainList h₂.objs.size #[] := ⟨_, hsb₃.extBut _ _ hDT (Heap.get?_push_of_some _ (hH2 ▸ Heap.get?_push_size _ rfl))⟩
  have lts : ∀ b o, s.heap.get? b = some o → b < h₂.objs.size := fun b o e => Heap.lt_size (hk2 b o e)
  have up03 : ∀ b o, s.heap.get? b = some o → h₃.get? b = some o := fun b o e => up3 b o (hk2 b o e)
  have fr0 : ∀ a, h₂.objs.size ≤ a → s.heap.get? a = none := fun a ha => by
    cases e : s.heap.get? a with
    | none => rfl
    | some o => exact absurd (lts a o e) (Nat.not_lt.mpr ha)
  have hT' : s.heap.get? H2.objs.size = none := fr0 _ (by rw [hT]; exact Nat.le_succ _)
  have hD' : s.heap.get? h₂.objs.size = none := fr0 _ (Nat.le_refl _)
  have priv : ∀ a o, s.heap.get? a = none → h₃.get? a = some o → ¬ Firm o → (∀ ov, o.data ≠ .cell ov) → Priv g fr env σ h₃ a := fun a o e1 e2 e3 e4 => by
    refine ⟨?_, fun m => ?_, ?_, ?_, o, e2, e3, e4⟩
    · cases z : g.base.get? a with
      | none => rfl
      | some o' => rw [H.hp.stays a o' z] at e1; cases e1
    · obtain ⟨o', _, _, h1, _⟩ := H.hp.dicts a m
      rw [e1] at h1; cases h1
    · cases z : σ a with
      | none => rfl
      | some ao =>
        have := H.hp.sim a ao z
        cases ao with
        | list xs => obtain ⟨vs, ⟨m, h1⟩, _⟩ := this; rw [e1] at h1; cases h1
        | raw o' => rw [e1] at this; cases this.1
    · rintro rfl
      obtain ⟨m, ⟨o', _, _, h1, _⟩, _⟩ := H.loc.ns
      rw [e1] at h1; cases h1
  have PT : Priv g fr env σ h₃ H2.objs.size := by
    obtain ⟨o, es, ep, h1, h2, _⟩ := hns₃
    exact priv _ o hT' h1 (notFirm_dict h2) fun ov z => by rw [h2] at z; cases z
  have PD : Priv g fr env σ h₃ h₂.objs.size := by
    obtain ⟨m, h1⟩ := hacc
    refine priv _ _ hD' h1 ?_ fun ov z => by cases z
    rintro (⟨vs, q, _⟩ | ⟨q, _⟩)
    · cases q
    · injection q with q; exact absurd q (by decide)
  have PI : Priv g fr env σ h₃ I := by
    obtain ⟨o, h1, h2⟩ := i0.obj
    refine priv _ o hI (up3 _ _ h1) h2.notFirm fun ov z => ?_
    obtain ⟨⟨ws, q⟩, _⟩ := h2
    rw [q] at z; cases z
  have hID : I ≠ h₂.objs.size := Nat.ne_of_lt hIlt
  have hIT : I ≠ H2.objs.size := by rw [hT]; exact Nat.ne_of_lt (Nat.lt_succ_of_lt hIlt)
  generalize hDg : h₂.objs.size = D at *
  generalize hTg : H2.objs.size = T at *
  have i3 : IterAt g.base h₃ I p 0 := i0.keep (fun o e => up3 _ o e) fun b o e _ => up3 b o e
  have noted : ∀ {v : Value} {s₀ s' : Shared} {σ₀ : Sto} {F : Value → Shared → Prop}, PostX g fr σ₀ s₀ nope v s' → F v s' := fun p => p.no
  have loop : ∀ tk, codeAny g.M A (.compLoop (.ListComp elt [⟨.Name x px, iter, ifs, 0⟩] scope pos) 0 (.ref I) (.ref D) (compEnvC scope (clOf env scope.names []) T env)) (RR (.ref D) T) { s with heap := h₃, toks := tk } := by
    intro tk
    refine codeAny_compLoop_tests (CompI g fr env ρ σ s I D T p xs x cs tt te Qc) ?_ (xs.length + 1)
      ⟨0, h₃, tk, σ, [], [], _, rfl, rfl, Nat.zero_le _, Nat.le_refl _, Step.keeps up03, H.keeps up03, i3, hxs, PT, PD, PI, hns₃, hacc, .nil, by simpa using hL⟩
    rintro m s' ⟨kk, h, tk', σ', ys, vs, mm, rfl, rfl, hle, hys, S, H', i, hit, QT, QD, QI, hns, hpl, hrs, hL⟩
    by_cases hk : kk < xs.length
    · have hxk : xs[kk]? = some xs[kk] := List.getElem?_eq_getElem hk
      rw [List.drop_eq_getElem_cons hk] at hL
      refine iter_item (s := { s with heap := h, toks := tk' }) H'.hp (hr h) hit i hxk fun v' h₄ tk₄ hs₄ i₄ rv => ?_
      have H4 := H'.but QI hs₄.extBut
      have firm4 : ∀ b o, h.get? b = some o → Firm o → h₄.get? b = some o := fun b o e f => hs₄.extBut b o (by rintro rfl; exact (QI.firm e).1 f) e
      have QT4 := QT.but hs₄.extBut (Ne.symm hIT)
      have QD4 := QD.but hs₄.extBut (Ne.symm hID)
      have S4 := S.keepBut hI hs₄.extBut
      have ns4 := hns.sameBut hs₄ (Ne.symm hIT)
      have pl4 := hpl.extBut hs₄.extBut (Ne.symm hID)
      have QI4 : Priv g fr env σ' h₄ I := by
        obtain ⟨o, h1, h2⟩ := i₄.obj
        refine ⟨QI.nb, QI.nf, QI.ns, QI.nl, o, h1, h2.notFirm, fun ov z => ?_⟩
        obtain ⟨⟨ws, q⟩, _⟩ := h2
        rw [q] at z; cases z
      refine wpAny_assign_Name (wpAny_storeName_local (env := compEnvC scope (clOf env scope.names []) T env) (lookup_relabel_local K.hx) ns4 (fun h₅ hn₅ hs₅ => ?_) (by show (scope.kind == _ || (scope.kind == _ && _)) = false; rw [K.kind]; rfl))
      have H5 := H4.but QT4 hs₅.extBut
      have firm5 : ∀ b o, h₄.get? b = some o → Firm o → h₅.get? b = some o := fun b o e f => hs₅.extBut b o (by rintro rfl; exact (QT4.firm e).1 f) e
      have QT5 : Priv g fr env σ' h₅ T := by
        obtain ⟨o, es, ep, h1, h2, _⟩ := hn₅
        exact ⟨QT.nb, QT.nf, QT.ns, QT.nl, o, h1, notFirm_dict h2, fun ov z => by rw [h2] at z; cases z⟩
      have QD5 := QD4.but hs₅.extBut hDT
      have QI5 := QI4.but hs₅.extBut hIT
      have S5 := S4.keepBut hT' hs₅.extBut
      have pl5 := pl4.extBut hs₅.extBut hDT
      have i5 : IterAt g.base h₅ I p (kk + 1) := i₄.keep (fun o e => hs₅.extBut _ o hIT e) firm5
      have rs5 := (hrs.mono firm4).mono firm5
      obtain ⟨C5, hsc5, HC5⟩ := comp_inner K C hsc H5 QT5 hn₅ (by simp) ((rv.mono firm4).mono firm5)
      refine wpAny_mono (hif A fr _ C5 hsc5 { s with heap := h₅, toks := _ } _ σ' _ nope HC5 hL) (fun b s₆ hp => ?_) fun e s₆ hp => noted hp
      obtain ⟨h₆, tk₆, σ₆, rfl, S6, Sm6, hq⟩ := hp
      have S06 := S5.trans S6
      have H6 := H5.step S6 Sm6
      have QT6 := QT5.up (env' := env) S6
      have QD6 := QD5.up (env' := env) S6
      have QI6 := QI5.up (env' := env) S6
      have ns6 := Ns.up hn₅ fun o e => ⟨o.slots, QT5.at S6 e⟩
      have pl6 : h₆.PlainList D vs.toArray := by obtain ⟨mq, h1⟩ := pl5; exact ⟨mq, QD5.at S6 h1⟩
      have i6 : IterAt g.base h₆ I p (kk + 1) := i5.keep (fun o e => QI5.at S6 e) fun b o e f => S6.other b o e (H5.hp.firm e f).1 id (H5.hp.firm e f).2
      have rs6 := S6.reps H5.hp rs5
      cases b with
      | false =>
        rw [if_neg (by decide)] at hq ⊢
        exact ⟨xs.length + 1 - (kk + 1), by omega, ⟨kk + 1, h₆, tk₆, σ₆, ys, vs, _, rfl, rfl, hk, by omega, S06, H6, i6, hq.1, QT6, QD6, QI6, ns6, pl6, rs6, hq.2⟩⟩
      | true =>
        rw [if_pos rfl] at hq ⊢
        obtain ⟨C6, hsc6, HC6⟩ := comp_inner (x := x) K C hsc H6 QT6 ns6 (by simp) (S6.rep H5.hp ((rv.mono firm4).mono firm5))
        refine wpAny_mono (he A fr _ C6 hsc6 { s with heap := h₆, toks := tk₆ } _ σ₆ _ nope HC6 hq) (fun y s₇ hp => ?_) fun e s₇ hp => noted hp
        obtain ⟨h₇, tk₇, py, σ₇, rfl, S7, Sm7, ry, hq⟩ := hp
        have S07 := S06.trans S7
        have H7 := H6.step S7 Sm7
        have QT7 := QT6.up (env' := env) S7
        have QD7 := QD6.up (env' := env) S7
        have QI7 := QI6.up (env' := env) S7
        have ns7 := Ns.up ns6 fun o e => ⟨o.slots, QT6.at S7 e⟩
        have pl7 : h₇.PlainList D vs.toArray := by obtain ⟨mq, h1⟩ := pl6; exact ⟨mq, QD6.at S7 h1⟩
        have i7 : IterAt g.base h₇ I p (kk + 1) := i6.keep (fun o e => QI6.at S7 e) fun b o e f => S7.other b o e (H6.hp.firm e f).1 id (H6.hp.firm e f).2
        have rs7 := S7.reps H6.hp rs6
        refine wpAny_list_append_plain pl7 (fun h₈ pl₈ hs₈ => ?_) (by rw [List.size_toArray, hrs.length]; exact Nat.le_trans hys (Nat.le_trans hle hsz))
        have firm8 : ∀ b o, h₇.get? b = some o → Firm o → h₈.get? b = some o := fun b o e f => hs₈.extBut b o (by rintro rfl; exact (QD7.firm e).1 f) e
        have pl8 : h₈.PlainList D (vs ++ [y]).toArray := by simpa using pl₈
        have QD8 : Priv g fr env σ₇ h₈ D := by
          obtain ⟨mq, h1⟩ := pl8
          refine ⟨QD7.nb, QD7.nf, QD7.ns, QD7.nl, _, h1, ?_, fun ov z => by cases z⟩
          rintro (⟨vs, q, _⟩ | ⟨q, _⟩)
          · cases q
          · injection q with q; exact absurd q (by decide)
        exact ⟨xs.length + 1 - (kk + 1), by omega, ⟨kk + 1, h₈, tk₇, σ₇, ys ++ [py], vs ++ [y], _, rfl, rfl, hk, by simp; omega, S07.keepBut hD' hs₈.extBut, H7.but QD7 hs₈.extBut, i7.keep (fun o e => hs₈.extBut _ o hID e) firm8, hq.1,
          QT7.but hs₈.extBut (Ne.symm hDT), QD8, QI7.but hs₈.extBut hID, ns7.sameBut hs₈ (Ne.symm hDT), pl8, (rs7.append (.cons ry .nil)).mono firm8, hq.2⟩⟩
    · have hke : kk = xs.length := by omega
      subst hke
      rw [List.drop_length] at hL
      refine iter_end (s := { s with heap := h, toks := tk' }) (C.quiet rfl) H'.hp (hr h) hit i (List.getElem?_eq_none (Nat.le_refl _)) fun h₄ tk₄ hs₄ => ?_
      have H4 := H'.but QI hs₄
      have firm4 : ∀ b o, h.get? b = some o → Firm o → h₄.get? b = some o := fun b o e f => hs₄ b o (by rintro rfl; exact (QI.firm e).1 f) e
      have QT4 := QT.but hs₄ (Ne.symm hIT)
      have S4 := S.keepBut hI hs₄
      have pl4 := hpl.extBut hs₄ (Ne.symm hID)
      have rs4 := hrs.mono firm4
      have Sm4 : Sim g.base h₄ (upd σ' D (.list ys)) := fun a ao e => by
        unfold upd at e
        split at e
        · rename_i q; subst q; cases e; exact ⟨vs, pl4, rs4⟩
        · exact H4.hp.sim a ao e
      have SD : Step fr nobody σ s.heap (upd σ' D (.list ys)) h₄ := ⟨S4.other, S4.frame, S4.live, fun a e1 e2 e3 => by
          unfold upd
          rw [if_neg (by rintro rfl; exact e3 hD')]
          exact S4.new a e1 e2 e3, fun a e => by
          unfold upd
          split
          · simp
          · exact S4.dom a e⟩
      refine k D T h₄ tk₄ ys σ' hD' hT' hDT QD.ns SD (H.step SD Sm4) ⟨QT4.nb, QT4.nf, ?_, QT4.nl, QT4.no⟩ ⟨mm, ?_⟩ hL
      · unfold upd
        rw [if_neg (Ne.symm hDT)]; exact QT4.ns
      · obtain ⟨o, es, ep, h1, h2⟩ := hns
        exact ⟨o, es, ep, hs₄ _ o (Ne.symm hIT) h1, h2⟩
  exact codeAny_compStart_list (loop _) (iter_self (s := { s with heap := h₃, toks := _ }) i3 (loop _))
end
end Mine

set_option autoImplicit false
set_option linter.unusedVariables false
namespace Mine
open PySem PyProof.Rows PySem.Calls

section
variable {g : Gx} {n : Nat} {sc sc' : Scope}
theorem comp_cells {scope : Scope} {x : Str} {cs : List Str} {fr : List Env} {env : Env} {ρ : Env'} {σ : Sto} {h : Heap} (K : CompOk sc sc' scope x cs) (hsc : env.scope = sc) (H : St g fr env ρ σ h) : closureFor scope env = pure (clOf env scope.names []) :=
  closureFor_cl fun y hy hk => by
    have := K.free y hy hk
    rw [← hsc] at this
    obtain ⟨c, ov, h1, _⟩ := H.loc.cell y.1 this
    rw [h1]; rfl

theorem sound_comp {scope : Scope} {x : Str} {px pos : Pos} {cs : List Str} {elt iter : Expr} {ifs : List Expr} {ti : TE} {tt : TB} {te : TE} (K : CompOk sc sc' scope x cs) (hi : SoundE g n true sc iter ti) (hif : SoundIfs g n sc' ifs tt) (he : SoundE g n true sc' elt te)
    (hs : ∀ (env : Env) (v : Value), foldedSetIterable iter env v = pure v) : SoundE g n true sc (.ListComp elt [⟨.Name x px, iter, ifs, 0⟩] scope pos) (tComp x cs ti tt te) := by
  intro A fr env C hsc s ρ σ Q X H ht
  rw [eval_ListComp]
  refine wpAny_comprehension_free (use := none) rfl (hs env) (comp_cells K hsc H) K.kind K.names (bindE (hi A fr env C hsc s ρ σ _ X H ht) fun xv h₁ tk p σ₁ S1 Sm1 r hq => ?_)
  obtain ⟨xs, hxs, hok, hsz, hL⟩ := hq
  refine comp_core (s := { s with heap := h₁, toks := tk }) (RR := fun acc T => compPost g.M A (PostX g fr σ s X) none (PostE g fr σ s Q) acc T) K hif he C hsc (H.step S1 Sm1) r hxs hok hsz hL ?_
  intro D T h' tk' ys σ' hD hT hDT hσ S2 H2 PT hm hQ
  obtain ⟨m, hn⟩ := hm
  refine ⟨m, hn, fun h'' hs'' => ?_⟩
  exact ⟨h'', tk', _, _, rfl, S1.trans (S2.but hT hs''.extBut), (H2.but PT hs''.extBut).hp.sim, .ref D, hQ D hσ⟩

theorem sound_setcomp {scope : Scope} {x y : Str} {px py pos spos : Pos} {cs : List Str} {elt iter : Expr} {ifs : List Expr} {ti : TE} {tt : TB} {te : TE} (K : CompOk sc sc' scope x cs) (hi : SoundE g n true sc iter ti) (hif : SoundIfs g n sc' ifs tt) (he : SoundE g n true sc' elt te)
    (hs : ∀ (env : Env) (v : Value), foldedSetIterable iter env v = pure v) (hy : sc.names.lookup y = some .local ∨ sc.names.lookup y = some .cell)
    (hsw : ∀ env : Env, env.scope = sc → swapsWith (.ListComp elt [⟨.Name x px, iter, ifs, 0⟩] scope pos) (some (.Name y py)) spos.line env = pure true) :
    SoundS g n true sc (.Assign [.Name y py] (.ListComp elt [⟨.Name x px, iter, ifs, 0⟩] scope pos) spos) (tSet y (tComp x cs ti tt te)) := by
  intro A outer env C hsc hf s ρ σ Q X H ht
  have hy' : env.kindOf y = some .local ∨ env.kindOf y = some .cell := by subst hsc; exact hy
  rw [exec_Assign_Name_used _ _ _ _ (hsw env hsc)]
  refine wpAny_bind (wpAny_standAt (wpAny_bind ?_))
  show wpAny _ A (do let _ ← comprehension (.ListComp elt [⟨.Name x px, iter, ifs, 0⟩] scope pos) scope env _ (newList []) false (eval iter env) (some (assign (.Name y py) env))) _ _ s
  refine wpAny_bind (wpAny_mono (wpAny_comprehension_free (use := some (assign (.Name y py) env)) (Q := fun _ s' => PostS g (env :: outer) env σ s Q .next s') rfl (hs env) (comp_cells K hsc H) K.kind K.names
    (stmtE H hf (hi A _ env C hsc s ρ σ _ _ H ht) fun xv h₁ tk p σ₁ S1 H1 r hq => ?_)) (fun _ s' hq => wpAny_pure (wpAny_pure hq)) fun _ _ e => e)
  obtain ⟨xs, hxs, hok, hsz, hL⟩ := hq
  refine comp_core (s := { s with heap := h₁, toks := tk }) (RR := fun acc T => compPost g.M A (PostXS g (env :: outer) env σ s X) (some (assign (.Name y py) env)) (fun _ s' => PostS g (env :: outer) env σ s Q .next s') acc T) K hif he C hsc H1 r hxs hok hsz hL ?_
  intro D T h' tk' ys σ' hD hT hDT hσ S2 H2 PT hm hQ
  obtain ⟨m, hn⟩ := hm
  show wpAny _ A (assign (.Name y py) env (.ref D)) _ _ _
  have hTk : ∀ h'', Step (env :: outer) (owned env) (upd σ' D (.list ys)) h' (upd σ' D (.list ys)) h'' → ∀ o, h'.get? T = some o → h''.get? T = some o := fun h'' x o e => by
    refine x.other T o e PT.nf (fun z => ?_) PT.ns
    rcases z with z | ⟨w, z1, z2⟩
    · exact PT.nl z
    · obtain ⟨c, ov, q1, ⟨o', q2, q3⟩, _⟩ := H2.loc.cell w z1
      rw [q1] at z2; cases z2
      exact (PT.firm q2).2 _ q3
  refine wpAny_assign_Name (store (s := { s with heap := h', toks := tk' }) C H2 hy' (.ref D) fun h₃ tk₃ S3 H3 => ?_)
  have hn3 : h₃.Ns T m := Ns.up hn fun o e => ⟨o.slots, hTk h₃ S3 o e⟩
  have PT3 : Priv g (env :: outer) env (upd σ' D (.list ys)) h₃ T := by
    obtain ⟨o, h1, h2⟩ := PT.no
    exact ⟨PT.nb, PT.nf, PT.ns, PT.nl, o, hTk h₃ S3 o h1, h2⟩
  refine ⟨m, hn3, fun h'' hs'' => ?_⟩
  exact ⟨h'', tk₃, .next, _, _, rfl, ((noOwn S1).trans ((noOwn S2).trans S3)).keepBut (by
    cases z : s.heap.get? T with
    | none => rfl
    | some o =>
      obtain ⟨o', h1⟩ := S1.live T o z id
      have hT' : h₁.get? T = none := hT
      rw [hT'] at h1; cases h1) hs''.extBut, H3.but PT3 hs''.extBut, .next, hQ D hσ⟩
end
end Mine

set_option autoImplicit false
set_option linter.unusedVariables false
namespace Mine
open PySem PyProof.Rows PySem.Calls PySem.W

theorem raised {g : Gx} {fr : List Env} {σ : Sto} {h h' : Heap} {x c : Addr} {vs : List Value} (H : Hp g.base fr σ h) (M : Heap.MadeExcOf h h' x (.ref c) vs) : ExcB g fr nobody σ h σ (hideAll h (frs fr)) h' x c := by
  have firm : ∀ b o, h.get? b = some o → Firm o → (hideAll h (frs fr)).get? b = some o := fun b o e f => hideAll_get _ e (H.firm e f).1
  refine ⟨fun b o e n1 _ _ => hideAll_get _ e n1, fun b o e n1 _ => ⟨o.slots, M.keeps b o e⟩, fun a ao e => ?_, fun a e _ _ => e, fun a e => e, fun b o e => hideAll_get _ (H.stays b o e) fun m => ?_, fun b m => hideAll_none _ m, fun b m => ?_, ?_⟩
  · have nf : a ∉ frs fr := (H.fresh a (by rw [e]; simp)).2
    have := H.sim a ao e
    cases ao with
    | list xs => obtain ⟨vs, ⟨n, h1⟩, r⟩ := this; exact ⟨vs, ⟨n, hideAll_get _ h1 nf⟩, r.mono firm⟩
    | raw o => exact ⟨hideAll_get _ this.1 nf, this.2⟩
  · rw [(H.frames.mem m).1] at e; cases e
  · obtain ⟨o, es, n, h1, h2⟩ := H.dicts b m
    exact ⟨o, es, n, M.keeps _ _ h1, h2⟩
  · refine ⟨fun b o e => M.keeps b o (of_hideAll _ e), ?_, ?_, .inl ?_⟩
    · refine funFrames_step (funFrames_hide H.frames fun env he a hf => List.mem_filterMap.mpr ⟨env, he, hf⟩) fun b o e d m => ⟨o, M.keeps b o e, d⟩
    · cases q : (hideAll h (frs fr)).get? x with
      | none => rfl
      | some o => have := of_hideAll _ q; rw [M.new] at this; cases this
    · obtain ⟨t, h1, _⟩ := M.there
      exact ⟨t, _, h1, rfl, rfl⟩

noncomputable def tRaise (c : Addr) (ts : TEs) : TS := fun ρ σ Q X => ts ρ σ (fun ps σ' => ps.length ≤ sizeLine ∧ X c ρ σ') (fun c' σ' => X c' ρ σ')

section
variable {g : Gx} {n : Nat} {sc : Scope}
theorem sound_raise {x : Str} {c : Addr} {B newId initId : String} {bm : List Value} {es : List Expr} {ts : TEs} {np cpos pos : Pos} (O : OwnCls x c bm newId g.mg g.base) (FB : ExcBaseFacts B newId initId bm) (hes : SoundEs g n true sc es ts)
    (hx : sc.names.lookup x = some .globalImplicit) (hd : (x == ("__debug__" : Str)) = false) : SoundS g n true sc (.Raise (some (.Call (.Name x np) es [] cpos)) none pos) (tRaise c ts) := by
  intro A outer env C hsc hf s ρ σ Q X H ht
  obtain ⟨tl, N, nm, q, bs, hdct, sn, sub, ab, col, dd, k0, k1, k2, k3, k5, mN, hC, hN, hni, T⟩ := O.obj
  refine wpAny_Raise_call_subT (C := c) (nm := nm) (q := q) (N := N) (bs := bs) (bm := tl) (hdct := hdct) (sn := sn) (sub := sub) (ab := ab) (col := col) (dd := dd) (k0 := k0) (k1 := k1) (k2 := k2) (k3 := k3) (k5 := k5)
    FB (mN := mN) (T.hasType FB.hasBase) (C.quiet rfl) (hes.1 env cpos) hni (name_glob C H (by rw [hsc]; exact hx) hd (.inl O.bound) ⟨rfl, ?_⟩)
  refine wpAny_mono (evalArgs_es (f := .ref c) hes C hsc H ht) (fun a s' hp => ?_) fun _ _ y => y.stmt H hf
  obtain ⟨hkw, h₁, tk, ps, σ₁, rfl, S1, Sm1, rs, hle, hq⟩ := hp
  have H1 := H.step S1 Sm1
  have st := H1.hp.stays
  refine ⟨hkw, by rw [rs.length]; exact hle, st _ _ hC, hN.keeps st, T.keeps st, fun h' e M => ?_⟩
  have R := raised H1.hp M
  have P : PostX g (env :: outer) σ₁ { s with heap := h₁, toks := tk } (fun c' σ' => X c' ρ σ') (.ref e) { s with heap := h', toks := tk } := ⟨h', tk, e, c, σ₁, _, rfl, rfl, R, hq⟩
  exact (P.stmt H1 hf).up (noOwn S1)
end
end Mine

set_option autoImplicit false
set_option linter.unusedVariables false
namespace Mine
open PySem PyProof.Rows PySem.Calls PySem.W

theorem Flown.obj {B : Heap} {fr : List Env} {x c : Addr} {h' : Heap} (H : Flown B fr x c h') : ∃ o vs, h'.get? x = some o ∧ o.cls = .ref c ∧ o.data = .fields vs := by
  obtain ⟨_, _, _, a0, oe, vs, T, oT, ts, h1, h2, h3, _⟩ := H
  exact ⟨oe, vs, h1, h2.1, h3⟩

/-- an exception that has landed: the frame goes on -/
theorem ExcB.land {g : Gx} {n : Nat} {q : Bool} {A : Around} {outer : List Env} {env : Env} {ρ ρ' : Env'} {σ σ' : Sto} {h B h' : Heap} {x c : Addr} (C : Cx g n q A (env :: outer) env) (hf : env.frame = some env.locals) (H : St g (env :: outer) env ρ σ h)
    (e : ExcB g (env :: outer) (owned env) σ h σ' B h' x c) (l : Loc g.base B h' env ρ') : Step (env :: outer) (owned env) σ h σ' h' ∧ St g (env :: outer) env ρ' σ' h' := by
  obtain ⟨st, ff, nx, _⟩ := e.fly
  have inB : ∀ a, σ' a ≠ none → ∃ o, B.get? a = some o := fun a hz => by
    cases z : σ' a with
    | none => exact absurd z hz
    | some ao =>
      have := e.sim a ao z
      cases ao with
      | list xs => obtain ⟨vs, ⟨m, h1⟩, _⟩ := this; exact ⟨_, h1⟩
      | raw o => exact ⟨o, this.1⟩
  have nf : ∀ a, σ' a ≠ none → a ∉ frs (env :: outer) := fun a hz m => by
    obtain ⟨o, h1⟩ := inB a hz
    rw [e.nofr a m] at h1; cases h1
  have hL : env.locals ∈ frs (env :: outer) := List.mem_filterMap.mpr ⟨env, .head _, hf⟩
  refine ⟨⟨fun b o e1 n1 n2 n3 => st b o (e.other b o e1 n1 n2 n3), e.frame, fun b o e1 n2 => ?_, e.new, e.dom⟩, ⟨⟨fun b o z => st b o (e.stays b o z), funFrames_base e.stays ff, e.sim.keeps st, fun a hz => ⟨?_, nf a hz⟩, e.dicts⟩, ⟨?_, fun y k => ?_⟩, ?_⟩⟩
  · by_cases m : b ∈ frs (env :: outer)
    · obtain ⟨sl, h1⟩ := e.frame b o e1 m n2; exact ⟨_, h1⟩
    · cases z : σ b with
      | none => exact ⟨o, st b o (e.other b o e1 m n2 z)⟩
      | some ao =>
        obtain ⟨o', h1⟩ := inB b (e.dom b (by rw [z]; simp))
        exact ⟨o', st b o' h1⟩
  · cases z : g.base.get? a with
    | none => rfl
    | some o =>
      exfalso
      refine hz (e.new a ?_ ?_ ?_)
      · cases w : σ a with
        | none => rfl
        | some ao => rw [(H.hp.fresh a (by rw [w]; simp)).1] at z; cases z
      · intro hm
        rcases hm with rfl | ⟨y, _, h1⟩
        · rw [C.nbase] at z; cases z
        · rw [C.cbase y a h1] at z; cases z
      · rw [H.hp.stays a o z]; simp
  · obtain ⟨m, h1, h2⟩ := l.ns
    exact ⟨m, h1, fun y p e1 e2 => let ⟨v, h3, h4⟩ := h2 y p e1 e2; ⟨v, h3, h4.keeps st⟩⟩
  · obtain ⟨c', ov, h1, ⟨o, h2, h3⟩, h4⟩ := l.cell y k
    exact ⟨c', ov, h1, ⟨o, st _ _ h2, h3⟩, fun p e1 => let ⟨v, h5, h6⟩ := h4 p e1; ⟨v, h5, h6.keeps st⟩⟩
  · cases z : σ' env.locals with
    | none => rfl
    | some ao => exact absurd hL (nf _ (by rw [z]; simp))

/-- the handler's name goes -/
noncomputable def unL (ρ : Env') (n : Str) : Env' := fun y => if y = n then none else ρ y
noncomputable def tTry (n : Str) (cls : List Addr) (tb th : TS) : TS := fun ρ σ Q X => tb ρ σ Q (fun c ρ' σ' => c ∈ cls ∧ ∀ a, σ' a = none → th (setL ρ' n (.exc a c)) σ' (fun fl ρ'' σ'' => Q fl (unL ρ'' n) σ'') (fun _ _ _ => False))

section
variable {g : Gx} {n : Nat} {sc : Scope}
theorem nameGoes {q : Bool} {A A' : Around} {fr : List Env} {env : Env} {s : Shared} {ρ : Env'} {σ : Sto} {x : Str} {pos : Pos} {E : Value → Shared → Prop} {Q : Unit → Shared → Prop} (C : Cx g n q A' fr env) (H : St g fr env ρ σ s.heap)
    (hx : env.kindOf x = some .local) (k : ∀ h' tk, Step fr (owned env) σ s.heap σ h' → St g fr env (unL ρ x) σ h' → Q () { s with heap := h', toks := tk }) : wpAny g.M A (do bindName env x .none; unbindBehindTheSuite env x pos) Q E s := by
  obtain ⟨hp, ⟨⟨m, hn, hm⟩, hc⟩, nl⟩ := H
  have hLd : ∀ o, s.heap.get? env.locals = some o → ¬ Firm o := fun o e => by
    obtain ⟨o', es, ep, ho, hd, _⟩ := hn
    rw [e] at ho; cases ho; exact notFirm_dict hd
  refine wpAny_nameGoes_keeps hx hn (by rw [C.kind]; rfl) fun h' v' hn' hs' => ?_
  have hsz : ∃ o', h'.get? env.locals = some o' ∧ ((∃ es n, o'.data = .dict es n) ∨ ((∃ ov, o'.data = .cell ov) ∧ env.locals ∉ frs fr)) := by
    obtain ⟨o', es, ep, ho, hd, _⟩ := hn'
    exact ⟨o', ho, .inl ⟨es, ep, hd⟩⟩
  obtain ⟨S1, H1, R1⟩ := turned (own := owned env) hp (.inl rfl) hs' hsz C.nbase nl hLd
  have un : ∀ y p', unL ρ x y = some p' → y ≠ x ∧ ρ y = some p' := fun y p' e => by
    unfold unL at e
    split at e
    · cases e
    · exact ⟨by assumption, e⟩
  refine k h' _ S1 ⟨H1, ⟨⟨_, hn', fun y p' e k' => ?_⟩, fun y k' => ?_⟩, nl⟩
  · obtain ⟨ne, e⟩ := un y p' e
    obtain ⟨v, h1, r⟩ := hm y p' e k'
    exact ⟨v, by rw [if_neg ne]; exact h1, R1 r⟩
  obtain ⟨c, ov, h1, h2, h3⟩ := hc y k'
  have hcl : c ≠ env.locals := by
    rintro rfl
    obtain ⟨o, ho, hd⟩ := h2
    obtain ⟨o', es, ep, ho', hd', _⟩ := hn
    rw [ho] at ho'; cases ho'; rw [hd] at hd'; cases hd'
  exact ⟨c, ov, h1, h2.sameBut hs' hcl, fun p' e => let ⟨v, h4, r⟩ := h3 p' (un y p' e).2; ⟨v, h4, R1 r⟩⟩

theorem sound_try {q : Bool} {body : List Stmt} {hb : List Stmt} {b₀ : Stmt} {cn nm : Str} {np hpos pos : Pos} {D : Addr} {cls : List Addr} {tb th : TS} (h1 : SoundSs g n q sc body tb) (h2 : SoundSs g n false sc (b₀ :: hb) th)
    (hcn : sc.names.lookup cn = some .globalImplicit) (hcd : (cn == ("__debug__" : Str)) = false) (hD : GlobAt g cn (.ref D)) (hnm : sc.names.lookup nm = some .local)
    (hm : ∀ c ∈ cls, exmOne g.K (.ref c) (.ref D) = some true) : SoundS g n q sc (.Try body [.ExceptHandler (some (.Name cn np)) (some nm) (b₀ :: hb) hpos] [] [] pos) (tTry nm cls tb th) := by
  intro A outer env C hsc hf s ρ σ Q X H ht
  have hnm' : env.kindOf nm = some .local := by subst hsc; exact hnm
  refine wpAny_Try_except (wpAny_mono (h1 A outer env C hsc hf s ρ σ Q _ H ht) (fun f s' hp => ?_) fun v s' hp => ?_)
  · cases f with
    | next => exact wpAny_execs_nil hp
    | _ => exact hp
  · obtain ⟨h', tk, x, c, ρ', σ', B, rfl, rfl, e, l, hc, hx⟩ := hp
    refine Fly.note (s := { s with heap := h', toks := tk }) C.frames hf e.fly fun h₂ H2 u2 => ?_
    refine Held.land (s := { s with heap := h₂, toks := tk }) H2 fun h₃ H3 u3 => ?_
    have u03 := u2.trans u3
    have e3 := e.turn u03 H3.fly
    have l3 := l.turn u03
    obtain ⟨S3, St3⟩ := ExcB.land C hf H e3 l3
    have Cm : Cx g n false (A.mark (some (.ref x))) (env :: outer) env := ⟨C.frames, C.room, fun z => Bool.noConfusion z, C.kind, C.globals, C.builtins, C.inj, C.nbase, C.cbase⟩
    refine wpAny_handleBy_cons (codeAny_handlers_test (name_glob (s := { s with heap := h₃, toks := tk }) Cm St3 (by rw [hsc]; exact hcn) hcd hD ?_)) (by intro z; cases z)
    obtain ⟨o, vs, ho, hcl, hd⟩ := H3.obj
    have LT : Looks g.M h₃ (typeOf (.ref x)) (.ref c) := hcl ▸ (Looks.ld ho).andThen .now
    have KI : Frag.In g.K h₃ := fun a o z => St3.hp.stays a o (g.inK a o z)
    refine (exm_one KI LT (hm c hc)).here (s := { s with heap := h₃, toks := tk }) ?_
    show codeAny _ _ _ _ _
    refine codeAny_handlers_suite_as (Flown.land (s := { s with heap := h₃, toks := tk }) H3 fun h₄ H4 u4 => ?_)
    have e4 := e3.turn u4 H4.fly
    have l4 := l3.turn u4
    obtain ⟨S4, St4⟩ := ExcB.land C hf H e4 l4
    obtain ⟨o, vs, ho, hcl, hd⟩ := H4.obj
    have hσx : σ' x = none := by
      cases z : σ' x with
      | none => rfl
      | some ao =>
        have nx := H4.2.2.1
        have := e4.sim x ao z
        cases ao with
        | list xs => obtain ⟨vs, ⟨m, h1⟩, _⟩ := this; rw [nx] at h1; cases h1
        | raw o => rw [nx] at this; cases this.1
    refine store (s := { s with heap := h₄, toks := tk }) Cm St4 (.inl hnm') (.exc ho hcl hd) fun h₅ tk₅ S5 St5 => ?_
    refine wpAny_mono (h2 (A.mark (some (.ref x))) outer env Cm hsc hf { s with heap := h₅, toks := tk₅ } _ σ' _ _ St5 (hx x hσx)) (fun f s₆ hp => ?_) fun v s₆ hp => ?_
    · obtain ⟨h₆, tk₆, fl, ρ₆, σ₆, rfl, S6, St6, rf, hq⟩ := hp
      refine nameGoes (s := { s with heap := h₆, toks := tk₆ }) C St6 hnm' fun h₇ tk₇ S7 St7 => ?_
      refine ⟨h₇, tk₇, fl, unL ρ₆ nm, σ₆, rfl, S4.trans (S5.trans (S6.trans S7)), St7, ?_, hq⟩
      cases rf with
      | next => exact .next
      | brk => exact .brk
      | cont => exact .cont
      | ret r => exact .ret (r.mono fun b o e f => S7.other b o e (St6.hp.firm e f).1 (fun z => by
          rcases z with rfl | ⟨y, z1, z2⟩
          · obtain ⟨m, ⟨o', es, ep, q1, q2, _⟩, _⟩ := St6.loc.ns
            rw [e] at q1; cases q1
            exact notFirm_dict q2 f
          · obtain ⟨c', ov, q1, ⟨o', q2, q3⟩, _⟩ := St6.loc.cell y z1
            rw [q1] at z2; cases z2
            rw [e] at q2; cases q2
            exact notFirm_cell q3 f) (St6.hp.firm e f).2)
    · obtain ⟨_, _, _, _, _, _, _, _, _, _, _, z⟩ := hp
      exact z.elim
end
end Mine

set_option autoImplicit false
set_option linter.unusedVariables false
set_option maxRecDepth 100000
namespace Mine
open PySem PyProof.Rows PySem.Calls PySem.W Builtin Builtin.ObjectAttr Builtin.Getset_descriptor

/-- an own exception class, as far as isinstance asks -/
structure ExcK (K : Frag) (c : Addr) : Prop where
  ga : findIn K (.ref c) "__getattribute__" = some (some (.builtin "BaseException.__getattribute__"))
  gn : findIn K (.ref c) "__getattr__" = some none
  cl : findIn K (.ref c) "__class__" = some (some (.builtin "object.__class__"))
  mo : mroIn K c (.type "object") = some true
  mb : mroIn K c (.type "BaseException") = some true
  is : (clsIn K c).isSome = true

section
variable {prog : Program} {w : World} {A : Around} {E : Value → Shared → Prop} {h : Heap} {g : Array GenState} {d : Drawn} {t : Nat} {os : OsState} {a c : Addr} {o : Obj} {K : Frag}

theorem exc_class_get {R : Result → Shared → Prop} (X : K.In h) (F' : ExcK K c) (hx : h.get? a = some o) (hc : o.cls = .ref c) (hq : R (.ok (.ret (.ref c))) ⟨h, g, d, t, os⟩) :
    codeAny (model prog w) A (.call (.builtin "getset_descriptor.__get__") ⟨[.builtin "object.__class__", .ref a, .ref c], []⟩) R ⟨h, g, d, t, os⟩ := by
  have hT5 : (⟨h, g, d, t, os⟩ : Shared).TypeIs (.builtin "object.__class__") "getset_descriptor" := F.typeOf_object_class
  have L1 := looks_mroIn (M := model prog w) X F'.mo
  have L0 : Looks (model prog w) h (typeOf (.ref a)) (.ref c) := hc ▸ (Looks.ld hx).andThen .now
  refine codeAny_call_builtin F.slot_gs_get.plain F.entry_gs_get (F.slot_gs_get.check _ _ _ _ _ _ _ _ hT5 (F.args_gs_get _ _ _) ?_)
  unfold Builtin.«getset_descriptor.__get__» descrGet
  rw [dga_obj]
  refine wpAny_bind (wpAny_pure ?_)
  unfold descrGetter descrCheckInstance descrNameAndClass isInstance
  simp only [KF.owner_class]
  repeat lk
  refine ⟨Code.quiet_builtin _ (by decide +kernel), codeAny_builtin KF.entry_class ?_⟩
  unfold Builtin.«object.__class__» shownTypeOf
  repeat lk
  exact hq

theorem exc_check_ga {M : Model} {nameV : Value} {Q : Unit → Shared → Prop} (X : K.In h) (F' : ExcK K c) (hx : h.get? a = some o) (hc : o.cls = .ref c) (hq : Q () ⟨h, g, d, t, os⟩) : wpAny M A (checkBuiltinCall "BaseException.__getattribute__" ⟨[.ref a, nameV], []⟩) Q E ⟨h, g, d, t, os⟩ := by
  have hk : builtinKind "BaseException.__getattribute__" = some .slot := by decide +kernel
  have hsplit : splitId "BaseException.__getattribute__" = some ("BaseException", "__getattribute__") := by decide +kernel
  have L1 := looks_mroIn (M := M) X F'.mb
  have L0 : Looks M h (typeOf (.ref a)) (.ref c) := hc ▸ (Looks.ld hx).andThen .now
  have LI : Looks M h (isInstance (.ref a) (.type "BaseException")) true := L0.andThen L1
  have ha := F.args_bexc_ga (.ref a) nameV
  simp only [checkBuiltinCall, hk, hsplit]
  refine wpAny_bind (LI.at ?_)
  repeat (first | assumption | wp_step)

theorem exc_class_entry {tk : Tok} {Q : Fin → Shared → Prop} (X : K.In h) (F' : ExcK K c) (hx : h.get? a = some o) (hc : o.cls = .ref c) (hq : Q (.done (.ret (.ref c))) ⟨h, g, d, t, os⟩) :
    wpAny (model prog w) A (Builtin.«object.__getattribute__» ⟨[.ref a, .str "__class__" tk], []⟩) Q E ⟨h, g, d, t, os⟩ := by
  have hT5 : (⟨h, g, d, t, os⟩ : Shared).TypeIs (.builtin "object.__class__") "getset_descriptor" := F.typeOf_object_class
  have f5 := F.typeOf_object_class
  have f6 := F.slot_gs_get.lookup
  have f7 := F.slot_gs_set.lookup
  have L1 := looks_findIn (M := model prog w) X F'.cl
  repeat (any_goals (first | assumption | (with_reducible refine wpAny_loadPart_at hx ?_; rw [hc]) | with_reducible refine Looks.at L1 ?_ | wp_step))
  refine exc_class_get X F' hx hc ?_
  repeat (any_goals (first | assumption | wp_step))

theorem exc_class_call {tk : Tok} {R : Result → Shared → Prop} (X : K.In h) (F' : ExcK K c) (hx : h.get? a = some o) (hc : o.cls = .ref c) (hq : R (.ok (.ret (.ref c))) ⟨h, g, d, t, os⟩) :
    codeAny (model prog w) A (.call (.builtin "BaseException.__getattribute__") ⟨[.ref a, .str "__class__" tk], []⟩) R ⟨h, g, d, t, os⟩ :=
  codeAny_call_builtin F.attr_ValueError.ga.plain F.entry_bexc_ga (exc_check_ga X F' hx hc (exc_class_entry X F' hx hc hq))

theorem exc_class_by {tk : Tok} {Q : Value → Shared → Prop} (X : K.In h) (F' : ExcK K c) (hx : h.get? a = some o) (hc : o.cls = .ref c) (hq : Q (.ref c) ⟨h, g, d, t, os⟩) :
    wpAny (model prog w) A (getAttrBy (.ref a) (.str "__class__" tk) false) Q E ⟨h, g, d, t, os⟩ := by
  have f3 := F.attr_ValueError.ga.bind (.ref a)
  have hx0 : (false && onTheHeap (Value.builtin "BaseException.__getattribute__")) = false := rfl
  have hx2 : (Value.builtin "BaseException.__getattribute__" == Value.builtin "object.__getattribute__") = false := by decide +kernel
  have hx1 : (onTheHeap (Value.ref c) && Value.builtin "BaseException.__getattribute__" == Value.builtin "object.__getattribute__") = false := by rw [hx2]; rfl
  have L1 := looks_findIn (M := model prog w) X F'.ga
  have L2 := looks_findIn (M := model prog w) X F'.gn
  repeat (any_goals (first | assumption | (with_reducible refine wpAny_loadPart_at hx ?_; rw [hc]) | with_reducible refine Looks.at L1 ?_ | with_reducible refine Looks.at L2 ?_ | wp_step))
  refine exc_class_call X F' hx hc ?_
  repeat (any_goals (first | assumption | wp_step))

theorem exc_class_attr {Q : Option Value → Shared → Prop} (X : K.In h) (F' : ExcK K c) (hx : h.get? a = some o) (hc : o.cls = .ref c) (hq : Q (some (.ref c)) ⟨h, g, d, t + 1, os⟩) : wpAny (model prog w) A (getAttr? (.ref a) "__class__") Q E ⟨h, g, d, t, os⟩ := by
  unfold getAttr? getAttrBy?
  repeat (any_goals (first | assumption | with_reducible apply exc_class_by X F' hx hc | wp_step))
end

theorem kitx_exc {K : Frag} {a c : Addr} (F' : ExcK K c) : KitX K (.ref a) (.ref c) (fun h => ∃ o, h.get? a = some o ∧ o.cls = .ref c) where
  ty := fun M h X ⟨o, h1, h2⟩ => h2 ▸ (Looks.ld h1).andThen .now
  it := fun M h X _ => by
    obtain ⟨cd, hcd⟩ := Option.isSome_iff_exists.mp F'.is
    unfold clsIn at hcd
    split at hcd
    · rename_i c' d' cd' sl' ho
      intro A' Q' E' s' k q
      unfold isType loadHead
      exact wpAny_bind (wpAny_loadPart (k _ _ (X _ _ ho)) (wpAny_pure q))
    · cases hcd
  ne := fun h tp dd its n sl X htp => by
    obtain ⟨cd, hcd⟩ := Option.isSome_iff_exists.mp F'.is
    refine Bool.eq_false_iff.mpr fun q => ?_
    have e : c = tp := Value.ref.inj (beq_iff_eq.mp q)
    subst e
    unfold clsIn at hcd
    split at hcd
    · rename_i c' d' cd' sl' ho
      have z := (X _ _ ho).symm.trans htp
      cases z
    · cases hcd
  ca := fun {_ _ _ _ _ s} X ⟨o, h1, h2⟩ k => by obtain ⟨h, g, d, t, os⟩ := s; exact exc_class_attr X F' h1 h2 k
end Mine

set_option autoImplicit false
set_option linter.unusedVariables false
set_option maxRecDepth 100000
namespace Mine
open PySem PyProof.Rows PySem.Calls PySem.W

inductive Ty where
  | none | bool | int | str | tup | list | dict
  | exc (c : Addr)
noncomputable def Ty.val : Ty → Value
  | .none => .type "NoneType"
  | .bool => .type "bool"
  | .int => .type "int"
  | .str => .type "str"
  | .tup => .type "tuple"
  | .list => .type "list"
  | .dict => .type "dict"
  | .exc c => .ref c
noncomputable def tyOf (σ : Sto) : PV → Option Ty
  | .none => some .none
  | .bool _ => some .bool
  | .int _ => some .int
  | .str _ => some .str
  | .tup _ => some .tup
  | .lst _ _ => some .list
  | .exc _ c => some (.exc c)
  | .rng _ _ => Option.none
  | .ref a => match σ a with
    | some (.list _) => some .list
    | some (.raw ⟨.type "dict", _, _, _⟩) => some .dict
    | _ => Option.none
noncomputable def tIsinst (te : TE) (ok : Ty → Option Bool) : TE := fun ρ σ Q X => te ρ σ (fun p σ' => ∃ ty b, tyOf σ' p = some ty ∧ ok ty = some b ∧ Q (.bool b) σ') X

theorem isinst_any {g : Gx} {A : Around} {fr : List Env} {σ : Sto} {s : Shared} {v cv : Value} {p : PV} {ty : Ty} {b : Bool} {Q : Value → Shared → Prop} {E : Value → Shared → Prop} (H : Hp g.base fr σ s.heap) (r : Rep g.base s.heap v p) (ht : tyOf σ p = some ty)
    (hk : kitOne g.K ty.val cv = some b) (hE : ∀ c, ty = .exc c → ExcK g.K c) (h : ∀ tk, Q (.bool b) { s with toks := tk }) : wpAny g.M A (call (.builtin "isinstance") [v, cv]) Q E s := by
  have X : Frag.In g.K s.heap := fun a o z => H.stays a o (g.inK a o z)
  cases p with
  | none => cases ht; obtain rfl := inv_none r; exact kia_one kitx_none X trivial hk (by simp) h
  | bool b => cases ht; obtain rfl := inv_bool r; exact kia_one kitx_bool X trivial hk (by simp) h
  | int i => cases ht; obtain ⟨t, rfl⟩ := inv_int r; exact kia_one kitx_int X trivial hk (by simp) h
  | str x => cases ht; obtain ⟨t, rfl⟩ := inv_str r; exact kia_one kitx_str X trivial hk (by simp) h
  | tup xs => cases ht; obtain ⟨a, o, vs, n, rfl, ho, hc, hd, rs⟩ := inv_tup r; exact kia_one kitx_tuple X ⟨_, ho, hc⟩ hk (by simp) h
  | lst a ns => cases ht; obtain ⟨rfl, vs, ⟨o, h3, h4, h5⟩, _⟩ := inv_lst r; exact kia_one kitx_list X ⟨o, H.stays _ _ h3, h4⟩ hk (by simp) h
  | exc a c => cases ht; obtain ⟨o, rfl, ho, hc⟩ := inv_exc r; exact kia_one (kitx_exc (hE _ rfl)) X ⟨_, ho, hc⟩ hk (by simp) h
  | rng lo hi => cases ht
  | ref a =>
    obtain rfl := inv_ref r
    unfold tyOf at ht
    dsimp only at ht
    split at ht
    · rename_i xs e
      cases ht
      obtain ⟨vs, ⟨m, h1⟩, _⟩ := H.sim a _ e
      exact kia_one kitx_list X ⟨_, h1, rfl⟩ hk (by simp) h
    · rename_i d da sl e
      cases ht
      have := H.sim a _ e
      exact kia_one kitx_dict X ⟨_, this.1, rfl⟩ hk (by simp) h
    · cases ht

section
variable {g : Gx} {n : Nat} {q : Bool} {sc : Scope}
theorem sound_isinst {e : Expr} {te : TE} {ok : Ty → Option Bool} {cn : Str} {cv : Value} {np cp pos : Pos} (he : SoundE g n q sc e te) (hx : sc.names.lookup ("isinstance" : Str) = some .globalImplicit) (hg : GlobAt g "isinstance" (.builtin "isinstance"))
    (hc : sc.names.lookup cn = some .globalImplicit) (hcd : (cn == ("__debug__" : Str)) = false) (hcg : GlobAt g cn cv) (hok : ∀ ty b, ok ty = some b → kitOne g.K ty.val cv = some b) (hE : ∀ c b, ok (.exc c) = some b → ExcK g.K c)
    (hns : ∀ env : Env, starEach [e, .Name cn cp] env = [(false, eval e env), (false, eval (.Name cn cp) env)]) : SoundE g n q sc (.Call (.Name "isinstance" np) [e, .Name cn cp] [] pos) (tIsinst te ok) := by
  intro A fr env C hsc s ρ σ Q X H ht
  refine wpAny_Call_ofName (name_glob C H (by rw [hsc]; exact hx) (by decide) hg ?_)
  refine callWith_builtin (by rw [hns]; rfl) ?_
  rw [hns]
  show wpAny _ _ (evalArgs _ true ((false, eval e env) :: (false, eval (.Name cn cp) env) :: []) []) _ _ _
  refine Calls.evalArgs_plain (spliced_cons (bindE (he A fr env C hsc s ρ σ _ X H ht) fun v h₁ tk p σ₁ S1 Sm1 r hq => ?_))
  have H1 := H.step S1 Sm1
  refine spliced_cons (name_glob (s := { s with heap := h₁, toks := tk }) C H1 (by rw [hsc]; exact hc) hcd hcg (spliced_nil ?_))
  obtain ⟨ty, b, h1, h2, h3⟩ := hq
  refine isinst_any (s := { s with heap := h₁, toks := tk }) H1.hp r h1 (hok ty b h2) (fun c e => by subst e; exact hE c b h2) fun tk' => ?_
  exact ⟨h₁, tk', _, σ₁, rfl, S1, Sm1, .bool b, h3⟩

noncomputable def okInt : Ty → Option Bool
  | .exc _ => Option.none
  | .int => some true
  | .bool => some true
  | _ => some false
noncomputable def okBool : Ty → Option Bool
  | .exc _ => Option.none
  | .bool => some true
  | _ => some false
noncomputable def okTup : Ty → Option Bool
  | .exc _ => Option.none
  | .tup => some true
  | _ => some false
noncomputable def okList : Ty → Option Bool
  | .exc _ => Option.none
  | .list => some true
  | _ => some false
theorem okInt_ok {K : Frag} : ∀ ty b, okInt ty = some b → kitOne K ty.val (.type "int") = some b := by
  intro ty b e
  cases ty <;> cases e <;> rfl
theorem okBool_ok {K : Frag} : ∀ ty b, okBool ty = some b → kitOne K ty.val (.type "bool") = some b := by
  intro ty b e
  cases ty <;> cases e <;> rfl
theorem okTup_ok {K : Frag} : ∀ ty b, okTup ty = some b → kitOne K ty.val (.type "tuple") = some b := by
  intro ty b e
  cases ty <;> cases e <;> rfl
theorem okList_ok {K : Frag} : ∀ ty b, okList ty = some b → kitOne K ty.val (.type "list") = some b := by
  intro ty b e
  cases ty <;> cases e <;> rfl
end
end Mine

set_option autoImplicit false
set_option linter.unusedVariables false
set_option maxRecDepth 100000
namespace Mine
open PySem PyProof.Rows PySem.Calls PySem.W

/-! slices -/
noncomputable abbrev TP := Env' → Sto → (Option Int → Sto → Prop) → (Addr → Sto → Prop) → Prop
noncomputable def SoundP (g : Gx) (n : Nat) (q : Bool) (sc : Scope) (e : Option Expr) (t : TP) : Prop :=
  ∀ (A : Around) (fr : List Env) (env : Env), Cx g n q A fr env → env.scope = sc → ∀ (s : Shared) (ρ : Env') (σ : Sto) (Q : Option Int → Sto → Prop) (X : Addr → Sto → Prop),
    St g fr env ρ σ s.heap → t ρ σ Q X → wpAny g.M A (evalPart e env) (fun v s' => ∃ h' tk i σ', s' = { s with heap := h', toks := tk } ∧ Step fr nobody σ s.heap σ' h' ∧ Sim g.base h' σ' ∧ IsPart v i ∧ Q i σ') (PostX g fr σ s X) s
noncomputable def tPsome (t : TE) : TP := fun ρ σ Q X => t ρ σ (fun p σ' => ∃ i, p = .int i ∧ Q (some i) σ') X
noncomputable def cutL (xs : List PV) (lo hi : Option Int) : List PV := (xs.take (hi.elim xs.length Int.toNat)).drop (lo.elim 0 Int.toNat)
noncomputable def partOk : Option Int → Prop
  | none => True
  | some i => 0 ≤ i
noncomputable def tSlice (te : TE) (tl tu : TP) : TE := fun ρ σ Q X => te ρ σ (fun p σ₁ => tl ρ σ₁ (fun lo σ₂ => tu ρ σ₂ (fun hi σ₃ => ∃ xs, partOk lo ∧ partOk hi ∧ LR p ∧ itemsOf σ₃ p = some xs ∧ xs.length ≤ sizeLine ∧
  ∀ a, σ₃ a = none → Q (.ref a) (upd σ₃ a (.list (cutL xs lo hi)))) X) X) X

theorem cut_same {α : Type} (items : List α) (a b : Nat) : (items.drop (min a items.length)).take (min b items.length - min a items.length) = (items.take b).drop a := by
  rw [List.drop_take]
  by_cases h : a ≤ items.length
  · rw [Nat.min_eq_left h, List.take_eq_take_min (i := b - a), List.length_drop, Nat.sub_min_sub_right]
  · have h' : items.length ≤ a := Nat.le_of_not_le h
    rw [Nat.min_eq_right h', List.drop_of_length_le (Nat.le_refl _), List.drop_of_length_le h', List.take_nil, List.take_nil]
theorem clip_same {n : Nat} {d : Nat} (hd : min d n = d) {o : Option Int} (h : partOk o) : o.elim d (clipAt n) = min (o.elim d Int.toNat) n := by
  cases o with
  | none => exact hd.symm
  | some i => have := clipAt_nat n i.toNat; rw [Int.toNat_of_nonneg h] at this; exact this
theorem slice_vals {α : Type} (items : List α) (lo hi : Option Int) (h1 : partOk lo) (h2 : partOk hi) :
    (items.drop (lo.elim 0 (clipAt items.length))).take (hi.elim items.length (clipAt items.length) - lo.elim 0 (clipAt items.length)) = (items.take (hi.elim items.length Int.toNat)).drop (lo.elim 0 Int.toNat) := by
  rw [clip_same (Nat.zero_min _) h1, clip_same (Nat.min_self _) h2]
  exact cut_same _ _ _

section
variable {g : Gx} {n : Nat} {q : Bool} {sc : Scope}
theorem part_some {e : Expr} {t : TE} (he : SoundE g n q sc e t) : SoundP g n q sc (some e) (tPsome t) := by
  intro A fr env C hsc s ρ σ Q X H ht
  refine wpAny_mono (he A fr env C hsc s ρ σ _ X H ht) (fun v s' hp => ?_) fun _ _ x => x
  obtain ⟨h', tk, p, σ', rfl, S1, Sm1, r, i, rfl, hq⟩ := hp
  obtain ⟨t, rfl⟩ := inv_int r
  exact ⟨h', tk, some i, σ', rfl, S1, Sm1, .int i t, hq⟩

theorem sound_slice {e : Expr} {lower upper : Option Expr} {p pos : Pos} {te : TE} {tl tu : TP} (he : SoundE g n q sc e te) (hl : SoundP g n q sc lower tl) (hu : SoundP g n q sc upper tu) (htmp : ∀ o r, letTemporaryGo e o r = pure ()) :
    SoundE g n q sc (.Subscript e (.Slice lower upper none p) pos) (tSlice te tl tu) := by
  intro A fr env C hsc s ρ σ Q X H ht
  refine wpAny_Subscript_list_slice (bindE (he A fr env C hsc s ρ σ _ X H ht) fun o h₁ tk₁ po σ₁ S1 Sm1 r hq => ?_) htmp
  have H1 := H.step S1 Sm1
  refine wpAny_mono (hl A fr env C hsc { s with heap := h₁, toks := tk₁ } ρ σ₁ _ X H1 hq) (fun vl s₂ hp => ?_) fun _ _ x => x.up S1
  obtain ⟨h₂, tk₂, lo, σ₂, rfl, S2, Sm2, pl, hq⟩ := hp
  have H2 := H1.step S2 Sm2
  refine wpAny_mono (hu A fr env C hsc { s with heap := h₂, toks := tk₂ } ρ σ₂ _ X H2 hq) (fun vu s₃ hp => ?_) fun _ _ x => x.up (S1.trans S2)
  obtain ⟨h₃, tk₃, hi, σ₃, rfl, S3, Sm3, pu, hq⟩ := hp
  have H3 := H2.step S3 Sm3
  have r3 := S3.rep H2.hp (S2.rep H1.hp r)
  obtain ⟨xs, k1, k2, kp, hxs, hle, hQ⟩ := hq
  obtain ⟨l, rfl, vs, hl, rs⟩ := list_of H3.hp r3 hxs kp
  refine ⟨l, vs.toArray, lo, hi, rfl, hl, by rw [List.size_toArray, rs.length]; exact hle, pl, pu, ?_⟩
  rw [slicePick_plain]
  simp only [List.size_toArray]
  rw [slice_vals vs lo hi k1 k2]
  have rs' : Reps g.base h₃ ((vs.take (hi.elim vs.length Int.toNat)).drop (lo.elim 0 Int.toNat)) (cutL xs lo hi) := by unfold cutL; rw [← rs.length]; exact (rs.take _).drop _
  generalize (vs.take (hi.elim vs.length Int.toNat)).drop (lo.elim 0 Int.toNat) = ws at rs' ⊢
  have kp : ∀ b o, h₃.get? b = some o → ((h₃.push { cls := .type "slice", data := .fields #[vl, vu, .none] }).push { cls := .type "list", data := .seq ws.toArray }).get? b = some o := fun b o e => Heap.get?_push_of_some _ (Heap.get?_push_of_some _ e)
  have hl' := Heap.get?_push_size (h₃.push { cls := .type "slice", data := .fields #[vl, vu, .none] }) (o := { cls := .type "list", data := .seq ws.toArray }) rfl
  rw [Heap.size_push] at hl'
  obtain ⟨z1, z2, z3⟩ := addList (fr := fr) (own := nobody) (xs := cutL xs lo hi) Sm3 kp (fresh_size (b := h₃.objs.size + 1) (Nat.le_succ _)) ⟨_, hl'⟩ (rs'.keeps kp)
  exact ⟨_, tk₃, _, _, rfl, S1.trans (S2.trans (S3.trans z2)), z3, .ref _, hQ _ z1⟩

/-! unpacking -/
noncomputable def tUnpack (xs : List Str) (te : TE) : TS := fun ρ σ Q X => te ρ σ (fun p σ' => ∃ ps, p = .tup ps ∧ ps.length = xs.length ∧ Q .next (bindP xs ps ρ) σ') (fun c σ' => X c ρ σ')

theorem assign_names {A : Around} {outer : List Env} {env : Env} {E : Value → Shared → Prop} (C : Cx g n q A (env :: outer) env) : ∀ (nps : List (Str × Pos)) (vals : List Value) (ps : List PV) (s : Shared) (ρ : Env') (σ : Sto) (Q : Unit → Shared → Prop),
    (∀ x ∈ nps, env.kindOf x.1 = some .local ∨ env.kindOf x.1 = some .cell) → St g (env :: outer) env ρ σ s.heap → Reps g.base s.heap vals ps → ps.length = nps.length →
    (∀ h' tk, Step (env :: outer) (owned env) σ s.heap σ h' → St g (env :: outer) env (bindP (nps.map (·.1)) ps ρ) σ h' → Q () { s with heap := h', toks := tk }) →
    wpAny g.M A (assignInOrder ((assignEach (nps.map fun x => Expr.Name x.1 x.2) env).map (·.2)) vals) Q E s
  | [], vals, ps, s, ρ, σ, Q, hk, H, R, hl, k => by
    cases R with
    | nil => exact wpAny_pure (k s.heap s.toks Step.refl H)
    | cons a r => simp at hl
  | (x, px) :: nps, vals, ps, s, ρ, σ, Q, hk, H, R, hl, k => by
    cases R with
    | nil => simp at hl
    | cons a r =>
      rename_i v vs p ps
      show wpAny _ _ (do holding vs (assign (.Name x px) env v); assignInOrder ((assignEach (nps.map fun x => Expr.Name x.1 x.2) env).map (·.2)) vs) _ _ _
      refine wpAny_bind (wpAny_holding (wpAny_assign_Name (store C H (hk (x, px) (.head _)) a fun h₁ tk₁ S1 H1 => ?_)))
      have r1 : Reps g.base h₁ vs ps := r.mono fun b o e f => S1.other b o e (H.hp.firm e f).1 (fun z => by
          rcases z with rfl | ⟨y, z1, z2⟩
          · obtain ⟨m, ⟨o', es, ep, q1, q2, _⟩, _⟩ := H.loc.ns
            rw [e] at q1; cases q1
            exact notFirm_dict q2 f
          · obtain ⟨c', ov, q1, ⟨o', q2, q3⟩, _⟩ := H.loc.cell y z1
            rw [q1] at z2; cases z2
            rw [e] at q2; cases q2
            exact notFirm_cell q3 f) (H.hp.firm e f).2
      refine assign_names C nps vs ps { s with heap := h₁, toks := tk₁ } (setL ρ x p) σ Q (fun y hy => hk y (.tail _ hy)) H1 r1 (by simpa using hl) fun h' tk S2 H2 => ?_
      exact k h' tk (S1.trans S2) H2

theorem assignEach_names (env : Env) : ∀ nps : List (Str × Pos), (assignEach (nps.map fun x => Expr.Name x.1 x.2) env).length = nps.length ∧ (assignEach (nps.map fun x => Expr.Name x.1 x.2) env).findIdx? (·.1) = none
  | [] => ⟨rfl, rfl⟩
  | (x, p) :: r => by
    have ih := assignEach_names env r
    show ((false, assign (.Name x p) env) :: assignEach (r.map fun x => Expr.Name x.1 x.2) env).length = _ ∧ ((false, assign (.Name x p) env) :: assignEach (r.map fun x => Expr.Name x.1 x.2) env).findIdx? (·.1) = none
    refine ⟨by simp [ih.1], ?_⟩
    rw [List.findIdx?_cons]
    simp [ih.2]

theorem sound_unpack {nps : List (Str × Pos)} {k : Nat} {tpos pos : Pos} {e : Expr} {te : TE} (he : SoundE g n true sc e te) (hk : ∀ x ∈ nps, sc.names.lookup x.1 = some .local ∨ sc.names.lookup x.1 = some .cell)
    (hs : ∀ env : Env, env.scope = sc → swapsWithSole [.Tuple (nps.map fun x => Expr.Name x.1 x.2) k tpos] e pos.line env = pure false) (hw : ∀ env : Env, env.scope = sc → swappedStores [.Tuple (nps.map fun x => Expr.Name x.1 x.2) k tpos] e env = pure none) :
    SoundS g n true sc (.Assign [.Tuple (nps.map fun x => Expr.Name x.1 x.2) k tpos] e pos) (tUnpack (nps.map (·.1)) te) := by
  intro A outer env C hsc hf s ρ σ Q X H ht
  refine Assign_Tuple (stmtE H hf (he A _ env C hsc s ρ σ _ _ H ht) fun v h₁ tk p σ₁ S1 H1 r hq => ?_) (hs env hsc) (hw env hsc)
  obtain ⟨ps, rfl, hl, hq⟩ := hq
  · obtain ⟨a, o, vs, nn, rfl, ho, hc, hd, rs⟩ := inv_tup r
    have hl' : ps.length = nps.length := by simpa using hl
    refine wpAny_assign_Tuple (s := { s with heap := h₁, toks := tk }) (C.quiet rfl) ⟨o, ho, hc, nn, hd⟩ (by rw [(assignEach_names env nps).1, List.size_toArray, rs.length, hl']) (assignEach_names env nps).2 fun h₂ hx₂ => ?_
    have kp : ∀ b o, h₁.get? b = some o → h₂.get? b = some o := fun b o e => hx₂ b o (Nat.ne_of_lt (Heap.lt_size e)) e
    refine assign_names C nps _ ps { s with heap := h₂, toks := tk } ρ σ₁ _ (fun x hx => by subst hsc; exact hk x hx) (H1.keeps kp) (by simpa using rs.keeps kp) hl' fun h₃ tk₃ S3 H3 => ?_
    exact ⟨h₃, tk₃, .next, _, σ₁, rfl, (noOwn S1).trans ((Step.keeps kp).trans S3), H3, .next, hq⟩

/-! an empty dict -/
end
end Mine

set_option autoImplicit false
set_option linter.unusedVariables false
set_option maxRecDepth 100000
namespace Mine
open PySem PyProof.Rows PySem.Calls PySem.W

/-- a definition of the program, as the top has left it -/
noncomputable def DefAt (g : Gx) (d : DefRec) : Prop := ∃ f o pm code doc, g.mg d.name = some (.ref f) ∧ g.base.get? f = some o ∧ o.data = .func (docDef d.name d.params d.body d.scope pm code doc) ∧ g.base.CodeRec code d.name
noncomputable def HasF (g : Gx) (n : Nat) (q : Bool) (x : Str) (T : TF) : Prop := ∃ f o fd, g.mg x = some (.ref f) ∧ g.base.get? f = some o ∧ o.data = .func fd ∧ SoundF g n q f T

theorem has_def {g : Gx} {n : Nat} {q : Bool} {d : DefRec} {x : Str} {names : List Str} {tb : TS} (D : DefAt g d) (hn : d.name = x)
    (hbind : ∀ (pm code doc : Value) (vals : List Value), vals.length = names.length → bindArgs (docDef d.name d.params d.body d.scope pm code doc) ⟨vals, []⟩ = pure (names.zip vals))
    (hk1 : ∀ y ∈ names, d.scope.names.lookup y = some .local ∨ d.scope.names.lookup y = some .cell) (hco : d.scope.isCoroutine = false) (hgen : d.scope.isGenerator = false) (hk : d.scope.kind = .function)
    (hbody : SoundSs g n q d.scope d.body tb) : HasF g (n + 1) q x (tFun names tb) := by
  obtain ⟨f, o, pm, code, doc, h1, h2, h3, h4⟩ := D
  refine ⟨f, o, _, hn ▸ h1, h2, h3, ?_⟩
  exact (sound_fun (fd := docDef d.name d.params d.body d.scope pm code doc) h2 h3 rfl rfl h4 rfl rfl (hbind pm code doc) hk1 (fun L y e => cellsFrom_some _ _ _ (.inl e)) hco hgen hk hbody).call

section
variable {g : Gx} {n : Nat} {q : Bool} {sc : Scope}
theorem sound_callF {m : Nat} {x : Str} {np pos : Pos} {es : List Expr} {ts : TEs} {T : TF} (hT : HasF g m q x T) (hes : SoundEs g n q sc es ts) (hx : sc.names.lookup x = some .globalImplicit) (hd : (x == ("__debug__" : Str)) = false) (hm : m ≤ n) :
    SoundE g n q sc (.Call (.Name x np) es [] pos) (tCall ts T) := by
  obtain ⟨f, o, fd, h1, h2, h3, h4⟩ := hT
  exact sound_call hx hd (.inl h1) h2 h3 hes h4 hm
theorem sound_constF {x : Str} {pos : Pos} {p : PV} (hg : ∃ v, GlobAt g x v ∧ ∀ h, Rep g.base h v p) (hx : sc.names.lookup x = some .globalImplicit) (hd : (x == ("__debug__" : Str)) = false) : SoundE g n q sc (.Name x pos) (tConst p) := by
  obtain ⟨v, h1, h2⟩ := hg
  exact sound_const hx hd h1 h2
end

theorem len1 {vals : List Value} (h : vals.length = 1) : ∃ a, vals = [a] := List.length_eq_one_iff.mp h
theorem len_s {vals : List Value} {n : Nat} (h : vals.length = n + 1) : ∃ a r, vals = a :: r ∧ r.length = n := by
  cases vals with
  | nil => cases h
  | cons a r => exact ⟨a, r, rfl, Nat.succ.inj h⟩
theorem len2 {vals : List Value} (h : vals.length = 2) : ∃ a b, vals = [a, b] := by obtain ⟨a, r, rfl, h1⟩ := len_s h; obtain ⟨b, rfl⟩ := len1 h1; exact ⟨a, b, rfl⟩
theorem len3 {vals : List Value} (h : vals.length = 3) : ∃ a b c, vals = [a, b, c] := by obtain ⟨a, r, rfl, h1⟩ := len_s h; obtain ⟨b, c, rfl⟩ := len2 h1; exact ⟨a, b, c, rfl⟩
theorem len4 {vals : List Value} (h : vals.length = 4) : ∃ a b c d, vals = [a, b, c, d] := by obtain ⟨a, r, rfl, h1⟩ := len_s h; obtain ⟨b, c, d, rfl⟩ := len3 h1; exact ⟨a, b, c, d, rfl⟩
/-- a world with nothing in the store -/
noncomputable def noSto : Sto := fun _ => none
theorem hp_start (base : Heap) : Hp base [] noSto base := by
  refine ⟨fun _ _ e => e, trivial, fun a ao e => ?_, fun a e => absurd rfl e, fun b m => ?_⟩
  · cases e
  · cases m

theorem glob_free {p : Program} {loose : List Str} {mean : ExcName → Option Value} {g : Gx} (T : Top p loose mean g.mg g.mb g.base) {x : Str} {v : Value}
    (h : (startupNames.contains x || loose.contains x || ((recsOf p).map (·.name)).contains x || ((litsOf p).map (·.1)).contains x || ((clssOf p loose).map (·.name)).contains x) = false) (hn : (x == ("__name__" : Str)) = false) (hb : bootBuiltins x = some v) : GlobAt g x v := by
  simp only [Bool.or_eq_false_iff, List.contains_eq_mem, decide_eq_false_iff_not] at h
  obtain ⟨⟨⟨⟨h1, h2⟩, h3⟩, h4⟩, h5⟩ := h
  refine .inr ⟨T.free x h1 h2 h3 h4 h5, ?_⟩
  rw [T.builtins x (by intro e; rw [e] at hn; simp at hn)]
  exact hb
theorem def_at {p : Program} {loose : List Str} {mean : ExcName → Option Value} {g : Gx} (T : Top p loose mean g.mg g.mb g.base) {d : DefRec} (h : d ∈ recsOf p) : DefAt g d := by
  obtain ⟨a, o, pm, code, doc, h1, h2, h3, h4⟩ := T.fn d h
  exact ⟨a, o, pm, code, doc, h1, h2, h3, h4⟩
theorem const_int {p : Program} {loose : List Str} {mean : ExcName → Option Value} {g : Gx} (T : Top p loose mean g.mg g.mb g.base) {x : Str} {i : Int} (h : valOf p x = some (.int i)) : ∃ v, GlobAt g x v ∧ ∀ h, Rep g.base h v (.int i) := by
  obtain ⟨v, h1, h2⟩ := T.const x _ h
  refine ⟨v, .inl h1, fun h => ?_⟩
  have := h2 h
  cases this
  exact .int _ _

theorem cls_at {g : Gx} {x : Str} {v : Value} (h : nsIn g.K mainGlobals x = some (some v)) : g.mg x = some v := mg_of (K := g.K) g.inK g.hg h
theorem own_at {p : Program} {loose : List Str} {mean : ExcName → Option Value} {g : Gx} (T : Top p loose mean g.mg g.mb g.base) {x : Str} {c : Addr} {bm : List Value} {newId : String} (h : nsIn g.K mainGlobals x = some (some (.ref c))) (q : excIn g.K c bm newId = true) : OwnCls x c bm newId g.mg g.base :=
  own_of_in (K := g.K) g.inK (topRead_of T) h q
end Mine

set_option autoImplicit false
set_option linter.unusedVariables false
set_option maxRecDepth 100000
namespace Mine
open PySem PyProof.Rows PySem.Calls PySem.W

noncomputable def envFor (sc : Scope) : Env := { scope := sc, locals := 0, globals := 0, cells := [], qual := "", func := none, code := .none, frame := none, builtins := 0 }
theorem relabel_eq {scope : Scope} {env env' : Env} (h : env.scope = env'.scope) : relabel scope env = relabel scope env' := by
  unfold relabel Env.kindOf
  rw [h]
theorem compOk {sc scope : Scope} {x : Str} {cs : List Str} (h1 : scope.kind = .function) (h2 : ∀ y ∈ scope.names, y.2 ≠ .cell) (h3 : ∀ y ∈ scope.names, y.2 = .free → sc.names.lookup y.1 = some .cell)
    (h4 : ∀ y ∈ scope.names, y.2 = .local → scope.names.lookup y.1 = some .local) (h5 : scope.names.lookup x = some .local) (h6 : ∀ y ∈ cs, (relabel scope (envFor sc)).names.lookup y ≠ some .local) : CompOk sc (relabel scope (envFor sc)) scope x cs :=
  ⟨fun env h => relabel_eq h, h1, h2, h3, h4, h5, h6⟩

theorem slot_append : Slot "list" "append" "list.append" := PySem.F.slot_list_append
theorem ty_append : typeOf (.builtin "list.append") = pure (.type "method_descriptor") := by show builtinType _ = _; rw [builtinType_eq_fast]; kernel_rfl
end Mine
namespace Mine
open PySem PyProof.Rows PySem.Calls PySem.W
theorem swapsTrue {elt : Expr} {gs : List Comprehension} {scope sc : Scope} {pos py : Pos} {y : Str} {line : Nat}
    (h : ((envFor sc).blockKind == .function && (envFor sc).kindOf y == some .local && py.line == pos.line && !(scope.names.any fun (n, k) => n == y && (k == .local || k == .cell))) = true) :
    ∀ env : Env, env.scope = sc → swapsWith (.ListComp elt gs scope pos) (some (.Name y py)) line env = pure true := by
  intro env hs
  have e1 : env.blockKind = (envFor sc).blockKind := by unfold Env.blockKind; rw [hs]; rfl
  have e2 : env.kindOf y = (envFor sc).kindOf y := by unfold Env.kindOf; rw [hs]; rfl
  show (pure (env.blockKind == .function && env.kindOf y == some .local && py.line == pos.line && !(scope.names.any fun (n, k) => n == y && (k == .local || k == .cell))) : Sem Bool) = pure true
  rw [e1, e2, h]
end Mine

set_option autoImplicit false
set_option linter.unusedVariables false
namespace Mine
open PySem PyProof.Rows PySem.Calls

/-! the plain side: transformers, step by step -/
theorem setL_same {ρ : Env'} {x : Str} {p : PV} : setL ρ x p x = some p := by unfold setL; rw [if_pos rfl]
theorem setL_other {ρ : Env'} {x y : Str} {p : PV} {r : Option PV} (h : (y == x) = false) (e : ρ y = r) : setL ρ x p y = r := by
  unfold setL
  rw [if_neg (by intro z; subst z; simp at h)]
  exact e
theorem compR_same {cs : List Str} {ρ : Env'} {x : Str} {p : PV} : compR cs ρ x p x = some p := by unfold compR; rw [if_pos rfl]
theorem compR_other {cs : List Str} {ρ : Env'} {x y : Str} {p : PV} {r : Option PV} (h : (y == x) = false) (hc : cs.contains y = true) (e : ρ y = r) : compR cs ρ x p y = r := by
  unfold compR
  rw [if_neg (by intro z; subst z; simp at h), if_pos (by simpa using hc)]
  exact e
theorem upd_same {σ : Sto} {a : Addr} {o : AO} : upd σ a o a = some o := by unfold upd; rw [if_pos rfl]
theorem upd_other {σ : Sto} {a b : Addr} {o : AO} {r : Option AO} (h : b ≠ a) (e : σ b = r) : upd σ a o b = r := by unfold upd; rw [if_neg h]; exact e
theorem upd_none {σ : Sto} {a b : Addr} {o : AO} (h : upd σ a o b = none) : b ≠ a ∧ σ b = none := by
  unfold upd at h
  split at h
  · cases h
  · exact ⟨by assumption, h⟩
theorem upd_upd {σ : Sto} {a : Addr} {o o' : AO} : upd (upd σ a o) a o' = upd σ a o' := by
  funext b
  unfold upd
  split <;> rfl

section
variable {ρ : Env'} {σ : Sto} {Q : PV → Sto → Prop} {X : Addr → Sto → Prop} {QS : Fl → Env' → Sto → Prop} {XS : Addr → Env' → Sto → Prop} {QB : Bool → Sto → Prop} {QL : List PV → Sto → Prop}
theorem i_seq {a b : TS} (h : a ρ σ (fun f ρ' σ' => match f with | .next => b ρ' σ' QS XS | f => QS f ρ' σ') XS) : tSeq a b ρ σ QS XS := h
theorem i_nil (h : QS .next ρ σ) : tNil ρ σ QS XS := h
theorem i_set {x : Str} {e : TE} (h : e ρ σ (fun p σ' => QS .next (setL ρ x p) σ') (fun c σ' => XS c ρ σ')) : tSet x e ρ σ QS XS := h
theorem i_if {b : TB} {t e : TS} (h : b ρ σ (fun r σ' => if r = true then t ρ σ' QS XS else e ρ σ' QS XS) (fun c σ' => XS c ρ σ')) : tIf b t e ρ σ QS XS := h
theorem i_ret {e : TE} (h : e ρ σ (fun p σ' => QS (.ret p) ρ σ') (fun c σ' => XS c ρ σ')) : tRet e ρ σ QS XS := h
theorem i_expr {e : TE} (h : e ρ σ (fun _ σ' => QS .next ρ σ') (fun c σ' => XS c ρ σ')) : tExpr e ρ σ QS XS := h
theorem i_raise {c : Addr} {ts : TEs} (h : ts ρ σ (fun ps σ' => ps.length ≤ sizeLine ∧ XS c ρ σ') (fun c' σ' => XS c' ρ σ')) : tRaise c ts ρ σ QS XS := h
theorem i_name {x : Str} {p : PV} (h : ρ x = some p) (hq : Q p σ) : tName x ρ σ Q X := by unfold tName; rw [h]; exact hq
theorem i_const {p : PV} (hq : Q p σ) : tConst p ρ σ Q X := hq
theorem i_bin {op : Operator} {l r : TE} (h : l ρ σ (fun a σ₁ => r ρ σ₁ (fun b σ₂ => opP op a b σ₂ Q) X) X) : tBin op l r ρ σ Q X := h
theorem i_add {x y : Int} (h : Q (.int (x + y)) σ) : opP .Add (.int x) (.int y) σ Q := .inl ⟨x, y, rfl, rfl, h⟩
theorem i_sub {x y : Int} (h : Q (.int (x - y)) σ) : opP .Sub (.int x) (.int y) σ Q := ⟨x, y, rfl, rfl, h⟩
theorem i_div {x y : Int} (h0 : y ≠ 0) (h1 : y.natAbs < 1073741824) (h : Q (.int (x.fdiv y)) σ) : opP .FloorDiv (.int x) (.int y) σ Q := ⟨x, y, rfl, rfl, h0, h1, h⟩
theorem i_mod {x y : Int} (h0 : y ≠ 0) (h : Q (.int (x.fmod y)) σ) : opP .Mod (.int x) (.int y) σ Q := ⟨x, y, rfl, rfl, h0, h⟩
theorem i_divp {x y : Int} (h0 : 0 < y) (h1 : y < 1073741824) (h : Q (.int (x / y)) σ) : opP .FloorDiv (.int x) (.int y) σ Q := i_div (by omega) (by omega) (by rw [Int.fdiv_eq_ediv_of_nonneg x (by omega)]; exact h)
theorem i_modp {x y : Int} (h0 : 0 < y) (h : Q (.int (x % y)) σ) : opP .Mod (.int x) (.int y) σ Q := i_mod (by omega) (by rw [Int.fmod_eq_emod_of_nonneg x (by omega)]; exact h)
theorem i_cat {x y : Addr} {xs ys : List PV} (h1 : σ x = some (.list xs)) (h2 : σ y = some (.list ys)) (h3 : (xs ++ ys).length ≤ 1000000) (h : ∀ c, σ c = none → Q (.ref c) (upd σ c (.list (xs ++ ys)))) : opP .Add (.ref x) (.ref y) σ Q := .inr ⟨x, y, xs, ys, rfl, rfl, h1, h2, h3, h⟩
theorem i_neg {e : TE} (h : e ρ σ (fun a σ₁ => match a with | .int x => Q (.int (-x)) σ₁ | _ => False) X) : tNeg e ρ σ Q X := h
theorem i_cmp {op : CmpOp} {l r : TE} (h : l ρ σ (fun a σ₁ => r ρ σ₁ (fun b σ₂ => cmpP op σ₂ a b fun c => Q (.bool c) σ₂) X) X) : tCmp op l r ρ σ Q X := h
theorem i_cmpB {op : CmpOp} {l r : TE} (h : l ρ σ (fun a σ₁ => r ρ σ₁ (fun b σ₂ => cmpP op σ₂ a b fun c => QB c σ₂) X) X) : tCmpB op l r ρ σ QB X := h
theorem i_chain {op op' : CmpOp} {l m r : TE} (h : l ρ σ (fun a σ₁ => m ρ σ₁ (fun b σ₂ => cmpP op σ₂ a b fun c => if c = true then r ρ σ₂ (fun d σ₃ => cmpP op' σ₃ b d fun e => Q (.bool e) σ₃) X else Q (.bool false) σ₂) X) X) : tChain op op' l m r ρ σ Q X := h
theorem i_chainB {op op' : CmpOp} {l m r : TE} (h : l ρ σ (fun a σ₁ => m ρ σ₁ (fun b σ₂ => cmpP op σ₂ a b fun c => if c = true then r ρ σ₂ (fun d σ₃ => cmpP op' σ₃ b d fun e => QB e σ₃) X else QB false σ₂) X) X) : tChainB op op' l m r ρ σ QB X := h
variable {k : Bool → Prop}
theorem i_lt {x y : Int} (h : k (decide (x < y))) : cmpP .Lt σ (.int x) (.int y) k := ⟨x, y, rfl, rfl, h⟩
theorem i_le {x y : Int} (h : k (decide (x ≤ y))) : cmpP .LtE σ (.int x) (.int y) k := ⟨x, y, rfl, rfl, h⟩
theorem i_gt {x y : Int} (h : k (decide (x > y))) : cmpP .Gt σ (.int x) (.int y) k := ⟨x, y, rfl, rfl, h⟩
theorem i_eqi {x y : Int} (h : k (decide (x = y))) : cmpP .Eq σ (.int x) (.int y) k := .inl ⟨x, y, rfl, rfl, h⟩
theorem i_nei {x y : Int} (h : k (!decide (x = y))) : cmpP .NotEq σ (.int x) (.int y) k := .inl ⟨x, y, rfl, rfl, h⟩
theorem i_eqs {x y : Str} (h : k (decide (x = y))) : cmpP .Eq σ (.str x) (.str y) k := .inr (.inl ⟨x, y, rfl, rfl, h⟩)
theorem i_not {b : TB} (h : b ρ σ (fun r σ' => QB (!r) σ') X) : tNot b ρ σ QB X := h
theorem i_and {b c : TB} (h : b ρ σ (fun r σ' => if r = true then c ρ σ' QB X else QB false σ') X) : tAnd b c ρ σ QB X := h
theorem i_or {b c : TB} (h : b ρ σ (fun r σ' => if r = true then QB true σ' else c ρ σ' QB X) X) : tOr b c ρ σ QB X := h
theorem i_true (h : QB true σ) : tTrue ρ σ QB X := h
theorem i_false (h : QB false σ) : tFalse ρ σ QB X := h
theorem i_test {e : TE} (h : e ρ σ (fun p σ' => match p with | .bool b => QB b σ' | _ => False) X) : tTest e ρ σ QB X := h
theorem i_andE {a b : TE} (h : a ρ σ (fun p σ' => match p with | .bool true => b ρ σ' Q X | .bool false => Q (.bool false) σ' | _ => False) X) : tAndE a b ρ σ Q X := h
theorem i_tup {ts : TEs} (h : ts ρ σ (fun ps σ' => ps.length ≤ 1000000 ∧ Q (.tup ps) σ') X) : tTup ts ρ σ Q X := h
theorem i_list {ts : TEs} (h : ts ρ σ (fun ps σ' => ps.length ≤ 1000000 ∧ ∀ c, σ' c = none → Q (.ref c) (upd σ' c (.list ps))) X) : tList ts ρ σ Q X := h
theorem i_enil (h : QL [] σ) : tEnil ρ σ QL X := h
theorem i_econs {e : TE} {es : TEs} (h : e ρ σ (fun p σ₁ => es ρ σ₁ (fun ps σ₂ => QL (p :: ps) σ₂) X) X) : tEcons e es ρ σ QL X := h
theorem i_call {ts : TEs} {T : TF} (h : ts ρ σ (fun ps σ₁ => T ps σ₁ Q X) X) : tCall ts T ρ σ Q X := h
theorem i_item {a i : TE} (h : a ρ σ (fun p σ₁ => i ρ σ₁ (fun j σ₂ => getP σ₂ p j fun x => Q x σ₂) X) X) : tItem a i ρ σ Q X := h
theorem i_isinst {te : TE} {ok : Ty → Option Bool} (h : te ρ σ (fun p σ' => ∃ ty b, tyOf σ' p = some ty ∧ ok ty = some b ∧ Q (.bool b) σ') X) : tIsinst te ok ρ σ Q X := h
theorem i_len {p : PV} {xs : List PV} (h0 : NR p) (h1 : itemsOf σ p = some xs) (h2 : xs.length < 2 ^ 62) (h : Q (.int xs.length) σ) : lenF [p] σ Q X := ⟨p, xs, rfl, h0, h1, h2, h⟩
theorem i_range {n : Int} (h : Q (.rng 0 n) σ) : rangeF [.int n] σ Q X := ⟨n, rfl, h⟩
theorem i_listF {a : Addr} {xs : List PV} (h1 : σ a = some (.list xs)) (h2 : xs.length ≤ 1000000) (h : ∀ c, σ c = none → Q (.ref c) (upd σ c (.list xs))) : listF [.ref a] σ Q X := .inl ⟨a, xs, rfl, h1, h2, h⟩
theorem i_get {a x : PV} {i : Int} {xs : List PV} {kk : PV → Prop} (h0 : 0 ≤ i) (h1 : i < 2 ^ 62) (h2 : itemsOf σ a = some xs) (h3 : NR a) (h4 : xs[i.toNat]? = some x) (h : kk x) : getP σ a (.int i) kk :=
  ⟨i, rfl, by omega, h1, xs, h2, h3, .inl ⟨h0, x, h4, h⟩⟩
theorem i_meth {T : Addr → TF} {o : TE} {ts : TEs} (h : o ρ σ (fun p σ₁ => match p with | .ref a => (∃ xs, σ₁ a = some (.list xs)) ∧ ts ρ σ₁ (fun ps σ₂ => T a ps σ₂ Q X) X | _ => False) X) : tMeth T o ts ρ σ Q X := h
theorem i_append {a : Addr} {v : PV} {xs : List PV} (h1 : σ a = some (.list xs)) (h2 : xs.length ≤ 1000000) (h : Q .none (upd σ a (.list (xs ++ [v])))) : appendF a [v] σ Q X := ⟨v, xs, rfl, h1, h2, h⟩
theorem i_store {o i v : TE} (h : v ρ σ (fun p σ₁ => o ρ σ₁ (fun a σ₂ => i ρ σ₂ (fun j σ₃ => setP σ₃ a j p fun σ₄ => QS .next ρ σ₄) (fun c σ' => XS c ρ σ')) (fun c σ' => XS c ρ σ')) (fun c σ' => XS c ρ σ')) : tStore o i v ρ σ QS XS := h
theorem i_setP {a : Addr} {i : Int} {v : PV} {xs : List PV} {kk : Sto → Prop} (h0 : 0 ≤ i) (h1 : σ a = some (.list xs)) (h2 : i < xs.length) (h3 : xs.length ≤ 1000000) (h : kk (upd σ a (.list (xs.set i.toNat v)))) : setP σ (.ref a) (.int i) v kk := ⟨a, i, xs, rfl, rfl, h0, h1, h2, h3, h⟩
theorem i_unpack {xs : List Str} {te : TE} (h : te ρ σ (fun p σ' => ∃ ps, p = .tup ps ∧ ps.length = xs.length ∧ QS .next (bindP xs ps ρ) σ') (fun c σ' => XS c ρ σ')) : tUnpack xs te ρ σ QS XS := h
theorem i_slice {te : TE} {tl tu : TP} (h : te ρ σ (fun p σ₁ => tl ρ σ₁ (fun lo σ₂ => tu ρ σ₂ (fun hi σ₃ => ∃ xs, partOk lo ∧ partOk hi ∧ LR p ∧ itemsOf σ₃ p = some xs ∧ xs.length ≤ sizeLine ∧
  ∀ a, σ₃ a = none → Q (.ref a) (upd σ₃ a (.list (cutL xs lo hi)))) X) X) X) : tSlice te tl tu ρ σ Q X := h
theorem i_psome {QP : Option Int → Sto → Prop} {t : TE} (h : t ρ σ (fun p σ' => ∃ i, p = .int i ∧ QP (some i) σ') X) : tPsome t ρ σ QP X := h
theorem i_fun {names : List Str} {tb : TS} {ps : List PV} (h0 : ps.length = names.length) (h : tb (bindP names ps fun _ => none) σ (fun fl _ σ' => match fl with | .ret p => Q p σ' | .next => Q .none σ' | _ => False) (fun c _ σ' => X c σ')) : tFun names tb ps σ Q X := ⟨h0, h⟩
theorem i_try {n : Str} {cls : List Addr} {tb th : TS} (h : tb ρ σ QS (fun c ρ' σ' => c ∈ cls ∧ ∀ a, σ' a = none → th (setL ρ' n (.exc a c)) σ' (fun fl ρ'' σ'' => QS fl (unL ρ'' n) σ'') (fun _ _ _ => False))) : tTry n cls tb th ρ σ QS XS := h
theorem i_for {x : Str} {ti : TE} {tb : TS} (h : ti ρ σ (fun p σ₁ => ∃ xs, itemsOf σ₁ p = some xs ∧ iterOk p ∧ forL x tb (fun σ' => itemsOf σ' p = some xs) xs ρ σ₁ QS XS) (fun c σ' => XS c ρ σ')) : tFor x ti tb ρ σ QS XS := h
theorem i_comp {x : Str} {cs : List Str} {ti : TE} {tt : TB} {te : TE} (h : ti ρ σ (fun p σ₁ => ∃ xs, itemsOf σ₁ p = some xs ∧ iterOk p ∧ xs.length ≤ sizeLine ∧
  compL x cs tt te (fun σ' => itemsOf σ' p = some xs) ρ xs [] σ₁ (fun ys σ₂ => ∀ a, σ₂ a = none → Q (.ref a) (upd σ₂ a (.list ys)))) X) : tComp x cs ti tt te ρ σ Q X := h
end
theorem ite_t {A B : Prop} (h : A) : if true = true then A else B := by rw [if_pos rfl]; exact h
theorem ite_f {A B : Prop} (h : B) : if false = true then A else B := by rw [if_neg (by decide)]; exact h
theorem ite_d {p A B : Prop} [Decidable p] (h1 : p → A) (h2 : ¬ p → B) : if decide p = true then A else B := by
  by_cases h : p
  · rw [if_pos (by simpa using h)]; exact h1 h
  · rw [if_neg (by simpa using h)]; exact h2 h
theorem ite_nd {p A B : Prop} [Decidable p] (h1 : ¬ p → A) (h2 : p → B) : if (!decide p) = true then A else B := by
  by_cases h : p
  · rw [if_neg (by simpa using h)]; exact h2 h
  · rw [if_pos (by simpa using h)]; exact h1 h
end Mine
namespace Mine
open PySem PyProof.Rows PySem.Calls
section
variable {ρ : Env'} {σ : Sto} {Q : PV → Sto → Prop} {X : Addr → Sto → Prop} {QS : Fl → Env' → Sto → Prop} {XS : Addr → Env' → Sto → Prop}
noncomputable abbrev env0 : Env' := fun _ => none
noncomputable abbrev funQ (Q : PV → Sto → Prop) : Fl → Env' → Sto → Prop := fun fl _ σ' => match fl with | .ret p => Q p σ' | .next => Q .none σ' | _ => False
noncomputable abbrev funX (X : Addr → Sto → Prop) : Addr → Env' → Sto → Prop := fun c _ σ' => X c σ'
theorem i_fun1 {x1 : Str} {tb : TS} {p1 : PV} (h : tb (setL env0 x1 p1) σ (funQ Q) (funX X)) : tFun [x1] tb [p1] σ Q X := ⟨rfl, h⟩
theorem i_fun2 {x1 x2 : Str} {tb : TS} {p1 p2 : PV} (h : tb (setL (setL env0 x1 p1) x2 p2) σ (funQ Q) (funX X)) : tFun [x1, x2] tb [p1, p2] σ Q X := ⟨rfl, h⟩
theorem i_fun3 {x1 x2 x3 : Str} {tb : TS} {p1 p2 p3 : PV} (h : tb (setL (setL (setL env0 x1 p1) x2 p2) x3 p3) σ (funQ Q) (funX X)) : tFun [x1, x2, x3] tb [p1, p2, p3] σ Q X := ⟨rfl, h⟩
theorem i_fun4 {x1 x2 x3 x4 : Str} {tb : TS} {p1 p2 p3 p4 : PV} (h : tb (setL (setL (setL (setL env0 x1 p1) x2 p2) x3 p3) x4 p4) σ (funQ Q) (funX X)) : tFun [x1, x2, x3, x4] tb [p1, p2, p3, p4] σ Q X := ⟨rfl, h⟩
end
end Mine
namespace Mine
open PySem PyProof.Rows PySem.Calls
noncomputable def Ext (σ σ' : Sto) : Prop := ∀ a o, σ a = some o → σ' a = some o
theorem Ext.refl {σ : Sto} : Ext σ σ := fun _ _ e => e
theorem Ext.trans {σ σ₁ σ₂ : Sto} (x : Ext σ σ₁) (y : Ext σ₁ σ₂) : Ext σ σ₂ := fun a o e => y a o (x a o e)
theorem Ext.upd {σ : Sto} {a : Addr} {o : AO} (h : σ a = none) : Ext σ (upd σ a o) := fun b o' e => by
  refine upd_other ?_ e
  rintro rfl
  rw [h] at e; cases e
theorem Ext.upd' {σ σ' : Sto} {a : Addr} {o : AO} (x : Ext σ σ') (h : σ a = none) : Ext σ (Mine.upd σ' a o) := fun b o' e => by
  refine upd_other ?_ (x b o' e)
  rintro rfl
  rw [h] at e; cases e
theorem Ext.ty {σ σ' : Sto} (x : Ext σ σ') {p : PV} {t : Ty} (h : tyOf σ p = some t) : tyOf σ' p = some t := by
  cases p with
  | ref a =>
    unfold tyOf at h ⊢
    dsimp only at h ⊢
    split at h
    · rename_i e; rw [x a _ e]; exact h
    · rename_i e; rw [x a _ e]; exact h
    · cases h
  | _ => exact h
theorem forL_step {x : Str} {tb : TS} {ok : Sto → Prop} {Q : Fl → Env' → Sto → Prop} {X : Addr → Env' → Sto → Prop} (I : List PV → Env' → Sto → Prop) (J : PV → Env' → Sto → Prop)
    (step : ∀ p ps ρ σ (Qb : Fl → Env' → Sto → Prop), I (p :: ps) ρ σ → (∀ ρ' σ', ok σ' → I ps ρ' σ' → Qb .next ρ' σ') → (∀ v ρ' σ', J v ρ' σ' → Qb (.ret v) ρ' σ') → tb (setL ρ x p) σ Qb X)
    (fin : ∀ ρ σ, I [] ρ σ → Q .next ρ σ) (ret : ∀ v ρ σ, J v ρ σ → Q (.ret v) ρ σ) : ∀ xs ρ σ, I xs ρ σ → forL x tb ok xs ρ σ Q X
  | [], ρ, σ, h => fin ρ σ h
  | p :: ps, ρ, σ, h => by
    unfold forL
    exact step p ps ρ σ _ h (fun ρ' σ' h1 h2 => ⟨h1, forL_step I J step fin ret ps ρ' σ' h2⟩) fun v ρ' σ' h1 => ret v ρ' σ' h1
theorem compL_all {x : Str} {cs : List Str} {te : TE} {ok : Sto → Prop} {ρ : Env'} {σ : Sto} {Q : List PV → Sto → Prop} (P : PV → PV → Prop) (hok : ok σ) : ∀ (xs acc : List PV),
    (∀ p ∈ xs, ∀ Q' : PV → Sto → Prop, (∀ y, P p y → Q' y σ) → te (compR cs ρ x p) σ Q' nope) →
    (∀ ys, Paired P xs ys → Q (acc ++ ys) σ) → compL x cs tTrue te ok ρ xs acc σ Q
  | [], acc, _, hq => by
    have := hq [] .nil
    rw [List.append_nil] at this
    exact this
  | p :: ps, acc, h, hq => by
    show (if true = true then te (compR cs ρ x p) σ (fun y σ₂ => ok σ₂ ∧ compL x cs tTrue te ok ρ ps (acc ++ [y]) σ₂ Q) nope else ok σ ∧ compL x cs tTrue te ok ρ ps acc σ Q)
    refine ite_t (h p (.head _) _ fun y hy => ⟨hok, ?_⟩)
    refine compL_all P hok ps (acc ++ [y]) (fun p' hp' => h p' (.tail _ hp')) fun ys hys => ?_
    have := hq (y :: ys) (.cons hy hys)
    rwa [List.append_assoc]
end Mine
namespace Mine
open PySem PyProof.Rows PySem.Calls
section
variable {σ : Sto} {Q : PV → Sto → Prop} {X : Addr → Sto → Prop} {kk : PV → Prop}
theorem ite_nt {A B : Prop} (h : A) : if (!false) = true then A else B := ite_t h
theorem ite_nf {A B : Prop} (h : B) : if (!true) = true then A else B := ite_f h
theorem i_g0 {a : PV} {xs : List PV} (h : kk a) : getP σ (.tup (a :: xs)) (.int 0) kk := i_get (by decide) (by decide) rfl trivial rfl h
theorem i_g1 {a b : PV} {xs : List PV} (h : kk b) : getP σ (.tup (a :: b :: xs)) (.int 1) kk := i_get (by decide) (by decide) rfl trivial rfl h
theorem i_g2 {a b c : PV} {xs : List PV} (h : kk c) : getP σ (.tup (a :: b :: c :: xs)) (.int 2) kk := i_get (by decide) (by decide) rfl trivial rfl h
theorem i_len3 {a b c : PV} (h : Q (.int 3) σ) : lenF [.tup [a, b, c]] σ Q X := i_len trivial rfl (by simp) h
end
end Mine
namespace Mine
theorem al {σ σ1 : Sto} {w : PySem.Addr} {o : AO} (h : upd σ w o = σ1) (hw : σ w = none) : Ext σ σ1 ∧ σ1 w = some o := by subst h; exact ⟨Ext.upd hw, upd_same⟩
end Mine

set_option autoImplicit false
set_option linter.unusedVariables false
namespace Mine
open PySem
/-- a value that reads as data of no great depth -/
noncomputable def Flat (k : Nat) (σ : Sto) (p : PV) : Prop := ∃ d, DataOf σ p d ∧ d.canLay0 = true ∧ d.depth ≤ k
theorem flat_int {k : Nat} {σ : Sto} {i : Int} : Flat k σ (.int i) := ⟨_, .int i, rfl, Nat.zero_le _⟩
theorem flats {k : Nat} {σ : Sto} : ∀ {xs : List PV}, (∀ x ∈ xs, Flat k σ x) → ∃ ds, DatasOf σ xs ds ∧ PyData.canLayAll0 ds = true ∧ PyData.depthAll ds ≤ k
  | [], _ => ⟨[], .nil, rfl, Nat.zero_le _⟩
  | x :: xs, h => by
    obtain ⟨d, h1, h2, h3⟩ := h x (.head _)
    obtain ⟨ds, h4, h5, h6⟩ := flats fun y hy => h y (.tail _ hy)
    exact ⟨d :: ds, .cons h1 h4, by simp [PyData.canLayAll0, h2, h5], by simp [PyData.depthAll]; omega⟩
theorem flat_tup {k : Nat} {σ : Sto} {xs : List PV} (h : ∀ x ∈ xs, Flat k σ x) : Flat (k + 1) σ (.tup xs) := by
  obtain ⟨ds, h1, h2, h3⟩ := flats h
  exact ⟨.tuple ds, .tup h1, by simpa [PyData.canLay0] using h2, by simp [PyData.depth]; omega⟩
theorem Flat.mono {k k' : Nat} {σ : Sto} {p : PV} (h : Flat k σ p) (hk : k ≤ k') : Flat k' σ p := let ⟨d, h1, h2, h3⟩ := h; ⟨d, h1, h2, Nat.le_trans h3 hk⟩
theorem i_eql {σ : Sto} {a b : Addr} {xs : List PV} {k : Bool → Prop} (h1 : σ a = some (.list xs)) (h2 : σ b = some (.list xs)) (h3 : ∀ x ∈ xs, Flat 60 σ x) (h : k true) : cmpP .Eq σ (.ref a) (.ref b) k := by
  obtain ⟨ds, q1, q2, q3⟩ := flats h3
  have c : (PyData.list ds).canLay0 = true := by simpa [PyData.canLay0] using q2
  have s : SeqAt.shaped (PyData.list ds) = true := by
    unfold SeqAt.shaped
    rw [c]
    simp [PyData.depth]; omega
  exact .inr (.inr ⟨_, _, .list h1 q1, .list h2 q1, s, s, by rw [SeqAt.eqv_refl _ c]; exact h⟩)
end Mine
namespace Mine
open PySem
theorem i_eqss {σ : Sto} {x : Str} {k : Bool → Prop} (h : k true) : cmpP .Eq σ (.str x) (.str x) k := by
  refine i_eqs ?_
  rw [show decide (x = x) = true from by simp]
  exact h
end Mine

set_option autoImplicit false
set_option linter.unusedVariables false
set_option maxRecDepth 100000
namespace Mine
open PySem PyProof.Rows PySem.Calls PySem.W
/-! all, sorted, len(set(..)), exchanged stores -/
noncomputable def allF : TF := fun ps σ Q _ => ∃ (a : Addr) (bs : List Bool), ps = [.ref a] ∧ σ a = some (.list (bs.map .bool)) ∧ Q (.bool (bs.all id)) σ
theorem all_range (bs : List Bool) : (List.range bs.length).all (fun i => bs.getD i false) = bs.all id := by
  have e : (List.range bs.length).map (fun i => bs.getD i false) = bs := by
    refine List.ext_getElem (by simp) fun i h1 h2 => ?_
    simp [List.getD, h2]
  have : ((List.range bs.length).map (fun i => bs.getD i false)).all id = (List.range bs.length).all (fun i => bs.getD i false) := by rw [List.all_map]; rfl
  rw [← this, e]
section
variable {g : Gx} {n : Nat} {q : Bool} {sc : Scope}
theorem bi_all (hqt : q = true) : SoundBI g n q (.builtin "all") allF := by
  intro A fr s vals ps σ Q X hfr hroom hq H R ht
  · obtain ⟨a, bs, rfl, e, hQ⟩ := ht
    obtain ⟨v, rfl, r⟩ := reps_one R
    obtain rfl := inv_ref r
    obtain ⟨vs, hl, rs⟩ := H.sim _ _ e
    have hne : a ≠ s.heap.objs.size := by obtain ⟨m, h1⟩ := hl; exact Nat.ne_of_lt (Heap.lt_size h1)
    have hlen : vs.length = bs.length := by simpa using rs.length
    have W : Walks g.prog g.w A.in1 s.heap.objs.size _ _ _ _ _ := Walks.list (A := A.in1) (hq hqt) s.heap.objs.size a hne vs.toArray
    refine call_all_walk (wpAny_pyIter_list hl.isList ⟨_, _, _, _, _, _, fun i => bs.getD i false, rfl, W, And.intro ⟨_, Heap.get?_push_size _ rfl, rfl, rfl⟩ ?_, ?_, fun h' tk hk => ?_⟩)
    · exact (hl.at fun o e => Heap.get?_push_of_some _ e).isList
    · intro i v s' Q' E' hv hQ'
      obtain ⟨x, hx, rx⟩ := rs.get' (k := i) (v := v) (by simpa using hv)
      rw [List.getElem?_map] at hx
      cases hb : bs[i]? with
      | none => rw [hb] at hx; cases hx
      | some b =>
        rw [hb] at hx; cases hx
        obtain rfl := inv_bool rx
        refine wpAny_truthy_bool ?_
        have : bs.getD i false = b := by simp [List.getD, hb]
        rw [← this]; exact hQ'
    · have kp : ∀ b o, s.heap.get? b = some o → h'.get? b = some o := fun b o e => hk b o (by have := Heap.lt_size e; simp; exact Nat.ne_of_lt this) (Heap.get?_push_of_some _ e)
      refine ⟨h', tk, _, σ, rfl, Step.keeps kp, H.sim.keeps kp, .bool _, ?_⟩
      rw [List.size_toArray, hlen, all_range]
      exact hQ
end
end Mine

set_option autoImplicit false
set_option linter.unusedVariables false
namespace Mine
open PySem
section
variable {ρ : Env'} {σ : Sto} {Q : PV → Sto → Prop} {X : Addr → Sto → Prop} {QS : Fl → Env' → Sto → Prop} {XS : Addr → Env' → Sto → Prop}
theorem i_all {a : Addr} {bs : List Bool} (h1 : σ a = some (.list (bs.map .bool))) (h : Q (.bool (bs.all id)) σ) : allF [.ref a] σ Q X := ⟨a, bs, rfl, h1, h⟩
theorem compL_filt {x : Str} {cs : List Str} {tt : TB} {te : TE} {ok : Sto → Prop} {QL : List PV → Sto → Prop} (sel : PV → Bool) (f : PV → PV) (hok : ok σ) : ∀ (xs acc : List PV),
    (∀ p ∈ xs, ∀ QB : Bool → Sto → Prop, QB (sel p) σ → tt (compR cs ρ x p) σ QB nope) →
    (∀ p ∈ xs, sel p = true → ∀ Q' : PV → Sto → Prop, Q' (f p) σ → te (compR cs ρ x p) σ Q' nope) →
    QL (acc ++ (xs.filter sel).map f) σ → compL x cs tt te ok ρ xs acc σ QL
  | [], acc, _, _, hq => by simpa [compL] using hq
  | p :: ps, acc, h1, h2, hq => by
    unfold compL
    refine h1 p (.head _) _ ?_
    cases hs : sel p with
    | true =>
      refine ite_t (h2 p (.head _) hs _ ⟨hok, ?_⟩)
      refine compL_filt sel f hok ps (acc ++ [f p]) (fun p' hp' => h1 p' (.tail _ hp')) (fun p' hp' => h2 p' (.tail _ hp')) ?_
      rw [List.filter_cons_of_pos hs, List.map_cons] at hq
      simpa using hq
    | false =>
      refine ite_f ⟨hok, ?_⟩
      refine compL_filt sel f hok ps acc (fun p' hp' => h1 p' (.tail _ hp')) (fun p' hp' => h2 p' (.tail _ hp')) ?_
      rw [List.filter_cons_of_neg (by simp [hs])] at hq
      exact hq
end
end Mine

set_option autoImplicit false
set_option linter.unusedVariables false
namespace Mine
open PySem PyProof.Rows PySem.Calls
section
variable {g : Gx} {n : Nat} {q : Bool}
theorem i_pow {x y : Int} {σ : Sto} {Q : PV → Sto → Prop} (h0 : 0 ≤ y) (h1 : y ≤ 1000) (h2 : x.natAbs < 2 ^ 64) (h : Q (.int (x ^ y.toNat)) σ) : opP .Pow (.int x) (.int y) σ Q := ⟨x, y, rfl, rfl, h0, h1, h2, h⟩
end
end Mine

set_option autoImplicit false
set_option linter.unusedVariables false
namespace Mine
open PySem PyProof.Rows PySem.Calls
section
variable {g : Gx} {n : Nat} {q : Bool} {sc : Scope}
end
section
variable {ρ : Env'} {σ : Sto} {Q : PV → Sto → Prop} {X : Addr → Sto → Prop}
end
end Mine

set_option autoImplicit false
set_option linter.unusedVariables false
namespace Mine
open PySem PyProof.Rows PySem.Calls
noncomputable def Simple (p : PV) : Prop := (∃ i, p = .int i) ∨ ∃ a, p = .ref a
theorem rep_simple {base h h' : Heap} {v : Value} {p : PV} (s : Simple p) (r : Rep base h v p) : Rep base h' v p := by
  rcases s with ⟨i, rfl⟩ | ⟨a, rfl⟩
  · obtain ⟨t, rfl⟩ := inv_int r; exact .int _ _
  · obtain rfl := inv_ref r; exact .ref _
section
variable {g : Gx} {fr : List Env} {env : Env} {ρ : Env'} {σ : Sto} {w : Addr} {zs : List PV} {h h' : Heap} {wr : List Addr}
end
section
variable {g : Gx} {n : Nat} {sc : Scope}
end
section
variable {ρ : Env'} {σ : Sto} {QS : Fl → Env' → Sto → Prop} {XS : Addr → Env' → Sto → Prop}
end
end Mine

set_option autoImplicit false
set_option linter.unusedVariables false
namespace Mine
open PySem PyProof.Rows PySem.Calls PySem.W
/-! instances of an own class: two raw objects of the store, the instance and its dict -/
noncomputable def pvOf : Value → Option PV
  | .int i _ => some (.int i)
  | .ref a => some (.ref a)
  | _ => none
noncomputable def attrOf (o : Obj) (x : Str) : Option PV := match lookIn x o with
  | some (some v) => pvOf v
  | _ => none
/-- the dict holds these names and no other -/
structure DictIs (od : Obj) (fs : List (Str × PV)) : Prop where
  data : ∃ es n, od = dictOf es n ∧ es.any (·.refKey) = false ∧ es.length = fs.length
  has : ∀ x p, fs.lookup x = some p → attrOf od x = some p
  no : ∀ x, fs.lookup x = none → lookIn x od = some none
inductive Inst (C : Addr) (σ : Sto) (a : Addr) (fs : List (Str × PV)) : Prop
  | mk (d : Addr) (od : Obj) : σ a = some (.raw (instObj C d)) → σ d = some (.raw od) → DictIs od fs → Inst C σ a fs
theorem Inst.ext {C : Addr} {σ σ' : Sto} {a : Addr} {fs : List (Str × PV)} (i : Inst C σ a fs) (x : Ext σ σ') : Inst C σ' a fs := by
  obtain ⟨d, od, h1, h2, h3⟩ := i
  exact ⟨d, od, x _ _ h1, x _ _ h2, h3⟩
/-- what the class is -/
structure ClsK (K : Frag) (C : Addr) : Prop where
  makes : makesIn K C = true
  ga : findIn K (.ref C) "__getattribute__" = some (some (.builtin "object.__getattribute__"))
  gk : findIn K (.ref C) "__getattr__" = some none
  sa : findIn K (.ref C) "__setattr__" = some (some (.builtin "object.__setattr__"))
  over : plainOver K C = true
  hd : hasDictIn K C = true
  keep : keepIn K (.ref C) = true
theorem attr_val {od : Obj} {x : Str} {p : PV} (h : attrOf od x = some p) : ∃ v, lookIn x od = some (some v) ∧ handedIn v = true ∧ ∀ base h, Rep base h v p := by
  unfold attrOf at h
  split at h
  · rename_i v e
    unfold pvOf at h
    split at h
    · cases h; exact ⟨_, e, rfl, fun _ _ => .int _ _⟩
    · cases h; exact ⟨_, e, rfl, fun _ _ => .ref _⟩
    · cases h
  · cases h
theorem inst_at {base h : Heap} {σ : Sto} {C a d : Addr} {od : Obj} (S : Sim base h σ) (h1 : σ a = some (.raw (instObj C d))) (h2 : σ d = some (.raw od)) : InstAt h a (instObj C d) C (some od) := ⟨(S _ _ h1).1, rfl, rfl, (S _ _ h2).1⟩
noncomputable def tAttr (C : Addr) (te : TE) (x : Str) : TE := fun ρ σ Q X => te ρ σ (fun p σ₁ => ∃ a fs q, p = .ref a ∧ Inst C σ₁ a fs ∧ fs.lookup x = some q ∧ Q q σ₁) X
noncomputable def tMethC (C : Addr) (m : Str) (T : TF) (to : TE) (ts : TEs) : TE := fun ρ σ Q X => to ρ σ (fun p σ₁ => (∃ a fs, p = .ref a ∧ Inst C σ₁ a fs ∧ fs.lookup m = none) ∧ ts ρ σ₁ (fun ps σ₂ => T (p :: ps) σ₂ Q X) X) X
noncomputable def tNew (C : Addr) (T : TF) (ts : TEs) : TE := fun ρ σ Q X => ts ρ σ (fun ps σ₁ => ∀ a d od, σ₁ a = none → σ₁ d = none → a ≠ d → DictIs od [] → T (.ref a :: ps) (upd (upd σ₁ d (.raw od)) a (.raw (instObj C d))) (fun r σ₂ => r = .none ∧ Q (.ref a) σ₂) X) X
noncomputable def tSetAttr (C : Addr) (to : TE) (x : Str) (tv : TE) : TS := fun ρ σ Q X => tv ρ σ (fun pv σ₁ => to ρ σ₁ (fun po σ₂ => ∃ a d od fs, po = .ref a ∧ Simple pv ∧ σ₂ a = some (.raw (instObj C d)) ∧ σ₂ d = some (.raw od) ∧ DictIs od fs ∧ fs.lookup x = none ∧ fs.length ≤ 100 ∧
  ∀ od', DictIs od' (fs ++ [(x, pv)]) → Q .next ρ (upd σ₂ d (.raw od'))) (fun c σ' => X c ρ σ')) (fun c σ' => X c ρ σ')
section
variable {g : Gx} {n : Nat} {q : Bool} {sc : Scope} {C : Addr}
theorem kin_st {fr : List Env} {env : Env} {ρ : Env'} {σ : Sto} {h : Heap} (H : St g fr env ρ σ h) : Frag.In g.K h := fun a o z => H.hp.stays a o (g.inK a o z)
theorem sound_attr {e : Expr} {x : Str} {pos : Pos} {te : TE} (K : ClsK g.K C) (he : SoundE g n q sc e te) (hx : findIn g.K (.ref C) x = some none)
    (hev : ∀ env : Env, eval (.Attribute e x pos) env = (do let o ← eval e env; standAt pos.atName; let r ← holding [o] (getAttr o x true); letTemporaryGo e o r; pure r)) : SoundE g n q sc (.Attribute e x pos) (tAttr C te x) := by
  intro A fr env C' hsc s ρ σ Q X H ht
  refine Attribute_any_ (bindE (he A fr env C' hsc s ρ σ _ X H ht) fun v h₁ tk p σ₁ S1 Sm1 r hq => ?_) (hev env)
  obtain ⟨a, fs, p', rfl, ⟨d, od, i1, i2, D⟩, hl, hQ⟩ := hq
  obtain rfl := inv_ref r
  have H1 := H.step S1 Sm1
  obtain ⟨v, l1, l2, l3⟩ := attr_val (D.has x p' hl)
  refine get_value (s := { s with heap := h₁, toks := tk }) (kin_st H1) (inst_at Sm1 i1 i2) K.ga (findObj_own K.hd hx rfl l1) l2 ?_
  exact ⟨h₁, tk + 1, p', σ₁, rfl, S1, Sm1, l3 _ _, hQ⟩
theorem sound_methC {o : Expr} {name : Str} {apos pos : Pos} {es : List Expr} {f : Addr} {m : Nat} {T : TF} {to : TE} {ts : TEs} (K : ClsK g.K C) (ho : SoundE g n q sc o to) (hes : SoundEs g n q sc es ts) (hT : SoundF g m q f T) (hm : m ≤ n)
    (hf : findIn g.K (.ref C) name = some (some (.ref f))) (hty : typeIn g.K (.ref f) = some (.type "function")) (hkp : keepIn g.K (.ref f) = true)
    (hbase : ∀ env : Env, env.scope = sc → attributeBase o name env (eval o env) = eval o env) (hlen : es.length < 29) (hline : (apos.endLine == pos.line) = true) :
    SoundE g n q sc (.Call (.Attribute o name apos) es [] pos) (tMethC C name T to ts) := by
  intro A fr env C' hsc s ρ σ Q X H ht
  rw [arm_eval_Call, hbase env hsc]
  refine wpAny_bind (bindE (ho A fr env C' hsc s ρ σ _ X H ht) fun u h₁ tk p σ₁ S1 Sm1 ra hq => ?_)
  obtain ⟨⟨a, fs, rfl, ⟨d, od, i1, i2, D⟩, hl⟩, hq⟩ := hq
  obtain rfl := inv_ref ra
  have H1 := H.step S1 Sm1
  refine wpAny_bind (wpAny_standAt ?_)
  have hform : methodCallForm (es.length + ([] : List Keyword).length) (backTo pos (starEach es env)) (backToKw pos (keywordEach [] env)) = true := by
    have h1 := hes.1 env pos
    have h2 : (backTo pos (starEach es env)).all (fun x => !x.1) = true := by
      rw [List.all_eq_true]
      intro x hx
      rw [List.any_eq_false] at h1
      simpa using h1 x hx
    have h3 : (backToKw pos (keywordEach [] env)).all (fun x => x.1.isSome) = true := rfl
    unfold methodCallForm
    rw [h2, h3]
    simp only [Bool.and_self, Bool.true_and, List.length_nil, List.isEmpty_nil, if_true, decide_eq_true_eq]
    show es.length + 0 + 0 < 30
    omega
  have hpos : methodCallPos true o env apos pos = pure pos := by unfold methodCallPos; simp [hline]
  unfold methodCall
  rw [hform]
  refine wpAny_bind (wpAny_holding (method_fn (s := { s with heap := h₁, toks := tk }) (kin_st H1) (inst_at Sm1 i1 i2) K.ga K.gk hf hty ?_ ?_))
  · show (lookIn name od).map _ = _
    rw [D.no name hl]; rfl
  refine wpAny_bind (wpAny_of_eq hpos ?_)
  refine callWith_of (P := fun h => Frag.In g.K h) (by show ((backTo pos (starEach es env)).any (·.1) || false) = false; rw [hes.1 env pos]; rfl) (keeps_K hkp) ?_
  refine wpAny_mono (evalArgs_es (s := { s with heap := h₁, toks := tk }) hes C' hsc H1 hq) (fun a' s' hp => ?_) fun _ _ x => x.up S1
  obtain ⟨hkw, h₂, tk₂, ps, σ₂, rfl, S2, Sm2, rs, hq⟩ := hp
  obtain ⟨apos', akw⟩ := a'
  obtain rfl : akw = [] := hkw
  have H2 := H1.step S2 Sm2
  refine ⟨kin_st H2, ?_⟩
  exact wpAny_mono (hT A fr { s with heap := h₂, toks := tk₂ } (.ref a :: apos') (.ref a :: ps) σ₂ Q X C'.frames (C'.room.le hm) C'.quiet H2.hp (.cons (.ref a) rs) hq) (fun _ _ x => x.up (S1.trans S2)) fun _ _ x => x.up (S1.trans S2)
end
theorem find_none {x : Str} : ∀ {es : List DictEntry}, getL x es = some none → es.find? (·.key.isStr x) = none := fun {es} h => by
  unfold getL at h
  split at h
  · cases h
  · assumption
theorem put_new {x : Str} {hs : Int} {k v : Value} : ∀ {es : List DictEntry}, es.find? (·.key.isStr x) = none → putL x hs k v es = es ++ [⟨hs, k, v⟩]
  | [], _ => rfl
  | e :: r, h => by
    rw [List.find?_cons] at h
    unfold putL
    split at h
    · cases h
    · rename_i q; rw [if_neg (by rw [q]; decide), put_new h]; rfl
theorem dict_put {x : Str} {hs : Int} {t : Tok} {v : Value} {p : PV} {od : Obj} {fs : List (Str × PV)} {base h : Heap} (D : DictIs od fs) (hx : fs.lookup x = none) (s : Simple p) (r : Rep base h v p) :
    ∃ es n, Obj.putName x hs (.str x t) v od = dictOf es n ∧ es.length = fs.length + 1 ∧ DictIs (Obj.putName x hs (.str x t) v od) (fs ++ [(x, p)]) := by
  obtain ⟨⟨es, n, rfl, hr, hl⟩, has, no⟩ := D
  have hn := find_none (x := x) (es := es) (no x hx)
  have ev : pvOf v = some p := by
    rcases s with ⟨i, rfl⟩ | ⟨a, rfl⟩
    · obtain ⟨t, rfl⟩ := inv_int r; rfl
    · obtain rfl := inv_ref r; rfl
  rw [putName_dict, put_new hn]
  refine ⟨_, _, rfl, by rw [List.length_append, hl]; rfl, ⟨⟨_, _, rfl, ?_, by rw [List.length_append, List.length_append, hl]; rfl⟩, fun y q e => ?_, fun y e => ?_⟩⟩
  · rw [List.any_append, hr]; rfl
  · rw [List.lookup_append] at e
    cases q1 : fs.lookup y with
    | some q' =>
      rw [q1] at e
      have e : q' = q := by simpa using e
      subst e
      have := has y q' q1
      unfold attrOf at this ⊢
      rw [lookIn_dict] at this ⊢
      unfold getL at this ⊢
      rw [List.find?_append]
      cases hen : es.find? (·.key.isStr y) with
      | some en => rw [hen] at this; exact this
      | none => rw [hen, hr] at this; cases this
    | none =>
      rw [q1, Option.none_or, List.lookup_cons] at e
      by_cases hyx : (y == x) = true
      · rw [hyx] at e
        have e : p = q := by simpa using e
        subst e
        have hyx := eq_of_beq hyx
        subst hyx
        unfold attrOf
        rw [lookIn_dict]
        unfold getL
        rw [List.find?_append, hn, Option.none_or, List.find?_cons]
        have : (Value.str y t).isStr y = true := by unfold Value.isStr; simp
        rw [this]
        exact ev
      · rw [Bool.not_eq_true] at hyx
        rw [hyx] at e
        cases e
  · rw [List.lookup_append] at e
    cases q1 : fs.lookup y with
    | some q' => rw [q1] at e; cases e
    | none =>
      rw [q1, Option.none_or, List.lookup_cons] at e
      have hyx : (y == x) = false := by
        cases z : y == x with
        | false => rfl
        | true => rw [z] at e; cases e
      have hy := find_none (x := y) (es := es) (no y q1)
      rw [lookIn_dict]
      unfold getL
      rw [List.find?_append, hy, Option.none_or, List.find?_cons]
      have : (Value.str x t).isStr y = false := by
        unfold Value.isStr
        rw [beq_eq_false_iff_ne]
        rintro rfl
        simp at hyx
      rw [this]
      dsimp only [List.find?_nil]
      rw [if_neg]
      rw [List.any_append, hr]
      intro z
      cases z
theorem turnRaw {base h h' : Heap} {fr : List Env} {own : Addr → Prop} {σ : Sto} {a : Addr} {od od' : Obj} (H : Hp base fr σ h) (e : σ a = some (.raw od)) (hs : Heap.SameBut a h h') (hl : h'.get? a = some od') (hk : od'.data = .plain ∨ ∃ es n, od'.data = .dict es n) :
    Step fr own σ h (upd σ a (.raw od')) h' ∧ Sim base h' (upd σ a (.raw od')) := by
  have firm : ∀ b o, h.get? b = some o → Firm o → h'.get? b = some o := fun b o eb f => (hs.2 b (by rintro rfl; rw [(H.firm eb f).2] at e; cases e)).trans eb
  refine ⟨⟨fun b o eb _ _ n => (hs.2 b (by rintro rfl; rw [n] at e; cases e)).trans eb, fun b o eb m _ => ⟨o.slots, (hs.2 b (by rintro rfl; exact (H.fresh b (by rw [e]; simp)).2 m)).trans eb⟩, fun b o eb _ => ?_, fun c n _ _ => ?_, fun c n => ?_⟩, fun c ao ec => ?_⟩
  · by_cases q : b = a
    · subst q; exact ⟨_, hl⟩
    · exact ⟨o, (hs.2 b q).trans eb⟩
  · unfold upd; rw [if_neg (by rintro rfl; rw [n] at e; cases e)]; exact n
  · unfold upd
    split
    · simp
    · exact n
  · unfold upd at ec
    split at ec
    · rename_i q; subst q; cases ec; exact ⟨hl, hk⟩
    · rename_i q
      have := H.sim c ao ec
      cases ao with
      | list ys => obtain ⟨vs, ⟨m, h1⟩, r⟩ := this; exact ⟨vs, ⟨m, (hs.2 c q).trans h1⟩, r.mono firm⟩
      | raw o => exact ⟨(hs.2 c q).trans this.1, this.2⟩
/-- a new raw object -/
theorem addRaw {base h h' : Heap} {fr : List Env} {own : Addr → Prop} {σ : Sto} {a : Addr} {o : Obj} (S : Sim base h σ) (kp : ∀ b o, h.get? b = some o → h'.get? b = some o) (hn : h.get? a = none) (hl : h'.get? a = some o) (hk : o.data = .plain ∨ ∃ es n, o.data = .dict es n) :
    σ a = none ∧ Step fr own σ h (upd σ a (.raw o)) h' ∧ Sim base h' (upd σ a (.raw o)) := by
  have hσ : σ a = none := by
    cases z : σ a with
    | none => rfl
    | some ao =>
      have := S a ao z
      cases ao with
      | list xs => obtain ⟨vs, ⟨m, h1⟩, _⟩ := this; rw [hn] at h1; cases h1
      | raw o => rw [hn] at this; cases this.1
  refine ⟨hσ, ⟨fun b o e _ _ _ => kp b o e, fun b o e _ _ => ⟨o.slots, kp b o e⟩, fun b o e _ => ⟨o, kp b o e⟩, fun c e _ n => ?_, fun c e => ?_⟩, fun c ao e => ?_⟩
  · unfold upd
    rw [if_neg (by rintro rfl; exact n hn)]; exact e
  · unfold upd
    split
    · simp
    · exact e
  · unfold upd at e
    split at e
    · rename_i z; subst z; cases e; exact ⟨hl, hk⟩
    · exact S.keeps kp c ao e
section
variable {prog : Program} {w : World} {A : Around} {K : Frag} {C x : Addr} {s : Shared} {R : Result → Shared → Prop}
theorem osa_here {od : Obj} {dx : Addr} {name : Str} {tk : Tok} {v : Value} (X : K.In s.heap) (I : InstAt s.heap x (instObj C dx) C (some od)) (hp : plainOver K C = true) (ht : takerIn K C name = some none) (hh : (clsIn K C).any (·.hasDict) = true)
    (D : s.heap.get? dx = some od) (hl : lookIn name od = some none) (e : ∀ hs t, ∃ es n, Obj.putName name hs (.str name t) v od = dictOf es n ∧ es.length ≤ 1000)
    (h : ∀ h' hs t, Heap.SameBut dx s.heap h' → h'.get? dx = some (Obj.putName name hs (.str name t) v od) → R (.ok (.ret .none)) { s with heap := h', toks := s.toks + 1 }) :
    codeAny (model prog w) A (.call (.builtin "object.__setattr__") ⟨[.ref x, .str name tk, v], []⟩) R s := by
  refine osa_open X I hp ht fun b => ?_
  obtain ⟨cd, hc, hd'⟩ := any_some hh
  obtain ⟨hx, _⟩ := I
  refine wpAny_bind (wpAny_pure (wpAny_bind (wpAny_bind (wpAny_loadPart hx (wpAny_bind ((looks_clsIn X hc).here ?_))))))
  rw [hd']
  refine wpAny_pure (a := some dx) (wpAny_bind (wpAny_pure (wpAny_bind ?_)))
  unfold nsSet
  refine wpAny_bind (wpAny_bind (wpAny_askSetting (wpAny_pure (wpAny_bind (wpAny_mkText (wpAny_bind (wpAny_loadPart D ?_)))))))
  unfold lookIn at hl
  split at hl
  · rename_i es₀ n₀ q
    rw [q]
    dsimp only
    have c : (!es₀.any (·.key.isStr name) && es₀.any (·.refKey)) = false := by
      rw [← Array.any_toList, ← Array.any_toList]
      split at hl
      · cases hl
      · split at hl
        · cases hl
        · rename_i z; rw [Bool.not_eq_true] at z; rw [z, Bool.and_false]
    rw [aRefKeyMayBeTheName_at, c]
    refine wpAny_updatePart D ?_
    obtain ⟨es, n, e1, e2⟩ := e (PyData.keyHash w.params name) s.toks
    have D' : (s.heap.update dx (Obj.putName name (PyData.keyHash w.params name) (.str name s.toks) v)).get? dx = some (Obj.putName name (PyData.keyHash w.params name) (.str name s.toks) v od) := Heap.get?_update_self _ D (by rw [e1]; rfl)
    refine wpAny_bind (wpAny_lookBehind D' (by rw [e1]; exact pastItsLine_dict (by rw [List.size_toArray, sizeLine_eq]; omega)) ?_)
    exact wpAny_pure (h _ _ _ (Heap.SameBut.update ..) D')
  · cases hl
end
section
variable {g : Gx} {n : Nat} {q : Bool} {sc : Scope} {C : Addr}
theorem sound_setattr {o value : Expr} {x : Str} {apos pos : Pos} {to tv : TE} (K : ClsK g.K C) (ho : SoundE g n q sc o to) (hv : SoundE g n q sc value tv) (hx : findIn g.K (.ref C) x = some none)
    (hs : ∀ env : Env, env.scope = sc → swapsWith value (some (.Attribute o x apos)) pos.line env = pure false) : SoundS g n q sc (.Assign [.Attribute o x apos] value pos) (tSetAttr C to x tv) := by
  intro A outer env C' hsc hf s ρ σ Q X H ht
  refine plainObj_wpAny_Assign_Attribute (stmtE H hf (hv A _ env C' hsc s ρ σ _ _ H ht) fun v h₁ tk pv σ₁ S1 H1 rv hq => ?_) (hs env hsc)
  refine wpAny_mono (stmtE (X := X) H1 hf (ho A _ env C' hsc { s with heap := h₁, toks := tk } ρ σ₁ _ _ H1 hq) (f := fun ov s₂ => wpAny g.M A (setAttr ov x v) (fun _ => PostS g (env :: outer) env σ s Q .next) (PostXS g (env :: outer) env σ s X) s₂) fun ov h₂ tk₂ po σ₂ S2 H2 ro hq => ?_) (fun _ _ z => z) fun _ _ z => z.up (noOwn S1)
  obtain ⟨a, d, od, fs, rfl, sp, i1, i2, D, hl, hlen, hQ⟩ := hq
  obtain rfl := inv_ref ro
  have Dn := D.no x hl
  have hD := (H2.hp.sim _ _ i2).1
  refine set_plain (s := { s with heap := h₂, toks := tk₂ }) (kin_st H2) (inst_at H2.hp.sim i1 i2) K.sa ?_
  refine osa_here (s := { s with heap := h₂, toks := tk₂ + 1 }) (kin_st H2) (inst_at H2.hp.sim i1 i2) K.over (by unfold takerIn; rw [hx]; rfl) K.hd hD Dn (fun hs t => ?_) fun h' hs t sb e' => ?_
  · obtain ⟨es, n, e1, e2, _⟩ := dict_put (hs := hs) (t := t) D hl sp (rep_simple (h' := h₂) sp rv)
    exact ⟨es, n, e1, by omega⟩
  · obtain ⟨es, n, e1, e2, D'⟩ := dict_put (hs := hs) (t := t) D hl sp (rep_simple (h' := h₂) sp rv)
    obtain ⟨z1, z2⟩ := turnRaw (own := nobody) H2.hp i2 sb e' (.inr ⟨_, _, by rw [e1]⟩)
    exact ⟨h', _, .next, ρ, _, rfl, noOwn ((S1.trans S2).trans z1), H2.step z1 z2, .next, hQ _ D'⟩
theorem sound_new {x : Str} {np pos : Pos} {es : List Expr} {ts : TEs} {fI : Addr} {m : Nat} {T : TF} (K : ClsK g.K C) (hes : SoundEs g n q sc es ts) (hT : SoundFc g m q fI T) (hm : m < n) (hx : sc.names.lookup x = some .globalImplicit) (hd : (x == ("__debug__" : Str)) = false) (hg : GlobAt g x (.ref C))
    (hi : findIn g.K (.ref C) "__init__" = some (some (.ref fI))) (hty : typeIn g.K (.ref fI) = some (.type "function")) : SoundE g n q sc (.Call (.Name x np) es [] pos) (tNew C T ts) := by
  intro A fr env C' hsc s ρ σ Q X H ht
  refine wpAny_Call_ofName (name_glob C' H (by rw [hsc]; exact hx) hd hg ?_)
  refine callWith_of (P := fun h => Frag.In g.K h) (by show ((backTo pos (starEach es env)).any (·.1) || false) = false; rw [hes.1 env pos]; rfl) (keeps_K K.keep) ?_
  refine wpAny_mono (evalArgs_es hes C' hsc H ht) (fun ag s' hp => ?_) fun _ _ x => x
  obtain ⟨hkw, h₂, tk₂, ps, σ₂, rfl, S2, Sm2, rs, hq⟩ := hp
  obtain ⟨apos, akw⟩ := ag
  obtain rfl : akw = [] := hkw
  have H2 := H.step S2 Sm2
  have X2 : Frag.In g.K h₂ := kin_st H2
  refine ⟨X2, wpAny_call ?_⟩
  refine make_core (h := h₂) (g := s.gens) (d := s.drawn) (t := tk₂) (os := s.os) (makes_of X2 K.makes) (looks_findIn X2 hi) (fun self => bind_fn X2 self hty) (.inl rfl) ?_
  have kp1 : ∀ b o, h₂.get? b = some o → (h₂.push emptyDict).get? b = some o := fun b o e => Heap.get?_push_of_some _ e
  have kp2 : ∀ b o, (h₂.push emptyDict).get? b = some o → ((h₂.push emptyDict).push (instObj C h₂.objs.size)).get? b = some o := fun b o e => Heap.get?_push_of_some _ e
  obtain ⟨n1, s1, m1⟩ := addRaw (fr := fr) (own := nobody) (a := h₂.objs.size) (o := emptyDict) Sm2 kp1 (fresh_size (Nat.le_refl _)) (Heap.get?_push_size _ rfl) (.inr ⟨_, _, rfl⟩)
  have gi : ((h₂.push emptyDict).push (instObj C h₂.objs.size)).get? (h₂.objs.size + 1) = some (instObj C h₂.objs.size) := by
    have := Heap.get?_push_size (h₂.push emptyDict) (o := instObj C h₂.objs.size) rfl
    rw [Heap.size_push] at this
    exact this
  obtain ⟨n2, s2, m2⟩ := addRaw (fr := fr) (own := nobody) (a := h₂.objs.size + 1) (o := instObj C h₂.objs.size) m1 kp2 (fresh_size (by rw [Heap.size_push]; exact Nat.le_refl _)) gi (.inl rfl)
  have n2' : σ₂ (h₂.objs.size + 1) = none := by
    have hne : h₂.objs.size + 1 ≠ h₂.objs.size := Nat.succ_ne_self _
    unfold upd at n2
    rwa [if_neg hne] at n2
  have hp2 := (H2.hp.step s1 m1).step s2 m2
  have base := hq (h₂.objs.size + 1) h₂.objs.size emptyDict n2' n1 (Nat.succ_ne_self _) ⟨⟨[], 0, rfl, rfl, rfl⟩, fun _ _ e => (by cases e), fun _ _ => rfl⟩
  have fr' : (A.under (.builtin "type.__call__" ⟨.ref C :: apos, []⟩)).frames = some fr := by
    show pushEnvs [] A.frames = _
    exact C'.frames
  have room' : Room m (A.under (.builtin "type.__call__" ⟨.ref C :: apos, []⟩)) := by
    obtain ⟨r1, r2⟩ := C'.room
    refine ⟨?_, ?_⟩
    · show A.depth + (Code.builtin "type.__call__" ⟨.ref C :: apos, []⟩).weight + m < _
      have : (Code.builtin "type.__call__" ⟨.ref C :: apos, []⟩).weight = 1 := by kernel_rfl
      omega
    · show A.units + (Code.builtin "type.__call__" ⟨.ref C :: apos, []⟩).cUnits + 8 * m + 100 < _
      have : (Code.builtin "type.__call__" ⟨.ref C :: apos, []⟩).cUnits = 1 := by kernel_rfl
      omega
  refine codeAny_mono (hT (A.under (.builtin "type.__call__" ⟨.ref C :: apos, []⟩)) fr ⟨(h₂.push emptyDict).push (instObj C h₂.objs.size), s.gens, s.drawn, tk₂, s.os⟩ (.ref (h₂.objs.size + 1) :: apos) (.ref (h₂.objs.size + 1) :: ps) _ _ _ fr' room' C'.quiet hp2 (.cons (.ref _) ((rs.keeps kp1).keeps kp2)) base) fun r s' z => ?_
  have S02 := S2.trans (s1.trans s2)
  rcases r with e | (_ | _ | _ | v)
  · exact PostX.up (s := s) (tk := tk₂) S02 z
  · exact z.elim
  · exact z.elim
  · exact z.elim
  · obtain ⟨h', tk, p, σ', rfl, S3, Sm3, r, rfl, hq⟩ := z
    obtain rfl := inv_none r
    exact ⟨rfl, h', tk, _, σ', rfl, S02.trans S3, Sm3, .ref _, hq⟩
end
end Mine

set_option autoImplicit false
set_option linter.unusedVariables false
namespace Mine
open PySem PyProof.Rows PySem.Calls PySem.W
/-! the tail of a tuple -/
noncomputable def tTupFrom (te : TE) (tl : TP) : TE := fun ρ σ Q X => te ρ σ (fun p σ₁ => tl ρ σ₁ (fun lo σ₂ => ∃ ps a, p = .tup ps ∧ lo = some (Int.ofNat a) ∧ 1 ≤ a ∧ a ≤ ps.length ∧ ps.length ≤ sizeLine ∧ Q (.tup (ps.drop a)) σ₂) X) X
section
variable {g : Gx} {n : Nat} {q : Bool} {sc : Scope}
theorem sound_tupfrom {e : Expr} {lower : Option Expr} {p pos : Pos} {te : TE} {tl : TP} (he : SoundE g n q sc e te) (hl : SoundP g n q sc lower tl) (htmp : ∀ o r, letTemporaryGo e o r = pure ()) :
    SoundE g n q sc (.Subscript e (.Slice lower none none p) pos) (tTupFrom te tl) := by
  intro A fr env C hsc s ρ σ Q X H ht
  refine wpAny_Subscript_Slice (T := "tuple") slot_tuple_getitem.lookup (bindE (he A fr env C hsc s ρ σ _ X H ht) fun o h₁ tk₁ po σ₁ S1 Sm1 r hq => ?_) htmp
  have H1 := H.step S1 Sm1
  refine wpAny_Slice (wpAny_mono (hl A fr env C hsc { s with heap := h₁, toks := tk₁ } ρ σ₁ _ X H1 hq) (fun vl s₂ hp => ?_) fun _ _ x => x.up S1)
  obtain ⟨h₂, tk₂, lo, σ₂, rfl, S2, Sm2, pl, hq⟩ := hp
  obtain ⟨ps, a, rfl, rfl, k1, k2, k3, hQ⟩ := hq
  have H2 := H1.step S2 Sm2
  obtain ⟨t, ot, vs, m, rfl, e1, e2, e3, rs⟩ := inv_tup (S2.rep H1.hp r)
  obtain ⟨u, rfl⟩ : ∃ u, vl = .int (Int.ofNat a) u := by cases pl; exact ⟨_, rfl⟩
  rw [evalPart_none]
  refine wpAny_pure (wpAny_pure ?_)
  generalize hsl : ({ cls := .type "slice", data := .fields #[.int (Int.ofNat a) u, .none, .none] } : Obj) = osl
  have kp : ∀ b o, h₂.get? b = some o → (h₂.push osl).get? b = some o := fun b o e => Heap.get?_push_of_some _ e
  have ht : IsTup (h₂.push osl) t vs.toArray := ⟨ot, kp _ _ e1, e2, m, e3⟩
  refine ⟨ht.typeIs, getItem_tuple_from (s := { s with heap := h₂.push osl, toks := tk₂ }) (a := a) (u := u) ht (by subst hsl; exact Heap.IsSliceOf.new ..) k1 (by rw [List.size_toArray, rs.length]; exact k2) ?_ (by rw [List.size_toArray, rs.length]; exact k3)⟩
  generalize hot : ({ cls := .type "tuple", data := .seq ((vs.toArray).toList.drop a).toArray } : Obj) = o2
  have kp2 : ∀ b o, h₂.get? b = some o → ((h₂.push osl).push o2).get? b = some o := fun b o e => Heap.get?_push_of_some _ (kp _ _ e)
  refine ⟨_, tk₂, .tup (ps.drop a), σ₂, rfl, (S1.trans S2).trans (Step.keeps kp2), Sm2.keeps kp2, ?_, hQ⟩
  subst hot
  exact .tup (Heap.get?_push_size _ rfl) rfl rfl ((rs.drop a).keeps kp2)
end
/-! methods -/
noncomputable def mFd (name qual : Str) (A : Arguments) (B : List Stmt) (S : Scope) (pm : Value) (cd : Addr) : FuncData := ⟨name, qual, A, .stmts B, S, mainGlobals, [], .none, .none, .none, pm, Option.none, .ref cd, .none, builtinsNs⟩
structure MethK (K : Frag) (C f : Addr) (name qual : Str) (A : Arguments) (B : List Stmt) (S : Scope) (pm : Value) (cd : Addr) : Prop where
  find : findIn K (.ref C) name = some (some (.ref f))
  ty : typeIn K (.ref f) = some (.type "function")
  keep : keepIn K (.ref f) = true
  obj : K.lookup f = some ⟨.type "function", Option.none, .func (mFd name qual A B S pm cd), #[]⟩
  code : codeIn K (.ref cd) qual = true
theorem has_meth {g : Gx} {n : Nat} {q : Bool} {C f : Addr} {name qual : Str} {A : Arguments} {B : List Stmt} {S : Scope} {pm : Value} {cd : Addr} {names : List Str} {tb : TS} (M : MethK g.K C f name qual A B S pm cd)
    (hbind : ∀ (vals : List Value), vals.length = names.length → bindArgs (mFd name qual A B S pm cd) ⟨vals, []⟩ = pure (names.zip vals))
    (hk1 : ∀ y ∈ names, S.names.lookup y = some .local ∨ S.names.lookup y = some .cell) (hco : S.isCoroutine = false) (hgen : S.isGenerator = false) (hk : S.kind = .function)
    (hbody : SoundSs g n q S B tb) : SoundFc g (n + 1) q f (tFun names tb) :=
  sound_fun (fd := mFd name qual A B S pm cd) (g.inK _ _ M.obj) rfl rfl rfl (codeRec_of g.inK M.code) rfl rfl hbind hk1 (fun L y e => cellsFrom_some _ _ _ (.inl e)) hco hgen hk hbody
/-! the plain side -/
section
variable {ρ : Env'} {σ : Sto} {Q : PV → Sto → Prop} {X : Addr → Sto → Prop} {QS : Fl → Env' → Sto → Prop} {XS : Addr → Env' → Sto → Prop} {QL : List PV → Sto → Prop}
theorem i_attr {C : Addr} {te : TE} {x : Str} (h : te ρ σ (fun p σ₁ => ∃ a fs q, p = .ref a ∧ Inst C σ₁ a fs ∧ fs.lookup x = some q ∧ Q q σ₁) X) : tAttr C te x ρ σ Q X := h
theorem i_methC {C : Addr} {m : Str} {T : TF} {to : TE} {ts : TEs} (h : to ρ σ (fun p σ₁ => (∃ a fs, p = .ref a ∧ Inst C σ₁ a fs ∧ fs.lookup m = none) ∧ ts ρ σ₁ (fun ps σ₂ => T (p :: ps) σ₂ Q X) X) X) : tMethC C m T to ts ρ σ Q X := h
theorem i_new {C : Addr} {T : TF} {ts : TEs} (h : ts ρ σ (fun ps σ₁ => ∀ a d od, σ₁ a = none → σ₁ d = none → a ≠ d → DictIs od [] → T (.ref a :: ps) (upd (upd σ₁ d (.raw od)) a (.raw (instObj C d))) (fun r σ₂ => r = .none ∧ Q (.ref a) σ₂) X) X) : tNew C T ts ρ σ Q X := h
theorem i_setattr {C : Addr} {to tv : TE} {x : Str} (h : tv ρ σ (fun pv σ₁ => to ρ σ₁ (fun po σ₂ => ∃ a d od fs, po = .ref a ∧ Simple pv ∧ σ₂ a = some (.raw (instObj C d)) ∧ σ₂ d = some (.raw od) ∧ DictIs od fs ∧ fs.lookup x = none ∧ fs.length ≤ 100 ∧
  ∀ od', DictIs od' (fs ++ [(x, pv)]) → QS .next ρ (upd σ₂ d (.raw od'))) (fun c σ' => XS c ρ σ')) (fun c σ' => XS c ρ σ')) : tSetAttr C to x tv ρ σ QS XS := h
theorem i_tupfrom {te : TE} {tl : TP} (h : te ρ σ (fun p σ₁ => tl ρ σ₁ (fun lo σ₂ => ∃ ps a, p = .tup ps ∧ lo = some (Int.ofNat a) ∧ 1 ≤ a ∧ a ≤ ps.length ∧ ps.length ≤ sizeLine ∧ Q (.tup (ps.drop a)) σ₂) X) X) : tTupFrom te tl ρ σ Q X := h
end
end Mine

set_option autoImplicit false
namespace Mine
open PySem PyProof.Rows PySem.Calls PySem.W
section
variable {p : Program} {w : World} {m n b : Nat} {a : Option Value} {s : Shared} {st : SharedT} {t : Thread}
theorem q_go {s' : Shared} {c : Code} {q : Pos} {B : List Frame} (h : PySem.W.Fast.tw15667345088766844465 PySem.W.Fast.tw14364793385576792824 p w m a n s t = some (s', ⟨PySem.W.Fast.tw11892475500146522536 PySem.W.Fast.tw14364793385576792824 c, c, q, B⟩)) : topGo treeTable p w m a n s t = some (s', ⟨denote treeTable c, c, q, B⟩) := by
  rw [PySem.W.Fast.te15667345088766844465, PySem.W.Fast.te14364793385576792824, PySem.W.Fast.te11892475500146522536]; exact h
theorem q_run {r : Option (Flow × Shared × Code × Pos)} (h : PySem.W.Fast.tw14374325043358763698 PySem.W.Fast.tw14364793385576792824 p w m a b n s t = r) : segRun treeTable p w m a b n s t = r := by
  rw [PySem.W.Fast.te14374325043358763698, PySem.W.Fast.te14364793385576792824]; exact h
theorem q_seg {r : Option (Flow × SharedT × Code × Pos)} (h : PySem.W.Fast.tw10110043849684766642 PySem.W.Fast.tw14364793385576792824 p w m a b n st t = r) : segRunT treeTable p w m a b n st t = r := by
  rw [PySem.W.Fast.te10110043849684766642, PySem.W.Fast.te14364793385576792824]; exact h
theorem q_top {r : Option Shared} (h : PySem.W.Fast.tw14082659384304107361 PySem.W.Fast.tw14364793385576792824 p w m a n s t = r) : topRun treeTable p w m a n s t = r := by
  rw [PySem.W.Fast.te14082659384304107361, PySem.W.Fast.te14364793385576792824]; exact h
end
theorem rest_eq {tb : String → Option Builtin} {p : Program} {w : World} {m n : Nat} {a : Option Value} {s r : Shared} {l l' : List Stmt} {env : Env} {c : Code} {q : Pos} {B : List Frame} (e : l = l') (k : topRun tb p w m a n s (restOf l' env c q B) = some r) : topRun tb p w m a n s (restOf l env c q B) = some r := by rw [e]; exact k
theorem seen_eq {q : Program} {loose mods : List Str} {Xt : Shared → Bool} {s : Shared} (h1 : seen ((recsOf q).map (·.name)) (ownsOf q) [] { s with gens := #[] } = expectedOf q) (h2 : s.heap.bltView = bltViewBooted)
    (h3 : (s.heap.keysOk (looseW q loose) ((recsOf q).map (·.name)) ((litsOf q).map (·.1)) ((clssOf q (looseW q loose)).map (·.name)) && s.heap.accountedOkI mods && s.heap.isNs mainGlobals && s.heap.isNs builtinsNs && tablesOk q s.heap && Xt s && (if true then s.gens.size == 0 else !leftWithCleanup s.gens)) = true)
    (h4 : tabsOk q s = true) (h5 : pinSeenD q (drecsOf q) s = pinGoodD (drecsOf q)) (h6 : plainSeenE q (looseW q loose) s = plainGoodE q (looseW q loose)) (h7 : plainSeenD q loose s = plainGoodD q loose) (h8 : wideSeen q s = wideGood q) (h9 : clsSeenW q loose s = clsGoodW q loose) :
    openSeen q loose mods Xt true s = openGood q loose := by
  unfold openSeen openGood
  exact looks_pair h1 (looks_pair h2 (looks_pair h3 (looks_pair h4 (looks_pair h5 (looks_pair h6 (looks_pair h7 (looks_pair h8 h9)))))))
theorem left_of {p q : Program} {loose : List Str} {Xt : Shared → Bool} {α : Type} {Yf : Shared → α} {Ya : World → α} {N : Nat} {H₀ H₁ : Params → Heap} {gs₀ gs₁ : Array GenState} {d₀ d₁ : Drawn} {k₀ k₁ : Nat} {m₀ : Nat} {ann : Option Value} {M : Nat}
    (open_ : ∀ w : World, (fencedOpening treeTable p w N).map (fun s => (s.heap, s.gens, s.drawn, s.toks)) = some (H₀ w.params, gs₀, d₀, k₀))
    (size : ∀ w : World, ((H₀ w.params).isNs mainGlobals && gs₀.size == 0, (H₀ w.params).objs.size, (H₀ w.params).nsMap mainGlobals "__annotations__") = (true, m₀, ann))
    (run : ∀ (w : World) (os : OsState), topRun treeTable p w m₀ ann M ⟨H₀ w.params, gs₀, d₀, k₀, os⟩ (topStub p) = some ⟨H₁ w.params, gs₁, d₁, k₁, os⟩) (le : Nat.ble M N = true)
    (l0 : ∀ (w : World) (os : OsState), (staticsOk (importedModules p.main.body) (H₀ w.params) (H₁ w.params) && namesBound p (H₁ w.params) && gensDone ⟨H₁ w.params, gs₁, d₁, k₁, os⟩ && laidKept (H₀ w.params) (H₁ w.params)) = true)
    (l1 : ∀ (w : World) (os : OsState), openSeen q loose (importedModules p.main.body) Xt true ⟨H₁ w.params, gs₁, d₁, k₁, os⟩ = openGood q loose) (l2 : ∀ (w : World) (os : OsState), Yf ⟨H₁ w.params, gs₁, d₁, k₁, os⟩ = Ya w) : LeftO p q loose Xt Yf Ya N true :=
  LeftO.of_pieces open_ size run le fun w => funext fun os => looks_pair (l0 w os) (looks_pair (l1 w os) (l2 w os))
set_option maxRecDepth 100000
noncomputable def fnS (i : Nat) : Stmt := (PySem.Challenge.pw_uf030027_10.main.body[i]?).getD (.Pass ⟨0, 0, 0, 0⟩)
noncomputable def fnM (i j : Nat) : Stmt := match fnS i with | .ClassDef _ _ _ b _ _ _ _ _ _ _ => (b[j]?).getD (.Pass ⟨0, 0, 0, 0⟩) | s => s
noncomputable def fnA : Stmt → Arguments | .FunctionDef _ a _ _ _ _ _ _ _ _ => a | _ => ⟨[], [], Option.none, [], [], Option.none, []⟩
noncomputable def fnB : Stmt → List Stmt | .FunctionDef _ _ b _ _ _ _ _ _ _ => b | _ => []
noncomputable def fnC : Stmt → Scope | .FunctionDef _ _ _ _ _ _ s _ _ _ => s | _ => ⟨.function, [], false, false, []⟩
noncomputable def o0 (_ : Params) : Obj := ⟨(.type "tuple"), Option.none, (.seq #[] 0), #[]⟩
noncomputable def o1 (_ : Params) : Obj := ⟨.none, Option.none, (.fields #[]), #[]⟩
noncomputable def o2 (_ : Params) : Obj := ⟨(.type "code"), Option.none, (.fields #[(.str "<module>" 182), (.str "<module>" 183), (.str "/claim/cut.py" 184), (.int 1 0), (.int 0 0), (.int 0 0), (.int 0 0), (.int 0 0), (.ref 11), (.bool false), (.int 181 0), (.ref 12), .none, .none, .none, .none, (.int 185 0), (.int 1 0), (.str "/claim/cut.py" 186)]), #[]⟩
noncomputable def o3 (_ : Params) : Obj := ⟨(.type "frame"), Option.none, .plain, #[(Option.some (.ref 13)), (Option.some (.ref 3)), (Option.some (.ref 3)), Option.none, (Option.some (.str "__main__" 164)), Option.none, (Option.some (.ref 0))]⟩
noncomputable def hpA (P : Params) : Heap := ⟨#[boot_o_0 P, boot_o_1 P, boot_o_2 P, boot_o_3 P, boot_o_4 P, boot_o_5 P, boot_o_6 P, boot_o_7 P, boot_o_8 P, boot_o_9 P, boot_o_10 P, o0 P, o1 P, o2 P, o3 P], ⟨[], [], [], 0, [], [], false, #[], [], 0, false, false, false, 0, [2000, 10, 10], false, 0, true, [], [], 0, false⟩⟩
noncomputable def tr0 (P : Params) : BT := (.node (boot_o_0 P) (.node (boot_o_1 P) (.node (boot_o_3 P) (.node (boot_o_7 P) .nil .nil) (.node (o0 P) .nil .nil)) (.node (boot_o_5 P) (.node (boot_o_9 P) .nil .nil) (.node (o2 P) .nil .nil))) (.node (boot_o_2 P) (.node (boot_o_4 P) (.node (boot_o_8 P) .nil .nil) (.node (o1 P) .nil .nil)) (.node (boot_o_6 P) (.node (boot_o_10 P) .nil .nil) (.node (o3 P) .nil .nil))))
noncomputable def S0 (w : World) (os : OsState) : SharedT := ⟨tr0 w.params, 15, ⟨[], [], [], 0, [], [], false, #[], [], 0, false, false, false, 0, [2000, 10, 10], false, 0, true, [], [], 0, false⟩, #[], ⟨0, 0, 0, 0⟩, 187, os⟩
noncomputable def enQ : Env := { scope := PySem.Challenge.pw_uf030027_10.main.scope, locals := mainNs, globals := mainNs, cells := [], code := (.ref 13), frame := some 14 }
noncomputable abbrev bdQ : List Stmt := behindTheImports PySem.Challenge.pw_uf030027_10
noncomputable abbrev cdQ : Code := .body bdQ enQ
noncomputable abbrev ps0 : Pos := ⟨0, 0, 0, 0⟩
noncomputable abbrev an0 : Option Value := (Option.some (.ref 6))
noncomputable def o4 (P : Params) : Obj := ⟨(.type "dict"), Option.none, (.dict #[⟨(PyData.keyHash P "__name__"), (.str "__name__" 165), (.str "clearday.errors" 194)⟩, ⟨(PyData.keyHash P "__doc__"), (.str "__doc__" 166), .none⟩, ⟨(PyData.keyHash P "__package__"), (.str "__package__" 167), .none⟩, ⟨(PyData.keyHash P "__loader__"), (.str "__loader__" 168), (.builtin "__main__.__loader__#opaque")⟩, ⟨(PyData.keyHash P "__spec__"), (.str "__spec__" 169), .none⟩, ⟨(PyData.keyHash P "__annotations__"), (.str "__annotations__" 170), (.ref 6)⟩, ⟨(PyData.keyHash P "__builtins__"), (.str "__builtins__" 171), (.ref 4)⟩, ⟨(PyData.keyHash P "__file__"), (.str "__file__" 173), (.str "/claim/cut.py" 172)⟩, ⟨(PyData.keyHash P "__cached__"), (.str "__cached__" 174), .none⟩, ⟨(PyData.keyHash P "_wall"), (.str "_wall" 193), (.ref 21)⟩, ⟨(PyData.keyHash P "DebtError"), (.str "DebtError" 213), (.ref 31)⟩] 11), #[]⟩
noncomputable def o5 (_ : Params) : Obj := ⟨.none, Option.none, (.fields #[(.int 1 0), (.int 0 0), (.ref 20), (.int 5 0), (.int 0 0), (.ref 27)]), #[]⟩
noncomputable def o6 (_ : Params) : Obj := ⟨(.type "tuple"), Option.none, (.seq #[] 0), #[]⟩
noncomputable def o7 (_ : Params) : Obj := ⟨.none, Option.none, (.fields #[]), #[]⟩
noncomputable def o8 (_ : Params) : Obj := ⟨(.type "tuple"), Option.none, (.seq #[(.str "k" 190)] 0), #[]⟩
noncomputable def o9 (_ : Params) : Obj := ⟨(.type "tuple"), Option.none, (.seq #[] 0), #[]⟩
noncomputable def o10 (_ : Params) : Obj := ⟨.none, Option.none, (.func ⟨"_wall", "_wall", (fnA (fnS 0)), (.stmts (fnB (fnS 0))), (fnC (fnS 0)), 0, [], .none, .none, .none, .none, Option.none, .none, .none, 0⟩), #[]⟩
noncomputable def o11 (_ : Params) : Obj := ⟨(.type "code"), Option.none, (.fields #[(.str "_wall" 187), (.str "_wall" 188), (.str "/claim/cut.py" 189), (.int 1 0), (.int 1 0), (.int 0 0), (.int 0 0), (.int 3 0), (.ref 15), (.bool true), (.int 181 0), (.ref 16), .none, (.ref 17), (.ref 18), (.ref 19), (.int 191 0), (.int 1 0), (.str "/claim/cut.py" 192)]), #[]⟩
noncomputable def o12 (_ : Params) : Obj := ⟨(.type "function"), Option.none, (.func ⟨"_wall", "_wall", (fnA (fnS 0)), (.stmts (fnB (fnS 0))), (fnC (fnS 0)), 3, [], .none, .none, .none, (.str "__main__" 164), Option.none, (.ref 20), .none, 0⟩), #[]⟩
noncomputable def o13 (_ : Params) : Obj := ⟨(.type "tuple"), Option.none, (.seq #[(.type "ValueError")] 0), #[]⟩
noncomputable def o14 (_ : Params) : Obj := ⟨(.type "builtin_function_or_method"), Option.none, (.fields #[(.builtin "type.__prepare__"), (.type "type")]), #[]⟩
noncomputable def o15 (P : Params) : Obj := ⟨(.type "dict"), Option.none, (.dict #[⟨(PyData.keyHash P "__module__"), (.str "__module__" 203), (.str "clearday.errors" 194)⟩, ⟨(PyData.keyHash P "__qualname__"), (.str "__qualname__" 205), (.str "DebtError" 204)⟩, ⟨(PyData.keyHash P "__firstlineno__"), (.str "__firstlineno__" 207), (.int 5 206)⟩, ⟨(PyData.keyHash P "__static_attributes__"), (.str "__static_attributes__" 208), (.ref 29)⟩] 4), #[]⟩
noncomputable def o16 (_ : Params) : Obj := ⟨(.type "tuple"), Option.none, (.seq #[] 0), #[]⟩
noncomputable def o17 (_ : Params) : Obj := ⟨.none, Option.none, (.fields #[]), #[]⟩
noncomputable def o18 (_ : Params) : Obj := ⟨(.type "code"), Option.none, (.fields #[(.str "DebtError" 198), (.str "DebtError" 199), (.str "/claim/cut.py" 200), (.int 5 0), (.int 0 0), (.int 0 0), (.int 0 0), (.int 0 0), (.ref 25), (.bool false), (.int 181 0), (.ref 26), .none, .none, .none, .none, (.int 201 0), (.int 5 0), (.str "/claim/cut.py" 202)]), #[]⟩
noncomputable def o19 (_ : Params) : Obj := ⟨(.type "frame"), Option.none, .plain, #[(Option.some (.ref 27)), (Option.some (.ref 3)), (Option.some (.ref 24)), Option.none, (Option.some (.str "clearday.errors" 194)), Option.none, (Option.some (.ref 0))]⟩
noncomputable def o20 (_ : Params) : Obj := ⟨(.type "tuple"), Option.none, (.seq #[] 0), #[]⟩
noncomputable def o21 (P : Params) : Obj := ⟨(.type "dict"), Option.none, (.dict #[⟨(PyData.keyHash P "__module__"), (.str "__module__" 203), (.str "clearday.errors" 194)⟩, ⟨(PyData.keyHash P "__firstlineno__"), (.str "__firstlineno__" 207), (.int 5 206)⟩, ⟨(PyData.keyHash P "__static_attributes__"), (.str "__static_attributes__" 208), (.ref 29)⟩, ⟨(PyData.keyHash P "__weakref__"), (.str "__weakref__" 210), (.ref 32)⟩, ⟨(PyData.keyHash P "__doc__"), (.str "__doc__" 211), .none⟩] 3), #[]⟩
noncomputable def o22 (_ : Params) : Obj := ⟨(.type "type"), Option.none, (.cls ⟨"DebtError", [(.type "ValueError")], [(.ref 31), (.type "ValueError"), (.type "Exception"), (.type "BaseException"), (.type "object")], 30, "DebtError", true, [], [], false, Option.none, false⟩), #[(Option.some (.ref 22)), Option.none, (Option.some (.str "DebtError" 196)), (Option.some (.str "DebtError" 204)), (Option.some (.builtin "ValueError.__new__")), (Option.some (.bool true))]⟩
noncomputable def o23 (_ : Params) : Obj := ⟨(.type "getset_descriptor"), Option.none, (.fields #[(.str "__weakref__" 209), (.ref 31), (.builtin "ExceptionGroup.__weakref__"), .none]), #[]⟩
noncomputable def o24 (_ : Params) : Obj := ⟨(.type "super"), Option.none, (.fields #[(.ref 31), (.ref 31), (.ref 31)]), #[]⟩
noncomputable def o25 (_ : Params) : Obj := ⟨(.type "builtin_function_or_method"), Option.none, (.fields #[(.builtin "object.__init_subclass__"), (.ref 31)]), #[]⟩
noncomputable def tr1 (P : Params) : BT := (.node (boot_o_0 P) (.node (boot_o_1 P) (.node (o4 P) (.node (boot_o_7 P) (.node (o6 P) (.node (o22 P) .nil .nil) .nil) (.node (o14 P) .nil .nil)) (.node (o0 P) (.node (o10 P) .nil .nil) (.node (o18 P) .nil .nil))) (.node (boot_o_5 P) (.node (boot_o_9 P) (.node (o8 P) (.node (o24 P) .nil .nil) .nil) (.node (o16 P) .nil .nil)) (.node (o2 P) (.node (o12 P) .nil .nil) (.node (o20 P) .nil .nil)))) (.node (boot_o_2 P) (.node (boot_o_4 P) (.node (boot_o_8 P) (.node (o7 P) (.node (o23 P) .nil .nil) .nil) (.node (o15 P) .nil .nil)) (.node (o5 P) (.node (o11 P) .nil .nil) (.node (o19 P) .nil .nil))) (.node (boot_o_6 P) (.node (boot_o_10 P) (.node (o9 P) (.node (o25 P) .nil .nil) .nil) (.node (o17 P) .nil .nil)) (.node (o3 P) (.node (o13 P) .nil .nil) (.node (o21 P) .nil .nil)))))
noncomputable def S1 (w : World) (os : OsState) : SharedT := ⟨tr1 w.params, 35, ⟨[], [], [], 0, [], [], false, #[], [], 0, false, false, false, 0, [2000, 10, 10], false, 0, true, [], [], 0, false⟩, #[], ⟨0, 0, 0, 0⟩, 214, os⟩
noncomputable def ss0 : List Stmt := (bdQ.drop 0).take 3
noncomputable def o26 (P : Params) : Obj := ⟨(.type "dict"), Option.none, (.dict #[⟨(PyData.keyHash P "__name__"), (.str "__name__" 165), (.str "clearday.errors" 194)⟩, ⟨(PyData.keyHash P "__doc__"), (.str "__doc__" 166), .none⟩, ⟨(PyData.keyHash P "__package__"), (.str "__package__" 167), .none⟩, ⟨(PyData.keyHash P "__loader__"), (.str "__loader__" 168), (.builtin "__main__.__loader__#opaque")⟩, ⟨(PyData.keyHash P "__spec__"), (.str "__spec__" 169), .none⟩, ⟨(PyData.keyHash P "__annotations__"), (.str "__annotations__" 170), (.ref 6)⟩, ⟨(PyData.keyHash P "__builtins__"), (.str "__builtins__" 171), (.ref 4)⟩, ⟨(PyData.keyHash P "__file__"), (.str "__file__" 173), (.str "/claim/cut.py" 172)⟩, ⟨(PyData.keyHash P "__cached__"), (.str "__cached__" 174), .none⟩, ⟨(PyData.keyHash P "_wall"), (.str "_wall" 193), (.ref 21)⟩, ⟨(PyData.keyHash P "DebtError"), (.str "DebtError" 213), (.ref 31)⟩, ⟨(PyData.keyHash P "BadCount"), (.str "BadCount" 229), (.ref 44)⟩] 12), #[]⟩
noncomputable def o27 (_ : Params) : Obj := ⟨.none, Option.none, (.fields #[(.int 1 0), (.int 0 0), (.ref 20), (.int 5 0), (.int 0 0), (.ref 27), (.int 7 0), (.int 0 0), (.ref 40)]), #[]⟩
noncomputable def o28 (_ : Params) : Obj := ⟨(.type "type"), Option.none, (.cls ⟨"DebtError", [(.type "ValueError")], [(.ref 31), (.type "ValueError"), (.type "Exception"), (.type "BaseException"), (.type "object")], 30, "DebtError", true, [], [(.ref 44)], false, Option.none, false⟩), #[(Option.some (.ref 22)), Option.none, (Option.some (.str "DebtError" 196)), (Option.some (.str "DebtError" 204)), (Option.some (.builtin "ValueError.__new__")), (Option.some (.bool true))]⟩
noncomputable def o29 (_ : Params) : Obj := ⟨(.type "tuple"), Option.none, (.seq #[(.ref 31)] 0), #[]⟩
noncomputable def o30 (_ : Params) : Obj := ⟨(.type "builtin_function_or_method"), Option.none, (.fields #[(.builtin "type.__prepare__"), (.type "type")]), #[]⟩
noncomputable def o31 (P : Params) : Obj := ⟨(.type "dict"), Option.none, (.dict #[⟨(PyData.keyHash P "__module__"), (.str "__module__" 221), (.str "clearday.errors" 194)⟩, ⟨(PyData.keyHash P "__qualname__"), (.str "__qualname__" 223), (.str "BadCount" 222)⟩, ⟨(PyData.keyHash P "__firstlineno__"), (.str "__firstlineno__" 225), (.int 7 224)⟩, ⟨(PyData.keyHash P "__static_attributes__"), (.str "__static_attributes__" 226), (.ref 42)⟩] 4), #[]⟩
noncomputable def o32 (_ : Params) : Obj := ⟨(.type "tuple"), Option.none, (.seq #[] 0), #[]⟩
noncomputable def o33 (_ : Params) : Obj := ⟨.none, Option.none, (.fields #[]), #[]⟩
noncomputable def o34 (_ : Params) : Obj := ⟨(.type "code"), Option.none, (.fields #[(.str "BadCount" 216), (.str "BadCount" 217), (.str "/claim/cut.py" 218), (.int 7 0), (.int 0 0), (.int 0 0), (.int 0 0), (.int 0 0), (.ref 38), (.bool false), (.int 181 0), (.ref 39), .none, .none, .none, .none, (.int 219 0), (.int 7 0), (.str "/claim/cut.py" 220)]), #[]⟩
noncomputable def o35 (_ : Params) : Obj := ⟨(.type "frame"), Option.none, .plain, #[(Option.some (.ref 40)), (Option.some (.ref 3)), (Option.some (.ref 37)), Option.none, (Option.some (.str "clearday.errors" 194)), Option.none, (Option.some (.ref 0))]⟩
noncomputable def o36 (_ : Params) : Obj := ⟨(.type "tuple"), Option.none, (.seq #[] 0), #[]⟩
noncomputable def o37 (P : Params) : Obj := ⟨(.type "dict"), Option.none, (.dict #[⟨(PyData.keyHash P "__module__"), (.str "__module__" 221), (.str "clearday.errors" 194)⟩, ⟨(PyData.keyHash P "__firstlineno__"), (.str "__firstlineno__" 225), (.int 7 224)⟩, ⟨(PyData.keyHash P "__static_attributes__"), (.str "__static_attributes__" 226), (.ref 42)⟩, ⟨(PyData.keyHash P "__doc__"), (.str "__doc__" 227), .none⟩] 2), #[]⟩
noncomputable def o38 (_ : Params) : Obj := ⟨(.type "type"), Option.none, (.cls ⟨"BadCount", [(.ref 31)], [(.ref 44), (.ref 31), (.type "ValueError"), (.type "Exception"), (.type "BaseException"), (.type "object")], 43, "BadCount", true, [], [], false, Option.none, false⟩), #[(Option.some (.ref 35)), Option.none, (Option.some (.str "BadCount" 214)), (Option.some (.str "BadCount" 222)), (Option.some (.builtin "ValueError.__new__")), (Option.some (.bool true))]⟩
noncomputable def o39 (_ : Params) : Obj := ⟨(.type "super"), Option.none, (.fields #[(.ref 44), (.ref 44), (.ref 44)]), #[]⟩
noncomputable def o40 (_ : Params) : Obj := ⟨(.type "builtin_function_or_method"), Option.none, (.fields #[(.builtin "object.__init_subclass__"), (.ref 44)]), #[]⟩
noncomputable def tr2 (P : Params) : BT := (.node (boot_o_0 P) (.node (boot_o_1 P) (.node (o26 P) (.node (boot_o_7 P) (.node (o6 P) (.node (o28 P) .nil .nil) .nil) (.node (o14 P) (.node (o33 P) .nil .nil) .nil)) (.node (o0 P) (.node (o10 P) (.node (o29 P) .nil .nil) .nil) (.node (o18 P) (.node (o37 P) .nil .nil) .nil))) (.node (boot_o_5 P) (.node (boot_o_9 P) (.node (o8 P) (.node (o24 P) .nil .nil) .nil) (.node (o16 P) (.node (o35 P) .nil .nil) .nil)) (.node (o2 P) (.node (o12 P) (.node (o31 P) .nil .nil) .nil) (.node (o20 P) (.node (o39 P) .nil .nil) .nil)))) (.node (boot_o_2 P) (.node (boot_o_4 P) (.node (boot_o_8 P) (.node (o7 P) (.node (o23 P) .nil .nil) .nil) (.node (o15 P) (.node (o34 P) .nil .nil) .nil)) (.node (o27 P) (.node (o11 P) (.node (o30 P) .nil .nil) .nil) (.node (o19 P) (.node (o38 P) .nil .nil) .nil))) (.node (boot_o_6 P) (.node (boot_o_10 P) (.node (o9 P) (.node (o25 P) .nil .nil) .nil) (.node (o17 P) (.node (o36 P) .nil .nil) .nil)) (.node (o3 P) (.node (o13 P) (.node (o32 P) .nil .nil) .nil) (.node (o21 P) (.node (o40 P) .nil .nil) .nil)))))
noncomputable def S2 (w : World) (os : OsState) : SharedT := ⟨tr2 w.params, 47, ⟨[], [], [], 0, [], [], false, #[], [], 0, false, false, false, 0, [2000, 10, 10], false, 0, true, [], [], 0, false⟩, #[], ⟨0, 0, 0, 0⟩, 230, os⟩
noncomputable def ss1 : List Stmt := (bdQ.drop 3).take 1
noncomputable def o41 (P : Params) : Obj := ⟨(.type "dict"), Option.none, (.dict #[⟨(PyData.keyHash P "__name__"), (.str "__name__" 165), (.str "clearday.errors" 194)⟩, ⟨(PyData.keyHash P "__doc__"), (.str "__doc__" 166), .none⟩, ⟨(PyData.keyHash P "__package__"), (.str "__package__" 167), .none⟩, ⟨(PyData.keyHash P "__loader__"), (.str "__loader__" 168), (.builtin "__main__.__loader__#opaque")⟩, ⟨(PyData.keyHash P "__spec__"), (.str "__spec__" 169), .none⟩, ⟨(PyData.keyHash P "__annotations__"), (.str "__annotations__" 170), (.ref 6)⟩, ⟨(PyData.keyHash P "__builtins__"), (.str "__builtins__" 171), (.ref 4)⟩, ⟨(PyData.keyHash P "__file__"), (.str "__file__" 173), (.str "/claim/cut.py" 172)⟩, ⟨(PyData.keyHash P "__cached__"), (.str "__cached__" 174), .none⟩, ⟨(PyData.keyHash P "_wall"), (.str "_wall" 193), (.ref 21)⟩, ⟨(PyData.keyHash P "DebtError"), (.str "DebtError" 213), (.ref 31)⟩, ⟨(PyData.keyHash P "BadCount"), (.str "BadCount" 229), (.ref 44)⟩, ⟨(PyData.keyHash P "BadDebt"), (.str "BadDebt" 245), (.ref 56)⟩] 13), #[]⟩
noncomputable def o42 (_ : Params) : Obj := ⟨.none, Option.none, (.fields #[(.int 1 0), (.int 0 0), (.ref 20), (.int 5 0), (.int 0 0), (.ref 27), (.int 7 0), (.int 0 0), (.ref 40), (.int 9 0), (.int 0 0), (.ref 52)]), #[]⟩
noncomputable def o43 (_ : Params) : Obj := ⟨(.type "type"), Option.none, (.cls ⟨"DebtError", [(.type "ValueError")], [(.ref 31), (.type "ValueError"), (.type "Exception"), (.type "BaseException"), (.type "object")], 30, "DebtError", true, [], [(.ref 44), (.ref 56)], false, Option.none, false⟩), #[(Option.some (.ref 22)), Option.none, (Option.some (.str "DebtError" 196)), (Option.some (.str "DebtError" 204)), (Option.some (.builtin "ValueError.__new__")), (Option.some (.bool true))]⟩
noncomputable def o44 (_ : Params) : Obj := ⟨(.type "tuple"), Option.none, (.seq #[(.ref 31)] 0), #[]⟩
noncomputable def o45 (_ : Params) : Obj := ⟨(.type "builtin_function_or_method"), Option.none, (.fields #[(.builtin "type.__prepare__"), (.type "type")]), #[]⟩
noncomputable def o46 (P : Params) : Obj := ⟨(.type "dict"), Option.none, (.dict #[⟨(PyData.keyHash P "__module__"), (.str "__module__" 237), (.str "clearday.errors" 194)⟩, ⟨(PyData.keyHash P "__qualname__"), (.str "__qualname__" 239), (.str "BadDebt" 238)⟩, ⟨(PyData.keyHash P "__firstlineno__"), (.str "__firstlineno__" 241), (.int 9 240)⟩, ⟨(PyData.keyHash P "__static_attributes__"), (.str "__static_attributes__" 242), (.ref 54)⟩] 4), #[]⟩
noncomputable def o47 (_ : Params) : Obj := ⟨(.type "tuple"), Option.none, (.seq #[] 0), #[]⟩
noncomputable def o48 (_ : Params) : Obj := ⟨.none, Option.none, (.fields #[]), #[]⟩
noncomputable def o49 (_ : Params) : Obj := ⟨(.type "code"), Option.none, (.fields #[(.str "BadDebt" 232), (.str "BadDebt" 233), (.str "/claim/cut.py" 234), (.int 9 0), (.int 0 0), (.int 0 0), (.int 0 0), (.int 0 0), (.ref 50), (.bool false), (.int 181 0), (.ref 51), .none, .none, .none, .none, (.int 235 0), (.int 9 0), (.str "/claim/cut.py" 236)]), #[]⟩
noncomputable def o50 (_ : Params) : Obj := ⟨(.type "frame"), Option.none, .plain, #[(Option.some (.ref 52)), (Option.some (.ref 3)), (Option.some (.ref 49)), Option.none, (Option.some (.str "clearday.errors" 194)), Option.none, (Option.some (.ref 0))]⟩
noncomputable def o51 (_ : Params) : Obj := ⟨(.type "tuple"), Option.none, (.seq #[] 0), #[]⟩
noncomputable def o52 (P : Params) : Obj := ⟨(.type "dict"), Option.none, (.dict #[⟨(PyData.keyHash P "__module__"), (.str "__module__" 237), (.str "clearday.errors" 194)⟩, ⟨(PyData.keyHash P "__firstlineno__"), (.str "__firstlineno__" 241), (.int 9 240)⟩, ⟨(PyData.keyHash P "__static_attributes__"), (.str "__static_attributes__" 242), (.ref 54)⟩, ⟨(PyData.keyHash P "__doc__"), (.str "__doc__" 243), .none⟩] 2), #[]⟩
noncomputable def o53 (_ : Params) : Obj := ⟨(.type "type"), Option.none, (.cls ⟨"BadDebt", [(.ref 31)], [(.ref 56), (.ref 31), (.type "ValueError"), (.type "Exception"), (.type "BaseException"), (.type "object")], 55, "BadDebt", true, [], [], false, Option.none, false⟩), #[(Option.some (.ref 47)), Option.none, (Option.some (.str "BadDebt" 230)), (Option.some (.str "BadDebt" 238)), (Option.some (.builtin "ValueError.__new__")), (Option.some (.bool true))]⟩
noncomputable def o54 (_ : Params) : Obj := ⟨(.type "super"), Option.none, (.fields #[(.ref 56), (.ref 56), (.ref 56)]), #[]⟩
noncomputable def o55 (_ : Params) : Obj := ⟨(.type "builtin_function_or_method"), Option.none, (.fields #[(.builtin "object.__init_subclass__"), (.ref 56)]), #[]⟩
noncomputable def tr3 (P : Params) : BT := (.node (boot_o_0 P) (.node (boot_o_1 P) (.node (o41 P) (.node (boot_o_7 P) (.node (o6 P) (.node (o43 P) .nil .nil) (.node (o44 P) .nil .nil)) (.node (o14 P) (.node (o33 P) .nil .nil) (.node (o52 P) .nil .nil))) (.node (o0 P) (.node (o10 P) (.node (o29 P) .nil .nil) (.node (o48 P) .nil .nil)) (.node (o18 P) (.node (o37 P) .nil .nil) .nil))) (.node (boot_o_5 P) (.node (boot_o_9 P) (.node (o8 P) (.node (o24 P) .nil .nil) (.node (o46 P) .nil .nil)) (.node (o16 P) (.node (o35 P) .nil .nil) (.node (o54 P) .nil .nil))) (.node (o2 P) (.node (o12 P) (.node (o31 P) .nil .nil) (.node (o50 P) .nil .nil)) (.node (o20 P) (.node (o39 P) .nil .nil) .nil)))) (.node (boot_o_2 P) (.node (boot_o_4 P) (.node (boot_o_8 P) (.node (o7 P) (.node (o23 P) .nil .nil) (.node (o45 P) .nil .nil)) (.node (o15 P) (.node (o34 P) .nil .nil) (.node (o53 P) .nil .nil))) (.node (o42 P) (.node (o11 P) (.node (o30 P) .nil .nil) (.node (o49 P) .nil .nil)) (.node (o19 P) (.node (o38 P) .nil .nil) .nil))) (.node (boot_o_6 P) (.node (boot_o_10 P) (.node (o9 P) (.node (o25 P) .nil .nil) (.node (o47 P) .nil .nil)) (.node (o17 P) (.node (o36 P) .nil .nil) (.node (o55 P) .nil .nil))) (.node (o3 P) (.node (o13 P) (.node (o32 P) .nil .nil) (.node (o51 P) .nil .nil)) (.node (o21 P) (.node (o40 P) .nil .nil) .nil)))))
noncomputable def S3 (w : World) (os : OsState) : SharedT := ⟨tr3 w.params, 59, ⟨[], [], [], 0, [], [], false, #[], [], 0, false, false, false, 0, [2000, 10, 10], false, 0, true, [], [], 0, false⟩, #[], ⟨0, 0, 0, 0⟩, 246, os⟩
noncomputable def ss2 : List Stmt := (bdQ.drop 4).take 1
noncomputable def o56 (P : Params) : Obj := ⟨(.type "dict"), Option.none, (.dict #[⟨(PyData.keyHash P "__name__"), (.str "__name__" 165), (.str "clearday.errors" 194)⟩, ⟨(PyData.keyHash P "__doc__"), (.str "__doc__" 166), .none⟩, ⟨(PyData.keyHash P "__package__"), (.str "__package__" 167), .none⟩, ⟨(PyData.keyHash P "__loader__"), (.str "__loader__" 168), (.builtin "__main__.__loader__#opaque")⟩, ⟨(PyData.keyHash P "__spec__"), (.str "__spec__" 169), .none⟩, ⟨(PyData.keyHash P "__annotations__"), (.str "__annotations__" 170), (.ref 6)⟩, ⟨(PyData.keyHash P "__builtins__"), (.str "__builtins__" 171), (.ref 4)⟩, ⟨(PyData.keyHash P "__file__"), (.str "__file__" 173), (.str "/claim/cut.py" 172)⟩, ⟨(PyData.keyHash P "__cached__"), (.str "__cached__" 174), .none⟩, ⟨(PyData.keyHash P "_wall"), (.str "_wall" 193), (.ref 21)⟩, ⟨(PyData.keyHash P "DebtError"), (.str "DebtError" 213), (.ref 31)⟩, ⟨(PyData.keyHash P "BadCount"), (.str "BadCount" 229), (.ref 44)⟩, ⟨(PyData.keyHash P "BadDebt"), (.str "BadDebt" 245), (.ref 56)⟩, ⟨(PyData.keyHash P "BadCut"), (.str "BadCut" 261), (.ref 68)⟩] 14), #[]⟩
noncomputable def o57 (_ : Params) : Obj := ⟨.none, Option.none, (.fields #[(.int 1 0), (.int 0 0), (.ref 20), (.int 5 0), (.int 0 0), (.ref 27), (.int 7 0), (.int 0 0), (.ref 40), (.int 9 0), (.int 0 0), (.ref 52), (.int 11 0), (.int 0 0), (.ref 64)]), #[]⟩
noncomputable def o58 (_ : Params) : Obj := ⟨(.type "type"), Option.none, (.cls ⟨"DebtError", [(.type "ValueError")], [(.ref 31), (.type "ValueError"), (.type "Exception"), (.type "BaseException"), (.type "object")], 30, "DebtError", true, [], [(.ref 44), (.ref 56), (.ref 68)], false, Option.none, false⟩), #[(Option.some (.ref 22)), Option.none, (Option.some (.str "DebtError" 196)), (Option.some (.str "DebtError" 204)), (Option.some (.builtin "ValueError.__new__")), (Option.some (.bool true))]⟩
noncomputable def o59 (_ : Params) : Obj := ⟨(.type "tuple"), Option.none, (.seq #[(.ref 31)] 0), #[]⟩
noncomputable def o60 (_ : Params) : Obj := ⟨(.type "builtin_function_or_method"), Option.none, (.fields #[(.builtin "type.__prepare__"), (.type "type")]), #[]⟩
noncomputable def o61 (P : Params) : Obj := ⟨(.type "dict"), Option.none, (.dict #[⟨(PyData.keyHash P "__module__"), (.str "__module__" 253), (.str "clearday.errors" 194)⟩, ⟨(PyData.keyHash P "__qualname__"), (.str "__qualname__" 255), (.str "BadCut" 254)⟩, ⟨(PyData.keyHash P "__firstlineno__"), (.str "__firstlineno__" 257), (.int 11 256)⟩, ⟨(PyData.keyHash P "__static_attributes__"), (.str "__static_attributes__" 258), (.ref 66)⟩] 4), #[]⟩
noncomputable def o62 (_ : Params) : Obj := ⟨(.type "tuple"), Option.none, (.seq #[] 0), #[]⟩
noncomputable def o63 (_ : Params) : Obj := ⟨.none, Option.none, (.fields #[]), #[]⟩
noncomputable def o64 (_ : Params) : Obj := ⟨(.type "code"), Option.none, (.fields #[(.str "BadCut" 248), (.str "BadCut" 249), (.str "/claim/cut.py" 250), (.int 11 0), (.int 0 0), (.int 0 0), (.int 0 0), (.int 0 0), (.ref 62), (.bool false), (.int 181 0), (.ref 63), .none, .none, .none, .none, (.int 251 0), (.int 11 0), (.str "/claim/cut.py" 252)]), #[]⟩
noncomputable def o65 (_ : Params) : Obj := ⟨(.type "frame"), Option.none, .plain, #[(Option.some (.ref 64)), (Option.some (.ref 3)), (Option.some (.ref 61)), Option.none, (Option.some (.str "clearday.errors" 194)), Option.none, (Option.some (.ref 0))]⟩
noncomputable def o66 (_ : Params) : Obj := ⟨(.type "tuple"), Option.none, (.seq #[] 0), #[]⟩
noncomputable def o67 (P : Params) : Obj := ⟨(.type "dict"), Option.none, (.dict #[⟨(PyData.keyHash P "__module__"), (.str "__module__" 253), (.str "clearday.errors" 194)⟩, ⟨(PyData.keyHash P "__firstlineno__"), (.str "__firstlineno__" 257), (.int 11 256)⟩, ⟨(PyData.keyHash P "__static_attributes__"), (.str "__static_attributes__" 258), (.ref 66)⟩, ⟨(PyData.keyHash P "__doc__"), (.str "__doc__" 259), .none⟩] 2), #[]⟩
noncomputable def o68 (_ : Params) : Obj := ⟨(.type "type"), Option.none, (.cls ⟨"BadCut", [(.ref 31)], [(.ref 68), (.ref 31), (.type "ValueError"), (.type "Exception"), (.type "BaseException"), (.type "object")], 67, "BadCut", true, [], [], false, Option.none, false⟩), #[(Option.some (.ref 59)), Option.none, (Option.some (.str "BadCut" 246)), (Option.some (.str "BadCut" 254)), (Option.some (.builtin "ValueError.__new__")), (Option.some (.bool true))]⟩
noncomputable def o69 (_ : Params) : Obj := ⟨(.type "super"), Option.none, (.fields #[(.ref 68), (.ref 68), (.ref 68)]), #[]⟩
noncomputable def o70 (_ : Params) : Obj := ⟨(.type "builtin_function_or_method"), Option.none, (.fields #[(.builtin "object.__init_subclass__"), (.ref 68)]), #[]⟩
noncomputable def tr4 (P : Params) : BT := (.node (boot_o_0 P) (.node (boot_o_1 P) (.node (o56 P) (.node (boot_o_7 P) (.node (o6 P) (.node (o58 P) (.node (o63 P) .nil .nil) .nil) (.node (o44 P) .nil .nil)) (.node (o14 P) (.node (o33 P) .nil .nil) (.node (o52 P) .nil .nil))) (.node (o0 P) (.node (o10 P) (.node (o29 P) (.node (o67 P) .nil .nil) .nil) (.node (o48 P) .nil .nil)) (.node (o18 P) (.node (o37 P) .nil .nil) (.node (o59 P) .nil .nil)))) (.node (boot_o_5 P) (.node (boot_o_9 P) (.node (o8 P) (.node (o24 P) (.node (o65 P) .nil .nil) .nil) (.node (o46 P) .nil .nil)) (.node (o16 P) (.node (o35 P) .nil .nil) (.node (o54 P) .nil .nil))) (.node (o2 P) (.node (o12 P) (.node (o31 P) (.node (o69 P) .nil .nil) .nil) (.node (o50 P) .nil .nil)) (.node (o20 P) (.node (o39 P) .nil .nil) (.node (o61 P) .nil .nil))))) (.node (boot_o_2 P) (.node (boot_o_4 P) (.node (boot_o_8 P) (.node (o7 P) (.node (o23 P) (.node (o64 P) .nil .nil) .nil) (.node (o45 P) .nil .nil)) (.node (o15 P) (.node (o34 P) .nil .nil) (.node (o53 P) .nil .nil))) (.node (o57 P) (.node (o11 P) (.node (o30 P) (.node (o68 P) .nil .nil) .nil) (.node (o49 P) .nil .nil)) (.node (o19 P) (.node (o38 P) .nil .nil) (.node (o60 P) .nil .nil)))) (.node (boot_o_6 P) (.node (boot_o_10 P) (.node (o9 P) (.node (o25 P) (.node (o66 P) .nil .nil) .nil) (.node (o47 P) .nil .nil)) (.node (o17 P) (.node (o36 P) .nil .nil) (.node (o55 P) .nil .nil))) (.node (o3 P) (.node (o13 P) (.node (o32 P) (.node (o70 P) .nil .nil) .nil) (.node (o51 P) .nil .nil)) (.node (o21 P) (.node (o40 P) .nil .nil) (.node (o62 P) .nil .nil))))))
noncomputable def S4 (w : World) (os : OsState) : SharedT := ⟨tr4 w.params, 71, ⟨[], [], [], 0, [], [], false, #[], [], 0, false, false, false, 0, [2000, 10, 10], false, 0, true, [], [], 0, false⟩, #[], ⟨0, 0, 0, 0⟩, 262, os⟩
noncomputable def ss3 : List Stmt := (bdQ.drop 5).take 1
noncomputable def o71 (P : Params) : Obj := ⟨(.type "dict"), Option.none, (.dict #[⟨(PyData.keyHash P "__name__"), (.str "__name__" 165), (.str "clearday.errors" 194)⟩, ⟨(PyData.keyHash P "__doc__"), (.str "__doc__" 166), .none⟩, ⟨(PyData.keyHash P "__package__"), (.str "__package__" 167), .none⟩, ⟨(PyData.keyHash P "__loader__"), (.str "__loader__" 168), (.builtin "__main__.__loader__#opaque")⟩, ⟨(PyData.keyHash P "__spec__"), (.str "__spec__" 169), .none⟩, ⟨(PyData.keyHash P "__annotations__"), (.str "__annotations__" 170), (.ref 6)⟩, ⟨(PyData.keyHash P "__builtins__"), (.str "__builtins__" 171), (.ref 4)⟩, ⟨(PyData.keyHash P "__file__"), (.str "__file__" 173), (.str "/claim/cut.py" 172)⟩, ⟨(PyData.keyHash P "__cached__"), (.str "__cached__" 174), .none⟩, ⟨(PyData.keyHash P "_wall"), (.str "_wall" 193), (.ref 21)⟩, ⟨(PyData.keyHash P "DebtError"), (.str "DebtError" 213), (.ref 31)⟩, ⟨(PyData.keyHash P "BadCount"), (.str "BadCount" 229), (.ref 44)⟩, ⟨(PyData.keyHash P "BadDebt"), (.str "BadDebt" 245), (.ref 56)⟩, ⟨(PyData.keyHash P "BadCut"), (.str "BadCut" 261), (.ref 68)⟩, ⟨(PyData.keyHash P "Uneven"), (.str "Uneven" 277), (.ref 80)⟩] 15), #[]⟩
noncomputable def o72 (_ : Params) : Obj := ⟨.none, Option.none, (.fields #[(.int 1 0), (.int 0 0), (.ref 20), (.int 5 0), (.int 0 0), (.ref 27), (.int 7 0), (.int 0 0), (.ref 40), (.int 9 0), (.int 0 0), (.ref 52), (.int 11 0), (.int 0 0), (.ref 64), (.int 13 0), (.int 0 0), (.ref 76)]), #[]⟩
noncomputable def o73 (_ : Params) : Obj := ⟨(.type "type"), Option.none, (.cls ⟨"DebtError", [(.type "ValueError")], [(.ref 31), (.type "ValueError"), (.type "Exception"), (.type "BaseException"), (.type "object")], 30, "DebtError", true, [], [(.ref 44), (.ref 56), (.ref 68), (.ref 80)], false, Option.none, false⟩), #[(Option.some (.ref 22)), Option.none, (Option.some (.str "DebtError" 196)), (Option.some (.str "DebtError" 204)), (Option.some (.builtin "ValueError.__new__")), (Option.some (.bool true))]⟩
noncomputable def o74 (_ : Params) : Obj := ⟨(.type "tuple"), Option.none, (.seq #[(.ref 31)] 0), #[]⟩
noncomputable def o75 (_ : Params) : Obj := ⟨(.type "builtin_function_or_method"), Option.none, (.fields #[(.builtin "type.__prepare__"), (.type "type")]), #[]⟩
noncomputable def o76 (P : Params) : Obj := ⟨(.type "dict"), Option.none, (.dict #[⟨(PyData.keyHash P "__module__"), (.str "__module__" 269), (.str "clearday.errors" 194)⟩, ⟨(PyData.keyHash P "__qualname__"), (.str "__qualname__" 271), (.str "Uneven" 270)⟩, ⟨(PyData.keyHash P "__firstlineno__"), (.str "__firstlineno__" 273), (.int 13 272)⟩, ⟨(PyData.keyHash P "__static_attributes__"), (.str "__static_attributes__" 274), (.ref 78)⟩] 4), #[]⟩
noncomputable def o77 (_ : Params) : Obj := ⟨(.type "tuple"), Option.none, (.seq #[] 0), #[]⟩
noncomputable def o78 (_ : Params) : Obj := ⟨.none, Option.none, (.fields #[]), #[]⟩
noncomputable def o79 (_ : Params) : Obj := ⟨(.type "code"), Option.none, (.fields #[(.str "Uneven" 264), (.str "Uneven" 265), (.str "/claim/cut.py" 266), (.int 13 0), (.int 0 0), (.int 0 0), (.int 0 0), (.int 0 0), (.ref 74), (.bool false), (.int 181 0), (.ref 75), .none, .none, .none, .none, (.int 267 0), (.int 13 0), (.str "/claim/cut.py" 268)]), #[]⟩
noncomputable def o80 (_ : Params) : Obj := ⟨(.type "frame"), Option.none, .plain, #[(Option.some (.ref 76)), (Option.some (.ref 3)), (Option.some (.ref 73)), Option.none, (Option.some (.str "clearday.errors" 194)), Option.none, (Option.some (.ref 0))]⟩
noncomputable def o81 (_ : Params) : Obj := ⟨(.type "tuple"), Option.none, (.seq #[] 0), #[]⟩
noncomputable def o82 (P : Params) : Obj := ⟨(.type "dict"), Option.none, (.dict #[⟨(PyData.keyHash P "__module__"), (.str "__module__" 269), (.str "clearday.errors" 194)⟩, ⟨(PyData.keyHash P "__firstlineno__"), (.str "__firstlineno__" 273), (.int 13 272)⟩, ⟨(PyData.keyHash P "__static_attributes__"), (.str "__static_attributes__" 274), (.ref 78)⟩, ⟨(PyData.keyHash P "__doc__"), (.str "__doc__" 275), .none⟩] 2), #[]⟩
noncomputable def o83 (_ : Params) : Obj := ⟨(.type "type"), Option.none, (.cls ⟨"Uneven", [(.ref 31)], [(.ref 80), (.ref 31), (.type "ValueError"), (.type "Exception"), (.type "BaseException"), (.type "object")], 79, "Uneven", true, [], [], false, Option.none, false⟩), #[(Option.some (.ref 71)), Option.none, (Option.some (.str "Uneven" 262)), (Option.some (.str "Uneven" 270)), (Option.some (.builtin "ValueError.__new__")), (Option.some (.bool true))]⟩
noncomputable def o84 (_ : Params) : Obj := ⟨(.type "super"), Option.none, (.fields #[(.ref 80), (.ref 80), (.ref 80)]), #[]⟩
noncomputable def o85 (_ : Params) : Obj := ⟨(.type "builtin_function_or_method"), Option.none, (.fields #[(.builtin "object.__init_subclass__"), (.ref 80)]), #[]⟩
noncomputable def tr5 (P : Params) : BT := (.node (boot_o_0 P) (.node (boot_o_1 P) (.node (o71 P) (.node (boot_o_7 P) (.node (o6 P) (.node (o73 P) (.node (o63 P) .nil .nil) .nil) (.node (o44 P) (.node (o82 P) .nil .nil) .nil)) (.node (o14 P) (.node (o33 P) (.node (o74 P) .nil .nil) .nil) (.node (o52 P) .nil .nil))) (.node (o0 P) (.node (o10 P) (.node (o29 P) (.node (o67 P) .nil .nil) .nil) (.node (o48 P) .nil .nil)) (.node (o18 P) (.node (o37 P) (.node (o78 P) .nil .nil) .nil) (.node (o59 P) .nil .nil)))) (.node (boot_o_5 P) (.node (boot_o_9 P) (.node (o8 P) (.node (o24 P) (.node (o65 P) .nil .nil) .nil) (.node (o46 P) (.node (o84 P) .nil .nil) .nil)) (.node (o16 P) (.node (o35 P) (.node (o76 P) .nil .nil) .nil) (.node (o54 P) .nil .nil))) (.node (o2 P) (.node (o12 P) (.node (o31 P) (.node (o69 P) .nil .nil) .nil) (.node (o50 P) .nil .nil)) (.node (o20 P) (.node (o39 P) (.node (o80 P) .nil .nil) .nil) (.node (o61 P) .nil .nil))))) (.node (boot_o_2 P) (.node (boot_o_4 P) (.node (boot_o_8 P) (.node (o7 P) (.node (o23 P) (.node (o64 P) .nil .nil) .nil) (.node (o45 P) (.node (o83 P) .nil .nil) .nil)) (.node (o15 P) (.node (o34 P) (.node (o75 P) .nil .nil) .nil) (.node (o53 P) .nil .nil))) (.node (o72 P) (.node (o11 P) (.node (o30 P) (.node (o68 P) .nil .nil) .nil) (.node (o49 P) .nil .nil)) (.node (o19 P) (.node (o38 P) (.node (o79 P) .nil .nil) .nil) (.node (o60 P) .nil .nil)))) (.node (boot_o_6 P) (.node (boot_o_10 P) (.node (o9 P) (.node (o25 P) (.node (o66 P) .nil .nil) .nil) (.node (o47 P) (.node (o85 P) .nil .nil) .nil)) (.node (o17 P) (.node (o36 P) (.node (o77 P) .nil .nil) .nil) (.node (o55 P) .nil .nil))) (.node (o3 P) (.node (o13 P) (.node (o32 P) (.node (o70 P) .nil .nil) .nil) (.node (o51 P) .nil .nil)) (.node (o21 P) (.node (o40 P) (.node (o81 P) .nil .nil) .nil) (.node (o62 P) .nil .nil))))))
noncomputable def S5 (w : World) (os : OsState) : SharedT := ⟨tr5 w.params, 83, ⟨[], [], [], 0, [], [], false, #[], [], 0, false, false, false, 0, [2000, 10, 10], false, 0, true, [], [], 0, false⟩, #[], ⟨0, 0, 0, 0⟩, 278, os⟩
noncomputable def ss4 : List Stmt := (bdQ.drop 6).take 1
noncomputable def o86 (P : Params) : Obj := ⟨(.type "dict"), Option.none, (.dict #[⟨(PyData.keyHash P "__name__"), (.str "__name__" 165), (.str "clearday.errors" 194)⟩, ⟨(PyData.keyHash P "__doc__"), (.str "__doc__" 166), .none⟩, ⟨(PyData.keyHash P "__package__"), (.str "__package__" 167), .none⟩, ⟨(PyData.keyHash P "__loader__"), (.str "__loader__" 168), (.builtin "__main__.__loader__#opaque")⟩, ⟨(PyData.keyHash P "__spec__"), (.str "__spec__" 169), .none⟩, ⟨(PyData.keyHash P "__annotations__"), (.str "__annotations__" 170), (.ref 6)⟩, ⟨(PyData.keyHash P "__builtins__"), (.str "__builtins__" 171), (.ref 4)⟩, ⟨(PyData.keyHash P "__file__"), (.str "__file__" 173), (.str "/claim/cut.py" 172)⟩, ⟨(PyData.keyHash P "__cached__"), (.str "__cached__" 174), .none⟩, ⟨(PyData.keyHash P "_wall"), (.str "_wall" 193), (.ref 21)⟩, ⟨(PyData.keyHash P "DebtError"), (.str "DebtError" 213), (.ref 31)⟩, ⟨(PyData.keyHash P "BadCount"), (.str "BadCount" 229), (.ref 44)⟩, ⟨(PyData.keyHash P "BadDebt"), (.str "BadDebt" 245), (.ref 56)⟩, ⟨(PyData.keyHash P "BadCut"), (.str "BadCut" 261), (.ref 68)⟩, ⟨(PyData.keyHash P "Uneven"), (.str "Uneven" 277), (.ref 80)⟩, ⟨(PyData.keyHash P "BadPrices"), (.str "BadPrices" 293), (.ref 92)⟩] 16), #[]⟩
noncomputable def o87 (_ : Params) : Obj := ⟨.none, Option.none, (.fields #[(.int 1 0), (.int 0 0), (.ref 20), (.int 5 0), (.int 0 0), (.ref 27), (.int 7 0), (.int 0 0), (.ref 40), (.int 9 0), (.int 0 0), (.ref 52), (.int 11 0), (.int 0 0), (.ref 64), (.int 13 0), (.int 0 0), (.ref 76), (.int 15 0), (.int 0 0), (.ref 88)]), #[]⟩
noncomputable def o88 (_ : Params) : Obj := ⟨(.type "type"), Option.none, (.cls ⟨"DebtError", [(.type "ValueError")], [(.ref 31), (.type "ValueError"), (.type "Exception"), (.type "BaseException"), (.type "object")], 30, "DebtError", true, [], [(.ref 44), (.ref 56), (.ref 68), (.ref 80), (.ref 92)], false, Option.none, false⟩), #[(Option.some (.ref 22)), Option.none, (Option.some (.str "DebtError" 196)), (Option.some (.str "DebtError" 204)), (Option.some (.builtin "ValueError.__new__")), (Option.some (.bool true))]⟩
noncomputable def o89 (_ : Params) : Obj := ⟨(.type "tuple"), Option.none, (.seq #[(.ref 31)] 0), #[]⟩
noncomputable def o90 (_ : Params) : Obj := ⟨(.type "builtin_function_or_method"), Option.none, (.fields #[(.builtin "type.__prepare__"), (.type "type")]), #[]⟩
noncomputable def o91 (P : Params) : Obj := ⟨(.type "dict"), Option.none, (.dict #[⟨(PyData.keyHash P "__module__"), (.str "__module__" 285), (.str "clearday.errors" 194)⟩, ⟨(PyData.keyHash P "__qualname__"), (.str "__qualname__" 287), (.str "BadPrices" 286)⟩, ⟨(PyData.keyHash P "__firstlineno__"), (.str "__firstlineno__" 289), (.int 15 288)⟩, ⟨(PyData.keyHash P "__static_attributes__"), (.str "__static_attributes__" 290), (.ref 90)⟩] 4), #[]⟩
noncomputable def o92 (_ : Params) : Obj := ⟨(.type "tuple"), Option.none, (.seq #[] 0), #[]⟩
noncomputable def o93 (_ : Params) : Obj := ⟨.none, Option.none, (.fields #[]), #[]⟩
noncomputable def o94 (_ : Params) : Obj := ⟨(.type "code"), Option.none, (.fields #[(.str "BadPrices" 280), (.str "BadPrices" 281), (.str "/claim/cut.py" 282), (.int 15 0), (.int 0 0), (.int 0 0), (.int 0 0), (.int 0 0), (.ref 86), (.bool false), (.int 181 0), (.ref 87), .none, .none, .none, .none, (.int 283 0), (.int 15 0), (.str "/claim/cut.py" 284)]), #[]⟩
noncomputable def o95 (_ : Params) : Obj := ⟨(.type "frame"), Option.none, .plain, #[(Option.some (.ref 88)), (Option.some (.ref 3)), (Option.some (.ref 85)), Option.none, (Option.some (.str "clearday.errors" 194)), Option.none, (Option.some (.ref 0))]⟩
noncomputable def o96 (_ : Params) : Obj := ⟨(.type "tuple"), Option.none, (.seq #[] 0), #[]⟩
noncomputable def o97 (P : Params) : Obj := ⟨(.type "dict"), Option.none, (.dict #[⟨(PyData.keyHash P "__module__"), (.str "__module__" 285), (.str "clearday.errors" 194)⟩, ⟨(PyData.keyHash P "__firstlineno__"), (.str "__firstlineno__" 289), (.int 15 288)⟩, ⟨(PyData.keyHash P "__static_attributes__"), (.str "__static_attributes__" 290), (.ref 90)⟩, ⟨(PyData.keyHash P "__doc__"), (.str "__doc__" 291), .none⟩] 2), #[]⟩
noncomputable def o98 (_ : Params) : Obj := ⟨(.type "type"), Option.none, (.cls ⟨"BadPrices", [(.ref 31)], [(.ref 92), (.ref 31), (.type "ValueError"), (.type "Exception"), (.type "BaseException"), (.type "object")], 91, "BadPrices", true, [], [], false, Option.none, false⟩), #[(Option.some (.ref 83)), Option.none, (Option.some (.str "BadPrices" 278)), (Option.some (.str "BadPrices" 286)), (Option.some (.builtin "ValueError.__new__")), (Option.some (.bool true))]⟩
noncomputable def o99 (_ : Params) : Obj := ⟨(.type "super"), Option.none, (.fields #[(.ref 92), (.ref 92), (.ref 92)]), #[]⟩
noncomputable def o100 (_ : Params) : Obj := ⟨(.type "builtin_function_or_method"), Option.none, (.fields #[(.builtin "object.__init_subclass__"), (.ref 92)]), #[]⟩
noncomputable def tr6 (P : Params) : BT := (.node (boot_o_0 P) (.node (boot_o_1 P) (.node (o86 P) (.node (boot_o_7 P) (.node (o6 P) (.node (o88 P) (.node (o63 P) .nil .nil) .nil) (.node (o44 P) (.node (o82 P) .nil .nil) .nil)) (.node (o14 P) (.node (o33 P) (.node (o74 P) .nil .nil) .nil) (.node (o52 P) (.node (o93 P) .nil .nil) .nil))) (.node (o0 P) (.node (o10 P) (.node (o29 P) (.node (o67 P) .nil .nil) .nil) (.node (o48 P) (.node (o89 P) .nil .nil) .nil)) (.node (o18 P) (.node (o37 P) (.node (o78 P) .nil .nil) .nil) (.node (o59 P) (.node (o97 P) .nil .nil) .nil)))) (.node (boot_o_5 P) (.node (boot_o_9 P) (.node (o8 P) (.node (o24 P) (.node (o65 P) .nil .nil) .nil) (.node (o46 P) (.node (o84 P) .nil .nil) .nil)) (.node (o16 P) (.node (o35 P) (.node (o76 P) .nil .nil) .nil) (.node (o54 P) (.node (o95 P) .nil .nil) .nil))) (.node (o2 P) (.node (o12 P) (.node (o31 P) (.node (o69 P) .nil .nil) .nil) (.node (o50 P) (.node (o91 P) .nil .nil) .nil)) (.node (o20 P) (.node (o39 P) (.node (o80 P) .nil .nil) .nil) (.node (o61 P) (.node (o99 P) .nil .nil) .nil))))) (.node (boot_o_2 P) (.node (boot_o_4 P) (.node (boot_o_8 P) (.node (o7 P) (.node (o23 P) (.node (o64 P) .nil .nil) .nil) (.node (o45 P) (.node (o83 P) .nil .nil) .nil)) (.node (o15 P) (.node (o34 P) (.node (o75 P) .nil .nil) .nil) (.node (o53 P) (.node (o94 P) .nil .nil) .nil))) (.node (o87 P) (.node (o11 P) (.node (o30 P) (.node (o68 P) .nil .nil) .nil) (.node (o49 P) (.node (o90 P) .nil .nil) .nil)) (.node (o19 P) (.node (o38 P) (.node (o79 P) .nil .nil) .nil) (.node (o60 P) (.node (o98 P) .nil .nil) .nil)))) (.node (boot_o_6 P) (.node (boot_o_10 P) (.node (o9 P) (.node (o25 P) (.node (o66 P) .nil .nil) .nil) (.node (o47 P) (.node (o85 P) .nil .nil) .nil)) (.node (o17 P) (.node (o36 P) (.node (o77 P) .nil .nil) .nil) (.node (o55 P) (.node (o96 P) .nil .nil) .nil))) (.node (o3 P) (.node (o13 P) (.node (o32 P) (.node (o70 P) .nil .nil) .nil) (.node (o51 P) (.node (o92 P) .nil .nil) .nil)) (.node (o21 P) (.node (o40 P) (.node (o81 P) .nil .nil) .nil) (.node (o62 P) (.node (o100 P) .nil .nil) .nil))))))
noncomputable def S6 (w : World) (os : OsState) : SharedT := ⟨tr6 w.params, 95, ⟨[], [], [], 0, [], [], false, #[], [], 0, false, false, false, 0, [2000, 10, 10], false, 0, true, [], [], 0, false⟩, #[], ⟨0, 0, 0, 0⟩, 294, os⟩
noncomputable def ss5 : List Stmt := (bdQ.drop 7).take 1
noncomputable def o101 (P : Params) : Obj := ⟨(.type "dict"), Option.none, (.dict #[⟨(PyData.keyHash P "__name__"), (.str "__name__" 165), (.str "clearday.errors" 194)⟩, ⟨(PyData.keyHash P "__doc__"), (.str "__doc__" 166), .none⟩, ⟨(PyData.keyHash P "__package__"), (.str "__package__" 167), .none⟩, ⟨(PyData.keyHash P "__loader__"), (.str "__loader__" 168), (.builtin "__main__.__loader__#opaque")⟩, ⟨(PyData.keyHash P "__spec__"), (.str "__spec__" 169), .none⟩, ⟨(PyData.keyHash P "__annotations__"), (.str "__annotations__" 170), (.ref 6)⟩, ⟨(PyData.keyHash P "__builtins__"), (.str "__builtins__" 171), (.ref 4)⟩, ⟨(PyData.keyHash P "__file__"), (.str "__file__" 173), (.str "/claim/cut.py" 172)⟩, ⟨(PyData.keyHash P "__cached__"), (.str "__cached__" 174), .none⟩, ⟨(PyData.keyHash P "_wall"), (.str "_wall" 193), (.ref 21)⟩, ⟨(PyData.keyHash P "DebtError"), (.str "DebtError" 213), (.ref 31)⟩, ⟨(PyData.keyHash P "BadCount"), (.str "BadCount" 229), (.ref 44)⟩, ⟨(PyData.keyHash P "BadDebt"), (.str "BadDebt" 245), (.ref 56)⟩, ⟨(PyData.keyHash P "BadCut"), (.str "BadCut" 261), (.ref 68)⟩, ⟨(PyData.keyHash P "Uneven"), (.str "Uneven" 277), (.ref 80)⟩, ⟨(PyData.keyHash P "BadPrices"), (.str "BadPrices" 293), (.ref 92)⟩, ⟨(PyData.keyHash P "NotBest"), (.str "NotBest" 309), (.ref 104)⟩] 17), #[]⟩
noncomputable def o102 (_ : Params) : Obj := ⟨.none, Option.none, (.fields #[(.int 1 0), (.int 0 0), (.ref 20), (.int 5 0), (.int 0 0), (.ref 27), (.int 7 0), (.int 0 0), (.ref 40), (.int 9 0), (.int 0 0), (.ref 52), (.int 11 0), (.int 0 0), (.ref 64), (.int 13 0), (.int 0 0), (.ref 76), (.int 15 0), (.int 0 0), (.ref 88), (.int 17 0), (.int 0 0), (.ref 100)]), #[]⟩
noncomputable def o103 (_ : Params) : Obj := ⟨(.type "type"), Option.none, (.cls ⟨"DebtError", [(.type "ValueError")], [(.ref 31), (.type "ValueError"), (.type "Exception"), (.type "BaseException"), (.type "object")], 30, "DebtError", true, [], [(.ref 44), (.ref 56), (.ref 68), (.ref 80), (.ref 92), (.ref 104)], false, Option.none, false⟩), #[(Option.some (.ref 22)), Option.none, (Option.some (.str "DebtError" 196)), (Option.some (.str "DebtError" 204)), (Option.some (.builtin "ValueError.__new__")), (Option.some (.bool true))]⟩
noncomputable def o104 (_ : Params) : Obj := ⟨(.type "tuple"), Option.none, (.seq #[(.ref 31)] 0), #[]⟩
noncomputable def o105 (_ : Params) : Obj := ⟨(.type "builtin_function_or_method"), Option.none, (.fields #[(.builtin "type.__prepare__"), (.type "type")]), #[]⟩
noncomputable def o106 (P : Params) : Obj := ⟨(.type "dict"), Option.none, (.dict #[⟨(PyData.keyHash P "__module__"), (.str "__module__" 301), (.str "clearday.errors" 194)⟩, ⟨(PyData.keyHash P "__qualname__"), (.str "__qualname__" 303), (.str "NotBest" 302)⟩, ⟨(PyData.keyHash P "__firstlineno__"), (.str "__firstlineno__" 305), (.int 17 304)⟩, ⟨(PyData.keyHash P "__static_attributes__"), (.str "__static_attributes__" 306), (.ref 102)⟩] 4), #[]⟩
noncomputable def o107 (_ : Params) : Obj := ⟨(.type "tuple"), Option.none, (.seq #[] 0), #[]⟩
noncomputable def o108 (_ : Params) : Obj := ⟨.none, Option.none, (.fields #[]), #[]⟩
noncomputable def o109 (_ : Params) : Obj := ⟨(.type "code"), Option.none, (.fields #[(.str "NotBest" 296), (.str "NotBest" 297), (.str "/claim/cut.py" 298), (.int 17 0), (.int 0 0), (.int 0 0), (.int 0 0), (.int 0 0), (.ref 98), (.bool false), (.int 181 0), (.ref 99), .none, .none, .none, .none, (.int 299 0), (.int 17 0), (.str "/claim/cut.py" 300)]), #[]⟩
noncomputable def o110 (_ : Params) : Obj := ⟨(.type "frame"), Option.none, .plain, #[(Option.some (.ref 100)), (Option.some (.ref 3)), (Option.some (.ref 97)), Option.none, (Option.some (.str "clearday.errors" 194)), Option.none, (Option.some (.ref 0))]⟩
noncomputable def o111 (_ : Params) : Obj := ⟨(.type "tuple"), Option.none, (.seq #[] 0), #[]⟩
noncomputable def o112 (P : Params) : Obj := ⟨(.type "dict"), Option.none, (.dict #[⟨(PyData.keyHash P "__module__"), (.str "__module__" 301), (.str "clearday.errors" 194)⟩, ⟨(PyData.keyHash P "__firstlineno__"), (.str "__firstlineno__" 305), (.int 17 304)⟩, ⟨(PyData.keyHash P "__static_attributes__"), (.str "__static_attributes__" 306), (.ref 102)⟩, ⟨(PyData.keyHash P "__doc__"), (.str "__doc__" 307), .none⟩] 2), #[]⟩
noncomputable def o113 (_ : Params) : Obj := ⟨(.type "type"), Option.none, (.cls ⟨"NotBest", [(.ref 31)], [(.ref 104), (.ref 31), (.type "ValueError"), (.type "Exception"), (.type "BaseException"), (.type "object")], 103, "NotBest", true, [], [], false, Option.none, false⟩), #[(Option.some (.ref 95)), Option.none, (Option.some (.str "NotBest" 294)), (Option.some (.str "NotBest" 302)), (Option.some (.builtin "ValueError.__new__")), (Option.some (.bool true))]⟩
noncomputable def o114 (_ : Params) : Obj := ⟨(.type "super"), Option.none, (.fields #[(.ref 104), (.ref 104), (.ref 104)]), #[]⟩
noncomputable def o115 (_ : Params) : Obj := ⟨(.type "builtin_function_or_method"), Option.none, (.fields #[(.builtin "object.__init_subclass__"), (.ref 104)]), #[]⟩
noncomputable def tr7 (P : Params) : BT := (.node (boot_o_0 P) (.node (boot_o_1 P) (.node (o101 P) (.node (boot_o_7 P) (.node (o6 P) (.node (o103 P) (.node (o63 P) .nil .nil) (.node (o104 P) .nil .nil)) (.node (o44 P) (.node (o82 P) .nil .nil) .nil)) (.node (o14 P) (.node (o33 P) (.node (o74 P) .nil .nil) (.node (o112 P) .nil .nil)) (.node (o52 P) (.node (o93 P) .nil .nil) .nil))) (.node (o0 P) (.node (o10 P) (.node (o29 P) (.node (o67 P) .nil .nil) (.node (o108 P) .nil .nil)) (.node (o48 P) (.node (o89 P) .nil .nil) .nil)) (.node (o18 P) (.node (o37 P) (.node (o78 P) .nil .nil) .nil) (.node (o59 P) (.node (o97 P) .nil .nil) .nil)))) (.node (boot_o_5 P) (.node (boot_o_9 P) (.node (o8 P) (.node (o24 P) (.node (o65 P) .nil .nil) (.node (o106 P) .nil .nil)) (.node (o46 P) (.node (o84 P) .nil .nil) .nil)) (.node (o16 P) (.node (o35 P) (.node (o76 P) .nil .nil) (.node (o114 P) .nil .nil)) (.node (o54 P) (.node (o95 P) .nil .nil) .nil))) (.node (o2 P) (.node (o12 P) (.node (o31 P) (.node (o69 P) .nil .nil) (.node (o110 P) .nil .nil)) (.node (o50 P) (.node (o91 P) .nil .nil) .nil)) (.node (o20 P) (.node (o39 P) (.node (o80 P) .nil .nil) .nil) (.node (o61 P) (.node (o99 P) .nil .nil) .nil))))) (.node (boot_o_2 P) (.node (boot_o_4 P) (.node (boot_o_8 P) (.node (o7 P) (.node (o23 P) (.node (o64 P) .nil .nil) (.node (o105 P) .nil .nil)) (.node (o45 P) (.node (o83 P) .nil .nil) .nil)) (.node (o15 P) (.node (o34 P) (.node (o75 P) .nil .nil) (.node (o113 P) .nil .nil)) (.node (o53 P) (.node (o94 P) .nil .nil) .nil))) (.node (o102 P) (.node (o11 P) (.node (o30 P) (.node (o68 P) .nil .nil) (.node (o109 P) .nil .nil)) (.node (o49 P) (.node (o90 P) .nil .nil) .nil)) (.node (o19 P) (.node (o38 P) (.node (o79 P) .nil .nil) .nil) (.node (o60 P) (.node (o98 P) .nil .nil) .nil)))) (.node (boot_o_6 P) (.node (boot_o_10 P) (.node (o9 P) (.node (o25 P) (.node (o66 P) .nil .nil) (.node (o107 P) .nil .nil)) (.node (o47 P) (.node (o85 P) .nil .nil) .nil)) (.node (o17 P) (.node (o36 P) (.node (o77 P) .nil .nil) (.node (o115 P) .nil .nil)) (.node (o55 P) (.node (o96 P) .nil .nil) .nil))) (.node (o3 P) (.node (o13 P) (.node (o32 P) (.node (o70 P) .nil .nil) (.node (o111 P) .nil .nil)) (.node (o51 P) (.node (o92 P) .nil .nil) .nil)) (.node (o21 P) (.node (o40 P) (.node (o81 P) .nil .nil) .nil) (.node (o62 P) (.node (o100 P) .nil .nil) .nil))))))
noncomputable def S7 (w : World) (os : OsState) : SharedT := ⟨tr7 w.params, 107, ⟨[], [], [], 0, [], [], false, #[], [], 0, false, false, false, 0, [2000, 10, 10], false, 0, true, [], [], 0, false⟩, #[], ⟨0, 0, 0, 0⟩, 310, os⟩
noncomputable def ss6 : List Stmt := (bdQ.drop 8).take 1
noncomputable def o116 (P : Params) : Obj := ⟨(.type "dict"), Option.none, (.dict #[⟨(PyData.keyHash P "__name__"), (.str "__name__" 165), (.str "clearday.errors" 194)⟩, ⟨(PyData.keyHash P "__doc__"), (.str "__doc__" 166), .none⟩, ⟨(PyData.keyHash P "__package__"), (.str "__package__" 167), .none⟩, ⟨(PyData.keyHash P "__loader__"), (.str "__loader__" 168), (.builtin "__main__.__loader__#opaque")⟩, ⟨(PyData.keyHash P "__spec__"), (.str "__spec__" 169), .none⟩, ⟨(PyData.keyHash P "__annotations__"), (.str "__annotations__" 170), (.ref 6)⟩, ⟨(PyData.keyHash P "__builtins__"), (.str "__builtins__" 171), (.ref 4)⟩, ⟨(PyData.keyHash P "__file__"), (.str "__file__" 173), (.str "/claim/cut.py" 172)⟩, ⟨(PyData.keyHash P "__cached__"), (.str "__cached__" 174), .none⟩, ⟨(PyData.keyHash P "_wall"), (.str "_wall" 193), (.ref 21)⟩, ⟨(PyData.keyHash P "DebtError"), (.str "DebtError" 213), (.ref 31)⟩, ⟨(PyData.keyHash P "BadCount"), (.str "BadCount" 229), (.ref 44)⟩, ⟨(PyData.keyHash P "BadDebt"), (.str "BadDebt" 245), (.ref 56)⟩, ⟨(PyData.keyHash P "BadCut"), (.str "BadCut" 261), (.ref 68)⟩, ⟨(PyData.keyHash P "Uneven"), (.str "Uneven" 277), (.ref 80)⟩, ⟨(PyData.keyHash P "BadPrices"), (.str "BadPrices" 293), (.ref 92)⟩, ⟨(PyData.keyHash P "NotBest"), (.str "NotBest" 309), (.ref 104)⟩, ⟨(PyData.keyHash P "NoDebt"), (.str "NoDebt" 325), (.ref 116)⟩] 18), #[]⟩
noncomputable def o117 (_ : Params) : Obj := ⟨.none, Option.none, (.fields #[(.int 1 0), (.int 0 0), (.ref 20), (.int 5 0), (.int 0 0), (.ref 27), (.int 7 0), (.int 0 0), (.ref 40), (.int 9 0), (.int 0 0), (.ref 52), (.int 11 0), (.int 0 0), (.ref 64), (.int 13 0), (.int 0 0), (.ref 76), (.int 15 0), (.int 0 0), (.ref 88), (.int 17 0), (.int 0 0), (.ref 100), (.int 19 0), (.int 0 0), (.ref 112)]), #[]⟩
noncomputable def o118 (_ : Params) : Obj := ⟨(.type "type"), Option.none, (.cls ⟨"DebtError", [(.type "ValueError")], [(.ref 31), (.type "ValueError"), (.type "Exception"), (.type "BaseException"), (.type "object")], 30, "DebtError", true, [], [(.ref 44), (.ref 56), (.ref 68), (.ref 80), (.ref 92), (.ref 104), (.ref 116)], false, Option.none, false⟩), #[(Option.some (.ref 22)), Option.none, (Option.some (.str "DebtError" 196)), (Option.some (.str "DebtError" 204)), (Option.some (.builtin "ValueError.__new__")), (Option.some (.bool true))]⟩
noncomputable def o119 (_ : Params) : Obj := ⟨(.type "tuple"), Option.none, (.seq #[(.ref 31)] 0), #[]⟩
noncomputable def o120 (_ : Params) : Obj := ⟨(.type "builtin_function_or_method"), Option.none, (.fields #[(.builtin "type.__prepare__"), (.type "type")]), #[]⟩
noncomputable def o121 (P : Params) : Obj := ⟨(.type "dict"), Option.none, (.dict #[⟨(PyData.keyHash P "__module__"), (.str "__module__" 317), (.str "clearday.errors" 194)⟩, ⟨(PyData.keyHash P "__qualname__"), (.str "__qualname__" 319), (.str "NoDebt" 318)⟩, ⟨(PyData.keyHash P "__firstlineno__"), (.str "__firstlineno__" 321), (.int 19 320)⟩, ⟨(PyData.keyHash P "__static_attributes__"), (.str "__static_attributes__" 322), (.ref 114)⟩] 4), #[]⟩
noncomputable def o122 (_ : Params) : Obj := ⟨(.type "tuple"), Option.none, (.seq #[] 0), #[]⟩
noncomputable def o123 (_ : Params) : Obj := ⟨.none, Option.none, (.fields #[]), #[]⟩
noncomputable def o124 (_ : Params) : Obj := ⟨(.type "code"), Option.none, (.fields #[(.str "NoDebt" 312), (.str "NoDebt" 313), (.str "/claim/cut.py" 314), (.int 19 0), (.int 0 0), (.int 0 0), (.int 0 0), (.int 0 0), (.ref 110), (.bool false), (.int 181 0), (.ref 111), .none, .none, .none, .none, (.int 315 0), (.int 19 0), (.str "/claim/cut.py" 316)]), #[]⟩
noncomputable def o125 (_ : Params) : Obj := ⟨(.type "frame"), Option.none, .plain, #[(Option.some (.ref 112)), (Option.some (.ref 3)), (Option.some (.ref 109)), Option.none, (Option.some (.str "clearday.errors" 194)), Option.none, (Option.some (.ref 0))]⟩
noncomputable def o126 (_ : Params) : Obj := ⟨(.type "tuple"), Option.none, (.seq #[] 0), #[]⟩
noncomputable def o127 (P : Params) : Obj := ⟨(.type "dict"), Option.none, (.dict #[⟨(PyData.keyHash P "__module__"), (.str "__module__" 317), (.str "clearday.errors" 194)⟩, ⟨(PyData.keyHash P "__firstlineno__"), (.str "__firstlineno__" 321), (.int 19 320)⟩, ⟨(PyData.keyHash P "__static_attributes__"), (.str "__static_attributes__" 322), (.ref 114)⟩, ⟨(PyData.keyHash P "__doc__"), (.str "__doc__" 323), .none⟩] 2), #[]⟩
noncomputable def o128 (_ : Params) : Obj := ⟨(.type "type"), Option.none, (.cls ⟨"NoDebt", [(.ref 31)], [(.ref 116), (.ref 31), (.type "ValueError"), (.type "Exception"), (.type "BaseException"), (.type "object")], 115, "NoDebt", true, [], [], false, Option.none, false⟩), #[(Option.some (.ref 107)), Option.none, (Option.some (.str "NoDebt" 310)), (Option.some (.str "NoDebt" 318)), (Option.some (.builtin "ValueError.__new__")), (Option.some (.bool true))]⟩
noncomputable def o129 (_ : Params) : Obj := ⟨(.type "super"), Option.none, (.fields #[(.ref 116), (.ref 116), (.ref 116)]), #[]⟩
noncomputable def o130 (_ : Params) : Obj := ⟨(.type "builtin_function_or_method"), Option.none, (.fields #[(.builtin "object.__init_subclass__"), (.ref 116)]), #[]⟩
noncomputable def tr8 (P : Params) : BT := (.node (boot_o_0 P) (.node (boot_o_1 P) (.node (o116 P) (.node (boot_o_7 P) (.node (o6 P) (.node (o118 P) (.node (o63 P) .nil .nil) (.node (o104 P) .nil .nil)) (.node (o44 P) (.node (o82 P) .nil .nil) (.node (o123 P) .nil .nil))) (.node (o14 P) (.node (o33 P) (.node (o74 P) .nil .nil) (.node (o112 P) .nil .nil)) (.node (o52 P) (.node (o93 P) .nil .nil) .nil))) (.node (o0 P) (.node (o10 P) (.node (o29 P) (.node (o67 P) .nil .nil) (.node (o108 P) .nil .nil)) (.node (o48 P) (.node (o89 P) .nil .nil) (.node (o127 P) .nil .nil))) (.node (o18 P) (.node (o37 P) (.node (o78 P) .nil .nil) (.node (o119 P) .nil .nil)) (.node (o59 P) (.node (o97 P) .nil .nil) .nil)))) (.node (boot_o_5 P) (.node (boot_o_9 P) (.node (o8 P) (.node (o24 P) (.node (o65 P) .nil .nil) (.node (o106 P) .nil .nil)) (.node (o46 P) (.node (o84 P) .nil .nil) (.node (o125 P) .nil .nil))) (.node (o16 P) (.node (o35 P) (.node (o76 P) .nil .nil) (.node (o114 P) .nil .nil)) (.node (o54 P) (.node (o95 P) .nil .nil) .nil))) (.node (o2 P) (.node (o12 P) (.node (o31 P) (.node (o69 P) .nil .nil) (.node (o110 P) .nil .nil)) (.node (o50 P) (.node (o91 P) .nil .nil) (.node (o129 P) .nil .nil))) (.node (o20 P) (.node (o39 P) (.node (o80 P) .nil .nil) (.node (o121 P) .nil .nil)) (.node (o61 P) (.node (o99 P) .nil .nil) .nil))))) (.node (boot_o_2 P) (.node (boot_o_4 P) (.node (boot_o_8 P) (.node (o7 P) (.node (o23 P) (.node (o64 P) .nil .nil) (.node (o105 P) .nil .nil)) (.node (o45 P) (.node (o83 P) .nil .nil) (.node (o124 P) .nil .nil))) (.node (o15 P) (.node (o34 P) (.node (o75 P) .nil .nil) (.node (o113 P) .nil .nil)) (.node (o53 P) (.node (o94 P) .nil .nil) .nil))) (.node (o117 P) (.node (o11 P) (.node (o30 P) (.node (o68 P) .nil .nil) (.node (o109 P) .nil .nil)) (.node (o49 P) (.node (o90 P) .nil .nil) (.node (o128 P) .nil .nil))) (.node (o19 P) (.node (o38 P) (.node (o79 P) .nil .nil) (.node (o120 P) .nil .nil)) (.node (o60 P) (.node (o98 P) .nil .nil) .nil)))) (.node (boot_o_6 P) (.node (boot_o_10 P) (.node (o9 P) (.node (o25 P) (.node (o66 P) .nil .nil) (.node (o107 P) .nil .nil)) (.node (o47 P) (.node (o85 P) .nil .nil) (.node (o126 P) .nil .nil))) (.node (o17 P) (.node (o36 P) (.node (o77 P) .nil .nil) (.node (o115 P) .nil .nil)) (.node (o55 P) (.node (o96 P) .nil .nil) .nil))) (.node (o3 P) (.node (o13 P) (.node (o32 P) (.node (o70 P) .nil .nil) (.node (o111 P) .nil .nil)) (.node (o51 P) (.node (o92 P) .nil .nil) (.node (o130 P) .nil .nil))) (.node (o21 P) (.node (o40 P) (.node (o81 P) .nil .nil) (.node (o122 P) .nil .nil)) (.node (o62 P) (.node (o100 P) .nil .nil) .nil))))))
noncomputable def S8 (w : World) (os : OsState) : SharedT := ⟨tr8 w.params, 119, ⟨[], [], [], 0, [], [], false, #[], [], 0, false, false, false, 0, [2000, 10, 10], false, 0, true, [], [], 0, false⟩, #[], ⟨0, 0, 0, 0⟩, 326, os⟩
noncomputable def ss7 : List Stmt := (bdQ.drop 9).take 1
noncomputable def o131 (P : Params) : Obj := ⟨(.type "dict"), Option.none, (.dict #[⟨(PyData.keyHash P "__name__"), (.str "__name__" 165), (.str "clearday.errors" 194)⟩, ⟨(PyData.keyHash P "__doc__"), (.str "__doc__" 166), .none⟩, ⟨(PyData.keyHash P "__package__"), (.str "__package__" 167), .none⟩, ⟨(PyData.keyHash P "__loader__"), (.str "__loader__" 168), (.builtin "__main__.__loader__#opaque")⟩, ⟨(PyData.keyHash P "__spec__"), (.str "__spec__" 169), .none⟩, ⟨(PyData.keyHash P "__annotations__"), (.str "__annotations__" 170), (.ref 6)⟩, ⟨(PyData.keyHash P "__builtins__"), (.str "__builtins__" 171), (.ref 4)⟩, ⟨(PyData.keyHash P "__file__"), (.str "__file__" 173), (.str "/claim/cut.py" 172)⟩, ⟨(PyData.keyHash P "__cached__"), (.str "__cached__" 174), .none⟩, ⟨(PyData.keyHash P "_wall"), (.str "_wall" 193), (.ref 21)⟩, ⟨(PyData.keyHash P "DebtError"), (.str "DebtError" 213), (.ref 31)⟩, ⟨(PyData.keyHash P "BadCount"), (.str "BadCount" 229), (.ref 44)⟩, ⟨(PyData.keyHash P "BadDebt"), (.str "BadDebt" 245), (.ref 56)⟩, ⟨(PyData.keyHash P "BadCut"), (.str "BadCut" 261), (.ref 68)⟩, ⟨(PyData.keyHash P "Uneven"), (.str "Uneven" 277), (.ref 80)⟩, ⟨(PyData.keyHash P "BadPrices"), (.str "BadPrices" 293), (.ref 92)⟩, ⟨(PyData.keyHash P "NotBest"), (.str "NotBest" 309), (.ref 104)⟩, ⟨(PyData.keyHash P "NoDebt"), (.str "NoDebt" 325), (.ref 116)⟩, ⟨(PyData.keyHash P "NoHouse"), (.str "NoHouse" 341), (.ref 128)⟩] 19), #[]⟩
noncomputable def o132 (_ : Params) : Obj := ⟨.none, Option.none, (.fields #[(.int 1 0), (.int 0 0), (.ref 20), (.int 5 0), (.int 0 0), (.ref 27), (.int 7 0), (.int 0 0), (.ref 40), (.int 9 0), (.int 0 0), (.ref 52), (.int 11 0), (.int 0 0), (.ref 64), (.int 13 0), (.int 0 0), (.ref 76), (.int 15 0), (.int 0 0), (.ref 88), (.int 17 0), (.int 0 0), (.ref 100), (.int 19 0), (.int 0 0), (.ref 112), (.int 21 0), (.int 0 0), (.ref 124)]), #[]⟩
noncomputable def o133 (_ : Params) : Obj := ⟨(.type "type"), Option.none, (.cls ⟨"DebtError", [(.type "ValueError")], [(.ref 31), (.type "ValueError"), (.type "Exception"), (.type "BaseException"), (.type "object")], 30, "DebtError", true, [], [(.ref 44), (.ref 56), (.ref 68), (.ref 80), (.ref 92), (.ref 104), (.ref 116), (.ref 128)], false, Option.none, false⟩), #[(Option.some (.ref 22)), Option.none, (Option.some (.str "DebtError" 196)), (Option.some (.str "DebtError" 204)), (Option.some (.builtin "ValueError.__new__")), (Option.some (.bool true))]⟩
noncomputable def o134 (_ : Params) : Obj := ⟨(.type "tuple"), Option.none, (.seq #[(.ref 31)] 0), #[]⟩
noncomputable def o135 (_ : Params) : Obj := ⟨(.type "builtin_function_or_method"), Option.none, (.fields #[(.builtin "type.__prepare__"), (.type "type")]), #[]⟩
noncomputable def o136 (P : Params) : Obj := ⟨(.type "dict"), Option.none, (.dict #[⟨(PyData.keyHash P "__module__"), (.str "__module__" 333), (.str "clearday.errors" 194)⟩, ⟨(PyData.keyHash P "__qualname__"), (.str "__qualname__" 335), (.str "NoHouse" 334)⟩, ⟨(PyData.keyHash P "__firstlineno__"), (.str "__firstlineno__" 337), (.int 21 336)⟩, ⟨(PyData.keyHash P "__static_attributes__"), (.str "__static_attributes__" 338), (.ref 126)⟩] 4), #[]⟩
noncomputable def o137 (_ : Params) : Obj := ⟨(.type "tuple"), Option.none, (.seq #[] 0), #[]⟩
noncomputable def o138 (_ : Params) : Obj := ⟨.none, Option.none, (.fields #[]), #[]⟩
noncomputable def o139 (_ : Params) : Obj := ⟨(.type "code"), Option.none, (.fields #[(.str "NoHouse" 328), (.str "NoHouse" 329), (.str "/claim/cut.py" 330), (.int 21 0), (.int 0 0), (.int 0 0), (.int 0 0), (.int 0 0), (.ref 122), (.bool false), (.int 181 0), (.ref 123), .none, .none, .none, .none, (.int 331 0), (.int 21 0), (.str "/claim/cut.py" 332)]), #[]⟩
noncomputable def o140 (_ : Params) : Obj := ⟨(.type "frame"), Option.none, .plain, #[(Option.some (.ref 124)), (Option.some (.ref 3)), (Option.some (.ref 121)), Option.none, (Option.some (.str "clearday.errors" 194)), Option.none, (Option.some (.ref 0))]⟩
noncomputable def o141 (_ : Params) : Obj := ⟨(.type "tuple"), Option.none, (.seq #[] 0), #[]⟩
noncomputable def o142 (P : Params) : Obj := ⟨(.type "dict"), Option.none, (.dict #[⟨(PyData.keyHash P "__module__"), (.str "__module__" 333), (.str "clearday.errors" 194)⟩, ⟨(PyData.keyHash P "__firstlineno__"), (.str "__firstlineno__" 337), (.int 21 336)⟩, ⟨(PyData.keyHash P "__static_attributes__"), (.str "__static_attributes__" 338), (.ref 126)⟩, ⟨(PyData.keyHash P "__doc__"), (.str "__doc__" 339), .none⟩] 2), #[]⟩
noncomputable def o143 (_ : Params) : Obj := ⟨(.type "type"), Option.none, (.cls ⟨"NoHouse", [(.ref 31)], [(.ref 128), (.ref 31), (.type "ValueError"), (.type "Exception"), (.type "BaseException"), (.type "object")], 127, "NoHouse", true, [], [], false, Option.none, false⟩), #[(Option.some (.ref 119)), Option.none, (Option.some (.str "NoHouse" 326)), (Option.some (.str "NoHouse" 334)), (Option.some (.builtin "ValueError.__new__")), (Option.some (.bool true))]⟩
noncomputable def o144 (_ : Params) : Obj := ⟨(.type "super"), Option.none, (.fields #[(.ref 128), (.ref 128), (.ref 128)]), #[]⟩
noncomputable def o145 (_ : Params) : Obj := ⟨(.type "builtin_function_or_method"), Option.none, (.fields #[(.builtin "object.__init_subclass__"), (.ref 128)]), #[]⟩
noncomputable def tr9 (P : Params) : BT := (.node (boot_o_0 P) (.node (boot_o_1 P) (.node (o131 P) (.node (boot_o_7 P) (.node (o6 P) (.node (o133 P) (.node (o63 P) (.node (o142 P) .nil .nil) .nil) (.node (o104 P) .nil .nil)) (.node (o44 P) (.node (o82 P) .nil .nil) (.node (o123 P) .nil .nil))) (.node (o14 P) (.node (o33 P) (.node (o74 P) .nil .nil) (.node (o112 P) .nil .nil)) (.node (o52 P) (.node (o93 P) .nil .nil) (.node (o134 P) .nil .nil)))) (.node (o0 P) (.node (o10 P) (.node (o29 P) (.node (o67 P) .nil .nil) (.node (o108 P) .nil .nil)) (.node (o48 P) (.node (o89 P) .nil .nil) (.node (o127 P) .nil .nil))) (.node (o18 P) (.node (o37 P) (.node (o78 P) .nil .nil) (.node (o119 P) .nil .nil)) (.node (o59 P) (.node (o97 P) .nil .nil) (.node (o138 P) .nil .nil))))) (.node (boot_o_5 P) (.node (boot_o_9 P) (.node (o8 P) (.node (o24 P) (.node (o65 P) (.node (o144 P) .nil .nil) .nil) (.node (o106 P) .nil .nil)) (.node (o46 P) (.node (o84 P) .nil .nil) (.node (o125 P) .nil .nil))) (.node (o16 P) (.node (o35 P) (.node (o76 P) .nil .nil) (.node (o114 P) .nil .nil)) (.node (o54 P) (.node (o95 P) .nil .nil) (.node (o136 P) .nil .nil)))) (.node (o2 P) (.node (o12 P) (.node (o31 P) (.node (o69 P) .nil .nil) (.node (o110 P) .nil .nil)) (.node (o50 P) (.node (o91 P) .nil .nil) (.node (o129 P) .nil .nil))) (.node (o20 P) (.node (o39 P) (.node (o80 P) .nil .nil) (.node (o121 P) .nil .nil)) (.node (o61 P) (.node (o99 P) .nil .nil) (.node (o140 P) .nil .nil)))))) (.node (boot_o_2 P) (.node (boot_o_4 P) (.node (boot_o_8 P) (.node (o7 P) (.node (o23 P) (.node (o64 P) (.node (o143 P) .nil .nil) .nil) (.node (o105 P) .nil .nil)) (.node (o45 P) (.node (o83 P) .nil .nil) (.node (o124 P) .nil .nil))) (.node (o15 P) (.node (o34 P) (.node (o75 P) .nil .nil) (.node (o113 P) .nil .nil)) (.node (o53 P) (.node (o94 P) .nil .nil) (.node (o135 P) .nil .nil)))) (.node (o132 P) (.node (o11 P) (.node (o30 P) (.node (o68 P) .nil .nil) (.node (o109 P) .nil .nil)) (.node (o49 P) (.node (o90 P) .nil .nil) (.node (o128 P) .nil .nil))) (.node (o19 P) (.node (o38 P) (.node (o79 P) .nil .nil) (.node (o120 P) .nil .nil)) (.node (o60 P) (.node (o98 P) .nil .nil) (.node (o139 P) .nil .nil))))) (.node (boot_o_6 P) (.node (boot_o_10 P) (.node (o9 P) (.node (o25 P) (.node (o66 P) (.node (o145 P) .nil .nil) .nil) (.node (o107 P) .nil .nil)) (.node (o47 P) (.node (o85 P) .nil .nil) (.node (o126 P) .nil .nil))) (.node (o17 P) (.node (o36 P) (.node (o77 P) .nil .nil) (.node (o115 P) .nil .nil)) (.node (o55 P) (.node (o96 P) .nil .nil) (.node (o137 P) .nil .nil)))) (.node (o3 P) (.node (o13 P) (.node (o32 P) (.node (o70 P) .nil .nil) (.node (o111 P) .nil .nil)) (.node (o51 P) (.node (o92 P) .nil .nil) (.node (o130 P) .nil .nil))) (.node (o21 P) (.node (o40 P) (.node (o81 P) .nil .nil) (.node (o122 P) .nil .nil)) (.node (o62 P) (.node (o100 P) .nil .nil) (.node (o141 P) .nil .nil)))))))
noncomputable def S9 (w : World) (os : OsState) : SharedT := ⟨tr9 w.params, 131, ⟨[], [], [], 0, [], [], false, #[], [], 0, false, false, false, 0, [2000, 10, 10], false, 0, true, [], [], 0, false⟩, #[], ⟨0, 0, 0, 0⟩, 342, os⟩
noncomputable def ss8 : List Stmt := (bdQ.drop 10).take 1
noncomputable def o146 (P : Params) : Obj := ⟨(.type "dict"), Option.none, (.dict #[⟨(PyData.keyHash P "__name__"), (.str "__name__" 165), (.str "clearday.day" 400)⟩, ⟨(PyData.keyHash P "__doc__"), (.str "__doc__" 166), .none⟩, ⟨(PyData.keyHash P "__package__"), (.str "__package__" 167), .none⟩, ⟨(PyData.keyHash P "__loader__"), (.str "__loader__" 168), (.builtin "__main__.__loader__#opaque")⟩, ⟨(PyData.keyHash P "__spec__"), (.str "__spec__" 169), .none⟩, ⟨(PyData.keyHash P "__annotations__"), (.str "__annotations__" 170), (.ref 6)⟩, ⟨(PyData.keyHash P "__builtins__"), (.str "__builtins__" 171), (.ref 4)⟩, ⟨(PyData.keyHash P "__file__"), (.str "__file__" 173), (.str "/claim/cut.py" 172)⟩, ⟨(PyData.keyHash P "__cached__"), (.str "__cached__" 174), .none⟩, ⟨(PyData.keyHash P "_wall"), (.str "_wall" 193), (.ref 21)⟩, ⟨(PyData.keyHash P "DebtError"), (.str "DebtError" 213), (.ref 31)⟩, ⟨(PyData.keyHash P "BadCount"), (.str "BadCount" 229), (.ref 44)⟩, ⟨(PyData.keyHash P "BadDebt"), (.str "BadDebt" 245), (.ref 56)⟩, ⟨(PyData.keyHash P "BadCut"), (.str "BadCut" 261), (.ref 68)⟩, ⟨(PyData.keyHash P "Uneven"), (.str "Uneven" 277), (.ref 80)⟩, ⟨(PyData.keyHash P "BadPrices"), (.str "BadPrices" 293), (.ref 92)⟩, ⟨(PyData.keyHash P "NotBest"), (.str "NotBest" 309), (.ref 104)⟩, ⟨(PyData.keyHash P "NoDebt"), (.str "NoDebt" 325), (.ref 116)⟩, ⟨(PyData.keyHash P "NoHouse"), (.str "NoHouse" 341), (.ref 128)⟩, ⟨(PyData.keyHash P "BadAmount"), (.str "BadAmount" 357), (.ref 140)⟩, ⟨(PyData.keyHash P "MOST_HOUSES"), (.str "MOST_HOUSES" 361), (.int 20 360)⟩, ⟨(PyData.keyHash P "MOST_OWED"), (.str "MOST_OWED" 363), (.int 1000000000 362)⟩, ⟨(PyData.keyHash P "is_number"), (.str "is_number" 370), (.ref 149)⟩, ⟨(PyData.keyHash P "need_count"), (.str "need_count" 377), (.ref 156)⟩, ⟨(PyData.keyHash P "is_house"), (.str "is_house" 385), (.ref 163)⟩, ⟨(PyData.keyHash P "need_debt"), (.str "need_debt" 393), (.ref 170)⟩, ⟨(PyData.keyHash P "balances"), (.str "balances" 399), (.ref 175)⟩] 27), #[]⟩
noncomputable def o147 (_ : Params) : Obj := ⟨.none, Option.none, (.fields #[(.int 1 0), (.int 0 0), (.ref 20), (.int 5 0), (.int 0 0), (.ref 27), (.int 7 0), (.int 0 0), (.ref 40), (.int 9 0), (.int 0 0), (.ref 52), (.int 11 0), (.int 0 0), (.ref 64), (.int 13 0), (.int 0 0), (.ref 76), (.int 15 0), (.int 0 0), (.ref 88), (.int 17 0), (.int 0 0), (.ref 100), (.int 19 0), (.int 0 0), (.ref 112), (.int 21 0), (.int 0 0), (.ref 124), (.int 23 0), (.int 0 0), (.ref 136), (.int 28 0), (.int 0 0), (.ref 148), (.int 30 0), (.int 0 0), (.ref 155), (.int 33 0), (.int 0 0), (.ref 162), (.int 35 0), (.int 0 0), (.ref 169), (.int 42 0), (.int 0 0), (.ref 174)]), #[]⟩
noncomputable def o148 (_ : Params) : Obj := ⟨(.type "type"), Option.none, (.cls ⟨"DebtError", [(.type "ValueError")], [(.ref 31), (.type "ValueError"), (.type "Exception"), (.type "BaseException"), (.type "object")], 30, "DebtError", true, [], [(.ref 44), (.ref 56), (.ref 68), (.ref 80), (.ref 92), (.ref 104), (.ref 116), (.ref 128), (.ref 140)], false, Option.none, false⟩), #[(Option.some (.ref 22)), Option.none, (Option.some (.str "DebtError" 196)), (Option.some (.str "DebtError" 204)), (Option.some (.builtin "ValueError.__new__")), (Option.some (.bool true))]⟩
noncomputable def o149 (_ : Params) : Obj := ⟨(.type "tuple"), Option.none, (.seq #[(.ref 31)] 0), #[]⟩
noncomputable def o150 (_ : Params) : Obj := ⟨(.type "builtin_function_or_method"), Option.none, (.fields #[(.builtin "type.__prepare__"), (.type "type")]), #[]⟩
noncomputable def o151 (P : Params) : Obj := ⟨(.type "dict"), Option.none, (.dict #[⟨(PyData.keyHash P "__module__"), (.str "__module__" 349), (.str "clearday.errors" 194)⟩, ⟨(PyData.keyHash P "__qualname__"), (.str "__qualname__" 351), (.str "BadAmount" 350)⟩, ⟨(PyData.keyHash P "__firstlineno__"), (.str "__firstlineno__" 353), (.int 23 352)⟩, ⟨(PyData.keyHash P "__static_attributes__"), (.str "__static_attributes__" 354), (.ref 138)⟩] 4), #[]⟩
noncomputable def o152 (_ : Params) : Obj := ⟨(.type "tuple"), Option.none, (.seq #[] 0), #[]⟩
noncomputable def o153 (_ : Params) : Obj := ⟨.none, Option.none, (.fields #[]), #[]⟩
noncomputable def o154 (_ : Params) : Obj := ⟨(.type "code"), Option.none, (.fields #[(.str "BadAmount" 344), (.str "BadAmount" 345), (.str "/claim/cut.py" 346), (.int 23 0), (.int 0 0), (.int 0 0), (.int 0 0), (.int 0 0), (.ref 134), (.bool false), (.int 181 0), (.ref 135), .none, .none, .none, .none, (.int 347 0), (.int 23 0), (.str "/claim/cut.py" 348)]), #[]⟩
noncomputable def o155 (_ : Params) : Obj := ⟨(.type "frame"), Option.none, .plain, #[(Option.some (.ref 136)), (Option.some (.ref 3)), (Option.some (.ref 133)), Option.none, (Option.some (.str "clearday.errors" 194)), Option.none, (Option.some (.ref 0))]⟩
noncomputable def o156 (_ : Params) : Obj := ⟨(.type "tuple"), Option.none, (.seq #[] 0), #[]⟩
noncomputable def o157 (P : Params) : Obj := ⟨(.type "dict"), Option.none, (.dict #[⟨(PyData.keyHash P "__module__"), (.str "__module__" 349), (.str "clearday.errors" 194)⟩, ⟨(PyData.keyHash P "__firstlineno__"), (.str "__firstlineno__" 353), (.int 23 352)⟩, ⟨(PyData.keyHash P "__static_attributes__"), (.str "__static_attributes__" 354), (.ref 138)⟩, ⟨(PyData.keyHash P "__doc__"), (.str "__doc__" 355), .none⟩] 2), #[]⟩
noncomputable def o158 (_ : Params) : Obj := ⟨(.type "type"), Option.none, (.cls ⟨"BadAmount", [(.ref 31)], [(.ref 140), (.ref 31), (.type "ValueError"), (.type "Exception"), (.type "BaseException"), (.type "object")], 139, "BadAmount", true, [], [], false, Option.none, false⟩), #[(Option.some (.ref 131)), Option.none, (Option.some (.str "BadAmount" 342)), (Option.some (.str "BadAmount" 350)), (Option.some (.builtin "ValueError.__new__")), (Option.some (.bool true))]⟩
noncomputable def o159 (_ : Params) : Obj := ⟨(.type "super"), Option.none, (.fields #[(.ref 140), (.ref 140), (.ref 140)]), #[]⟩
noncomputable def o160 (_ : Params) : Obj := ⟨(.type "builtin_function_or_method"), Option.none, (.fields #[(.builtin "object.__init_subclass__"), (.ref 140)]), #[]⟩
noncomputable def o161 (_ : Params) : Obj := ⟨(.type "tuple"), Option.none, (.seq #[] 0), #[]⟩
noncomputable def o162 (_ : Params) : Obj := ⟨.none, Option.none, (.fields #[]), #[]⟩
noncomputable def o163 (_ : Params) : Obj := ⟨(.type "tuple"), Option.none, (.seq #[(.str "value" 367)] 0), #[]⟩
noncomputable def o164 (_ : Params) : Obj := ⟨(.type "tuple"), Option.none, (.seq #[] 0), #[]⟩
noncomputable def o165 (_ : Params) : Obj := ⟨.none, Option.none, (.func ⟨"is_number", "is_number", (fnA (fnS 15)), (.stmts (fnB (fnS 15))), (fnC (fnS 15)), 0, [], .none, .none, .none, .none, Option.none, .none, .none, 0⟩), #[]⟩
noncomputable def o166 (_ : Params) : Obj := ⟨(.type "code"), Option.none, (.fields #[(.str "is_number" 364), (.str "is_number" 365), (.str "/claim/cut.py" 366), (.int 28 0), (.int 1 0), (.int 0 0), (.int 0 0), (.int 3 0), (.ref 143), (.bool true), (.int 181 0), (.ref 144), .none, (.ref 145), (.ref 146), (.ref 147), (.int 368 0), (.int 28 0), (.str "/claim/cut.py" 369)]), #[]⟩
noncomputable def o167 (_ : Params) : Obj := ⟨(.type "function"), Option.none, (.func ⟨"is_number", "is_number", (fnA (fnS 15)), (.stmts (fnB (fnS 15))), (fnC (fnS 15)), 3, [], .none, .none, .none, (.str "clearday.books" 358), Option.none, (.ref 148), .none, 0⟩), #[]⟩
noncomputable def o168 (_ : Params) : Obj := ⟨(.type "tuple"), Option.none, (.seq #[] 0), #[]⟩
noncomputable def o169 (_ : Params) : Obj := ⟨.none, Option.none, (.fields #[]), #[]⟩
noncomputable def o170 (_ : Params) : Obj := ⟨(.type "tuple"), Option.none, (.seq #[(.str "count" 374)] 0), #[]⟩
noncomputable def o171 (_ : Params) : Obj := ⟨(.type "tuple"), Option.none, (.seq #[] 0), #[]⟩
noncomputable def o172 (_ : Params) : Obj := ⟨.none, Option.none, (.func ⟨"need_count", "need_count", (fnA (fnS 16)), (.stmts (fnB (fnS 16))), (fnC (fnS 16)), 0, [], .none, .none, .none, .none, Option.none, .none, .none, 0⟩), #[]⟩
noncomputable def o173 (_ : Params) : Obj := ⟨(.type "code"), Option.none, (.fields #[(.str "need_count" 371), (.str "need_count" 372), (.str "/claim/cut.py" 373), (.int 30 0), (.int 1 0), (.int 0 0), (.int 0 0), (.int 3 0), (.ref 150), (.bool true), (.int 181 0), (.ref 151), .none, (.ref 152), (.ref 153), (.ref 154), (.int 375 0), (.int 30 0), (.str "/claim/cut.py" 376)]), #[]⟩
noncomputable def o174 (_ : Params) : Obj := ⟨(.type "function"), Option.none, (.func ⟨"need_count", "need_count", (fnA (fnS 16)), (.stmts (fnB (fnS 16))), (fnC (fnS 16)), 3, [], .none, .none, .none, (.str "clearday.books" 358), Option.none, (.ref 155), .none, 0⟩), #[]⟩
noncomputable def o175 (_ : Params) : Obj := ⟨(.type "tuple"), Option.none, (.seq #[] 0), #[]⟩
noncomputable def o176 (_ : Params) : Obj := ⟨.none, Option.none, (.fields #[]), #[]⟩
noncomputable def o177 (_ : Params) : Obj := ⟨(.type "tuple"), Option.none, (.seq #[(.str "count" 381), (.str "value" 382)] 0), #[]⟩
noncomputable def o178 (_ : Params) : Obj := ⟨(.type "tuple"), Option.none, (.seq #[] 0), #[]⟩
noncomputable def o179 (_ : Params) : Obj := ⟨.none, Option.none, (.func ⟨"is_house", "is_house", (fnA (fnS 17)), (.stmts (fnB (fnS 17))), (fnC (fnS 17)), 0, [], .none, .none, .none, .none, Option.none, .none, .none, 0⟩), #[]⟩
noncomputable def o180 (_ : Params) : Obj := ⟨(.type "code"), Option.none, (.fields #[(.str "is_house" 378), (.str "is_house" 379), (.str "/claim/cut.py" 380), (.int 33 0), (.int 2 0), (.int 0 0), (.int 0 0), (.int 3 0), (.ref 157), (.bool true), (.int 181 0), (.ref 158), .none, (.ref 159), (.ref 160), (.ref 161), (.int 383 0), (.int 33 0), (.str "/claim/cut.py" 384)]), #[]⟩
noncomputable def o181 (_ : Params) : Obj := ⟨(.type "function"), Option.none, (.func ⟨"is_house", "is_house", (fnA (fnS 17)), (.stmts (fnB (fnS 17))), (fnC (fnS 17)), 3, [], .none, .none, .none, (.str "clearday.books" 358), Option.none, (.ref 162), .none, 0⟩), #[]⟩
noncomputable def o182 (_ : Params) : Obj := ⟨(.type "tuple"), Option.none, (.seq #[] 0), #[]⟩
noncomputable def o183 (_ : Params) : Obj := ⟨.none, Option.none, (.fields #[]), #[]⟩
noncomputable def o184 (_ : Params) : Obj := ⟨(.type "tuple"), Option.none, (.seq #[(.str "count" 389), (.str "debt" 390)] 0), #[]⟩
noncomputable def o185 (_ : Params) : Obj := ⟨(.type "tuple"), Option.none, (.seq #[] 0), #[]⟩
noncomputable def o186 (_ : Params) : Obj := ⟨.none, Option.none, (.func ⟨"need_debt", "need_debt", (fnA (fnS 18)), (.stmts (fnB (fnS 18))), (fnC (fnS 18)), 0, [], .none, .none, .none, .none, Option.none, .none, .none, 0⟩), #[]⟩
noncomputable def o187 (_ : Params) : Obj := ⟨(.type "code"), Option.none, (.fields #[(.str "need_debt" 386), (.str "need_debt" 387), (.str "/claim/cut.py" 388), (.int 35 0), (.int 2 0), (.int 0 0), (.int 0 0), (.int 3 0), (.ref 164), (.bool true), (.int 181 0), (.ref 165), .none, (.ref 166), (.ref 167), (.ref 168), (.int 391 0), (.int 35 0), (.str "/claim/cut.py" 392)]), #[]⟩
noncomputable def o188 (_ : Params) : Obj := ⟨(.type "function"), Option.none, (.func ⟨"need_debt", "need_debt", (fnA (fnS 18)), (.stmts (fnB (fnS 18))), (fnC (fnS 18)), 3, [], .none, .none, .none, (.str "clearday.books" 358), Option.none, (.ref 169), .none, 0⟩), #[]⟩
noncomputable def o189 (_ : Params) : Obj := ⟨(.type "tuple"), Option.none, (.seq #[] 0), #[]⟩
noncomputable def o190 (_ : Params) : Obj := ⟨.none, Option.none, (.fields #[]), #[]⟩
noncomputable def o191 (_ : Params) : Obj := ⟨.none, Option.none, (.func ⟨"balances", "balances", (fnA (fnS 19)), (.stmts (fnB (fnS 19))), (fnC (fnS 19)), 0, [], .none, .none, .none, .none, Option.none, .none, .none, 0⟩), #[]⟩
noncomputable def o192 (_ : Params) : Obj := ⟨(.type "code"), Option.none, (.fields #[(.str "balances" 394), (.str "balances" 395), (.str "/claim/cut.py" 396), (.int 42 0), (.int 2 0), (.int 0 0), (.int 0 0), (.int 3 0), (.ref 171), (.bool true), (.int 181 0), (.ref 172), .none, .none, .none, (.ref 173), (.int 397 0), (.int 42 0), (.str "/claim/cut.py" 398)]), #[]⟩
noncomputable def o193 (_ : Params) : Obj := ⟨(.type "function"), Option.none, (.func ⟨"balances", "balances", (fnA (fnS 19)), (.stmts (fnB (fnS 19))), (fnC (fnS 19)), 3, [], .none, .none, .none, (.str "clearday.books" 358), Option.none, (.ref 174), .none, 0⟩), #[]⟩
noncomputable def tr10 (P : Params) : BT := (.node (boot_o_0 P) (.node (boot_o_1 P) (.node (o146 P) (.node (boot_o_7 P) (.node (o6 P) (.node (o148 P) (.node (o63 P) (.node (o142 P) .nil .nil) .nil) (.node (o104 P) (.node (o177 P) .nil .nil) .nil)) (.node (o44 P) (.node (o82 P) (.node (o161 P) .nil .nil) .nil) (.node (o123 P) (.node (o193 P) .nil .nil) .nil))) (.node (o14 P) (.node (o33 P) (.node (o74 P) (.node (o153 P) .nil .nil) .nil) (.node (o112 P) (.node (o185 P) .nil .nil) .nil)) (.node (o52 P) (.node (o93 P) (.node (o169 P) .nil .nil) .nil) (.node (o134 P) .nil .nil)))) (.node (o0 P) (.node (o10 P) (.node (o29 P) (.node (o67 P) (.node (o149 P) .nil .nil) .nil) (.node (o108 P) (.node (o181 P) .nil .nil) .nil)) (.node (o48 P) (.node (o89 P) (.node (o165 P) .nil .nil) .nil) (.node (o127 P) .nil .nil))) (.node (o18 P) (.node (o37 P) (.node (o78 P) (.node (o157 P) .nil .nil) .nil) (.node (o119 P) (.node (o189 P) .nil .nil) .nil)) (.node (o59 P) (.node (o97 P) (.node (o173 P) .nil .nil) .nil) (.node (o138 P) .nil .nil))))) (.node (boot_o_5 P) (.node (boot_o_9 P) (.node (o8 P) (.node (o24 P) (.node (o65 P) (.node (o144 P) .nil .nil) .nil) (.node (o106 P) (.node (o179 P) .nil .nil) .nil)) (.node (o46 P) (.node (o84 P) (.node (o163 P) .nil .nil) .nil) (.node (o125 P) .nil .nil))) (.node (o16 P) (.node (o35 P) (.node (o76 P) (.node (o155 P) .nil .nil) .nil) (.node (o114 P) (.node (o187 P) .nil .nil) .nil)) (.node (o54 P) (.node (o95 P) (.node (o171 P) .nil .nil) .nil) (.node (o136 P) .nil .nil)))) (.node (o2 P) (.node (o12 P) (.node (o31 P) (.node (o69 P) (.node (o151 P) .nil .nil) .nil) (.node (o110 P) (.node (o183 P) .nil .nil) .nil)) (.node (o50 P) (.node (o91 P) (.node (o167 P) .nil .nil) .nil) (.node (o129 P) .nil .nil))) (.node (o20 P) (.node (o39 P) (.node (o80 P) (.node (o159 P) .nil .nil) .nil) (.node (o121 P) (.node (o191 P) .nil .nil) .nil)) (.node (o61 P) (.node (o99 P) (.node (o175 P) .nil .nil) .nil) (.node (o140 P) .nil .nil)))))) (.node (boot_o_2 P) (.node (boot_o_4 P) (.node (boot_o_8 P) (.node (o7 P) (.node (o23 P) (.node (o64 P) (.node (o143 P) .nil .nil) .nil) (.node (o105 P) (.node (o178 P) .nil .nil) .nil)) (.node (o45 P) (.node (o83 P) (.node (o162 P) .nil .nil) .nil) (.node (o124 P) .nil .nil))) (.node (o15 P) (.node (o34 P) (.node (o75 P) (.node (o154 P) .nil .nil) .nil) (.node (o113 P) (.node (o186 P) .nil .nil) .nil)) (.node (o53 P) (.node (o94 P) (.node (o170 P) .nil .nil) .nil) (.node (o135 P) .nil .nil)))) (.node (o147 P) (.node (o11 P) (.node (o30 P) (.node (o68 P) (.node (o150 P) .nil .nil) .nil) (.node (o109 P) (.node (o182 P) .nil .nil) .nil)) (.node (o49 P) (.node (o90 P) (.node (o166 P) .nil .nil) .nil) (.node (o128 P) .nil .nil))) (.node (o19 P) (.node (o38 P) (.node (o79 P) (.node (o158 P) .nil .nil) .nil) (.node (o120 P) (.node (o190 P) .nil .nil) .nil)) (.node (o60 P) (.node (o98 P) (.node (o174 P) .nil .nil) .nil) (.node (o139 P) .nil .nil))))) (.node (boot_o_6 P) (.node (boot_o_10 P) (.node (o9 P) (.node (o25 P) (.node (o66 P) (.node (o145 P) .nil .nil) .nil) (.node (o107 P) (.node (o180 P) .nil .nil) .nil)) (.node (o47 P) (.node (o85 P) (.node (o164 P) .nil .nil) .nil) (.node (o126 P) .nil .nil))) (.node (o17 P) (.node (o36 P) (.node (o77 P) (.node (o156 P) .nil .nil) .nil) (.node (o115 P) (.node (o188 P) .nil .nil) .nil)) (.node (o55 P) (.node (o96 P) (.node (o172 P) .nil .nil) .nil) (.node (o137 P) .nil .nil)))) (.node (o3 P) (.node (o13 P) (.node (o32 P) (.node (o70 P) (.node (o152 P) .nil .nil) .nil) (.node (o111 P) (.node (o184 P) .nil .nil) .nil)) (.node (o51 P) (.node (o92 P) (.node (o168 P) .nil .nil) .nil) (.node (o130 P) .nil .nil))) (.node (o21 P) (.node (o40 P) (.node (o81 P) (.node (o160 P) .nil .nil) .nil) (.node (o122 P) (.node (o192 P) .nil .nil) .nil)) (.node (o62 P) (.node (o100 P) (.node (o176 P) .nil .nil) .nil) (.node (o141 P) .nil .nil)))))))
noncomputable def S10 (w : World) (os : OsState) : SharedT := ⟨tr10 w.params, 176, ⟨[], [], [], 0, [], [], false, #[], [], 0, false, false, false, 0, [2000, 10, 10], false, 0, true, [], [], 0, false⟩, #[], ⟨0, 0, 0, 0⟩, 402, os⟩
noncomputable def ss9 : List Stmt := (bdQ.drop 11).take 10
noncomputable def o194 (P : Params) : Obj := ⟨(.type "dict"), Option.none, (.dict #[⟨(PyData.keyHash P "__name__"), (.str "__name__" 165), (.str "clearday.day" 400)⟩, ⟨(PyData.keyHash P "__doc__"), (.str "__doc__" 166), .none⟩, ⟨(PyData.keyHash P "__package__"), (.str "__package__" 167), .none⟩, ⟨(PyData.keyHash P "__loader__"), (.str "__loader__" 168), (.builtin "__main__.__loader__#opaque")⟩, ⟨(PyData.keyHash P "__spec__"), (.str "__spec__" 169), .none⟩, ⟨(PyData.keyHash P "__annotations__"), (.str "__annotations__" 170), (.ref 6)⟩, ⟨(PyData.keyHash P "__builtins__"), (.str "__builtins__" 171), (.ref 4)⟩, ⟨(PyData.keyHash P "__file__"), (.str "__file__" 173), (.str "/claim/cut.py" 172)⟩, ⟨(PyData.keyHash P "__cached__"), (.str "__cached__" 174), .none⟩, ⟨(PyData.keyHash P "_wall"), (.str "_wall" 193), (.ref 21)⟩, ⟨(PyData.keyHash P "DebtError"), (.str "DebtError" 213), (.ref 31)⟩, ⟨(PyData.keyHash P "BadCount"), (.str "BadCount" 229), (.ref 44)⟩, ⟨(PyData.keyHash P "BadDebt"), (.str "BadDebt" 245), (.ref 56)⟩, ⟨(PyData.keyHash P "BadCut"), (.str "BadCut" 261), (.ref 68)⟩, ⟨(PyData.keyHash P "Uneven"), (.str "Uneven" 277), (.ref 80)⟩, ⟨(PyData.keyHash P "BadPrices"), (.str "BadPrices" 293), (.ref 92)⟩, ⟨(PyData.keyHash P "NotBest"), (.str "NotBest" 309), (.ref 104)⟩, ⟨(PyData.keyHash P "NoDebt"), (.str "NoDebt" 325), (.ref 116)⟩, ⟨(PyData.keyHash P "NoHouse"), (.str "NoHouse" 341), (.ref 128)⟩, ⟨(PyData.keyHash P "BadAmount"), (.str "BadAmount" 357), (.ref 140)⟩, ⟨(PyData.keyHash P "MOST_HOUSES"), (.str "MOST_HOUSES" 361), (.int 20 360)⟩, ⟨(PyData.keyHash P "MOST_OWED"), (.str "MOST_OWED" 363), (.int 1000000000 362)⟩, ⟨(PyData.keyHash P "is_number"), (.str "is_number" 370), (.ref 149)⟩, ⟨(PyData.keyHash P "need_count"), (.str "need_count" 377), (.ref 156)⟩, ⟨(PyData.keyHash P "is_house"), (.str "is_house" 385), (.ref 163)⟩, ⟨(PyData.keyHash P "need_debt"), (.str "need_debt" 393), (.ref 170)⟩, ⟨(PyData.keyHash P "balances"), (.str "balances" 399), (.ref 175)⟩, ⟨(PyData.keyHash P "Day"), (.str "Day" 490), (.ref 239)⟩] 28), #[]⟩
noncomputable def o195 (_ : Params) : Obj := ⟨.none, Option.none, (.fields #[(.int 1 0), (.int 0 0), (.ref 20), (.int 5 0), (.int 0 0), (.ref 27), (.int 7 0), (.int 0 0), (.ref 40), (.int 9 0), (.int 0 0), (.ref 52), (.int 11 0), (.int 0 0), (.ref 64), (.int 13 0), (.int 0 0), (.ref 76), (.int 15 0), (.int 0 0), (.ref 88), (.int 17 0), (.int 0 0), (.ref 100), (.int 19 0), (.int 0 0), (.ref 112), (.int 21 0), (.int 0 0), (.ref 124), (.int 23 0), (.int 0 0), (.ref 136), (.int 28 0), (.int 0 0), (.ref 148), (.int 30 0), (.int 0 0), (.ref 155), (.int 33 0), (.int 0 0), (.ref 162), (.int 35 0), (.int 0 0), (.ref 169), (.int 42 0), (.int 0 0), (.ref 174), (.int 49 0), (.int 0 0), (.ref 181)]), #[]⟩
noncomputable def o196 (_ : Params) : Obj := ⟨(.type "tuple"), Option.none, (.seq #[] 0), #[]⟩
noncomputable def o197 (_ : Params) : Obj := ⟨(.type "builtin_function_or_method"), Option.none, (.fields #[(.builtin "type.__prepare__"), (.type "type")]), #[]⟩
noncomputable def o198 (P : Params) : Obj := ⟨(.type "dict"), Option.none, (.dict #[⟨(PyData.keyHash P "__module__"), (.str "__module__" 409), (.str "clearday.day" 400)⟩, ⟨(PyData.keyHash P "__qualname__"), (.str "__qualname__" 411), (.str "Day" 410)⟩, ⟨(PyData.keyHash P "__firstlineno__"), (.str "__firstlineno__" 413), (.int 49 412)⟩, ⟨(PyData.keyHash P "__init__"), (.str "__init__" 421), (.ref 189)⟩, ⟨(PyData.keyHash P "owe"), (.str "owe" 432), (.ref 196)⟩, ⟨(PyData.keyHash P "need_number"), (.str "need_number" 440), (.ref 203)⟩, ⟨(PyData.keyHash P "rest"), (.str "rest" 448), (.ref 210)⟩, ⟨(PyData.keyHash P "pay"), (.str "pay" 457), (.ref 217)⟩, ⟨(PyData.keyHash P "standing"), (.str "standing" 466), (.ref 224)⟩, ⟨(PyData.keyHash P "balance"), (.str "balance" 472), (.ref 229)⟩, ⟨(PyData.keyHash P "clear"), (.str "clear" 479), (.ref 236)⟩, ⟨(PyData.keyHash P "__static_attributes__"), (.str "__static_attributes__" 483), (.ref 237)⟩] 12), #[]⟩
noncomputable def o199 (_ : Params) : Obj := ⟨(.type "tuple"), Option.none, (.seq #[] 0), #[]⟩
noncomputable def o200 (_ : Params) : Obj := ⟨.none, Option.none, (.fields #[(.int 51 0), (.int 4 0), (.ref 188), (.int 57 0), (.int 4 0), (.ref 195), (.int 64 0), (.int 4 0), (.ref 202), (.int 68 0), (.int 4 0), (.ref 209), (.int 72 0), (.int 4 0), (.ref 216), (.int 79 0), (.int 4 0), (.ref 223), (.int 86 0), (.int 4 0), (.ref 228), (.int 91 0), (.int 4 0), (.ref 235)]), #[]⟩
noncomputable def o201 (_ : Params) : Obj := ⟨(.type "code"), Option.none, (.fields #[(.str "Day" 404), (.str "Day" 405), (.str "/claim/cut.py" 406), (.int 49 0), (.int 0 0), (.int 0 0), (.int 0 0), (.int 0 0), (.ref 179), (.bool false), (.int 181 0), (.ref 180), .none, .none, .none, .none, (.int 407 0), (.int 49 0), (.str "/claim/cut.py" 408)]), #[]⟩
noncomputable def o202 (_ : Params) : Obj := ⟨(.type "frame"), Option.none, .plain, #[(Option.some (.ref 181)), (Option.some (.ref 3)), (Option.some (.ref 178)), Option.none, (Option.some (.str "clearday.day" 400)), Option.none, (Option.some (.ref 0))]⟩
noncomputable def o203 (_ : Params) : Obj := ⟨(.type "tuple"), Option.none, (.seq #[] 0), #[]⟩
noncomputable def o204 (_ : Params) : Obj := ⟨.none, Option.none, (.fields #[]), #[]⟩
noncomputable def o205 (_ : Params) : Obj := ⟨(.type "tuple"), Option.none, (.seq #[(.str "self" 417), (.str "count" 418)] 0), #[]⟩
noncomputable def o206 (_ : Params) : Obj := ⟨(.type "tuple"), Option.none, (.seq #[] 0), #[]⟩
noncomputable def o207 (_ : Params) : Obj := ⟨.none, Option.none, (.func ⟨"__init__", "Day.__init__", (fnA (fnM 21 0)), (.stmts (fnB (fnM 21 0))), (fnC (fnM 21 0)), 0, [], .none, .none, .none, .none, Option.none, .none, .none, 0⟩), #[]⟩
noncomputable def o208 (_ : Params) : Obj := ⟨(.type "code"), Option.none, (.fields #[(.str "__init__" 414), (.str "Day.__init__" 415), (.str "/claim/cut.py" 416), (.int 51 0), (.int 2 0), (.int 0 0), (.int 0 0), (.int 3 0), (.ref 183), (.bool true), (.int 181 0), (.ref 184), .none, (.ref 185), (.ref 186), (.ref 187), (.int 419 0), (.int 51 0), (.str "/claim/cut.py" 420)]), #[]⟩
noncomputable def o209 (_ : Params) : Obj := ⟨(.type "function"), Option.none, (.func ⟨"__init__", "Day.__init__", (fnA (fnM 21 0)), (.stmts (fnB (fnM 21 0))), (fnC (fnM 21 0)), 3, [], .none, .none, .none, (.str "clearday.day" 400), Option.none, (.ref 188), .none, 0⟩), #[]⟩
noncomputable def o210 (_ : Params) : Obj := ⟨(.type "tuple"), Option.none, (.seq #[] 0), #[]⟩
noncomputable def o211 (_ : Params) : Obj := ⟨.none, Option.none, (.fields #[]), #[]⟩
noncomputable def o212 (_ : Params) : Obj := ⟨(.type "tuple"), Option.none, (.seq #[(.str "self" 425), (.str "debtor" 426), (.str "creditor" 427), (.str "amount" 428), (.str "debt" 429)] 0), #[]⟩
noncomputable def o213 (_ : Params) : Obj := ⟨(.type "tuple"), Option.none, (.seq #[] 0), #[]⟩
noncomputable def o214 (_ : Params) : Obj := ⟨.none, Option.none, (.func ⟨"owe", "Day.owe", (fnA (fnM 21 1)), (.stmts (fnB (fnM 21 1))), (fnC (fnM 21 1)), 0, [], .none, .none, .none, .none, Option.none, .none, .none, 0⟩), #[]⟩
noncomputable def o215 (_ : Params) : Obj := ⟨(.type "code"), Option.none, (.fields #[(.str "owe" 422), (.str "Day.owe" 423), (.str "/claim/cut.py" 424), (.int 57 0), (.int 4 0), (.int 0 0), (.int 0 0), (.int 3 0), (.ref 190), (.bool true), (.int 181 0), (.ref 191), .none, (.ref 192), (.ref 193), (.ref 194), (.int 430 0), (.int 57 0), (.str "/claim/cut.py" 431)]), #[]⟩
noncomputable def o216 (_ : Params) : Obj := ⟨(.type "function"), Option.none, (.func ⟨"owe", "Day.owe", (fnA (fnM 21 1)), (.stmts (fnB (fnM 21 1))), (fnC (fnM 21 1)), 3, [], .none, .none, .none, (.str "clearday.day" 400), Option.none, (.ref 195), .none, 0⟩), #[]⟩
noncomputable def o217 (_ : Params) : Obj := ⟨(.type "tuple"), Option.none, (.seq #[] 0), #[]⟩
noncomputable def o218 (_ : Params) : Obj := ⟨.none, Option.none, (.fields #[]), #[]⟩
noncomputable def o219 (_ : Params) : Obj := ⟨(.type "tuple"), Option.none, (.seq #[(.str "self" 436), (.str "number" 437)] 0), #[]⟩
noncomputable def o220 (_ : Params) : Obj := ⟨(.type "tuple"), Option.none, (.seq #[] 0), #[]⟩
noncomputable def o221 (_ : Params) : Obj := ⟨.none, Option.none, (.func ⟨"need_number", "Day.need_number", (fnA (fnM 21 2)), (.stmts (fnB (fnM 21 2))), (fnC (fnM 21 2)), 0, [], .none, .none, .none, .none, Option.none, .none, .none, 0⟩), #[]⟩
noncomputable def o222 (_ : Params) : Obj := ⟨(.type "code"), Option.none, (.fields #[(.str "need_number" 433), (.str "Day.need_number" 434), (.str "/claim/cut.py" 435), (.int 64 0), (.int 2 0), (.int 0 0), (.int 0 0), (.int 3 0), (.ref 197), (.bool true), (.int 181 0), (.ref 198), .none, (.ref 199), (.ref 200), (.ref 201), (.int 438 0), (.int 64 0), (.str "/claim/cut.py" 439)]), #[]⟩
noncomputable def o223 (_ : Params) : Obj := ⟨(.type "function"), Option.none, (.func ⟨"need_number", "Day.need_number", (fnA (fnM 21 2)), (.stmts (fnB (fnM 21 2))), (fnC (fnM 21 2)), 3, [], .none, .none, .none, (.str "clearday.day" 400), Option.none, (.ref 202), .none, 0⟩), #[]⟩
noncomputable def o224 (_ : Params) : Obj := ⟨(.type "tuple"), Option.none, (.seq #[] 0), #[]⟩
noncomputable def o225 (_ : Params) : Obj := ⟨.none, Option.none, (.fields #[]), #[]⟩
noncomputable def o226 (_ : Params) : Obj := ⟨(.type "tuple"), Option.none, (.seq #[(.str "self" 444), (.str "number" 445)] 0), #[]⟩
noncomputable def o227 (_ : Params) : Obj := ⟨(.type "tuple"), Option.none, (.seq #[] 0), #[]⟩
noncomputable def o228 (_ : Params) : Obj := ⟨.none, Option.none, (.func ⟨"rest", "Day.rest", (fnA (fnM 21 3)), (.stmts (fnB (fnM 21 3))), (fnC (fnM 21 3)), 0, [], .none, .none, .none, .none, Option.none, .none, .none, 0⟩), #[]⟩
noncomputable def o229 (_ : Params) : Obj := ⟨(.type "code"), Option.none, (.fields #[(.str "rest" 441), (.str "Day.rest" 442), (.str "/claim/cut.py" 443), (.int 68 0), (.int 2 0), (.int 0 0), (.int 0 0), (.int 3 0), (.ref 204), (.bool true), (.int 181 0), (.ref 205), .none, (.ref 206), (.ref 207), (.ref 208), (.int 446 0), (.int 68 0), (.str "/claim/cut.py" 447)]), #[]⟩
noncomputable def o230 (_ : Params) : Obj := ⟨(.type "function"), Option.none, (.func ⟨"rest", "Day.rest", (fnA (fnM 21 3)), (.stmts (fnB (fnM 21 3))), (fnC (fnM 21 3)), 3, [], .none, .none, .none, (.str "clearday.day" 400), Option.none, (.ref 209), .none, 0⟩), #[]⟩
noncomputable def o231 (_ : Params) : Obj := ⟨(.type "tuple"), Option.none, (.seq #[] 0), #[]⟩
noncomputable def o232 (_ : Params) : Obj := ⟨.none, Option.none, (.fields #[]), #[]⟩
noncomputable def o233 (_ : Params) : Obj := ⟨(.type "tuple"), Option.none, (.seq #[(.str "self" 452), (.str "number" 453), (.str "amount" 454)] 0), #[]⟩
noncomputable def o234 (_ : Params) : Obj := ⟨(.type "tuple"), Option.none, (.seq #[] 0), #[]⟩
noncomputable def o235 (_ : Params) : Obj := ⟨.none, Option.none, (.func ⟨"pay", "Day.pay", (fnA (fnM 21 4)), (.stmts (fnB (fnM 21 4))), (fnC (fnM 21 4)), 0, [], .none, .none, .none, .none, Option.none, .none, .none, 0⟩), #[]⟩
noncomputable def o236 (_ : Params) : Obj := ⟨(.type "code"), Option.none, (.fields #[(.str "pay" 449), (.str "Day.pay" 450), (.str "/claim/cut.py" 451), (.int 72 0), (.int 3 0), (.int 0 0), (.int 0 0), (.int 3 0), (.ref 211), (.bool true), (.int 181 0), (.ref 212), .none, (.ref 213), (.ref 214), (.ref 215), (.int 455 0), (.int 72 0), (.str "/claim/cut.py" 456)]), #[]⟩
noncomputable def o237 (_ : Params) : Obj := ⟨(.type "function"), Option.none, (.func ⟨"pay", "Day.pay", (fnA (fnM 21 4)), (.stmts (fnB (fnM 21 4))), (fnC (fnM 21 4)), 3, [], .none, .none, .none, (.str "clearday.day" 400), Option.none, (.ref 216), .none, 0⟩), #[]⟩
noncomputable def o238 (_ : Params) : Obj := ⟨(.type "tuple"), Option.none, (.seq #[] 0), #[]⟩
noncomputable def o239 (_ : Params) : Obj := ⟨.none, Option.none, (.fields #[]), #[]⟩
noncomputable def o240 (_ : Params) : Obj := ⟨(.type "tuple"), Option.none, (.seq #[(.str "self" 461), (.str "found" 462), (.str "number" 463)] 0), #[]⟩
noncomputable def o241 (_ : Params) : Obj := ⟨(.type "tuple"), Option.none, (.seq #[] 0), #[]⟩
noncomputable def o242 (_ : Params) : Obj := ⟨.none, Option.none, (.func ⟨"standing", "Day.standing", (fnA (fnM 21 5)), (.stmts (fnB (fnM 21 5))), (fnC (fnM 21 5)), 0, [], .none, .none, .none, .none, Option.none, .none, .none, 0⟩), #[]⟩
noncomputable def o243 (_ : Params) : Obj := ⟨(.type "code"), Option.none, (.fields #[(.str "standing" 458), (.str "Day.standing" 459), (.str "/claim/cut.py" 460), (.int 79 0), (.int 1 0), (.int 0 0), (.int 0 0), (.int 3 0), (.ref 218), (.bool true), (.int 181 0), (.ref 219), .none, (.ref 220), (.ref 221), (.ref 222), (.int 464 0), (.int 79 0), (.str "/claim/cut.py" 465)]), #[]⟩
noncomputable def o244 (_ : Params) : Obj := ⟨(.type "function"), Option.none, (.func ⟨"standing", "Day.standing", (fnA (fnM 21 5)), (.stmts (fnB (fnM 21 5))), (fnC (fnM 21 5)), 3, [], .none, .none, .none, (.str "clearday.day" 400), Option.none, (.ref 223), .none, 0⟩), #[]⟩
noncomputable def o245 (_ : Params) : Obj := ⟨(.type "tuple"), Option.none, (.seq #[] 0), #[]⟩
noncomputable def o246 (_ : Params) : Obj := ⟨.none, Option.none, (.fields #[]), #[]⟩
noncomputable def o247 (_ : Params) : Obj := ⟨.none, Option.none, (.func ⟨"balance", "Day.balance", (fnA (fnM 21 6)), (.stmts (fnB (fnM 21 6))), (fnC (fnM 21 6)), 0, [], .none, .none, .none, .none, Option.none, .none, .none, 0⟩), #[]⟩
noncomputable def o248 (_ : Params) : Obj := ⟨(.type "code"), Option.none, (.fields #[(.str "balance" 467), (.str "Day.balance" 468), (.str "/claim/cut.py" 469), (.int 86 0), (.int 2 0), (.int 0 0), (.int 0 0), (.int 3 0), (.ref 225), (.bool true), (.int 181 0), (.ref 226), .none, .none, .none, (.ref 227), (.int 470 0), (.int 86 0), (.str "/claim/cut.py" 471)]), #[]⟩
noncomputable def o249 (_ : Params) : Obj := ⟨(.type "function"), Option.none, (.func ⟨"balance", "Day.balance", (fnA (fnM 21 6)), (.stmts (fnB (fnM 21 6))), (fnC (fnM 21 6)), 3, [], .none, .none, .none, (.str "clearday.day" 400), Option.none, (.ref 228), .none, 0⟩), #[]⟩
noncomputable def o250 (_ : Params) : Obj := ⟨(.type "tuple"), Option.none, (.seq #[] 0), #[]⟩
noncomputable def o251 (_ : Params) : Obj := ⟨.none, Option.none, (.fields #[]), #[]⟩
noncomputable def o252 (_ : Params) : Obj := ⟨(.type "tuple"), Option.none, (.seq #[(.str "self" 476)] 0), #[]⟩
noncomputable def o253 (_ : Params) : Obj := ⟨(.type "tuple"), Option.none, (.seq #[] 0), #[]⟩
noncomputable def o254 (_ : Params) : Obj := ⟨.none, Option.none, (.func ⟨"clear", "Day.clear", (fnA (fnM 21 7)), (.stmts (fnB (fnM 21 7))), (fnC (fnM 21 7)), 0, [], .none, .none, .none, .none, Option.none, .none, .none, 0⟩), #[]⟩
noncomputable def o255 (_ : Params) : Obj := ⟨(.type "code"), Option.none, (.fields #[(.str "clear" 473), (.str "Day.clear" 474), (.str "/claim/cut.py" 475), (.int 91 0), (.int 1 0), (.int 0 0), (.int 0 0), (.int 3 0), (.ref 230), (.bool true), (.int 181 0), (.ref 231), .none, (.ref 232), (.ref 233), (.ref 234), (.int 477 0), (.int 91 0), (.str "/claim/cut.py" 478)]), #[]⟩
noncomputable def o256 (_ : Params) : Obj := ⟨(.type "function"), Option.none, (.func ⟨"clear", "Day.clear", (fnA (fnM 21 7)), (.stmts (fnB (fnM 21 7))), (fnC (fnM 21 7)), 3, [], .none, .none, .none, (.str "clearday.day" 400), Option.none, (.ref 235), .none, 0⟩), #[]⟩
noncomputable def o257 (_ : Params) : Obj := ⟨(.type "tuple"), Option.none, (.seq #[(.str "came" 480), (.str "houses" 481), (.str "still" 482)] 0), #[]⟩
noncomputable def o258 (P : Params) : Obj := ⟨(.type "dict"), Option.none, (.dict #[⟨(PyData.keyHash P "__module__"), (.str "__module__" 409), (.str "clearday.day" 400)⟩, ⟨(PyData.keyHash P "__firstlineno__"), (.str "__firstlineno__" 413), (.int 49 412)⟩, ⟨(PyData.keyHash P "__init__"), (.str "__init__" 421), (.ref 189)⟩, ⟨(PyData.keyHash P "owe"), (.str "owe" 432), (.ref 196)⟩, ⟨(PyData.keyHash P "need_number"), (.str "need_number" 440), (.ref 203)⟩, ⟨(PyData.keyHash P "rest"), (.str "rest" 448), (.ref 210)⟩, ⟨(PyData.keyHash P "pay"), (.str "pay" 457), (.ref 217)⟩, ⟨(PyData.keyHash P "standing"), (.str "standing" 466), (.ref 224)⟩, ⟨(PyData.keyHash P "balance"), (.str "balance" 472), (.ref 229)⟩, ⟨(PyData.keyHash P "clear"), (.str "clear" 479), (.ref 236)⟩, ⟨(PyData.keyHash P "__static_attributes__"), (.str "__static_attributes__" 483), (.ref 237)⟩, ⟨(PyData.keyHash P "__dict__"), (.str "__dict__" 485), (.ref 240)⟩, ⟨(PyData.keyHash P "__weakref__"), (.str "__weakref__" 487), (.ref 241)⟩, ⟨(PyData.keyHash P "__doc__"), (.str "__doc__" 488), .none⟩] 4), #[]⟩
noncomputable def o259 (_ : Params) : Obj := ⟨(.type "type"), Option.none, (.cls ⟨"Day", [(.type "object")], [(.ref 239), (.type "object")], 238, "Day", true, [], [], false, Option.none, false⟩), #[Option.none, Option.none, (Option.some (.str "Day" 402)), (Option.some (.str "Day" 410)), (Option.some (.builtin "object.__new__")), (Option.some (.bool true))]⟩
noncomputable def o260 (_ : Params) : Obj := ⟨(.type "getset_descriptor"), Option.none, (.fields #[(.str "__dict__" 484), (.ref 239), (.builtin "function.__dict__"), (.builtin "function.__dict__#set")]), #[]⟩
noncomputable def o261 (_ : Params) : Obj := ⟨(.type "getset_descriptor"), Option.none, (.fields #[(.str "__weakref__" 486), (.ref 239), (.builtin "ExceptionGroup.__weakref__"), .none]), #[]⟩
noncomputable def o262 (_ : Params) : Obj := ⟨(.type "super"), Option.none, (.fields #[(.ref 239), (.ref 239), (.ref 239)]), #[]⟩
noncomputable def o263 (_ : Params) : Obj := ⟨(.type "builtin_function_or_method"), Option.none, (.fields #[(.builtin "object.__init_subclass__"), (.ref 239)]), #[]⟩
noncomputable def tr11 (P : Params) : BT := (.node (boot_o_0 P) (.node (boot_o_1 P) (.node (o194 P) (.node (boot_o_7 P) (.node (o6 P) (.node (o148 P) (.node (o63 P) (.node (o142 P) .nil .nil) (.node (o211 P) .nil .nil)) (.node (o104 P) (.node (o177 P) .nil .nil) (.node (o243 P) .nil .nil))) (.node (o44 P) (.node (o82 P) (.node (o161 P) .nil .nil) (.node (o227 P) .nil .nil)) (.node (o123 P) (.node (o193 P) .nil .nil) (.node (o259 P) .nil .nil)))) (.node (o14 P) (.node (o33 P) (.node (o74 P) (.node (o153 P) .nil .nil) (.node (o219 P) .nil .nil)) (.node (o112 P) (.node (o185 P) .nil .nil) (.node (o251 P) .nil .nil))) (.node (o52 P) (.node (o93 P) (.node (o169 P) .nil .nil) (.node (o235 P) .nil .nil)) (.node (o134 P) (.node (o203 P) .nil .nil) .nil)))) (.node (o0 P) (.node (o10 P) (.node (o29 P) (.node (o67 P) (.node (o149 P) .nil .nil) (.node (o215 P) .nil .nil)) (.node (o108 P) (.node (o181 P) .nil .nil) (.node (o247 P) .nil .nil))) (.node (o48 P) (.node (o89 P) (.node (o165 P) .nil .nil) (.node (o231 P) .nil .nil)) (.node (o127 P) (.node (o199 P) .nil .nil) (.node (o263 P) .nil .nil)))) (.node (o18 P) (.node (o37 P) (.node (o78 P) (.node (o157 P) .nil .nil) (.node (o223 P) .nil .nil)) (.node (o119 P) (.node (o189 P) .nil .nil) (.node (o255 P) .nil .nil))) (.node (o59 P) (.node (o97 P) (.node (o173 P) .nil .nil) (.node (o239 P) .nil .nil)) (.node (o138 P) (.node (o207 P) .nil .nil) .nil))))) (.node (boot_o_5 P) (.node (boot_o_9 P) (.node (o8 P) (.node (o24 P) (.node (o65 P) (.node (o144 P) .nil .nil) (.node (o213 P) .nil .nil)) (.node (o106 P) (.node (o179 P) .nil .nil) (.node (o245 P) .nil .nil))) (.node (o46 P) (.node (o84 P) (.node (o163 P) .nil .nil) (.node (o229 P) .nil .nil)) (.node (o125 P) (.node (o197 P) .nil .nil) (.node (o261 P) .nil .nil)))) (.node (o16 P) (.node (o35 P) (.node (o76 P) (.node (o155 P) .nil .nil) (.node (o221 P) .nil .nil)) (.node (o114 P) (.node (o187 P) .nil .nil) (.node (o253 P) .nil .nil))) (.node (o54 P) (.node (o95 P) (.node (o171 P) .nil .nil) (.node (o237 P) .nil .nil)) (.node (o136 P) (.node (o205 P) .nil .nil) .nil)))) (.node (o2 P) (.node (o12 P) (.node (o31 P) (.node (o69 P) (.node (o151 P) .nil .nil) (.node (o217 P) .nil .nil)) (.node (o110 P) (.node (o183 P) .nil .nil) (.node (o249 P) .nil .nil))) (.node (o50 P) (.node (o91 P) (.node (o167 P) .nil .nil) (.node (o233 P) .nil .nil)) (.node (o129 P) (.node (o201 P) .nil .nil) .nil))) (.node (o20 P) (.node (o39 P) (.node (o80 P) (.node (o159 P) .nil .nil) (.node (o225 P) .nil .nil)) (.node (o121 P) (.node (o191 P) .nil .nil) (.node (o257 P) .nil .nil))) (.node (o61 P) (.node (o99 P) (.node (o175 P) .nil .nil) (.node (o241 P) .nil .nil)) (.node (o140 P) (.node (o209 P) .nil .nil) .nil)))))) (.node (boot_o_2 P) (.node (boot_o_4 P) (.node (boot_o_8 P) (.node (o7 P) (.node (o23 P) (.node (o64 P) (.node (o143 P) .nil .nil) (.node (o212 P) .nil .nil)) (.node (o105 P) (.node (o178 P) .nil .nil) (.node (o244 P) .nil .nil))) (.node (o45 P) (.node (o83 P) (.node (o162 P) .nil .nil) (.node (o228 P) .nil .nil)) (.node (o124 P) (.node (o196 P) .nil .nil) (.node (o260 P) .nil .nil)))) (.node (o15 P) (.node (o34 P) (.node (o75 P) (.node (o154 P) .nil .nil) (.node (o220 P) .nil .nil)) (.node (o113 P) (.node (o186 P) .nil .nil) (.node (o252 P) .nil .nil))) (.node (o53 P) (.node (o94 P) (.node (o170 P) .nil .nil) (.node (o236 P) .nil .nil)) (.node (o135 P) (.node (o204 P) .nil .nil) .nil)))) (.node (o195 P) (.node (o11 P) (.node (o30 P) (.node (o68 P) (.node (o150 P) .nil .nil) (.node (o216 P) .nil .nil)) (.node (o109 P) (.node (o182 P) .nil .nil) (.node (o248 P) .nil .nil))) (.node (o49 P) (.node (o90 P) (.node (o166 P) .nil .nil) (.node (o232 P) .nil .nil)) (.node (o128 P) (.node (o200 P) .nil .nil) .nil))) (.node (o19 P) (.node (o38 P) (.node (o79 P) (.node (o158 P) .nil .nil) (.node (o224 P) .nil .nil)) (.node (o120 P) (.node (o190 P) .nil .nil) (.node (o256 P) .nil .nil))) (.node (o60 P) (.node (o98 P) (.node (o174 P) .nil .nil) (.node (o240 P) .nil .nil)) (.node (o139 P) (.node (o208 P) .nil .nil) .nil))))) (.node (boot_o_6 P) (.node (boot_o_10 P) (.node (o9 P) (.node (o25 P) (.node (o66 P) (.node (o145 P) .nil .nil) (.node (o214 P) .nil .nil)) (.node (o107 P) (.node (o180 P) .nil .nil) (.node (o246 P) .nil .nil))) (.node (o47 P) (.node (o85 P) (.node (o164 P) .nil .nil) (.node (o230 P) .nil .nil)) (.node (o126 P) (.node (o198 P) .nil .nil) (.node (o262 P) .nil .nil)))) (.node (o17 P) (.node (o36 P) (.node (o77 P) (.node (o156 P) .nil .nil) (.node (o222 P) .nil .nil)) (.node (o115 P) (.node (o188 P) .nil .nil) (.node (o254 P) .nil .nil))) (.node (o55 P) (.node (o96 P) (.node (o172 P) .nil .nil) (.node (o238 P) .nil .nil)) (.node (o137 P) (.node (o206 P) .nil .nil) .nil)))) (.node (o3 P) (.node (o13 P) (.node (o32 P) (.node (o70 P) (.node (o152 P) .nil .nil) (.node (o218 P) .nil .nil)) (.node (o111 P) (.node (o184 P) .nil .nil) (.node (o250 P) .nil .nil))) (.node (o51 P) (.node (o92 P) (.node (o168 P) .nil .nil) (.node (o234 P) .nil .nil)) (.node (o130 P) (.node (o202 P) .nil .nil) .nil))) (.node (o21 P) (.node (o40 P) (.node (o81 P) (.node (o160 P) .nil .nil) (.node (o226 P) .nil .nil)) (.node (o122 P) (.node (o192 P) .nil .nil) (.node (o258 P) .nil .nil))) (.node (o62 P) (.node (o100 P) (.node (o176 P) .nil .nil) (.node (o242 P) .nil .nil)) (.node (o141 P) (.node (o210 P) .nil .nil) .nil)))))))
noncomputable def S11 (w : World) (os : OsState) : SharedT := ⟨tr11 w.params, 244, ⟨[], [], [], 0, [], [], false, #[], [], 0, false, false, false, 0, [2000, 10, 10], false, 0, true, [], [], 0, false⟩, #[], ⟨0, 0, 0, 0⟩, 491, os⟩
noncomputable def ss10 : List Stmt := (bdQ.drop 21).take 1
noncomputable def o264 (P : Params) : Obj := ⟨(.type "dict"), Option.none, (.dict #[⟨(PyData.keyHash P "__name__"), (.str "__name__" 165), (.str "law_uf030027_10" 491)⟩, ⟨(PyData.keyHash P "__doc__"), (.str "__doc__" 166), .none⟩, ⟨(PyData.keyHash P "__package__"), (.str "__package__" 167), .none⟩, ⟨(PyData.keyHash P "__loader__"), (.str "__loader__" 168), (.builtin "__main__.__loader__#opaque")⟩, ⟨(PyData.keyHash P "__spec__"), (.str "__spec__" 169), .none⟩, ⟨(PyData.keyHash P "__annotations__"), (.str "__annotations__" 170), (.ref 6)⟩, ⟨(PyData.keyHash P "__builtins__"), (.str "__builtins__" 171), (.ref 4)⟩, ⟨(PyData.keyHash P "__file__"), (.str "__file__" 173), (.str "/claim/cut.py" 172)⟩, ⟨(PyData.keyHash P "__cached__"), (.str "__cached__" 174), .none⟩, ⟨(PyData.keyHash P "_wall"), (.str "_wall" 193), (.ref 21)⟩, ⟨(PyData.keyHash P "DebtError"), (.str "DebtError" 213), (.ref 31)⟩, ⟨(PyData.keyHash P "BadCount"), (.str "BadCount" 229), (.ref 44)⟩, ⟨(PyData.keyHash P "BadDebt"), (.str "BadDebt" 245), (.ref 56)⟩, ⟨(PyData.keyHash P "BadCut"), (.str "BadCut" 261), (.ref 68)⟩, ⟨(PyData.keyHash P "Uneven"), (.str "Uneven" 277), (.ref 80)⟩, ⟨(PyData.keyHash P "BadPrices"), (.str "BadPrices" 293), (.ref 92)⟩, ⟨(PyData.keyHash P "NotBest"), (.str "NotBest" 309), (.ref 104)⟩, ⟨(PyData.keyHash P "NoDebt"), (.str "NoDebt" 325), (.ref 116)⟩, ⟨(PyData.keyHash P "NoHouse"), (.str "NoHouse" 341), (.ref 128)⟩, ⟨(PyData.keyHash P "BadAmount"), (.str "BadAmount" 357), (.ref 140)⟩, ⟨(PyData.keyHash P "MOST_HOUSES"), (.str "MOST_HOUSES" 361), (.int 20 360)⟩, ⟨(PyData.keyHash P "MOST_OWED"), (.str "MOST_OWED" 363), (.int 1000000000 362)⟩, ⟨(PyData.keyHash P "is_number"), (.str "is_number" 370), (.ref 149)⟩, ⟨(PyData.keyHash P "need_count"), (.str "need_count" 377), (.ref 156)⟩, ⟨(PyData.keyHash P "is_house"), (.str "is_house" 385), (.ref 163)⟩, ⟨(PyData.keyHash P "need_debt"), (.str "need_debt" 393), (.ref 170)⟩, ⟨(PyData.keyHash P "balances"), (.str "balances" 399), (.ref 175)⟩, ⟨(PyData.keyHash P "Day"), (.str "Day" 490), (.ref 239)⟩, ⟨(PyData.keyHash P "_law_cell_at"), (.str "_law_cell_at" 500), (.ref 250)⟩, ⟨(PyData.keyHash P "_law_whole"), (.str "_law_whole" 507), (.ref 257)⟩, ⟨(PyData.keyHash P "_law_kind"), (.str "_law_kind" 515), (.ref 264)⟩, ⟨(PyData.keyHash P "_law_owed"), (.str "_law_owed" 533), (.ref 271)⟩, ⟨(PyData.keyHash P "_law_paid"), (.str "_law_paid" 548), (.ref 278)⟩, ⟨(PyData.keyHash P "_law_no_house"), (.str "_law_no_house" 557), (.ref 285)⟩, ⟨(PyData.keyHash P "_law_no_number"), (.str "_law_no_number" 566), (.ref 292)⟩, ⟨(PyData.keyHash P "_law_told"), (.str "_law_told" 572), (.ref 297)⟩, ⟨(PyData.keyHash P "_law_stands"), (.str "_law_stands" 578), (.ref 302)⟩, ⟨(PyData.keyHash P "_law_no_count"), (.str "_law_no_count" 586), (.ref 309)⟩, ⟨(PyData.keyHash P "law"), (.str "law" 592), (.ref 314)⟩] 39), #[]⟩
noncomputable def o265 (_ : Params) : Obj := ⟨.none, Option.none, (.fields #[(.int 1 0), (.int 0 0), (.ref 20), (.int 5 0), (.int 0 0), (.ref 27), (.int 7 0), (.int 0 0), (.ref 40), (.int 9 0), (.int 0 0), (.ref 52), (.int 11 0), (.int 0 0), (.ref 64), (.int 13 0), (.int 0 0), (.ref 76), (.int 15 0), (.int 0 0), (.ref 88), (.int 17 0), (.int 0 0), (.ref 100), (.int 19 0), (.int 0 0), (.ref 112), (.int 21 0), (.int 0 0), (.ref 124), (.int 23 0), (.int 0 0), (.ref 136), (.int 28 0), (.int 0 0), (.ref 148), (.int 30 0), (.int 0 0), (.ref 155), (.int 33 0), (.int 0 0), (.ref 162), (.int 35 0), (.int 0 0), (.ref 169), (.int 42 0), (.int 0 0), (.ref 174), (.int 49 0), (.int 0 0), (.ref 181), (.int 94 0), (.int 0 0), (.ref 249), (.int 98 0), (.int 0 0), (.ref 256), (.int 100 0), (.int 0 0), (.ref 263), (.int 123 0), (.int 0 0), (.ref 270), (.int 145 0), (.int 0 0), (.ref 277), (.int 166 0), (.int 0 0), (.ref 284), (.int 172 0), (.int 0 0), (.ref 291), (.int 178 0), (.int 0 0), (.ref 296), (.int 198 0), (.int 0 0), (.ref 301), (.int 201 0), (.int 0 0), (.ref 308), (.int 207 0), (.int 0 0), (.ref 313)]), #[]⟩
noncomputable def o266 (_ : Params) : Obj := ⟨(.type "tuple"), Option.none, (.seq #[] 0), #[]⟩
noncomputable def o267 (_ : Params) : Obj := ⟨.none, Option.none, (.fields #[]), #[]⟩
noncomputable def o268 (_ : Params) : Obj := ⟨(.type "tuple"), Option.none, (.seq #[(.str "_law_script" 496), (.str "_law_k" 497)] 0), #[]⟩
noncomputable def o269 (_ : Params) : Obj := ⟨(.type "tuple"), Option.none, (.seq #[] 0), #[]⟩
noncomputable def o270 (_ : Params) : Obj := ⟨.none, Option.none, (.func ⟨"_law_cell_at", "_law_cell_at", (fnA (fnS 23)), (.stmts (fnB (fnS 23))), (fnC (fnS 23)), 0, [], .none, .none, .none, .none, Option.none, .none, .none, 0⟩), #[]⟩
noncomputable def o271 (_ : Params) : Obj := ⟨(.type "code"), Option.none, (.fields #[(.str "_law_cell_at" 493), (.str "_law_cell_at" 494), (.str "/claim/cut.py" 495), (.int 94 0), (.int 2 0), (.int 0 0), (.int 0 0), (.int 3 0), (.ref 244), (.bool true), (.int 181 0), (.ref 245), .none, (.ref 246), (.ref 247), (.ref 248), (.int 498 0), (.int 94 0), (.str "/claim/cut.py" 499)]), #[]⟩
noncomputable def o272 (_ : Params) : Obj := ⟨(.type "function"), Option.none, (.func ⟨"_law_cell_at", "_law_cell_at", (fnA (fnS 23)), (.stmts (fnB (fnS 23))), (fnC (fnS 23)), 3, [], .none, .none, .none, (.str "law_uf030027_10" 491), Option.none, (.ref 249), .none, 0⟩), #[]⟩
noncomputable def o273 (_ : Params) : Obj := ⟨(.type "tuple"), Option.none, (.seq #[] 0), #[]⟩
noncomputable def o274 (_ : Params) : Obj := ⟨.none, Option.none, (.fields #[]), #[]⟩
noncomputable def o275 (_ : Params) : Obj := ⟨(.type "tuple"), Option.none, (.seq #[(.str "_law_found" 504)] 0), #[]⟩
noncomputable def o276 (_ : Params) : Obj := ⟨(.type "tuple"), Option.none, (.seq #[] 0), #[]⟩
noncomputable def o277 (_ : Params) : Obj := ⟨.none, Option.none, (.func ⟨"_law_whole", "_law_whole", (fnA (fnS 24)), (.stmts (fnB (fnS 24))), (fnC (fnS 24)), 0, [], .none, .none, .none, .none, Option.none, .none, .none, 0⟩), #[]⟩
noncomputable def o278 (_ : Params) : Obj := ⟨(.type "code"), Option.none, (.fields #[(.str "_law_whole" 501), (.str "_law_whole" 502), (.str "/claim/cut.py" 503), (.int 98 0), (.int 1 0), (.int 0 0), (.int 0 0), (.int 3 0), (.ref 251), (.bool true), (.int 181 0), (.ref 252), .none, (.ref 253), (.ref 254), (.ref 255), (.int 505 0), (.int 98 0), (.str "/claim/cut.py" 506)]), #[]⟩
noncomputable def o279 (_ : Params) : Obj := ⟨(.type "function"), Option.none, (.func ⟨"_law_whole", "_law_whole", (fnA (fnS 24)), (.stmts (fnB (fnS 24))), (fnC (fnS 24)), 3, [], .none, .none, .none, (.str "law_uf030027_10" 491), Option.none, (.ref 256), .none, 0⟩), #[]⟩
noncomputable def o280 (_ : Params) : Obj := ⟨(.type "tuple"), Option.none, (.seq #[] 0), #[]⟩
noncomputable def o281 (_ : Params) : Obj := ⟨.none, Option.none, (.fields #[]), #[]⟩
noncomputable def o282 (_ : Params) : Obj := ⟨(.type "tuple"), Option.none, (.seq #[(.str "_law_error" 511), (.str "_law_words" 512)] 0), #[]⟩
noncomputable def o283 (_ : Params) : Obj := ⟨(.type "tuple"), Option.none, (.seq #[] 0), #[]⟩
noncomputable def o284 (_ : Params) : Obj := ⟨.none, Option.none, (.func ⟨"_law_kind", "_law_kind", (fnA (fnS 25)), (.stmts (fnB (fnS 25))), (fnC (fnS 25)), 0, [], .none, .none, .none, .none, Option.none, .none, .none, 0⟩), #[]⟩
noncomputable def o285 (_ : Params) : Obj := ⟨(.type "code"), Option.none, (.fields #[(.str "_law_kind" 508), (.str "_law_kind" 509), (.str "/claim/cut.py" 510), (.int 100 0), (.int 1 0), (.int 0 0), (.int 0 0), (.int 3 0), (.ref 258), (.bool true), (.int 181 0), (.ref 259), .none, (.ref 260), (.ref 261), (.ref 262), (.int 513 0), (.int 100 0), (.str "/claim/cut.py" 514)]), #[]⟩
noncomputable def o286 (_ : Params) : Obj := ⟨(.type "function"), Option.none, (.func ⟨"_law_kind", "_law_kind", (fnA (fnS 25)), (.stmts (fnB (fnS 25))), (fnC (fnS 25)), 3, [], .none, .none, .none, (.str "law_uf030027_10" 491), Option.none, (.ref 263), .none, 0⟩), #[]⟩
noncomputable def o287 (_ : Params) : Obj := ⟨(.type "tuple"), Option.none, (.seq #[] 0), #[]⟩
noncomputable def o288 (_ : Params) : Obj := ⟨.none, Option.none, (.fields #[]), #[]⟩
noncomputable def o289 (_ : Params) : Obj := ⟨(.type "tuple"), Option.none, (.seq #[(.str "_law_day" 519), (.str "_law_rows" 520), (.str "_law_count" 521), (.str "_law_cell" 522), (.str "_law_debtor" 523), (.str "_law_creditor" 524), (.str "_law_amount" 525), (.str "_law_due" 526), (.str "_law_far" 527), (.str "_law_odd" 528), (.str "_law_found" 529), (.str "_law_error" 530)] 0), #[]⟩
noncomputable def o290 (_ : Params) : Obj := ⟨(.type "tuple"), Option.none, (.seq #[] 0), #[]⟩
noncomputable def o291 (_ : Params) : Obj := ⟨.none, Option.none, (.func ⟨"_law_owed", "_law_owed", (fnA (fnS 26)), (.stmts (fnB (fnS 26))), (fnC (fnS 26)), 0, [], .none, .none, .none, .none, Option.none, .none, .none, 0⟩), #[]⟩
noncomputable def o292 (_ : Params) : Obj := ⟨(.type "code"), Option.none, (.fields #[(.str "_law_owed" 516), (.str "_law_owed" 517), (.str "/claim/cut.py" 518), (.int 123 0), (.int 4 0), (.int 0 0), (.int 0 0), (.int 3 0), (.ref 265), (.bool true), (.int 181 0), (.ref 266), .none, (.ref 267), (.ref 268), (.ref 269), (.int 531 0), (.int 123 0), (.str "/claim/cut.py" 532)]), #[]⟩
noncomputable def o293 (_ : Params) : Obj := ⟨(.type "function"), Option.none, (.func ⟨"_law_owed", "_law_owed", (fnA (fnS 26)), (.stmts (fnB (fnS 26))), (fnC (fnS 26)), 3, [], .none, .none, .none, (.str "law_uf030027_10" 491), Option.none, (.ref 270), .none, 0⟩), #[]⟩
noncomputable def o294 (_ : Params) : Obj := ⟨(.type "tuple"), Option.none, (.seq #[] 0), #[]⟩
noncomputable def o295 (_ : Params) : Obj := ⟨.none, Option.none, (.fields #[]), #[]⟩
noncomputable def o296 (_ : Params) : Obj := ⟨(.type "tuple"), Option.none, (.seq #[(.str "_law_day" 537), (.str "_law_rows" 538), (.str "_law_cell" 539), (.str "_law_number" 540), (.str "_law_much" 541), (.str "_law_amount" 542), (.str "_law_due" 543), (.str "_law_found" 544), (.str "_law_error" 545)] 0), #[]⟩
noncomputable def o297 (_ : Params) : Obj := ⟨(.type "tuple"), Option.none, (.seq #[] 0), #[]⟩
noncomputable def o298 (_ : Params) : Obj := ⟨.none, Option.none, (.func ⟨"_law_paid", "_law_paid", (fnA (fnS 27)), (.stmts (fnB (fnS 27))), (fnC (fnS 27)), 0, [], .none, .none, .none, .none, Option.none, .none, .none, 0⟩), #[]⟩
noncomputable def o299 (_ : Params) : Obj := ⟨(.type "code"), Option.none, (.fields #[(.str "_law_paid" 534), (.str "_law_paid" 535), (.str "/claim/cut.py" 536), (.int 145 0), (.int 3 0), (.int 0 0), (.int 0 0), (.int 3 0), (.ref 272), (.bool true), (.int 181 0), (.ref 273), .none, (.ref 274), (.ref 275), (.ref 276), (.int 546 0), (.int 145 0), (.str "/claim/cut.py" 547)]), #[]⟩
noncomputable def o300 (_ : Params) : Obj := ⟨(.type "function"), Option.none, (.func ⟨"_law_paid", "_law_paid", (fnA (fnS 27)), (.stmts (fnB (fnS 27))), (fnC (fnS 27)), 3, [], .none, .none, .none, (.str "law_uf030027_10" 491), Option.none, (.ref 277), .none, 0⟩), #[]⟩
noncomputable def o301 (_ : Params) : Obj := ⟨(.type "tuple"), Option.none, (.seq #[] 0), #[]⟩
noncomputable def o302 (_ : Params) : Obj := ⟨.none, Option.none, (.fields #[]), #[]⟩
noncomputable def o303 (_ : Params) : Obj := ⟨(.type "tuple"), Option.none, (.seq #[(.str "_law_day" 552), (.str "_law_house" 553), (.str "_law_error" 554)] 0), #[]⟩
noncomputable def o304 (_ : Params) : Obj := ⟨(.type "tuple"), Option.none, (.seq #[] 0), #[]⟩
noncomputable def o305 (_ : Params) : Obj := ⟨.none, Option.none, (.func ⟨"_law_no_house", "_law_no_house", (fnA (fnS 28)), (.stmts (fnB (fnS 28))), (fnC (fnS 28)), 0, [], .none, .none, .none, .none, Option.none, .none, .none, 0⟩), #[]⟩
noncomputable def o306 (_ : Params) : Obj := ⟨(.type "code"), Option.none, (.fields #[(.str "_law_no_house" 549), (.str "_law_no_house" 550), (.str "/claim/cut.py" 551), (.int 166 0), (.int 2 0), (.int 0 0), (.int 0 0), (.int 3 0), (.ref 279), (.bool true), (.int 181 0), (.ref 280), .none, (.ref 281), (.ref 282), (.ref 283), (.int 555 0), (.int 166 0), (.str "/claim/cut.py" 556)]), #[]⟩
noncomputable def o307 (_ : Params) : Obj := ⟨(.type "function"), Option.none, (.func ⟨"_law_no_house", "_law_no_house", (fnA (fnS 28)), (.stmts (fnB (fnS 28))), (fnC (fnS 28)), 3, [], .none, .none, .none, (.str "law_uf030027_10" 491), Option.none, (.ref 284), .none, 0⟩), #[]⟩
noncomputable def o308 (_ : Params) : Obj := ⟨(.type "tuple"), Option.none, (.seq #[] 0), #[]⟩
noncomputable def o309 (_ : Params) : Obj := ⟨.none, Option.none, (.fields #[]), #[]⟩
noncomputable def o310 (_ : Params) : Obj := ⟨(.type "tuple"), Option.none, (.seq #[(.str "_law_day" 561), (.str "_law_number" 562), (.str "_law_error" 563)] 0), #[]⟩
noncomputable def o311 (_ : Params) : Obj := ⟨(.type "tuple"), Option.none, (.seq #[] 0), #[]⟩
noncomputable def o312 (_ : Params) : Obj := ⟨.none, Option.none, (.func ⟨"_law_no_number", "_law_no_number", (fnA (fnS 29)), (.stmts (fnB (fnS 29))), (fnC (fnS 29)), 0, [], .none, .none, .none, .none, Option.none, .none, .none, 0⟩), #[]⟩
noncomputable def o313 (_ : Params) : Obj := ⟨(.type "code"), Option.none, (.fields #[(.str "_law_no_number" 558), (.str "_law_no_number" 559), (.str "/claim/cut.py" 560), (.int 172 0), (.int 2 0), (.int 0 0), (.int 0 0), (.int 3 0), (.ref 286), (.bool true), (.int 181 0), (.ref 287), .none, (.ref 288), (.ref 289), (.ref 290), (.int 564 0), (.int 172 0), (.str "/claim/cut.py" 565)]), #[]⟩
noncomputable def o314 (_ : Params) : Obj := ⟨(.type "function"), Option.none, (.func ⟨"_law_no_number", "_law_no_number", (fnA (fnS 29)), (.stmts (fnB (fnS 29))), (fnC (fnS 29)), 3, [], .none, .none, .none, (.str "law_uf030027_10" 491), Option.none, (.ref 291), .none, 0⟩), #[]⟩
noncomputable def o315 (_ : Params) : Obj := ⟨(.type "tuple"), Option.none, (.seq #[] 0), #[]⟩
noncomputable def o316 (_ : Params) : Obj := ⟨.none, Option.none, (.fields #[]), #[]⟩
noncomputable def o317 (_ : Params) : Obj := ⟨.none, Option.none, (.func ⟨"_law_told", "_law_told", (fnA (fnS 30)), (.stmts (fnB (fnS 30))), (fnC (fnS 30)), 0, [], .none, .none, .none, .none, Option.none, .none, .none, 0⟩), #[]⟩
noncomputable def o318 (_ : Params) : Obj := ⟨(.type "code"), Option.none, (.fields #[(.str "_law_told" 567), (.str "_law_told" 568), (.str "/claim/cut.py" 569), (.int 178 0), (.int 4 0), (.int 0 0), (.int 0 0), (.int 3 0), (.ref 293), (.bool true), (.int 181 0), (.ref 294), .none, .none, .none, (.ref 295), (.int 570 0), (.int 178 0), (.str "/claim/cut.py" 571)]), #[]⟩
noncomputable def o319 (_ : Params) : Obj := ⟨(.type "function"), Option.none, (.func ⟨"_law_told", "_law_told", (fnA (fnS 30)), (.stmts (fnB (fnS 30))), (fnC (fnS 30)), 3, [], .none, .none, .none, (.str "law_uf030027_10" 491), Option.none, (.ref 296), .none, 0⟩), #[]⟩
noncomputable def o320 (_ : Params) : Obj := ⟨(.type "tuple"), Option.none, (.seq #[] 0), #[]⟩
noncomputable def o321 (_ : Params) : Obj := ⟨.none, Option.none, (.fields #[]), #[]⟩
noncomputable def o322 (_ : Params) : Obj := ⟨.none, Option.none, (.func ⟨"_law_stands", "_law_stands", (fnA (fnS 31)), (.stmts (fnB (fnS 31))), (fnC (fnS 31)), 0, [], .none, .none, .none, .none, Option.none, .none, .none, 0⟩), #[]⟩
noncomputable def o323 (_ : Params) : Obj := ⟨(.type "code"), Option.none, (.fields #[(.str "_law_stands" 573), (.str "_law_stands" 574), (.str "/claim/cut.py" 575), (.int 198 0), (.int 4 0), (.int 0 0), (.int 0 0), (.int 3 0), (.ref 298), (.bool true), (.int 181 0), (.ref 299), .none, .none, .none, (.ref 300), (.int 576 0), (.int 198 0), (.str "/claim/cut.py" 577)]), #[]⟩
noncomputable def o324 (_ : Params) : Obj := ⟨(.type "function"), Option.none, (.func ⟨"_law_stands", "_law_stands", (fnA (fnS 31)), (.stmts (fnB (fnS 31))), (fnC (fnS 31)), 3, [], .none, .none, .none, (.str "law_uf030027_10" 491), Option.none, (.ref 301), .none, 0⟩), #[]⟩
noncomputable def o325 (_ : Params) : Obj := ⟨(.type "tuple"), Option.none, (.seq #[] 0), #[]⟩
noncomputable def o326 (_ : Params) : Obj := ⟨.none, Option.none, (.fields #[]), #[]⟩
noncomputable def o327 (_ : Params) : Obj := ⟨(.type "tuple"), Option.none, (.seq #[(.str "_law_cell" 582), (.str "_law_error" 583)] 0), #[]⟩
noncomputable def o328 (_ : Params) : Obj := ⟨(.type "tuple"), Option.none, (.seq #[] 0), #[]⟩
noncomputable def o329 (_ : Params) : Obj := ⟨.none, Option.none, (.func ⟨"_law_no_count", "_law_no_count", (fnA (fnS 32)), (.stmts (fnB (fnS 32))), (fnC (fnS 32)), 0, [], .none, .none, .none, .none, Option.none, .none, .none, 0⟩), #[]⟩
noncomputable def o330 (_ : Params) : Obj := ⟨(.type "code"), Option.none, (.fields #[(.str "_law_no_count" 579), (.str "_law_no_count" 580), (.str "/claim/cut.py" 581), (.int 201 0), (.int 1 0), (.int 0 0), (.int 0 0), (.int 3 0), (.ref 303), (.bool true), (.int 181 0), (.ref 304), .none, (.ref 305), (.ref 306), (.ref 307), (.int 584 0), (.int 201 0), (.str "/claim/cut.py" 585)]), #[]⟩
noncomputable def o331 (_ : Params) : Obj := ⟨(.type "function"), Option.none, (.func ⟨"_law_no_count", "_law_no_count", (fnA (fnS 32)), (.stmts (fnB (fnS 32))), (fnC (fnS 32)), 3, [], .none, .none, .none, (.str "law_uf030027_10" 491), Option.none, (.ref 308), .none, 0⟩), #[]⟩
noncomputable def o332 (_ : Params) : Obj := ⟨(.type "tuple"), Option.none, (.seq #[] 0), #[]⟩
noncomputable def o333 (_ : Params) : Obj := ⟨.none, Option.none, (.fields #[]), #[]⟩
noncomputable def o334 (_ : Params) : Obj := ⟨.none, Option.none, (.func ⟨"law", "law", (fnA (fnS 33)), (.stmts (fnB (fnS 33))), (fnC (fnS 33)), 0, [], .none, .none, .none, .none, Option.none, .none, .none, 0⟩), #[]⟩
noncomputable def o335 (_ : Params) : Obj := ⟨(.type "code"), Option.none, (.fields #[(.str "law" 587), (.str "law" 588), (.str "/claim/cut.py" 589), (.int 207 0), (.int 1 0), (.int 0 0), (.int 0 0), (.int 3 0), (.ref 310), (.bool true), (.int 181 0), (.ref 311), .none, .none, .none, (.ref 312), (.int 590 0), (.int 207 0), (.str "/claim/cut.py" 591)]), #[]⟩
noncomputable def o336 (_ : Params) : Obj := ⟨(.type "function"), Option.none, (.func ⟨"law", "law", (fnA (fnS 33)), (.stmts (fnB (fnS 33))), (fnC (fnS 33)), 3, [], .none, .none, .none, (.str "law_uf030027_10" 491), Option.none, (.ref 313), .none, 0⟩), #[]⟩
noncomputable def tr12 (P : Params) : BT := (.node (boot_o_0 P) (.node (boot_o_1 P) (.node (o264 P) (.node (boot_o_7 P) (.node (o6 P) (.node (o148 P) (.node (o63 P) (.node (o142 P) (.node (o277 P) .nil .nil) .nil) (.node (o211 P) .nil .nil)) (.node (o104 P) (.node (o177 P) (.node (o309 P) .nil .nil) .nil) (.node (o243 P) .nil .nil))) (.node (o44 P) (.node (o82 P) (.node (o161 P) (.node (o293 P) .nil .nil) .nil) (.node (o227 P) .nil .nil)) (.node (o123 P) (.node (o193 P) (.node (o325 P) .nil .nil) .nil) (.node (o259 P) .nil .nil)))) (.node (o14 P) (.node (o33 P) (.node (o74 P) (.node (o153 P) (.node (o285 P) .nil .nil) .nil) (.node (o219 P) .nil .nil)) (.node (o112 P) (.node (o185 P) (.node (o317 P) .nil .nil) .nil) (.node (o251 P) .nil .nil))) (.node (o52 P) (.node (o93 P) (.node (o169 P) (.node (o301 P) .nil .nil) .nil) (.node (o235 P) .nil .nil)) (.node (o134 P) (.node (o203 P) (.node (o333 P) .nil .nil) .nil) (.node (o269 P) .nil .nil))))) (.node (o0 P) (.node (o10 P) (.node (o29 P) (.node (o67 P) (.node (o149 P) (.node (o281 P) .nil .nil) .nil) (.node (o215 P) .nil .nil)) (.node (o108 P) (.node (o181 P) (.node (o313 P) .nil .nil) .nil) (.node (o247 P) .nil .nil))) (.node (o48 P) (.node (o89 P) (.node (o165 P) (.node (o297 P) .nil .nil) .nil) (.node (o231 P) .nil .nil)) (.node (o127 P) (.node (o199 P) (.node (o329 P) .nil .nil) .nil) (.node (o263 P) .nil .nil)))) (.node (o18 P) (.node (o37 P) (.node (o78 P) (.node (o157 P) (.node (o289 P) .nil .nil) .nil) (.node (o223 P) .nil .nil)) (.node (o119 P) (.node (o189 P) (.node (o321 P) .nil .nil) .nil) (.node (o255 P) .nil .nil))) (.node (o59 P) (.node (o97 P) (.node (o173 P) (.node (o305 P) .nil .nil) .nil) (.node (o239 P) .nil .nil)) (.node (o138 P) (.node (o207 P) .nil .nil) (.node (o273 P) .nil .nil)))))) (.node (boot_o_5 P) (.node (boot_o_9 P) (.node (o8 P) (.node (o24 P) (.node (o65 P) (.node (o144 P) (.node (o279 P) .nil .nil) .nil) (.node (o213 P) .nil .nil)) (.node (o106 P) (.node (o179 P) (.node (o311 P) .nil .nil) .nil) (.node (o245 P) .nil .nil))) (.node (o46 P) (.node (o84 P) (.node (o163 P) (.node (o295 P) .nil .nil) .nil) (.node (o229 P) .nil .nil)) (.node (o125 P) (.node (o197 P) (.node (o327 P) .nil .nil) .nil) (.node (o261 P) .nil .nil)))) (.node (o16 P) (.node (o35 P) (.node (o76 P) (.node (o155 P) (.node (o287 P) .nil .nil) .nil) (.node (o221 P) .nil .nil)) (.node (o114 P) (.node (o187 P) (.node (o319 P) .nil .nil) .nil) (.node (o253 P) .nil .nil))) (.node (o54 P) (.node (o95 P) (.node (o171 P) (.node (o303 P) .nil .nil) .nil) (.node (o237 P) .nil .nil)) (.node (o136 P) (.node (o205 P) (.node (o335 P) .nil .nil) .nil) (.node (o271 P) .nil .nil))))) (.node (o2 P) (.node (o12 P) (.node (o31 P) (.node (o69 P) (.node (o151 P) (.node (o283 P) .nil .nil) .nil) (.node (o217 P) .nil .nil)) (.node (o110 P) (.node (o183 P) (.node (o315 P) .nil .nil) .nil) (.node (o249 P) .nil .nil))) (.node (o50 P) (.node (o91 P) (.node (o167 P) (.node (o299 P) .nil .nil) .nil) (.node (o233 P) .nil .nil)) (.node (o129 P) (.node (o201 P) (.node (o331 P) .nil .nil) .nil) (.node (o267 P) .nil .nil)))) (.node (o20 P) (.node (o39 P) (.node (o80 P) (.node (o159 P) (.node (o291 P) .nil .nil) .nil) (.node (o225 P) .nil .nil)) (.node (o121 P) (.node (o191 P) (.node (o323 P) .nil .nil) .nil) (.node (o257 P) .nil .nil))) (.node (o61 P) (.node (o99 P) (.node (o175 P) (.node (o307 P) .nil .nil) .nil) (.node (o241 P) .nil .nil)) (.node (o140 P) (.node (o209 P) .nil .nil) (.node (o275 P) .nil .nil))))))) (.node (boot_o_2 P) (.node (boot_o_4 P) (.node (boot_o_8 P) (.node (o7 P) (.node (o23 P) (.node (o64 P) (.node (o143 P) (.node (o278 P) .nil .nil) .nil) (.node (o212 P) .nil .nil)) (.node (o105 P) (.node (o178 P) (.node (o310 P) .nil .nil) .nil) (.node (o244 P) .nil .nil))) (.node (o45 P) (.node (o83 P) (.node (o162 P) (.node (o294 P) .nil .nil) .nil) (.node (o228 P) .nil .nil)) (.node (o124 P) (.node (o196 P) (.node (o326 P) .nil .nil) .nil) (.node (o260 P) .nil .nil)))) (.node (o15 P) (.node (o34 P) (.node (o75 P) (.node (o154 P) (.node (o286 P) .nil .nil) .nil) (.node (o220 P) .nil .nil)) (.node (o113 P) (.node (o186 P) (.node (o318 P) .nil .nil) .nil) (.node (o252 P) .nil .nil))) (.node (o53 P) (.node (o94 P) (.node (o170 P) (.node (o302 P) .nil .nil) .nil) (.node (o236 P) .nil .nil)) (.node (o135 P) (.node (o204 P) (.node (o334 P) .nil .nil) .nil) (.node (o270 P) .nil .nil))))) (.node (o265 P) (.node (o11 P) (.node (o30 P) (.node (o68 P) (.node (o150 P) (.node (o282 P) .nil .nil) .nil) (.node (o216 P) .nil .nil)) (.node (o109 P) (.node (o182 P) (.node (o314 P) .nil .nil) .nil) (.node (o248 P) .nil .nil))) (.node (o49 P) (.node (o90 P) (.node (o166 P) (.node (o298 P) .nil .nil) .nil) (.node (o232 P) .nil .nil)) (.node (o128 P) (.node (o200 P) (.node (o330 P) .nil .nil) .nil) (.node (o266 P) .nil .nil)))) (.node (o19 P) (.node (o38 P) (.node (o79 P) (.node (o158 P) (.node (o290 P) .nil .nil) .nil) (.node (o224 P) .nil .nil)) (.node (o120 P) (.node (o190 P) (.node (o322 P) .nil .nil) .nil) (.node (o256 P) .nil .nil))) (.node (o60 P) (.node (o98 P) (.node (o174 P) (.node (o306 P) .nil .nil) .nil) (.node (o240 P) .nil .nil)) (.node (o139 P) (.node (o208 P) .nil .nil) (.node (o274 P) .nil .nil)))))) (.node (boot_o_6 P) (.node (boot_o_10 P) (.node (o9 P) (.node (o25 P) (.node (o66 P) (.node (o145 P) (.node (o280 P) .nil .nil) .nil) (.node (o214 P) .nil .nil)) (.node (o107 P) (.node (o180 P) (.node (o312 P) .nil .nil) .nil) (.node (o246 P) .nil .nil))) (.node (o47 P) (.node (o85 P) (.node (o164 P) (.node (o296 P) .nil .nil) .nil) (.node (o230 P) .nil .nil)) (.node (o126 P) (.node (o198 P) (.node (o328 P) .nil .nil) .nil) (.node (o262 P) .nil .nil)))) (.node (o17 P) (.node (o36 P) (.node (o77 P) (.node (o156 P) (.node (o288 P) .nil .nil) .nil) (.node (o222 P) .nil .nil)) (.node (o115 P) (.node (o188 P) (.node (o320 P) .nil .nil) .nil) (.node (o254 P) .nil .nil))) (.node (o55 P) (.node (o96 P) (.node (o172 P) (.node (o304 P) .nil .nil) .nil) (.node (o238 P) .nil .nil)) (.node (o137 P) (.node (o206 P) (.node (o336 P) .nil .nil) .nil) (.node (o272 P) .nil .nil))))) (.node (o3 P) (.node (o13 P) (.node (o32 P) (.node (o70 P) (.node (o152 P) (.node (o284 P) .nil .nil) .nil) (.node (o218 P) .nil .nil)) (.node (o111 P) (.node (o184 P) (.node (o316 P) .nil .nil) .nil) (.node (o250 P) .nil .nil))) (.node (o51 P) (.node (o92 P) (.node (o168 P) (.node (o300 P) .nil .nil) .nil) (.node (o234 P) .nil .nil)) (.node (o130 P) (.node (o202 P) (.node (o332 P) .nil .nil) .nil) (.node (o268 P) .nil .nil)))) (.node (o21 P) (.node (o40 P) (.node (o81 P) (.node (o160 P) (.node (o292 P) .nil .nil) .nil) (.node (o226 P) .nil .nil)) (.node (o122 P) (.node (o192 P) (.node (o324 P) .nil .nil) .nil) (.node (o258 P) .nil .nil))) (.node (o62 P) (.node (o100 P) (.node (o176 P) (.node (o308 P) .nil .nil) .nil) (.node (o242 P) .nil .nil)) (.node (o141 P) (.node (o210 P) .nil .nil) (.node (o276 P) .nil .nil))))))))
noncomputable def S12 (w : World) (os : OsState) : SharedT := ⟨tr12 w.params, 315, ⟨[], [], [], 0, [], [], false, #[], [], 0, false, false, false, 0, [2000, 10, 10], false, 0, true, [], [], 0, false⟩, #[], ⟨0, 0, 0, 0⟩, 593, os⟩
noncomputable def ss11 : List Stmt := (bdQ.drop 22).take 12
noncomputable def hpZ (P : Params) : Heap := ⟨#[boot_o_0 P, boot_o_1 P, boot_o_2 P, o264 P, boot_o_4 P, boot_o_5 P, boot_o_6 P, boot_o_7 P, boot_o_8 P, boot_o_9 P, boot_o_10 P, o0 P, o265 P, o2 P, o3 P, o6 P, o7 P, o8 P, o9 P, o10 P, o11 P, o12 P, o13 P, o14 P, o15 P, o16 P, o17 P, o18 P, o19 P, o20 P, o21 P, o148 P, o23 P, o24 P, o25 P, o29 P, o30 P, o31 P, o32 P, o33 P, o34 P, o35 P, o36 P, o37 P, o38 P, o39 P, o40 P, o44 P, o45 P, o46 P, o47 P, o48 P, o49 P, o50 P, o51 P, o52 P, o53 P, o54 P, o55 P, o59 P, o60 P, o61 P, o62 P, o63 P, o64 P, o65 P, o66 P, o67 P, o68 P, o69 P, o70 P, o74 P, o75 P, o76 P, o77 P, o78 P, o79 P, o80 P, o81 P, o82 P, o83 P, o84 P, o85 P, o89 P, o90 P, o91 P, o92 P, o93 P, o94 P, o95 P, o96 P, o97 P, o98 P, o99 P, o100 P, o104 P, o105 P, o106 P, o107 P, o108 P, o109 P, o110 P, o111 P, o112 P, o113 P, o114 P, o115 P, o119 P, o120 P, o121 P, o122 P, o123 P, o124 P, o125 P, o126 P, o127 P, o128 P, o129 P, o130 P, o134 P, o135 P, o136 P, o137 P, o138 P, o139 P, o140 P, o141 P, o142 P, o143 P, o144 P, o145 P, o149 P, o150 P, o151 P, o152 P, o153 P, o154 P, o155 P, o156 P, o157 P, o158 P, o159 P, o160 P, o161 P, o162 P, o163 P, o164 P, o165 P, o166 P, o167 P, o168 P, o169 P, o170 P, o171 P, o172 P, o173 P, o174 P, o175 P, o176 P, o177 P, o178 P, o179 P, o180 P, o181 P, o182 P, o183 P, o184 P, o185 P, o186 P, o187 P, o188 P, o189 P, o190 P, o191 P, o192 P, o193 P, o196 P, o197 P, o198 P, o199 P, o200 P, o201 P, o202 P, o203 P, o204 P, o205 P, o206 P, o207 P, o208 P, o209 P, o210 P, o211 P, o212 P, o213 P, o214 P, o215 P, o216 P, o217 P, o218 P, o219 P, o220 P, o221 P, o222 P, o223 P, o224 P, o225 P, o226 P, o227 P, o228 P, o229 P, o230 P, o231 P, o232 P, o233 P, o234 P, o235 P, o236 P, o237 P, o238 P, o239 P, o240 P, o241 P, o242 P, o243 P, o244 P, o245 P, o246 P, o247 P, o248 P, o249 P, o250 P, o251 P, o252 P, o253 P, o254 P, o255 P, o256 P, o257 P, o258 P, o259 P, o260 P, o261 P, o262 P, o263 P, o266 P, o267 P, o268 P, o269 P, o270 P, o271 P, o272 P, o273 P, o274 P, o275 P, o276 P, o277 P, o278 P, o279 P, o280 P, o281 P, o282 P, o283 P, o284 P, o285 P, o286 P, o287 P, o288 P, o289 P, o290 P, o291 P, o292 P, o293 P, o294 P, o295 P, o296 P, o297 P, o298 P, o299 P, o300 P, o301 P, o302 P, o303 P, o304 P, o305 P, o306 P, o307 P, o308 P, o309 P, o310 P, o311 P, o312 P, o313 P, o314 P, o315 P, o316 P, o317 P, o318 P, o319 P, o320 P, o321 P, o322 P, o323 P, o324 P, o325 P, o326 P, o327 P, o328 P, o329 P, o330 P, o331 P, o332 P, o333 P, o334 P, o335 P, o336 P], ⟨[], [], [], 0, [], [], false, #[], [], 0, false, false, false, 0, [2000, 10, 10], false, 0, true, [], [], 0, false⟩⟩
noncomputable def K10 (P : Params) : Frag := [(3, o264 P), (30, o21 P), (31, o148 P), (43, o37 P), (44, o38 P), (55, o52 P), (56, o53 P), (67, o67 P), (68, o68 P), (79, o82 P), (80, o83 P), (91, o97 P), (92, o98 P), (103, o112 P), (104, o113 P), (115, o127 P), (116, o128 P), (127, o142 P), (128, o143 P), (139, o157 P), (140, o158 P), (187, o207 P), (188, o208 P), (189, o209 P), (194, o214 P), (195, o215 P), (196, o216 P), (201, o221 P), (202, o222 P), (203, o223 P), (208, o228 P), (209, o229 P), (210, o230 P), (215, o235 P), (216, o236 P), (217, o237 P), (222, o242 P), (223, o243 P), (224, o244 P), (227, o247 P), (228, o248 P), (229, o249 P), (234, o254 P), (235, o255 P), (236, o256 P), (238, o258 P), (239, o259 P)]
noncomputable def as10 : List Addr := [3, 30, 31, 43, 44, 55, 56, 67, 68, 79, 80, 91, 92, 103, 104, 115, 116, 127, 128, 139, 140, 187, 188, 189, 194, 195, 196, 201, 202, 203, 208, 209, 210, 215, 216, 217, 222, 223, 224, 227, 228, 229, 234, 235, 236, 238, 239]
theorem pcA (w : World) (os : OsState) : topGo treeTable PySem.Challenge.pw_uf030027_10 w 11 an0 12 ⟨boot_heap w.params, Array.mk [], boot_drawn, boot_toks, os⟩ (topStub PySem.Challenge.pw_uf030027_10) = some (⟨hpA w.params, #[], ⟨0, 0, 0, 0⟩, 187, os⟩, ⟨denote treeTable cdQ, cdQ, ⟨0, 0, 0, 0⟩, [topFrame ps0]⟩) := q_go (by kernel_rfl)
theorem pcB (w : World) (os : OsState) : segRun treeTable PySem.Challenge.pw_uf030027_10 w 11 an0 1 1 ⟨hpA w.params, #[], ⟨0, 0, 0, 0⟩, 187, os⟩ (blockOf bdQ enQ cdQ ⟨0, 0, 0, 0⟩ [topFrame ps0]) = some (Flow.next, (S0 w os).abs, cdQ, ⟨0, 0, 0, 0⟩) := q_run (by kernel_rfl)
theorem pc0 (w : World) (os : OsState) : segRunT treeTable PySem.Challenge.pw_uf030027_10 w 11 an0 1 225 (S0 w os) (piecesOf ss0 enQ cdQ ⟨0, 0, 0, 0⟩ [topFrame ps0]) = some (Flow.next, S1 w os, cdQ, ⟨5, 0, 6, 8⟩) := q_seg (by kernel_rfl)
theorem pc1 (w : World) (os : OsState) : segRunT treeTable PySem.Challenge.pw_uf030027_10 w 11 an0 1 214 (S1 w os) (piecesOf ss1 enQ cdQ ⟨5, 0, 6, 8⟩ [topFrame ps0]) = some (Flow.next, S2 w os, cdQ, ⟨7, 0, 8, 8⟩) := q_seg (by kernel_rfl)
theorem pc2 (w : World) (os : OsState) : segRunT treeTable PySem.Challenge.pw_uf030027_10 w 11 an0 1 214 (S2 w os) (piecesOf ss2 enQ cdQ ⟨7, 0, 8, 8⟩ [topFrame ps0]) = some (Flow.next, S3 w os, cdQ, ⟨9, 0, 10, 8⟩) := q_seg (by kernel_rfl)
theorem pc3 (w : World) (os : OsState) : segRunT treeTable PySem.Challenge.pw_uf030027_10 w 11 an0 1 214 (S3 w os) (piecesOf ss3 enQ cdQ ⟨9, 0, 10, 8⟩ [topFrame ps0]) = some (Flow.next, S4 w os, cdQ, ⟨11, 0, 12, 8⟩) := q_seg (by kernel_rfl)
theorem pc4 (w : World) (os : OsState) : segRunT treeTable PySem.Challenge.pw_uf030027_10 w 11 an0 1 214 (S4 w os) (piecesOf ss4 enQ cdQ ⟨11, 0, 12, 8⟩ [topFrame ps0]) = some (Flow.next, S5 w os, cdQ, ⟨13, 0, 14, 8⟩) := q_seg (by kernel_rfl)
theorem pc5 (w : World) (os : OsState) : segRunT treeTable PySem.Challenge.pw_uf030027_10 w 11 an0 1 214 (S5 w os) (piecesOf ss5 enQ cdQ ⟨13, 0, 14, 8⟩ [topFrame ps0]) = some (Flow.next, S6 w os, cdQ, ⟨15, 0, 16, 8⟩) := q_seg (by kernel_rfl)
theorem pc6 (w : World) (os : OsState) : segRunT treeTable PySem.Challenge.pw_uf030027_10 w 11 an0 1 214 (S6 w os) (piecesOf ss6 enQ cdQ ⟨15, 0, 16, 8⟩ [topFrame ps0]) = some (Flow.next, S7 w os, cdQ, ⟨17, 0, 18, 8⟩) := q_seg (by kernel_rfl)
theorem pc7 (w : World) (os : OsState) : segRunT treeTable PySem.Challenge.pw_uf030027_10 w 11 an0 1 214 (S7 w os) (piecesOf ss7 enQ cdQ ⟨17, 0, 18, 8⟩ [topFrame ps0]) = some (Flow.next, S8 w os, cdQ, ⟨19, 0, 20, 8⟩) := q_seg (by kernel_rfl)
theorem pc8 (w : World) (os : OsState) : segRunT treeTable PySem.Challenge.pw_uf030027_10 w 11 an0 1 214 (S8 w os) (piecesOf ss8 enQ cdQ ⟨19, 0, 20, 8⟩ [topFrame ps0]) = some (Flow.next, S9 w os, cdQ, ⟨21, 0, 22, 8⟩) := q_seg (by kernel_rfl)
theorem pc9 (w : World) (os : OsState) : segRunT treeTable PySem.Challenge.pw_uf030027_10 w 11 an0 1 394 (S9 w os) (piecesOf ss9 enQ cdQ ⟨21, 0, 22, 8⟩ [topFrame ps0]) = some (Flow.next, S10 w os, cdQ, ⟨48, 0, 48, 8⟩) := q_seg (by kernel_rfl)
theorem pc10 (w : World) (os : OsState) : segRunT treeTable PySem.Challenge.pw_uf030027_10 w 11 an0 1 449 (S10 w os) (piecesOf ss10 enQ cdQ ⟨48, 0, 48, 8⟩ [topFrame ps0]) = some (Flow.next, S11 w os, cdQ, ⟨49, 0, 92, 16⟩) := q_seg (by kernel_rfl)
theorem pc11 (w : World) (os : OsState) : segRunT treeTable PySem.Challenge.pw_uf030027_10 w 11 an0 1 346 (S11 w os) (piecesOf ss11 enQ cdQ ⟨49, 0, 92, 16⟩ [topFrame ps0]) = some (Flow.next, S12 w os, cdQ, ⟨207, 0, 233, 87⟩) := q_seg (by kernel_rfl)
theorem pcZ (w : World) (os : OsState) : topRun treeTable PySem.Challenge.pw_uf030027_10 w 11 an0 2 (S12 w os).abs ⟨doneF .next, cdQ, ⟨207, 0, 233, 87⟩, [topFrame ps0]⟩ = some ⟨hpZ w.params, #[], ⟨0, 0, 0, 0⟩, 593, os⟩ := q_top (by kernel_rfl)
theorem bdE : bdQ = ss0 ++ (ss1 ++ (ss2 ++ (ss3 ++ (ss4 ++ (ss5 ++ (ss6 ++ (ss7 ++ (ss8 ++ (ss9 ++ (ss10 ++ (ss11 ++ ([])))))))))))) := by kernel_rfl
theorem rnQ (w : World) (os : OsState) : topRun treeTable PySem.Challenge.pw_uf030027_10 w 11 an0 (12 + (1 + (225 + (214 + (214 + (214 + (214 + (214 + (214 + (214 + (214 + (394 + (449 + (346 + 2)))))))))))))) ⟨boot_heap w.params, Array.mk [], boot_drawn, boot_toks, os⟩ (topStub PySem.Challenge.pw_uf030027_10) = some ⟨hpZ w.params, #[], ⟨0, 0, 0, 0⟩, 593, os⟩ := go_top (pcA w os) (piece_block (pcB w os) (rest_eq bdE (piece_app (segRun_of (pc0 w os)) (piece_app (segRun_of (pc1 w os)) (piece_app (segRun_of (pc2 w os)) (piece_app (segRun_of (pc3 w os)) (piece_app (segRun_of (pc4 w os)) (piece_app (segRun_of (pc5 w os)) (piece_app (segRun_of (pc6 w os)) (piece_app (segRun_of (pc7 w os)) (piece_app (segRun_of (pc8 w os)) (piece_app (segRun_of (pc9 w os)) (piece_app (segRun_of (pc10 w os)) (piece_app (segRun_of (pc11 w os)) (piece_nil (pcZ w os))))))))))))))))
noncomputable abbrev kp10 : List Nat := [0, 2, 3, 4, 5, 6, 7, 8, 9, 10, 11, 13, 14, 15, 16, 17, 18, 19, 21, 23, 24, 25, 26, 27, 28, 29, 30, 31, 32, 33]
noncomputable abbrev lo10 : List Str := []
noncomputable abbrev V10 : Program := view PySem.Challenge.pw_uf030027_10 kp10
noncomputable abbrev sZ (w : World) (os : OsState) : Shared := ⟨hpZ w.params, #[], ⟨0, 0, 0, 0⟩, 593, os⟩
noncomputable abbrev hk10 : Hook := kHook K10 as10 (fun _ => by kernel_rfl)
noncomputable abbrev xt10 (q : Program) (s : Shared) : Bool := xlAt q [] s && recOk [] s
theorem szQ (w : World) : ((boot_heap w.params).isNs mainGlobals && (Array.mk [] : Array GenState).size == 0, (boot_heap w.params).objs.size, (boot_heap w.params).nsMap mainGlobals "__annotations__") = (true, 11, an0) := by kernel_rfl
theorem lk0 (w : World) (os : OsState) : (staticsOk (importedModules PySem.Challenge.pw_uf030027_10.main.body) (boot_heap w.params) (hpZ w.params) && namesBound PySem.Challenge.pw_uf030027_10 (hpZ w.params) && gensDone (sZ w os) && laidKept (boot_heap w.params) (hpZ w.params)) = true := by kernel_rfl
theorem lk1 (w : World) (os : OsState) : seen ((recsOf V10).map (·.name)) (ownsOf V10) [] { sZ w os with gens := #[] } = expectedOf V10 := by kernel_rfl
theorem lk2 (w : World) (os : OsState) : (sZ w os).heap.bltView = bltViewBooted := by kernel_rfl
theorem lk3 (w : World) (os : OsState) : ((sZ w os).heap.keysOk (looseW V10 lo10) ((recsOf V10).map (·.name)) ((litsOf V10).map (·.1)) ((clssOf V10 (looseW V10 lo10)).map (·.name)) && (sZ w os).heap.accountedOkI (importedModules PySem.Challenge.pw_uf030027_10.main.body) && (sZ w os).heap.isNs mainGlobals && (sZ w os).heap.isNs builtinsNs && tablesOk V10 (sZ w os).heap && xt10 V10 (sZ w os) && (if true then (sZ w os).gens.size == 0 else !leftWithCleanup (sZ w os).gens)) = true := by kernel_rfl
theorem lk4 (w : World) (os : OsState) : tabsOk V10 (sZ w os) = true := by kernel_rfl
theorem lk5 (w : World) (os : OsState) : pinSeenD V10 (drecsOf V10) (sZ w os) = pinGoodD (drecsOf V10) := by kernel_rfl
theorem lk6 (w : World) (os : OsState) : plainSeenE V10 (looseW V10 lo10) (sZ w os) = plainGoodE V10 (looseW V10 lo10) := by kernel_rfl
theorem lk7 (w : World) (os : OsState) : plainSeenD V10 lo10 (sZ w os) = plainGoodD V10 lo10 := by kernel_rfl
theorem lk8 (w : World) (os : OsState) : wideSeen V10 (sZ w os) = wideGood V10 := by kernel_rfl
theorem lk9 (w : World) (os : OsState) : clsSeenW V10 lo10 (sZ w os) = clsGoodW V10 lo10 := by kernel_rfl
theorem lkY (w : World) (os : OsState) : hk10.obs (sZ w os) = hk10.val w := by kernel_rfl
theorem opQ : opening PySem.Challenge.pw_uf030027_10 = plainProg PySem.Challenge.pw_uf030027_10.main.scope.names := by kernel_rfl
theorem fnQ (s : Shared) : fenceModules? PySem.Challenge.pw_uf030027_10 s = some s := by kernel_rfl
theorem leQ : Nat.ble (12 + (1 + (225 + (214 + (214 + (214 + (214 + (214 + (214 + (214 + (214 + (394 + (449 + (346 + 2)))))))))))))) 6354 = true := by kernel_rfl
theorem lf10 : LeftO PySem.Challenge.pw_uf030027_10 V10 lo10 (xt10 V10) hk10.obs hk10.val 6354 :=
  left_of (H₀ := boot_heap) (H₁ := hpZ) (boot_open opQ (by kernel_rfl) fnQ) szQ rnQ leQ lk0 (fun w os => seen_eq (lk1 w os) (lk2 w os) (lk3 w os) (lk4 w os) (lk5 w os) (lk6 w os) (lk7 w os) (lk8 w os) (lk9 w os)) lkY
theorem saQ : OpenLaw.wellSaid PySem.Challenge.rw_uf030027_10 = true := by
  rw [PySem.W.Fast.te9446332074065402090]
  kernel_rfl
theorem dsQ : (defOf V10 (PySem.Str.ofString "law")).isSome = true := by kernel_rfl
theorem dpQ : PySem.Challenge.pw_uf030027_10.theDef (PySem.Str.ofString "law") = (defOf V10 (PySem.Str.ofString "law")).map fun x => (x.1.params, x.1.body, x.1.scope) := by kernel_rfl
theorem dkQ : (defOf V10 (PySem.Str.ofString "law")).bind (fun x => kwWritten? x.1.params.kwonlyargs x.1.params.kw_defaults) = (defOf V10 (PySem.Str.ofString "law")).map (·.2) := by kernel_rfl
theorem okQ : (chainsOk V10 && opensWell PySem.Challenge.pw_uf030027_10 && (frees PySem.Challenge.rw_uf030027_10.row.toRowW && PySem.Challenge.rw_uf030027_10.row.within.isEmpty)) = true := by kernel_rfl
theorem prQ : PySem.Challenge.rw_uf030027_10.row.toRowW.promised := by w_witness2
theorem hd10 (hc : ∀ d kwd, defOf V10 (PySem.Str.ofString "law") = some (d, kwd) → WalkO V10 lo10 (XL V10 []) hk10.says PySem.Challenge.rw_uf030027_10.row.toRowW d kwd fun f vs => PySem.call f vs) : PySem.Challenge.rw_uf030027_10.Holds := by
  obtain ⟨⟨d, kwd⟩, hdef⟩ := Option.isSome_iff_exists.mp dsQ
  have hp := dpQ
  have hk := dkQ
  rw [hdef] at hp hk
  refine holds_law saQ fun k1 => ?_
  exact holds_open (r := PySem.Challenge.rw_uf030027_10.row) (q := V10) (loose := lo10) (Xt := xt10 V10) (XP := XL V10 []) (Yf := hk10.obs) (Ya := hk10.val) (YP := hk10.says) (N := 6354) lf10 hk10.of hk10.keeps
    (fun s e => xl_of s (Bool.and_eq_true_iff.mp e).1) XL.keeps hdef hp hk (fun s e => recFacts_of (Bool.and_eq_true_iff.mp e).2) rfl k1 okQ ⟨rfl, rfl, rfl, rfl, rfl, by decide +kernel⟩ prQ (hc d kwd hdef)
noncomputable abbrev H10 : Params → Frag := K10
end Mine

namespace Mine
open PySem PyProof.Rows PySem.Calls PySem.W
set_option maxRecDepth 100000
section

set_option maxRecDepth 100000

noncomputable def fnR : Stmt → DefRec | .FunctionDef n a b _ _ _ s _ _ p => ⟨n, a, b, s, p⟩ | _ => ⟨"", default, [], default, default⟩
noncomputable def recs10 : List DefRec := List.map (fun k => fnR (fnS k)) [0, 15, 16, 17, 18, 19, 23, 24, 25, 26, 27, 28, 29, 30, 31, 32, 33]
theorem recs10_eq : recsOf V10 = recs10 := by kernel_rfl
noncomputable def d10 (i : Nat) : DefRec := (recs10[i]?).getD ⟨"", default, [], default, default⟩
noncomputable abbrev c_DebtError_10 : Addr := 31
noncomputable abbrev c_BadCount_10 : Addr := 44
noncomputable abbrev c_BadDebt_10 : Addr := 56
noncomputable abbrev c_BadCut_10 : Addr := 68
noncomputable abbrev c_Uneven_10 : Addr := 80
noncomputable abbrev c_BadPrices_10 : Addr := 92
noncomputable abbrev c_NotBest_10 : Addr := 104
noncomputable abbrev c_NoDebt_10 : Addr := 116
noncomputable abbrev c_NoHouse_10 : Addr := 128
noncomputable abbrev c_BadAmount_10 : Addr := 140
noncomputable abbrev c_Day_10 : Addr := 239
noncomputable abbrev f_Day___init__ : Addr := 189
noncomputable abbrev f_Day_owe : Addr := 196
noncomputable abbrev f_Day_need_number : Addr := 203
noncomputable abbrev f_Day_rest : Addr := 210
noncomputable abbrev f_Day_pay : Addr := 217
noncomputable abbrev f_Day_standing : Addr := 224
noncomputable abbrev f_Day_balance : Addr := 229
noncomputable abbrev exCls : List Addr := [c_BadCount_10, c_BadDebt_10, c_BadCut_10, c_Uneven_10, c_BadPrices_10, c_NotBest_10, c_NoDebt_10, c_NoHouse_10, c_BadAmount_10]
noncomputable def okOwn (c0 : Addr) : Ty → Option Bool
  | .exc c => if c ∈ exCls then some (decide (c = c0)) else Option.none
  | _ => Option.none
noncomputable def okVal : Ty → Option Bool
  | .exc c => if c ∈ exCls then some true else Option.none
  | _ => Option.none
theorem okOwn_ok {K : Frag} {c0 : Addr} (h : ∀ c ∈ exCls, kitOne K (.ref c) (.ref c0) = some (decide (c = c0))) : ∀ ty b, okOwn c0 ty = some b → kitOne K ty.val (.ref c0) = some b := by
  intro ty b e
  cases ty with
  | exc c =>
    unfold okOwn at e
    dsimp only at e
    split at e
    · rename_i hc; cases e; exact h c hc
    · cases e
  | _ => cases e
theorem okVal_ok {K : Frag} {cv : Value} (h : ∀ c ∈ exCls, kitOne K (.ref c) cv = some true) : ∀ ty b, okVal ty = some b → kitOne K ty.val cv = some b := by
  intro ty b e
  cases ty with
  | exc c =>
    unfold okVal at e
    dsimp only at e
    split at e
    · rename_i hc; cases e; exact h c hc
    · cases e
  | _ => cases e
theorem okOwn_x {K : Frag} {c0 : Addr} (h : ∀ c ∈ exCls, ExcK K c) : ∀ c b, okOwn c0 (.exc c) = some b → ExcK K c := by
  intro c b e
  unfold okOwn at e
  dsimp only at e
  split at e
  · rename_i hc; exact h c hc
  · cases e
theorem okVal_x {K : Frag} (h : ∀ c ∈ exCls, ExcK K c) : ∀ c b, okVal (.exc c) = some b → ExcK K c := by
  intro c b e
  unfold okVal at e
  dsimp only at e
  split at e
  · rename_i hc; exact h c hc
  · cases e
structure Fx10 (g : Gx) : Prop where
  d : ∀ i, i < 17 → DefAt g (d10 i)
  b_all : GlobAt g "all" (.builtin "all")
  b_isinstance : GlobAt g "isinstance" (.builtin "isinstance")
  b_len : GlobAt g "len" (.builtin "len")
  c_BadAmount : GlobAt g "BadAmount" (.ref c_BadAmount_10)
  c_BadCount : GlobAt g "BadCount" (.ref c_BadCount_10)
  c_BadCut : GlobAt g "BadCut" (.ref c_BadCut_10)
  c_BadDebt : GlobAt g "BadDebt" (.ref c_BadDebt_10)
  c_BadPrices : GlobAt g "BadPrices" (.ref c_BadPrices_10)
  c_Day : GlobAt g "Day" (.ref c_Day_10)
  c_DebtError : GlobAt g "DebtError" (.ref c_DebtError_10)
  c_NoDebt : GlobAt g "NoDebt" (.ref c_NoDebt_10)
  c_NoHouse : GlobAt g "NoHouse" (.ref c_NoHouse_10)
  c_NotBest : GlobAt g "NotBest" (.ref c_NotBest_10)
  c_Uneven : GlobAt g "Uneven" (.ref c_Uneven_10)
  c_ValueError : GlobAt g "ValueError" (.type "ValueError")
  c_bool : GlobAt g "bool" (.type "bool")
  c_int : GlobAt g "int" (.type "int")
  c_list : GlobAt g "list" (.type "list")
  c_range : GlobAt g "range" (.type "range")
  c_tuple : GlobAt g "tuple" (.type "tuple")
  K : ClsK g.K c_Day_10
  a_came : findIn g.K (.ref c_Day_10) "came" = some none
  a_houses : findIn g.K (.ref c_Day_10) "houses" = some none
  a_still : findIn g.K (.ref c_Day_10) "still" = some none
  m___init__ : MethK g.K c_Day_10 f_Day___init__ "__init__" "Day.__init__" (fnA (fnM 21 0)) (fnB (fnM 21 0)) (fnC (fnM 21 0)) (.str "clearday.day" 400) 188
  m_owe : MethK g.K c_Day_10 f_Day_owe "owe" "Day.owe" (fnA (fnM 21 1)) (fnB (fnM 21 1)) (fnC (fnM 21 1)) (.str "clearday.day" 400) 195
  m_need_number : MethK g.K c_Day_10 f_Day_need_number "need_number" "Day.need_number" (fnA (fnM 21 2)) (fnB (fnM 21 2)) (fnC (fnM 21 2)) (.str "clearday.day" 400) 202
  m_rest : MethK g.K c_Day_10 f_Day_rest "rest" "Day.rest" (fnA (fnM 21 3)) (fnB (fnM 21 3)) (fnC (fnM 21 3)) (.str "clearday.day" 400) 209
  m_pay : MethK g.K c_Day_10 f_Day_pay "pay" "Day.pay" (fnA (fnM 21 4)) (fnB (fnM 21 4)) (fnC (fnM 21 4)) (.str "clearday.day" 400) 216
  m_standing : MethK g.K c_Day_10 f_Day_standing "standing" "Day.standing" (fnA (fnM 21 5)) (fnB (fnM 21 5)) (fnC (fnM 21 5)) (.str "clearday.day" 400) 223
  m_balance : MethK g.K c_Day_10 f_Day_balance "balance" "Day.balance" (fnA (fnM 21 6)) (fnB (fnM 21 6)) (fnC (fnM 21 6)) (.str "clearday.day" 400) 228
  k_MOST_HOUSES : ∃ v, GlobAt g "MOST_HOUSES" v ∧ ∀ h, Rep g.base h v (.int 20)
  k_MOST_OWED : ∃ v, GlobAt g "MOST_OWED" v ∧ ∀ h, Rep g.base h v (.int 1000000000)
  o_BadAmount : OwnCls "BadAmount" c_BadAmount_10 [.type "ValueError", .type "Exception", .type "BaseException", .type "object"] "ValueError.__new__" g.mg g.base
  o_BadCount : OwnCls "BadCount" c_BadCount_10 [.type "ValueError", .type "Exception", .type "BaseException", .type "object"] "ValueError.__new__" g.mg g.base
  o_BadDebt : OwnCls "BadDebt" c_BadDebt_10 [.type "ValueError", .type "Exception", .type "BaseException", .type "object"] "ValueError.__new__" g.mg g.base
  o_NoDebt : OwnCls "NoDebt" c_NoDebt_10 [.type "ValueError", .type "Exception", .type "BaseException", .type "object"] "ValueError.__new__" g.mg g.base
  o_NoHouse : OwnCls "NoHouse" c_NoHouse_10 [.type "ValueError", .type "Exception", .type "BaseException", .type "object"] "ValueError.__new__" g.mg g.base
  i_BadAmount : ∀ c ∈ exCls, kitOne g.K (.ref c) (.ref c_BadAmount_10) = some (decide (c = c_BadAmount_10))
  i_BadCount : ∀ c ∈ exCls, kitOne g.K (.ref c) (.ref c_BadCount_10) = some (decide (c = c_BadCount_10))
  i_BadCut : ∀ c ∈ exCls, kitOne g.K (.ref c) (.ref c_BadCut_10) = some (decide (c = c_BadCut_10))
  i_BadDebt : ∀ c ∈ exCls, kitOne g.K (.ref c) (.ref c_BadDebt_10) = some (decide (c = c_BadDebt_10))
  i_BadPrices : ∀ c ∈ exCls, kitOne g.K (.ref c) (.ref c_BadPrices_10) = some (decide (c = c_BadPrices_10))
  i_NoDebt : ∀ c ∈ exCls, kitOne g.K (.ref c) (.ref c_NoDebt_10) = some (decide (c = c_NoDebt_10))
  i_NoHouse : ∀ c ∈ exCls, kitOne g.K (.ref c) (.ref c_NoHouse_10) = some (decide (c = c_NoHouse_10))
  i_NotBest : ∀ c ∈ exCls, kitOne g.K (.ref c) (.ref c_NotBest_10) = some (decide (c = c_NotBest_10))
  i_Uneven : ∀ c ∈ exCls, kitOne g.K (.ref c) (.ref c_Uneven_10) = some (decide (c = c_Uneven_10))
  i_ValueError : ∀ c ∈ exCls, kitOne g.K (.ref c) (.type "ValueError") = some true
  m : ∀ c ∈ exCls, exmOne g.K (.ref c) (.ref c_DebtError_10) = some true
  x : ∀ c ∈ exCls, ExcK g.K c
theorem all_cls {P : Addr → Prop} (h0 : P c_BadCount_10) (h1 : P c_BadDebt_10) (h2 : P c_BadCut_10) (h3 : P c_Uneven_10) (h4 : P c_BadPrices_10) (h5 : P c_NotBest_10) (h6 : P c_NoDebt_10) (h7 : P c_NoHouse_10) (h8 : P c_BadAmount_10) : ∀ c ∈ exCls, P c := by
  intro c hc
  simp only [exCls, List.mem_cons, List.not_mem_nil, or_false] at hc
  rcases hc with rfl | rfl | rfl | rfl | rfl | rfl | rfl | rfl | rfl
  · exact h0
  · exact h1
  · exact h2
  · exact h3
  · exact h4
  · exact h5
  · exact h6
  · exact h7
  · exact h8
theorem d10_mem (i : Nat) (h : i < 17) : d10 i ∈ recsOf V10 := by
  have e : recs10.length = 17 := by kernel_rfl
  rw [← e] at h
  rw [recs10_eq]
  unfold d10
  rw [List.getElem?_eq_getElem h]
  exact List.getElem_mem h
theorem fx10 {loose : List Str} {mean : ExcName → Option Value} {g : Gx} {ps : Params} (T : Top V10 (looseW V10 []) mean g.mg g.mb g.base) (hK : g.K = H10 ps) : Fx10 g where
  d := fun i h => def_at T (d10_mem i h)
  b_all := glob_free T (by kernel_rfl) (by decide +kernel) (by kernel_rfl)
  b_isinstance := glob_free T (by kernel_rfl) (by decide +kernel) (by kernel_rfl)
  b_len := glob_free T (by kernel_rfl) (by decide +kernel) (by kernel_rfl)
  c_BadAmount := .inl (cls_at (hK ▸ (by kernel_rfl)))
  c_BadCount := .inl (cls_at (hK ▸ (by kernel_rfl)))
  c_BadCut := .inl (cls_at (hK ▸ (by kernel_rfl)))
  c_BadDebt := .inl (cls_at (hK ▸ (by kernel_rfl)))
  c_BadPrices := .inl (cls_at (hK ▸ (by kernel_rfl)))
  c_Day := .inl (cls_at (hK ▸ (by kernel_rfl)))
  c_DebtError := .inl (cls_at (hK ▸ (by kernel_rfl)))
  c_NoDebt := .inl (cls_at (hK ▸ (by kernel_rfl)))
  c_NoHouse := .inl (cls_at (hK ▸ (by kernel_rfl)))
  c_NotBest := .inl (cls_at (hK ▸ (by kernel_rfl)))
  c_Uneven := .inl (cls_at (hK ▸ (by kernel_rfl)))
  c_ValueError := glob_free T (by kernel_rfl) (by decide +kernel) (by kernel_rfl)
  c_bool := glob_free T (by kernel_rfl) (by decide +kernel) (by kernel_rfl)
  c_int := glob_free T (by kernel_rfl) (by decide +kernel) (by kernel_rfl)
  c_list := glob_free T (by kernel_rfl) (by decide +kernel) (by kernel_rfl)
  c_range := glob_free T (by kernel_rfl) (by decide +kernel) (by kernel_rfl)
  c_tuple := glob_free T (by kernel_rfl) (by decide +kernel) (by kernel_rfl)
  K := by rw [hK]; exact ⟨by kernel_rfl, by kernel_rfl, by kernel_rfl, by kernel_rfl, by kernel_rfl, by kernel_rfl, by kernel_rfl⟩
  a_came := by rw [hK]; kernel_rfl
  a_houses := by rw [hK]; kernel_rfl
  a_still := by rw [hK]; kernel_rfl
  m___init__ := by rw [hK]; exact ⟨by kernel_rfl, by kernel_rfl, by kernel_rfl, by kernel_rfl, by kernel_rfl⟩
  m_owe := by rw [hK]; exact ⟨by kernel_rfl, by kernel_rfl, by kernel_rfl, by kernel_rfl, by kernel_rfl⟩
  m_need_number := by rw [hK]; exact ⟨by kernel_rfl, by kernel_rfl, by kernel_rfl, by kernel_rfl, by kernel_rfl⟩
  m_rest := by rw [hK]; exact ⟨by kernel_rfl, by kernel_rfl, by kernel_rfl, by kernel_rfl, by kernel_rfl⟩
  m_pay := by rw [hK]; exact ⟨by kernel_rfl, by kernel_rfl, by kernel_rfl, by kernel_rfl, by kernel_rfl⟩
  m_standing := by rw [hK]; exact ⟨by kernel_rfl, by kernel_rfl, by kernel_rfl, by kernel_rfl, by kernel_rfl⟩
  m_balance := by rw [hK]; exact ⟨by kernel_rfl, by kernel_rfl, by kernel_rfl, by kernel_rfl, by kernel_rfl⟩
  k_MOST_HOUSES := const_int T (by kernel_rfl)
  k_MOST_OWED := const_int T (by kernel_rfl)
  o_BadAmount := own_at T (hK ▸ (by kernel_rfl)) (hK ▸ (by kernel_rfl))
  o_BadCount := own_at T (hK ▸ (by kernel_rfl)) (hK ▸ (by kernel_rfl))
  o_BadDebt := own_at T (hK ▸ (by kernel_rfl)) (hK ▸ (by kernel_rfl))
  o_NoDebt := own_at T (hK ▸ (by kernel_rfl)) (hK ▸ (by kernel_rfl))
  o_NoHouse := own_at T (hK ▸ (by kernel_rfl)) (hK ▸ (by kernel_rfl))
  i_BadAmount := by rw [hK]; exact all_cls (by kernel_rfl) (by kernel_rfl) (by kernel_rfl) (by kernel_rfl) (by kernel_rfl) (by kernel_rfl) (by kernel_rfl) (by kernel_rfl) (by kernel_rfl)
  i_BadCount := by rw [hK]; exact all_cls (by kernel_rfl) (by kernel_rfl) (by kernel_rfl) (by kernel_rfl) (by kernel_rfl) (by kernel_rfl) (by kernel_rfl) (by kernel_rfl) (by kernel_rfl)
  i_BadCut := by rw [hK]; exact all_cls (by kernel_rfl) (by kernel_rfl) (by kernel_rfl) (by kernel_rfl) (by kernel_rfl) (by kernel_rfl) (by kernel_rfl) (by kernel_rfl) (by kernel_rfl)
  i_BadDebt := by rw [hK]; exact all_cls (by kernel_rfl) (by kernel_rfl) (by kernel_rfl) (by kernel_rfl) (by kernel_rfl) (by kernel_rfl) (by kernel_rfl) (by kernel_rfl) (by kernel_rfl)
  i_BadPrices := by rw [hK]; exact all_cls (by kernel_rfl) (by kernel_rfl) (by kernel_rfl) (by kernel_rfl) (by kernel_rfl) (by kernel_rfl) (by kernel_rfl) (by kernel_rfl) (by kernel_rfl)
  i_NoDebt := by rw [hK]; exact all_cls (by kernel_rfl) (by kernel_rfl) (by kernel_rfl) (by kernel_rfl) (by kernel_rfl) (by kernel_rfl) (by kernel_rfl) (by kernel_rfl) (by kernel_rfl)
  i_NoHouse := by rw [hK]; exact all_cls (by kernel_rfl) (by kernel_rfl) (by kernel_rfl) (by kernel_rfl) (by kernel_rfl) (by kernel_rfl) (by kernel_rfl) (by kernel_rfl) (by kernel_rfl)
  i_NotBest := by rw [hK]; exact all_cls (by kernel_rfl) (by kernel_rfl) (by kernel_rfl) (by kernel_rfl) (by kernel_rfl) (by kernel_rfl) (by kernel_rfl) (by kernel_rfl) (by kernel_rfl)
  i_Uneven := by rw [hK]; exact all_cls (by kernel_rfl) (by kernel_rfl) (by kernel_rfl) (by kernel_rfl) (by kernel_rfl) (by kernel_rfl) (by kernel_rfl) (by kernel_rfl) (by kernel_rfl)
  i_ValueError := by rw [hK]; exact all_cls (by kernel_rfl) (by kernel_rfl) (by kernel_rfl) (by kernel_rfl) (by kernel_rfl) (by kernel_rfl) (by kernel_rfl) (by kernel_rfl) (by kernel_rfl)
  m := by rw [hK]; exact all_cls (by kernel_rfl) (by kernel_rfl) (by kernel_rfl) (by kernel_rfl) (by kernel_rfl) (by kernel_rfl) (by kernel_rfl) (by kernel_rfl) (by kernel_rfl)
  x := by rw [hK]; exact all_cls ⟨by kernel_rfl, by kernel_rfl, by kernel_rfl, by kernel_rfl, by kernel_rfl, by kernel_rfl⟩ ⟨by kernel_rfl, by kernel_rfl, by kernel_rfl, by kernel_rfl, by kernel_rfl, by kernel_rfl⟩ ⟨by kernel_rfl, by kernel_rfl, by kernel_rfl, by kernel_rfl, by kernel_rfl, by kernel_rfl⟩ ⟨by kernel_rfl, by kernel_rfl, by kernel_rfl, by kernel_rfl, by kernel_rfl, by kernel_rfl⟩ ⟨by kernel_rfl, by kernel_rfl, by kernel_rfl, by kernel_rfl, by kernel_rfl, by kernel_rfl⟩ ⟨by kernel_rfl, by kernel_rfl, by kernel_rfl, by kernel_rfl, by kernel_rfl, by kernel_rfl⟩ ⟨by kernel_rfl, by kernel_rfl, by kernel_rfl, by kernel_rfl, by kernel_rfl, by kernel_rfl⟩ ⟨by kernel_rfl, by kernel_rfl, by kernel_rfl, by kernel_rfl, by kernel_rfl, by kernel_rfl⟩ ⟨by kernel_rfl, by kernel_rfl, by kernel_rfl, by kernel_rfl, by kernel_rfl, by kernel_rfl⟩
noncomputable abbrev tb_is_number_1 : TS := tSeq (tRet (tAndE (tIsinst (tName "value") okInt) (tNotE (tIsinst (tName "value") okBool)))) (tNil)
noncomputable def tb_is_number : TS := tb_is_number_1
noncomputable def T_is_number : TF := tFun ["value"] tb_is_number
set_option maxRecDepth 100000 in
set_option maxHeartbeats 4000000 in
theorem s_is_number {g : Gx} (F : Fx10 g) {q : Bool} : HasF g 1 q "is_number" T_is_number :=
  has_def (F.d 1 (by decide)) rfl (fun _ _ _ vals h => by obtain ⟨a, rfl⟩ := len1 h; rfl) (by decide +kernel) rfl rfl rfl (show SoundSs g 0 _ _ _ tb_is_number from (sound_cons (sound_ret (sound_and (sound_isinst (sound_local (by decide +kernel) (by decide +kernel)) (by decide +kernel) F.b_isinstance (by decide +kernel) (by decide +kernel) F.c_int okInt_ok (fun _ _ e => by cases e) (fun _ => rfl)) (sound_one (sound_not (sound_isinst (sound_local (by decide +kernel) (by decide +kernel)) (by decide +kernel) F.b_isinstance (by decide +kernel) (by decide +kernel) F.c_bool okBool_ok (fun _ _ e => by cases e) (fun _ => rfl)))))) (sound_nil)))
noncomputable abbrev tb_need_count_1 : TS := tSeq (tRaise c_BadCount_10 (tEcons (tConst (.str "1 to 20 houses")) (tEnil))) (tNil)
noncomputable abbrev tb_need_count_2 : TS := tSeq (tIf (tOr (tNot (tTest (tCall (tEcons (tName "count") (tEnil)) T_is_number))) (tOr (tNot (tChainB .LtE .LtE (tConst (.int 1)) (tName "count") (tConst (.int 20)))) (tFalse))) (tb_need_count_1) (tNil)) (tNil)
noncomputable def tb_need_count : TS := tb_need_count_2
noncomputable def T_need_count : TF := tFun ["count"] tb_need_count
set_option maxRecDepth 100000 in
set_option maxHeartbeats 4000000 in
theorem s_need_count {g : Gx} (F : Fx10 g) : HasF g 2 true "need_count" T_need_count :=
  has_def (F.d 2 (by decide)) rfl (fun _ _ _ vals h => by obtain ⟨a, rfl⟩ := len1 h; rfl) (by decide +kernel) rfl rfl rfl (show SoundSs g 1 _ _ _ tb_need_count from (sound_cons (sound_if (soundB_or (soundB_not (soundB_plain (sound_callF (s_is_number F) (sound_econs (sound_local (by decide +kernel) (by decide +kernel)) (sound_enil) (fun _ => rfl)) (by decide +kernel) (by decide +kernel) (by decide)) (fun _ _ => rfl))) (soundB_or (soundB_not (soundB_chain (sound_int) (sound_local (by decide +kernel) (by decide +kernel)) (sound_constF F.k_MOST_HOUSES (by decide +kernel) (by decide +kernel)) rfl)) (soundB_orNil))) (sound_cons (sound_raise F.o_BadCount PySem.F.excBase_ValueError (sound_econs (sound_str) (sound_enil) (fun _ => rfl)) (by decide +kernel) (by decide +kernel)) (sound_nil)) (sound_nil)) (sound_nil)))
noncomputable abbrev tb_is_house_1 : TS := tSeq (tRet (tAndE (tCall (tEcons (tName "value") (tEnil)) T_is_number) (tChain .LtE .Lt (tConst (.int 0)) (tName "value") (tName "count")))) (tNil)
noncomputable def tb_is_house : TS := tb_is_house_1
noncomputable def T_is_house : TF := tFun ["count", "value"] tb_is_house
set_option maxRecDepth 100000 in
set_option maxHeartbeats 4000000 in
theorem s_is_house {g : Gx} (F : Fx10 g) {q : Bool} : HasF g 2 q "is_house" T_is_house :=
  has_def (F.d 3 (by decide)) rfl (fun _ _ _ vals h => by obtain ⟨a, b, rfl⟩ := len2 h; rfl) (by decide +kernel) rfl rfl rfl (show SoundSs g 1 _ _ _ tb_is_house from (sound_cons (sound_ret (sound_and (sound_callF (s_is_number F) (sound_econs (sound_local (by decide +kernel) (by decide +kernel)) (sound_enil) (fun _ => rfl)) (by decide +kernel) (by decide +kernel) (by decide)) (sound_one (sound_chain (sound_int) (sound_local (by decide +kernel) (by decide +kernel)) (sound_local (by decide +kernel) (by decide +kernel)) rfl)))) (sound_nil)))
noncomputable abbrev tb_need_debt_1 : TS := tSeq (tRaise c_BadDebt_10 (tEcons (tConst (.str "no amount")) (tEnil))) (tNil)
noncomputable abbrev tb_need_debt_2 : TS := tSeq (tIf (tOr (tNot (tTest (tCall (tEcons (tItem (tName "debt") (tConst (.int 2))) (tEnil)) T_is_number))) (tOr (tNot (tChainB .LtE .LtE (tConst (.int 1)) (tItem (tName "debt") (tConst (.int 2))) (tConst (.int 1000000000)))) (tFalse))) (tb_need_debt_1) (tNil)) (tNil)
noncomputable abbrev tb_need_debt_3 : TS := tSeq (tRaise c_BadDebt_10 (tEcons (tConst (.str "two houses are wanted")) (tEnil))) (tNil)
noncomputable abbrev tb_need_debt_4 : TS := tSeq (tIf (tOr (tNot (tTest (tCall (tEcons (tName "count") (tEcons (tItem (tName "debt") (tConst (.int 0))) (tEnil))) T_is_house))) (tOr (tNot (tTest (tCall (tEcons (tName "count") (tEcons (tItem (tName "debt") (tConst (.int 1))) (tEnil))) T_is_house))) (tOr (tCmpB .Eq (tItem (tName "debt") (tConst (.int 0))) (tItem (tName "debt") (tConst (.int 1)))) (tFalse)))) (tb_need_debt_3) (tNil)) (tb_need_debt_2)
noncomputable abbrev tb_need_debt_5 : TS := tSeq (tRaise c_BadDebt_10 (tEcons (tConst (.str "a debt has three parts")) (tEnil))) (tNil)
noncomputable abbrev tb_need_debt_6 : TS := tSeq (tIf (tOr (tNot (tTest (tIsinst (tName "debt") okTup))) (tOr (tCmpB .NotEq (tCall (tEcons (tName "debt") (tEnil)) lenF) (tConst (.int 3))) (tFalse))) (tb_need_debt_5) (tNil)) (tb_need_debt_4)
noncomputable def tb_need_debt : TS := tb_need_debt_6
noncomputable def T_need_debt : TF := tFun ["count", "debt"] tb_need_debt
set_option maxRecDepth 100000 in
set_option maxHeartbeats 4000000 in
theorem s_need_debt {g : Gx} (F : Fx10 g) : HasF g 3 true "need_debt" T_need_debt :=
  has_def (F.d 4 (by decide)) rfl (fun _ _ _ vals h => by obtain ⟨a, b, rfl⟩ := len2 h; rfl) (by decide +kernel) rfl rfl rfl (show SoundSs g 2 _ _ _ tb_need_debt from (sound_cons (sound_if (soundB_or (soundB_not (soundB_plain (sound_isinst (sound_local (by decide +kernel) (by decide +kernel)) (by decide +kernel) F.b_isinstance (by decide +kernel) (by decide +kernel) F.c_tuple okTup_ok (fun _ _ e => by cases e) (fun _ => rfl)) (fun _ _ => rfl))) (soundB_or (soundB_cmp (sound_callB (by decide +kernel) (by decide +kernel) F.b_len (sound_econs (sound_local (by decide +kernel) (by decide +kernel)) (sound_enil) (fun _ => rfl)) bi_len) (sound_int) rfl) (soundB_orNil))) (sound_cons (sound_raise F.o_BadDebt PySem.F.excBase_ValueError (sound_econs (sound_str) (sound_enil) (fun _ => rfl)) (by decide +kernel) (by decide +kernel)) (sound_nil)) (sound_nil)) (sound_cons (sound_if (soundB_or (soundB_not (soundB_plain (sound_callF (s_is_house F) (sound_econs (sound_local (by decide +kernel) (by decide +kernel)) (sound_econs (sound_item (sound_local (by decide +kernel) (by decide +kernel)) (sound_int) (fun _ _ _ => rfl)) (sound_enil) (fun _ => rfl)) (fun _ => rfl)) (by decide +kernel) (by decide +kernel) (by decide)) (fun _ _ => rfl))) (soundB_or (soundB_not (soundB_plain (sound_callF (s_is_house F) (sound_econs (sound_local (by decide +kernel) (by decide +kernel)) (sound_econs (sound_item (sound_local (by decide +kernel) (by decide +kernel)) (sound_int) (fun _ _ _ => rfl)) (sound_enil) (fun _ => rfl)) (fun _ => rfl)) (by decide +kernel) (by decide +kernel) (by decide)) (fun _ _ => rfl))) (soundB_or (soundB_cmp (sound_item (sound_local (by decide +kernel) (by decide +kernel)) (sound_int) (fun _ _ _ => rfl)) (sound_item (sound_local (by decide +kernel) (by decide +kernel)) (sound_int) (fun _ _ _ => rfl)) rfl) (soundB_orNil)))) (sound_cons (sound_raise F.o_BadDebt PySem.F.excBase_ValueError (sound_econs (sound_str) (sound_enil) (fun _ => rfl)) (by decide +kernel) (by decide +kernel)) (sound_nil)) (sound_nil)) (sound_cons (sound_if (soundB_or (soundB_not (soundB_plain (sound_callF (s_is_number F) (sound_econs (sound_item (sound_local (by decide +kernel) (by decide +kernel)) (sound_int) (fun _ _ _ => rfl)) (sound_enil) (fun _ => rfl)) (by decide +kernel) (by decide +kernel) (by decide)) (fun _ _ => rfl))) (soundB_or (soundB_not (soundB_chain (sound_int) (sound_item (sound_local (by decide +kernel) (by decide +kernel)) (sound_int) (fun _ _ _ => rfl)) (sound_constF F.k_MOST_OWED (by decide +kernel) (by decide +kernel)) rfl)) (soundB_orNil))) (sound_cons (sound_raise F.o_BadDebt PySem.F.excBase_ValueError (sound_econs (sound_str) (sound_enil) (fun _ => rfl)) (by decide +kernel) (by decide +kernel)) (sound_nil)) (sound_nil)) (sound_nil)))))
noncomputable abbrev tb_balances_1 : TS := tSeq (tRet (tName "found")) (tNil)
noncomputable abbrev tb_balances_2 : TS := tSeq (tStore (tName "found") (tItem (tName "debt") (tConst (.int 1))) (tBin .Add (tItem (tName "found") (tItem (tName "debt") (tConst (.int 1)))) (tItem (tName "debt") (tConst (.int 2))))) (tNil)
noncomputable abbrev tb_balances_3 : TS := tSeq (tStore (tName "found") (tItem (tName "debt") (tConst (.int 0))) (tBin .Sub (tItem (tName "found") (tItem (tName "debt") (tConst (.int 0)))) (tItem (tName "debt") (tConst (.int 2))))) (tb_balances_2)
noncomputable abbrev tb_balances_4 : TS := tSeq (tFor "debt" (tName "debts") (tb_balances_3)) (tb_balances_1)
noncomputable abbrev tb_balances_5 : TS := tSeq (tSet "found" (tComp "house" [] (tCall (tEcons (tName "count") (tEnil)) rangeF) (tTrue) (tConst (.int 0)))) (tb_balances_4)
noncomputable def tb_balances : TS := tb_balances_5
noncomputable def T_balances : TF := tFun ["count", "debts"] tb_balances
set_option maxRecDepth 100000 in
set_option maxHeartbeats 4000000 in
theorem s_balances {g : Gx} (F : Fx10 g) : HasF g 1 true "balances" T_balances :=
  has_def (F.d 5 (by decide)) rfl (fun _ _ _ vals h => by obtain ⟨a, b, rfl⟩ := len2 h; rfl) (by decide +kernel) rfl rfl rfl (show SoundSs g 0 _ _ _ tb_balances from (sound_cons (sound_setcomp (compOk (by decide +kernel) (by decide +kernel) (by decide +kernel) (by decide +kernel) (by decide +kernel) (by decide +kernel)) (sound_callT (by decide +kernel) (by decide +kernel) F.c_range (sound_econs (sound_local (by decide +kernel) (by decide +kernel)) (sound_enil) (fun _ => rfl)) bi_range) (ifs_nil) (sound_int) (fun _ _ => rfl) (.inl (by decide +kernel)) (swapsTrue (by decide +kernel))) (sound_cons (sound_for (sound_local (by decide +kernel) (by decide +kernel)) (sound_cons (sound_store (sound_bin (sound_item (sound_local (by decide +kernel) (by decide +kernel)) (sound_item (sound_local (by decide +kernel) (by decide +kernel)) (sound_int) (fun _ _ _ => rfl)) (fun _ _ _ => rfl)) (sound_item (sound_local (by decide +kernel) (by decide +kernel)) (sound_int) (fun _ _ _ => rfl))) (sound_local (by decide +kernel) (by decide +kernel)) (sound_item (sound_local (by decide +kernel) (by decide +kernel)) (sound_int) (fun _ _ _ => rfl)) (fun _ _ => rfl)) (sound_cons (sound_store (sound_bin (sound_item (sound_local (by decide +kernel) (by decide +kernel)) (sound_item (sound_local (by decide +kernel) (by decide +kernel)) (sound_int) (fun _ _ _ => rfl)) (fun _ _ _ => rfl)) (sound_item (sound_local (by decide +kernel) (by decide +kernel)) (sound_int) (fun _ _ _ => rfl))) (sound_local (by decide +kernel) (by decide +kernel)) (sound_item (sound_local (by decide +kernel) (by decide +kernel)) (sound_int) (fun _ _ _ => rfl)) (fun _ _ => rfl)) (sound_nil))) (.inl (by decide +kernel)) (fun _ _ => rfl)) (sound_cons (sound_ret (sound_local (by decide +kernel) (by decide +kernel))) (sound_nil)))))
noncomputable abbrev tb_Day___init___1 : TS := tSeq (tSetAttr c_Day_10 (tName "self") "still" (tList (tEnil))) (tNil)
noncomputable abbrev tb_Day___init___2 : TS := tSeq (tSetAttr c_Day_10 (tName "self") "came" (tList (tEnil))) (tb_Day___init___1)
noncomputable abbrev tb_Day___init___3 : TS := tSeq (tSetAttr c_Day_10 (tName "self") "houses" (tName "count")) (tb_Day___init___2)
noncomputable abbrev tb_Day___init___4 : TS := tSeq (tExpr (tCall (tEcons (tName "count") (tEnil)) T_need_count)) (tb_Day___init___3)
noncomputable def tb_Day___init__ : TS := tb_Day___init___4
noncomputable def T_Day___init__ : TF := tFun ["self", "count"] tb_Day___init__
set_option maxRecDepth 100000 in
set_option maxHeartbeats 4000000 in
theorem s_Day___init__ {g : Gx} (F : Fx10 g) : SoundFc g 3 true f_Day___init__ T_Day___init__ :=
  has_meth F.m___init__ (fun vals h => by obtain ⟨a, b, rfl⟩ := len2 h; rfl) (by decide +kernel) rfl rfl rfl (show SoundSs g 2 _ _ _ tb_Day___init__ from (sound_cons (sound_expr (sound_callF (s_need_count F) (sound_econs (sound_local (by decide +kernel) (by decide +kernel)) (sound_enil) (fun _ => rfl)) (by decide +kernel) (by decide +kernel) (by decide)) (fun _ _ => rfl)) (sound_cons (sound_setattr F.K (sound_local (by decide +kernel) (by decide +kernel)) (sound_local (by decide +kernel) (by decide +kernel)) F.a_houses (fun _ _ => rfl)) (sound_cons (sound_setattr F.K (sound_local (by decide +kernel) (by decide +kernel)) (sound_list (sound_enil)) F.a_came (fun _ _ => rfl)) (sound_cons (sound_setattr F.K (sound_local (by decide +kernel) (by decide +kernel)) (sound_list (sound_enil)) F.a_still (fun _ _ => rfl)) (sound_nil))))))
noncomputable abbrev tb_Day_owe_1 : TS := tSeq (tRet (tBin .Sub (tCall (tEcons (tAttr c_Day_10 (tName "self") "came") (tEnil)) lenF) (tConst (.int 1)))) (tNil)
noncomputable abbrev tb_Day_owe_2 : TS := tSeq (tExpr (tMeth appendF (tAttr c_Day_10 (tName "self") "still") (tEcons (tName "amount") (tEnil)))) (tb_Day_owe_1)
noncomputable abbrev tb_Day_owe_3 : TS := tSeq (tExpr (tMeth appendF (tAttr c_Day_10 (tName "self") "came") (tEcons (tName "debt") (tEnil)))) (tb_Day_owe_2)
noncomputable abbrev tb_Day_owe_4 : TS := tSeq (tExpr (tCall (tEcons (tAttr c_Day_10 (tName "self") "houses") (tEcons (tName "debt") (tEnil))) T_need_debt)) (tb_Day_owe_3)
noncomputable abbrev tb_Day_owe_5 : TS := tSeq (tSet "debt" (tTup (tEcons (tName "debtor") (tEcons (tName "creditor") (tEcons (tName "amount") (tEnil)))))) (tb_Day_owe_4)
noncomputable def tb_Day_owe : TS := tb_Day_owe_5
noncomputable def T_Day_owe : TF := tFun ["self", "debtor", "creditor", "amount"] tb_Day_owe
set_option maxRecDepth 100000 in
set_option maxHeartbeats 4000000 in
theorem s_Day_owe {g : Gx} (F : Fx10 g) : SoundFc g 4 true f_Day_owe T_Day_owe :=
  has_meth F.m_owe (fun vals h => by obtain ⟨a, b, c, d, rfl⟩ := len4 h; rfl) (by decide +kernel) rfl rfl rfl (show SoundSs g 3 _ _ _ tb_Day_owe from (sound_cons (sound_set (sound_tuple (sound_econs (sound_local (by decide +kernel) (by decide +kernel)) (sound_econs (sound_local (by decide +kernel) (by decide +kernel)) (sound_econs (sound_local (by decide +kernel) (by decide +kernel)) (sound_enil) (fun _ => rfl)) (fun _ => rfl)) (fun _ => rfl))) (.inl (by decide +kernel)) (fun _ _ => rfl)) (sound_cons (sound_expr (sound_callF (s_need_debt F) (sound_econs (sound_attr F.K (sound_local (by decide +kernel) (by decide +kernel)) F.a_houses (fun _ => rfl)) (sound_econs (sound_local (by decide +kernel) (by decide +kernel)) (sound_enil) (fun _ => rfl)) (fun _ => rfl)) (by decide +kernel) (by decide +kernel) (by decide)) (fun _ _ => rfl)) (sound_cons (sound_expr (sound_meth (sound_attr F.K (sound_local (by decide +kernel) (by decide +kernel)) F.a_came (fun _ => rfl)) (sound_econs (sound_local (by decide +kernel) (by decide +kernel)) (sound_enil) (fun _ => rfl)) me_append (fun _ _ => rfl) (by decide) rfl slot_append ty_append) (fun _ _ => rfl)) (sound_cons (sound_expr (sound_meth (sound_attr F.K (sound_local (by decide +kernel) (by decide +kernel)) F.a_still (fun _ => rfl)) (sound_econs (sound_local (by decide +kernel) (by decide +kernel)) (sound_enil) (fun _ => rfl)) me_append (fun _ _ => rfl) (by decide) rfl slot_append ty_append) (fun _ _ => rfl)) (sound_cons (sound_ret (sound_bin (sound_callB (by decide +kernel) (by decide +kernel) F.b_len (sound_econs (sound_attr F.K (sound_local (by decide +kernel) (by decide +kernel)) F.a_came (fun _ => rfl)) (sound_enil) (fun _ => rfl)) bi_len) (sound_int))) (sound_nil)))))))
noncomputable abbrev tb_Day_need_number_1 : TS := tSeq (tRaise c_NoDebt_10 (tEcons (tConst (.str "no such debt")) (tEnil))) (tNil)
noncomputable abbrev tb_Day_need_number_2 : TS := tSeq (tIf (tOr (tNot (tTest (tCall (tEcons (tName "number") (tEnil)) T_is_number))) (tOr (tNot (tChainB .LtE .Lt (tConst (.int 0)) (tName "number") (tCall (tEcons (tAttr c_Day_10 (tName "self") "came") (tEnil)) lenF))) (tFalse))) (tb_Day_need_number_1) (tNil)) (tNil)
noncomputable def tb_Day_need_number : TS := tb_Day_need_number_2
noncomputable def T_Day_need_number : TF := tFun ["self", "number"] tb_Day_need_number
set_option maxRecDepth 100000 in
set_option maxHeartbeats 4000000 in
theorem s_Day_need_number {g : Gx} (F : Fx10 g) : SoundFc g 2 true f_Day_need_number T_Day_need_number :=
  has_meth F.m_need_number (fun vals h => by obtain ⟨a, b, rfl⟩ := len2 h; rfl) (by decide +kernel) rfl rfl rfl (show SoundSs g 1 _ _ _ tb_Day_need_number from (sound_cons (sound_if (soundB_or (soundB_not (soundB_plain (sound_callF (s_is_number F) (sound_econs (sound_local (by decide +kernel) (by decide +kernel)) (sound_enil) (fun _ => rfl)) (by decide +kernel) (by decide +kernel) (by decide)) (fun _ _ => rfl))) (soundB_or (soundB_not (soundB_chain (sound_int) (sound_local (by decide +kernel) (by decide +kernel)) (sound_callB (by decide +kernel) (by decide +kernel) F.b_len (sound_econs (sound_attr F.K (sound_local (by decide +kernel) (by decide +kernel)) F.a_came (fun _ => rfl)) (sound_enil) (fun _ => rfl)) bi_len) rfl)) (soundB_orNil))) (sound_cons (sound_raise F.o_NoDebt PySem.F.excBase_ValueError (sound_econs (sound_str) (sound_enil) (fun _ => rfl)) (by decide +kernel) (by decide +kernel)) (sound_nil)) (sound_nil)) (sound_nil)))
noncomputable abbrev tb_Day_rest_1 : TS := tSeq (tRet (tItem (tAttr c_Day_10 (tName "self") "still") (tName "number"))) (tNil)
noncomputable abbrev tb_Day_rest_2 : TS := tSeq (tExpr (tMethC c_Day_10 "need_number" T_Day_need_number (tName "self") (tEcons (tName "number") (tEnil)))) (tb_Day_rest_1)
noncomputable def tb_Day_rest : TS := tb_Day_rest_2
noncomputable def T_Day_rest : TF := tFun ["self", "number"] tb_Day_rest
set_option maxRecDepth 100000 in
set_option maxHeartbeats 4000000 in
theorem s_Day_rest {g : Gx} (F : Fx10 g) : SoundFc g 3 true f_Day_rest T_Day_rest :=
  has_meth F.m_rest (fun vals h => by obtain ⟨a, b, rfl⟩ := len2 h; rfl) (by decide +kernel) rfl rfl rfl (show SoundSs g 2 _ _ _ tb_Day_rest from (sound_cons (sound_expr (sound_methC F.K (sound_local (by decide +kernel) (by decide +kernel)) (sound_econs (sound_local (by decide +kernel) (by decide +kernel)) (sound_enil) (fun _ => rfl)) (s_Day_need_number F).call (by decide) F.m_need_number.find F.m_need_number.ty F.m_need_number.keep (fun _ _ => rfl) (by decide) rfl) (fun _ _ => rfl)) (sound_cons (sound_ret (sound_item (sound_attr F.K (sound_local (by decide +kernel) (by decide +kernel)) F.a_still (fun _ => rfl)) (sound_local (by decide +kernel) (by decide +kernel)) (fun _ _ _ => rfl))) (sound_nil))))
noncomputable abbrev tb_Day_pay_1 : TS := tSeq (tRet (tItem (tAttr c_Day_10 (tName "self") "still") (tName "number"))) (tNil)
noncomputable abbrev tb_Day_pay_2 : TS := tSeq (tStore (tAttr c_Day_10 (tName "self") "still") (tName "number") (tBin .Sub (tItem (tAttr c_Day_10 (tName "self") "still") (tName "number")) (tName "amount"))) (tb_Day_pay_1)
noncomputable abbrev tb_Day_pay_3 : TS := tSeq (tRaise c_BadAmount_10 (tEcons (tConst (.str "no more than is left")) (tEnil))) (tNil)
noncomputable abbrev tb_Day_pay_4 : TS := tSeq (tIf (tOr (tNot (tTest (tCall (tEcons (tName "amount") (tEnil)) T_is_number))) (tOr (tNot (tChainB .LtE .LtE (tConst (.int 1)) (tName "amount") (tItem (tAttr c_Day_10 (tName "self") "still") (tName "number")))) (tFalse))) (tb_Day_pay_3) (tNil)) (tb_Day_pay_2)
noncomputable abbrev tb_Day_pay_5 : TS := tSeq (tExpr (tMethC c_Day_10 "need_number" T_Day_need_number (tName "self") (tEcons (tName "number") (tEnil)))) (tb_Day_pay_4)
noncomputable def tb_Day_pay : TS := tb_Day_pay_5
noncomputable def T_Day_pay : TF := tFun ["self", "number", "amount"] tb_Day_pay
set_option maxRecDepth 100000 in
set_option maxHeartbeats 4000000 in
theorem s_Day_pay {g : Gx} (F : Fx10 g) : SoundFc g 3 true f_Day_pay T_Day_pay :=
  has_meth F.m_pay (fun vals h => by obtain ⟨a, b, c, rfl⟩ := len3 h; rfl) (by decide +kernel) rfl rfl rfl (show SoundSs g 2 _ _ _ tb_Day_pay from (sound_cons (sound_expr (sound_methC F.K (sound_local (by decide +kernel) (by decide +kernel)) (sound_econs (sound_local (by decide +kernel) (by decide +kernel)) (sound_enil) (fun _ => rfl)) (s_Day_need_number F).call (by decide) F.m_need_number.find F.m_need_number.ty F.m_need_number.keep (fun _ _ => rfl) (by decide) rfl) (fun _ _ => rfl)) (sound_cons (sound_if (soundB_or (soundB_not (soundB_plain (sound_callF (s_is_number F) (sound_econs (sound_local (by decide +kernel) (by decide +kernel)) (sound_enil) (fun _ => rfl)) (by decide +kernel) (by decide +kernel) (by decide)) (fun _ _ => rfl))) (soundB_or (soundB_not (soundB_chain (sound_int) (sound_local (by decide +kernel) (by decide +kernel)) (sound_item (sound_attr F.K (sound_local (by decide +kernel) (by decide +kernel)) F.a_still (fun _ => rfl)) (sound_local (by decide +kernel) (by decide +kernel)) (fun _ _ _ => rfl)) rfl)) (soundB_orNil))) (sound_cons (sound_raise F.o_BadAmount PySem.F.excBase_ValueError (sound_econs (sound_str) (sound_enil) (fun _ => rfl)) (by decide +kernel) (by decide +kernel)) (sound_nil)) (sound_nil)) (sound_cons (sound_store (sound_bin (sound_item (sound_attr F.K (sound_local (by decide +kernel) (by decide +kernel)) F.a_still (fun _ => rfl)) (sound_local (by decide +kernel) (by decide +kernel)) (fun _ _ _ => rfl)) (sound_local (by decide +kernel) (by decide +kernel))) (sound_attr F.K (sound_local (by decide +kernel) (by decide +kernel)) F.a_still (fun _ => rfl)) (sound_local (by decide +kernel) (by decide +kernel)) (fun _ _ => rfl)) (sound_cons (sound_ret (sound_item (sound_attr F.K (sound_local (by decide +kernel) (by decide +kernel)) F.a_still (fun _ => rfl)) (sound_local (by decide +kernel) (by decide +kernel)) (fun _ _ _ => rfl))) (sound_nil))))))
noncomputable abbrev tb_Day_standing_1 : TS := tSeq (tRet (tName "found")) (tNil)
noncomputable abbrev tb_Day_standing_2 : TS := tSeq (tExpr (tMeth appendF (tName "found") (tEcons (tTup (tEcons (tName "number") (tEcons (tItem (tItem (tAttr c_Day_10 (tName "self") "came") (tName "number")) (tConst (.int 0))) (tEcons (tItem (tItem (tAttr c_Day_10 (tName "self") "came") (tName "number")) (tConst (.int 1))) (tEcons (tItem (tAttr c_Day_10 (tName "self") "still") (tName "number")) (tEnil)))))) (tEnil)))) (tNil)
noncomputable abbrev tb_Day_standing_3 : TS := tSeq (tIf (tCmpB .Gt (tItem (tAttr c_Day_10 (tName "self") "still") (tName "number")) (tConst (.int 0))) (tb_Day_standing_2) (tNil)) (tNil)
noncomputable abbrev tb_Day_standing_4 : TS := tSeq (tFor "number" (tCall (tEcons (tCall (tEcons (tAttr c_Day_10 (tName "self") "came") (tEnil)) lenF) (tEnil)) rangeF) (tb_Day_standing_3)) (tb_Day_standing_1)
noncomputable abbrev tb_Day_standing_5 : TS := tSeq (tSet "found" (tList (tEnil))) (tb_Day_standing_4)
noncomputable def tb_Day_standing : TS := tb_Day_standing_5
noncomputable def T_Day_standing : TF := tFun ["self"] tb_Day_standing
set_option maxRecDepth 100000 in
set_option maxHeartbeats 4000000 in
theorem s_Day_standing {g : Gx} (F : Fx10 g) : SoundFc g 1 true f_Day_standing T_Day_standing :=
  has_meth F.m_standing (fun vals h => by obtain ⟨a, rfl⟩ := len1 h; rfl) (by decide +kernel) rfl rfl rfl (show SoundSs g 0 _ _ _ tb_Day_standing from (sound_cons (sound_set (sound_list (sound_enil)) (.inl (by decide +kernel)) (fun _ _ => rfl)) (sound_cons (sound_for (sound_callT (by decide +kernel) (by decide +kernel) F.c_range (sound_econs (sound_callB (by decide +kernel) (by decide +kernel) F.b_len (sound_econs (sound_attr F.K (sound_local (by decide +kernel) (by decide +kernel)) F.a_came (fun _ => rfl)) (sound_enil) (fun _ => rfl)) bi_len) (sound_enil) (fun _ => rfl)) bi_range) (sound_cons (sound_if (soundB_cmp (sound_item (sound_attr F.K (sound_local (by decide +kernel) (by decide +kernel)) F.a_still (fun _ => rfl)) (sound_local (by decide +kernel) (by decide +kernel)) (fun _ _ _ => rfl)) (sound_int) rfl) (sound_cons (sound_expr (sound_meth (sound_local (by decide +kernel) (by decide +kernel)) (sound_econs (sound_tuple (sound_econs (sound_local (by decide +kernel) (by decide +kernel)) (sound_econs (sound_item (sound_item (sound_attr F.K (sound_local (by decide +kernel) (by decide +kernel)) F.a_came (fun _ => rfl)) (sound_local (by decide +kernel) (by decide +kernel)) (fun _ _ _ => rfl)) (sound_int) (fun _ _ _ => rfl)) (sound_econs (sound_item (sound_item (sound_attr F.K (sound_local (by decide +kernel) (by decide +kernel)) F.a_came (fun _ => rfl)) (sound_local (by decide +kernel) (by decide +kernel)) (fun _ _ _ => rfl)) (sound_int) (fun _ _ _ => rfl)) (sound_econs (sound_item (sound_attr F.K (sound_local (by decide +kernel) (by decide +kernel)) F.a_still (fun _ => rfl)) (sound_local (by decide +kernel) (by decide +kernel)) (fun _ _ _ => rfl)) (sound_enil) (fun _ => rfl)) (fun _ => rfl)) (fun _ => rfl)) (fun _ => rfl))) (sound_enil) (fun _ => rfl)) me_append (fun _ _ => rfl) (by decide) rfl slot_append ty_append) (fun _ _ => rfl)) (sound_nil)) (sound_nil)) (sound_nil)) (.inl (by decide +kernel)) (fun _ _ => rfl)) (sound_cons (sound_ret (sound_local (by decide +kernel) (by decide +kernel))) (sound_nil)))))
noncomputable abbrev tb_Day_balance_1 : TS := tSeq (tRet (tItem (tCall (tEcons (tAttr c_Day_10 (tName "self") "houses") (tEcons (tComp "one" [] (tMethC c_Day_10 "standing" T_Day_standing (tName "self") (tEnil)) (tTrue) (tTupFrom (tName "one") (tPsome (tConst (.int 1))))) (tEnil))) T_balances) (tName "house"))) (tNil)
noncomputable abbrev tb_Day_balance_2 : TS := tSeq (tRaise c_NoHouse_10 (tEcons (tConst (.str "no such house")) (tEnil))) (tNil)
noncomputable abbrev tb_Day_balance_3 : TS := tSeq (tIf (tNot (tTest (tCall (tEcons (tAttr c_Day_10 (tName "self") "houses") (tEcons (tName "house") (tEnil))) T_is_house))) (tb_Day_balance_2) (tNil)) (tb_Day_balance_1)
noncomputable def tb_Day_balance : TS := tb_Day_balance_3
noncomputable def T_Day_balance : TF := tFun ["self", "house"] tb_Day_balance
set_option maxRecDepth 100000 in
set_option maxHeartbeats 4000000 in
theorem s_Day_balance {g : Gx} (F : Fx10 g) : SoundFc g 3 true f_Day_balance T_Day_balance :=
  has_meth F.m_balance (fun vals h => by obtain ⟨a, b, rfl⟩ := len2 h; rfl) (by decide +kernel) rfl rfl rfl (show SoundSs g 2 _ _ _ tb_Day_balance from (sound_cons (sound_if (soundB_not (soundB_plain (sound_callF (s_is_house F) (sound_econs (sound_attr F.K (sound_local (by decide +kernel) (by decide +kernel)) F.a_houses (fun _ => rfl)) (sound_econs (sound_local (by decide +kernel) (by decide +kernel)) (sound_enil) (fun _ => rfl)) (fun _ => rfl)) (by decide +kernel) (by decide +kernel) (by decide)) (fun _ _ => rfl))) (sound_cons (sound_raise F.o_NoHouse PySem.F.excBase_ValueError (sound_econs (sound_str) (sound_enil) (fun _ => rfl)) (by decide +kernel) (by decide +kernel)) (sound_nil)) (sound_nil)) (sound_cons (sound_ret (sound_item (sound_callF (s_balances F) (sound_econs (sound_attr F.K (sound_local (by decide +kernel) (by decide +kernel)) F.a_houses (fun _ => rfl)) (sound_econs (sound_comp (compOk (by decide +kernel) (by decide +kernel) (by decide +kernel) (by decide +kernel) (by decide +kernel) (by decide +kernel)) (sound_methC F.K (sound_local (by decide +kernel) (by decide +kernel)) (sound_enil) (s_Day_standing F).call (by decide) F.m_standing.find F.m_standing.ty F.m_standing.keep (fun _ _ => rfl) (by decide) rfl) (ifs_nil) (sound_tupfrom (sound_local (by decide +kernel) (by decide +kernel)) (part_some (sound_int)) (fun _ _ => rfl)) (fun _ _ => rfl)) (sound_enil) (fun _ => rfl)) (fun _ => rfl)) (by decide +kernel) (by decide +kernel) (by decide)) (sound_local (by decide +kernel) (by decide +kernel)) (fun _ _ _ => rfl))) (sound_nil))))
noncomputable abbrev tb_law_cell_at_1 : TS := tSeq (tRet (tConst (.int 0))) (tNil)
noncomputable abbrev tb_law_cell_at_2 : TS := tSeq (tRet (tItem (tName "_law_script") (tName "_law_k"))) (tNil)
noncomputable abbrev tb_law_cell_at_3 : TS := tSeq (tIf (tCmpB .Lt (tName "_law_k") (tCall (tEcons (tName "_law_script") (tEnil)) lenF)) (tb_law_cell_at_2) (tNil)) (tb_law_cell_at_1)
noncomputable def tb_law_cell_at : TS := tb_law_cell_at_3
noncomputable def T_law_cell_at : TF := tFun ["_law_script", "_law_k"] tb_law_cell_at
set_option maxRecDepth 100000 in
set_option maxHeartbeats 4000000 in
theorem s_law_cell_at {g : Gx} (F : Fx10 g) {q : Bool} : HasF g 1 q "_law_cell_at" T_law_cell_at :=
  has_def (F.d 6 (by decide)) rfl (fun _ _ _ vals h => by obtain ⟨a, b, rfl⟩ := len2 h; rfl) (by decide +kernel) rfl rfl rfl (show SoundSs g 0 _ _ _ tb_law_cell_at from (sound_cons (sound_if (soundB_cmp (sound_local (by decide +kernel) (by decide +kernel)) (sound_callB (by decide +kernel) (by decide +kernel) F.b_len (sound_econs (sound_local (by decide +kernel) (by decide +kernel)) (sound_enil) (fun _ => rfl)) bi_len) rfl) (sound_cons (sound_ret (sound_item (sound_local (by decide +kernel) (by decide +kernel)) (sound_local (by decide +kernel) (by decide +kernel)) (fun _ _ _ => rfl))) (sound_nil)) (sound_nil)) (sound_cons (sound_ret (sound_int)) (sound_nil))))
noncomputable abbrev tb_law_whole_1 : TS := tSeq (tRet (tAndE (tIsinst (tName "_law_found") okInt) (tNotE (tIsinst (tName "_law_found") okBool)))) (tNil)
noncomputable def tb_law_whole : TS := tb_law_whole_1
noncomputable def T_law_whole : TF := tFun ["_law_found"] tb_law_whole
set_option maxRecDepth 100000 in
set_option maxHeartbeats 4000000 in
theorem s_law_whole {g : Gx} (F : Fx10 g) {q : Bool} : HasF g 1 q "_law_whole" T_law_whole :=
  has_def (F.d 7 (by decide)) rfl (fun _ _ _ vals h => by obtain ⟨a, rfl⟩ := len1 h; rfl) (by decide +kernel) rfl rfl rfl (show SoundSs g 0 _ _ _ tb_law_whole from (sound_cons (sound_ret (sound_and (sound_isinst (sound_local (by decide +kernel) (by decide +kernel)) (by decide +kernel) F.b_isinstance (by decide +kernel) (by decide +kernel) F.c_int okInt_ok (fun _ _ e => by cases e) (fun _ => rfl)) (sound_one (sound_not (sound_isinst (sound_local (by decide +kernel) (by decide +kernel)) (by decide +kernel) F.b_isinstance (by decide +kernel) (by decide +kernel) F.c_bool okBool_ok (fun _ _ e => by cases e) (fun _ => rfl)))))) (sound_nil)))
noncomputable abbrev tb_law_kind_1 : TS := tSeq (tRet (tItem (tName "_law_words") (tConst (.int 0)))) (tNil)
noncomputable abbrev tb_law_kind_2 : TS := tSeq (tRet (tConst (.str "other"))) (tNil)
noncomputable abbrev tb_law_kind_3 : TS := tSeq (tIf (tOr (tCmpB .NotEq (tCall (tEcons (tName "_law_words") (tEnil)) lenF) (tConst (.int 1))) (tOr (tNot (tTest (tIsinst (tName "_law_error") okVal))) (tFalse))) (tb_law_kind_2) (tNil)) (tb_law_kind_1)
noncomputable abbrev tb_law_kind_4 : TS := tSeq (tExpr (tMeth appendF (tName "_law_words") (tEcons (tConst (.str "amount")) (tEnil)))) (tNil)
noncomputable abbrev tb_law_kind_5 : TS := tSeq (tIf (tTest (tIsinst (tName "_law_error") (okOwn c_BadAmount_10))) (tb_law_kind_4) (tNil)) (tb_law_kind_3)
noncomputable abbrev tb_law_kind_6 : TS := tSeq (tExpr (tMeth appendF (tName "_law_words") (tEcons (tConst (.str "house")) (tEnil)))) (tNil)
noncomputable abbrev tb_law_kind_7 : TS := tSeq (tIf (tTest (tIsinst (tName "_law_error") (okOwn c_NoHouse_10))) (tb_law_kind_6) (tNil)) (tb_law_kind_5)
noncomputable abbrev tb_law_kind_8 : TS := tSeq (tExpr (tMeth appendF (tName "_law_words") (tEcons (tConst (.str "number")) (tEnil)))) (tNil)
noncomputable abbrev tb_law_kind_9 : TS := tSeq (tIf (tTest (tIsinst (tName "_law_error") (okOwn c_NoDebt_10))) (tb_law_kind_8) (tNil)) (tb_law_kind_7)
noncomputable abbrev tb_law_kind_10 : TS := tSeq (tExpr (tMeth appendF (tName "_law_words") (tEcons (tConst (.str "not best")) (tEnil)))) (tNil)
noncomputable abbrev tb_law_kind_11 : TS := tSeq (tIf (tTest (tIsinst (tName "_law_error") (okOwn c_NotBest_10))) (tb_law_kind_10) (tNil)) (tb_law_kind_9)
noncomputable abbrev tb_law_kind_12 : TS := tSeq (tExpr (tMeth appendF (tName "_law_words") (tEcons (tConst (.str "prices")) (tEnil)))) (tNil)
noncomputable abbrev tb_law_kind_13 : TS := tSeq (tIf (tTest (tIsinst (tName "_law_error") (okOwn c_BadPrices_10))) (tb_law_kind_12) (tNil)) (tb_law_kind_11)
noncomputable abbrev tb_law_kind_14 : TS := tSeq (tExpr (tMeth appendF (tName "_law_words") (tEcons (tConst (.str "uneven")) (tEnil)))) (tNil)
noncomputable abbrev tb_law_kind_15 : TS := tSeq (tIf (tTest (tIsinst (tName "_law_error") (okOwn c_Uneven_10))) (tb_law_kind_14) (tNil)) (tb_law_kind_13)
noncomputable abbrev tb_law_kind_16 : TS := tSeq (tExpr (tMeth appendF (tName "_law_words") (tEcons (tConst (.str "cut")) (tEnil)))) (tNil)
noncomputable abbrev tb_law_kind_17 : TS := tSeq (tIf (tTest (tIsinst (tName "_law_error") (okOwn c_BadCut_10))) (tb_law_kind_16) (tNil)) (tb_law_kind_15)
noncomputable abbrev tb_law_kind_18 : TS := tSeq (tExpr (tMeth appendF (tName "_law_words") (tEcons (tConst (.str "debt")) (tEnil)))) (tNil)
noncomputable abbrev tb_law_kind_19 : TS := tSeq (tIf (tTest (tIsinst (tName "_law_error") (okOwn c_BadDebt_10))) (tb_law_kind_18) (tNil)) (tb_law_kind_17)
noncomputable abbrev tb_law_kind_20 : TS := tSeq (tExpr (tMeth appendF (tName "_law_words") (tEcons (tConst (.str "count")) (tEnil)))) (tNil)
noncomputable abbrev tb_law_kind_21 : TS := tSeq (tIf (tTest (tIsinst (tName "_law_error") (okOwn c_BadCount_10))) (tb_law_kind_20) (tNil)) (tb_law_kind_19)
noncomputable abbrev tb_law_kind_22 : TS := tSeq (tSet "_law_words" (tList (tEnil))) (tb_law_kind_21)
noncomputable def tb_law_kind : TS := tb_law_kind_22
noncomputable def T_law_kind : TF := tFun ["_law_error"] tb_law_kind
set_option maxRecDepth 100000 in
set_option maxHeartbeats 4000000 in
theorem s_law_kind {g : Gx} (F : Fx10 g) {q : Bool} : HasF g 1 q "_law_kind" T_law_kind :=
  has_def (F.d 8 (by decide)) rfl (fun _ _ _ vals h => by obtain ⟨a, rfl⟩ := len1 h; rfl) (by decide +kernel) rfl rfl rfl (show SoundSs g 0 _ _ _ tb_law_kind from (sound_cons (sound_set (sound_list (sound_enil)) (.inl (by decide +kernel)) (fun _ _ => rfl)) (sound_cons (sound_if (soundB_plain (sound_isinst (sound_local (by decide +kernel) (by decide +kernel)) (by decide +kernel) F.b_isinstance (by decide +kernel) (by decide +kernel) F.c_BadCount (okOwn_ok F.i_BadCount) (okOwn_x F.x) (fun _ => rfl)) (fun _ _ => rfl)) (sound_cons (sound_expr (sound_meth (sound_local (by decide +kernel) (by decide +kernel)) (sound_econs (sound_str) (sound_enil) (fun _ => rfl)) me_append (fun _ _ => rfl) (by decide) rfl slot_append ty_append) (fun _ _ => rfl)) (sound_nil)) (sound_nil)) (sound_cons (sound_if (soundB_plain (sound_isinst (sound_local (by decide +kernel) (by decide +kernel)) (by decide +kernel) F.b_isinstance (by decide +kernel) (by decide +kernel) F.c_BadDebt (okOwn_ok F.i_BadDebt) (okOwn_x F.x) (fun _ => rfl)) (fun _ _ => rfl)) (sound_cons (sound_expr (sound_meth (sound_local (by decide +kernel) (by decide +kernel)) (sound_econs (sound_str) (sound_enil) (fun _ => rfl)) me_append (fun _ _ => rfl) (by decide) rfl slot_append ty_append) (fun _ _ => rfl)) (sound_nil)) (sound_nil)) (sound_cons (sound_if (soundB_plain (sound_isinst (sound_local (by decide +kernel) (by decide +kernel)) (by decide +kernel) F.b_isinstance (by decide +kernel) (by decide +kernel) F.c_BadCut (okOwn_ok F.i_BadCut) (okOwn_x F.x) (fun _ => rfl)) (fun _ _ => rfl)) (sound_cons (sound_expr (sound_meth (sound_local (by decide +kernel) (by decide +kernel)) (sound_econs (sound_str) (sound_enil) (fun _ => rfl)) me_append (fun _ _ => rfl) (by decide) rfl slot_append ty_append) (fun _ _ => rfl)) (sound_nil)) (sound_nil)) (sound_cons (sound_if (soundB_plain (sound_isinst (sound_local (by decide +kernel) (by decide +kernel)) (by decide +kernel) F.b_isinstance (by decide +kernel) (by decide +kernel) F.c_Uneven (okOwn_ok F.i_Uneven) (okOwn_x F.x) (fun _ => rfl)) (fun _ _ => rfl)) (sound_cons (sound_expr (sound_meth (sound_local (by decide +kernel) (by decide +kernel)) (sound_econs (sound_str) (sound_enil) (fun _ => rfl)) me_append (fun _ _ => rfl) (by decide) rfl slot_append ty_append) (fun _ _ => rfl)) (sound_nil)) (sound_nil)) (sound_cons (sound_if (soundB_plain (sound_isinst (sound_local (by decide +kernel) (by decide +kernel)) (by decide +kernel) F.b_isinstance (by decide +kernel) (by decide +kernel) F.c_BadPrices (okOwn_ok F.i_BadPrices) (okOwn_x F.x) (fun _ => rfl)) (fun _ _ => rfl)) (sound_cons (sound_expr (sound_meth (sound_local (by decide +kernel) (by decide +kernel)) (sound_econs (sound_str) (sound_enil) (fun _ => rfl)) me_append (fun _ _ => rfl) (by decide) rfl slot_append ty_append) (fun _ _ => rfl)) (sound_nil)) (sound_nil)) (sound_cons (sound_if (soundB_plain (sound_isinst (sound_local (by decide +kernel) (by decide +kernel)) (by decide +kernel) F.b_isinstance (by decide +kernel) (by decide +kernel) F.c_NotBest (okOwn_ok F.i_NotBest) (okOwn_x F.x) (fun _ => rfl)) (fun _ _ => rfl)) (sound_cons (sound_expr (sound_meth (sound_local (by decide +kernel) (by decide +kernel)) (sound_econs (sound_str) (sound_enil) (fun _ => rfl)) me_append (fun _ _ => rfl) (by decide) rfl slot_append ty_append) (fun _ _ => rfl)) (sound_nil)) (sound_nil)) (sound_cons (sound_if (soundB_plain (sound_isinst (sound_local (by decide +kernel) (by decide +kernel)) (by decide +kernel) F.b_isinstance (by decide +kernel) (by decide +kernel) F.c_NoDebt (okOwn_ok F.i_NoDebt) (okOwn_x F.x) (fun _ => rfl)) (fun _ _ => rfl)) (sound_cons (sound_expr (sound_meth (sound_local (by decide +kernel) (by decide +kernel)) (sound_econs (sound_str) (sound_enil) (fun _ => rfl)) me_append (fun _ _ => rfl) (by decide) rfl slot_append ty_append) (fun _ _ => rfl)) (sound_nil)) (sound_nil)) (sound_cons (sound_if (soundB_plain (sound_isinst (sound_local (by decide +kernel) (by decide +kernel)) (by decide +kernel) F.b_isinstance (by decide +kernel) (by decide +kernel) F.c_NoHouse (okOwn_ok F.i_NoHouse) (okOwn_x F.x) (fun _ => rfl)) (fun _ _ => rfl)) (sound_cons (sound_expr (sound_meth (sound_local (by decide +kernel) (by decide +kernel)) (sound_econs (sound_str) (sound_enil) (fun _ => rfl)) me_append (fun _ _ => rfl) (by decide) rfl slot_append ty_append) (fun _ _ => rfl)) (sound_nil)) (sound_nil)) (sound_cons (sound_if (soundB_plain (sound_isinst (sound_local (by decide +kernel) (by decide +kernel)) (by decide +kernel) F.b_isinstance (by decide +kernel) (by decide +kernel) F.c_BadAmount (okOwn_ok F.i_BadAmount) (okOwn_x F.x) (fun _ => rfl)) (fun _ _ => rfl)) (sound_cons (sound_expr (sound_meth (sound_local (by decide +kernel) (by decide +kernel)) (sound_econs (sound_str) (sound_enil) (fun _ => rfl)) me_append (fun _ _ => rfl) (by decide) rfl slot_append ty_append) (fun _ _ => rfl)) (sound_nil)) (sound_nil)) (sound_cons (sound_if (soundB_or (soundB_cmp (sound_callB (by decide +kernel) (by decide +kernel) F.b_len (sound_econs (sound_local (by decide +kernel) (by decide +kernel)) (sound_enil) (fun _ => rfl)) bi_len) (sound_int) rfl) (soundB_or (soundB_not (soundB_plain (sound_isinst (sound_local (by decide +kernel) (by decide +kernel)) (by decide +kernel) F.b_isinstance (by decide +kernel) (by decide +kernel) F.c_ValueError (okVal_ok F.i_ValueError) (okVal_x F.x) (fun _ => rfl)) (fun _ _ => rfl))) (soundB_orNil))) (sound_cons (sound_ret (sound_str)) (sound_nil)) (sound_nil)) (sound_cons (sound_ret (sound_item (sound_local (by decide +kernel) (by decide +kernel)) (sound_int) (fun _ _ _ => rfl))) (sound_nil))))))))))))))
noncomputable def tb_law_owed : TS := tSeq (tSet "_law_debtor" (tBin .Mod (tBin .FloorDiv (tName "_law_cell") (tConst (.int 6))) (tName "_law_count"))) (tSeq (tSet "_law_creditor" (tBin .Mod (tBin .Add (tBin .Add (tName "_law_debtor") (tConst (.int 1))) (tBin .Mod (tBin .FloorDiv (tName "_law_cell") (tConst (.int 36))) (tBin .Sub (tName "_law_count") (tConst (.int 1))))) (tName "_law_count"))) (tSeq (tSet "_law_amount" (tBin .Add (tConst (.int 1)) (tBin .Mod (tBin .FloorDiv (tName "_law_cell") (tConst (.int 180))) (tConst (.int 3))))) (tSeq (tIf (tCmpB .Eq (tBin .Mod (tBin .FloorDiv (tName "_law_cell") (tConst (.int 540))) (tConst (.int 3))) (tConst (.int 1))) (tSeq (tSet "_law_amount" (tBin .Add (tConst (.int 1)) (tBin .Mod (tBin .FloorDiv (tName "_law_cell") (tConst (.int 1620))) (tConst (.int 1000000000))))) (tNil)) (tNil)) (tSeq (tSet "_law_due" (tCall (tEcons (tName "_law_rows") (tEnil)) lenF)) (tSeq (tIf (tCmpB .Eq (tBin .Mod (tName "_law_cell") (tConst (.int 6))) (tConst (.int 5))) (tSeq (tSet "_law_far" (tBin .Mod (tBin .FloorDiv (tName "_law_cell") (tConst (.int 3240))) (tConst (.int 1000003)))) (tSeq (tSet "_law_odd" (tList (tEcons (tTup (tEcons (tName "_law_debtor") (tEcons (tName "_law_debtor") (tEcons (tName "_law_amount") (tEnil))))) (tEcons (tTup (tEcons (tBin .Sub (tNeg (tConst (.int 1))) (tName "_law_far")) (tEcons (tName "_law_creditor") (tEcons (tName "_law_amount") (tEnil))))) (tEcons (tTup (tEcons (tName "_law_debtor") (tEcons (tBin .Add (tName "_law_count") (tName "_law_far")) (tEcons (tName "_law_amount") (tEnil))))) (tEnil)))))) (tSeq (tSet "_law_odd" (tBin .Add (tName "_law_odd") (tList (tEcons (tTup (tEcons (tName "_law_debtor") (tEcons (tName "_law_creditor") (tEcons (tConst (.int 0)) (tEnil))))) (tEcons (tTup (tEcons (tName "_law_debtor") (tEcons (tName "_law_creditor") (tEcons (tBin .Add (tConst (.int 1000000001)) (tName "_law_far")) (tEnil))))) (tEcons (tTup (tEcons (tName "_law_debtor") (tEcons (tConst (.bool true)) (tEcons (tName "_law_amount") (tEnil))))) (tEnil))))))) (tSeq (tSet "_law_odd" (tBin .Add (tName "_law_odd") (tList (tEcons (tTup (tEcons (tName "_law_debtor") (tEcons (tName "_law_creditor") (tEcons (tConst .none) (tEnil))))) (tEcons (tTup (tEcons (tConst (.str "0")) (tEcons (tConst (.int 1)) (tEcons (tConst (.int 1)) (tEnil))))) (tEcons (tTup (tEcons (tConst (.bool false)) (tEcons (tName "_law_creditor") (tEcons (tName "_law_amount") (tEnil))))) (tEnil))))))) (tSeq (tSet "_law_odd" (tBin .Add (tName "_law_odd") (tList (tEcons (tTup (tEcons (tName "_law_debtor") (tEcons (tBin .Sub (tNeg (tConst (.int 1))) (tName "_law_far")) (tEcons (tName "_law_amount") (tEnil))))) (tEcons (tTup (tEcons (tBin .Add (tName "_law_count") (tName "_law_far")) (tEcons (tName "_law_creditor") (tEcons (tName "_law_amount") (tEnil))))) (tEcons (tTup (tEcons (tName "_law_debtor") (tEcons (tName "_law_creditor") (tEcons (tConst (.bool true)) (tEnil))))) (tEnil))))))) (tSeq (tSet "_law_odd" (tBin .Add (tName "_law_odd") (tList (tEcons (tTup (tEcons (tName "_law_debtor") (tEcons (tName "_law_creditor") (tEcons (tConst (.str "1")) (tEnil))))) (tEcons (tTup (tEcons (tName "_law_debtor") (tEcons (tConst .none) (tEcons (tName "_law_amount") (tEnil))))) (tEcons (tTup (tEcons (tName "_law_debtor") (tEcons (tName "_law_creditor") (tEcons (tBin .Sub (tNeg (tConst (.int 1))) (tName "_law_far")) (tEnil))))) (tEcons (tTup (tEcons (tConst (.bool true)) (tEcons (tConst (.int 0)) (tEcons (tName "_law_amount") (tEnil))))) (tEnil)))))))) (tSeq (tUnpack ["_law_debtor", "_law_creditor", "_law_amount"] (tItem (tName "_law_odd") (tBin .Mod (tBin .FloorDiv (tName "_law_cell") (tConst (.int 540))) (tConst (.int 16))))) (tSeq (tSet "_law_due" (tConst (.str "debt"))) (tNil))))))))) (tNil)) (tSeq (tTry "_law_error" exCls (tSeq (tSet "_law_found" (tMethC c_Day_10 "owe" T_Day_owe (tName "_law_day") (tEcons (tName "_law_debtor") (tEcons (tName "_law_creditor") (tEcons (tName "_law_amount") (tEnil)))))) (tNil)) (tSeq (tRet (tCmp .Eq (tCall (tEcons (tName "_law_error") (tEnil)) T_law_kind) (tName "_law_due"))) (tNil))) (tSeq (tExpr (tMeth appendF (tName "_law_rows") (tEcons (tList (tEcons (tName "_law_debtor") (tEcons (tName "_law_creditor") (tEcons (tName "_law_amount") (tEnil))))) (tEnil)))) (tSeq (tRet (tAndE (tCall (tEcons (tName "_law_found") (tEnil)) T_law_whole) (tCmp .Eq (tName "_law_found") (tName "_law_due")))) (tNil)))))))))
noncomputable def T_law_owed : TF := tFun ["_law_day", "_law_rows", "_law_count", "_law_cell"] tb_law_owed
set_option maxRecDepth 100000 in
set_option maxHeartbeats 4000000 in
theorem s_law_owed {g : Gx} (F : Fx10 g) : HasF g 5 true "_law_owed" T_law_owed :=
  has_def (F.d 9 (by decide)) rfl (fun _ _ _ vals h => by obtain ⟨a, b, c, d, rfl⟩ := len4 h; rfl) (by decide +kernel) rfl rfl rfl (show SoundSs g 4 _ _ _ tb_law_owed from (sound_cons (sound_set (sound_bin (sound_bin (sound_local (by decide +kernel) (by decide +kernel)) (sound_int)) (sound_local (by decide +kernel) (by decide +kernel))) (.inl (by decide +kernel)) (fun _ _ => rfl)) (sound_cons (sound_set (sound_bin (sound_bin (sound_bin (sound_local (by decide +kernel) (by decide +kernel)) (sound_int)) (sound_bin (sound_bin (sound_local (by decide +kernel) (by decide +kernel)) (sound_int)) (sound_bin (sound_local (by decide +kernel) (by decide +kernel)) (sound_int)))) (sound_local (by decide +kernel) (by decide +kernel))) (.inl (by decide +kernel)) (fun _ _ => rfl)) (sound_cons (sound_set (sound_bin (sound_int) (sound_bin (sound_bin (sound_local (by decide +kernel) (by decide +kernel)) (sound_int)) (sound_int))) (.inl (by decide +kernel)) (fun _ _ => rfl)) (sound_cons (sound_if (soundB_cmp (sound_bin (sound_bin (sound_local (by decide +kernel) (by decide +kernel)) (sound_int)) (sound_int)) (sound_int) rfl) (sound_cons (sound_set (sound_bin (sound_int) (sound_bin (sound_bin (sound_local (by decide +kernel) (by decide +kernel)) (sound_int)) (sound_int))) (.inl (by decide +kernel)) (fun _ _ => rfl)) (sound_nil)) (sound_nil)) (sound_cons (sound_set (sound_callB (by decide +kernel) (by decide +kernel) F.b_len (sound_econs (sound_local (by decide +kernel) (by decide +kernel)) (sound_enil) (fun _ => rfl)) bi_len) (.inl (by decide +kernel)) (fun _ _ => rfl)) (sound_cons (sound_if (soundB_cmp (sound_bin (sound_local (by decide +kernel) (by decide +kernel)) (sound_int)) (sound_int) rfl) (sound_cons (sound_set (sound_bin (sound_bin (sound_local (by decide +kernel) (by decide +kernel)) (sound_int)) (sound_int)) (.inl (by decide +kernel)) (fun _ _ => rfl)) (sound_cons (sound_set (sound_list (sound_econs (sound_tuple (sound_econs (sound_local (by decide +kernel) (by decide +kernel)) (sound_econs (sound_local (by decide +kernel) (by decide +kernel)) (sound_econs (sound_local (by decide +kernel) (by decide +kernel)) (sound_enil) (fun _ => rfl)) (fun _ => rfl)) (fun _ => rfl))) (sound_econs (sound_tuple (sound_econs (sound_bin (sound_neg (sound_int)) (sound_local (by decide +kernel) (by decide +kernel))) (sound_econs (sound_local (by decide +kernel) (by decide +kernel)) (sound_econs (sound_local (by decide +kernel) (by decide +kernel)) (sound_enil) (fun _ => rfl)) (fun _ => rfl)) (fun _ => rfl))) (sound_econs (sound_tuple (sound_econs (sound_local (by decide +kernel) (by decide +kernel)) (sound_econs (sound_bin (sound_local (by decide +kernel) (by decide +kernel)) (sound_local (by decide +kernel) (by decide +kernel))) (sound_econs (sound_local (by decide +kernel) (by decide +kernel)) (sound_enil) (fun _ => rfl)) (fun _ => rfl)) (fun _ => rfl))) (sound_enil) (fun _ => rfl)) (fun _ => rfl)) (fun _ => rfl))) (.inl (by decide +kernel)) (fun _ _ => rfl)) (sound_cons (sound_set (sound_bin (sound_local (by decide +kernel) (by decide +kernel)) (sound_list (sound_econs (sound_tuple (sound_econs (sound_local (by decide +kernel) (by decide +kernel)) (sound_econs (sound_local (by decide +kernel) (by decide +kernel)) (sound_econs (sound_int) (sound_enil) (fun _ => rfl)) (fun _ => rfl)) (fun _ => rfl))) (sound_econs (sound_tuple (sound_econs (sound_local (by decide +kernel) (by decide +kernel)) (sound_econs (sound_local (by decide +kernel) (by decide +kernel)) (sound_econs (sound_bin (sound_int) (sound_local (by decide +kernel) (by decide +kernel))) (sound_enil) (fun _ => rfl)) (fun _ => rfl)) (fun _ => rfl))) (sound_econs (sound_tuple (sound_econs (sound_local (by decide +kernel) (by decide +kernel)) (sound_econs (sound_bool) (sound_econs (sound_local (by decide +kernel) (by decide +kernel)) (sound_enil) (fun _ => rfl)) (fun _ => rfl)) (fun _ => rfl))) (sound_enil) (fun _ => rfl)) (fun _ => rfl)) (fun _ => rfl)))) (.inl (by decide +kernel)) (fun _ _ => rfl)) (sound_cons (sound_set (sound_bin (sound_local (by decide +kernel) (by decide +kernel)) (sound_list (sound_econs (sound_tuple (sound_econs (sound_local (by decide +kernel) (by decide +kernel)) (sound_econs (sound_local (by decide +kernel) (by decide +kernel)) (sound_econs (sound_none) (sound_enil) (fun _ => rfl)) (fun _ => rfl)) (fun _ => rfl))) (sound_econs (sound_tuple (sound_econs (sound_str) (sound_econs (sound_int) (sound_econs (sound_int) (sound_enil) (fun _ => rfl)) (fun _ => rfl)) (fun _ => rfl))) (sound_econs (sound_tuple (sound_econs (sound_bool) (sound_econs (sound_local (by decide +kernel) (by decide +kernel)) (sound_econs (sound_local (by decide +kernel) (by decide +kernel)) (sound_enil) (fun _ => rfl)) (fun _ => rfl)) (fun _ => rfl))) (sound_enil) (fun _ => rfl)) (fun _ => rfl)) (fun _ => rfl)))) (.inl (by decide +kernel)) (fun _ _ => rfl)) (sound_cons (sound_set (sound_bin (sound_local (by decide +kernel) (by decide +kernel)) (sound_list (sound_econs (sound_tuple (sound_econs (sound_local (by decide +kernel) (by decide +kernel)) (sound_econs (sound_bin (sound_neg (sound_int)) (sound_local (by decide +kernel) (by decide +kernel))) (sound_econs (sound_local (by decide +kernel) (by decide +kernel)) (sound_enil) (fun _ => rfl)) (fun _ => rfl)) (fun _ => rfl))) (sound_econs (sound_tuple (sound_econs (sound_bin (sound_local (by decide +kernel) (by decide +kernel)) (sound_local (by decide +kernel) (by decide +kernel))) (sound_econs (sound_local (by decide +kernel) (by decide +kernel)) (sound_econs (sound_local (by decide +kernel) (by decide +kernel)) (sound_enil) (fun _ => rfl)) (fun _ => rfl)) (fun _ => rfl))) (sound_econs (sound_tuple (sound_econs (sound_local (by decide +kernel) (by decide +kernel)) (sound_econs (sound_local (by decide +kernel) (by decide +kernel)) (sound_econs (sound_bool) (sound_enil) (fun _ => rfl)) (fun _ => rfl)) (fun _ => rfl))) (sound_enil) (fun _ => rfl)) (fun _ => rfl)) (fun _ => rfl)))) (.inl (by decide +kernel)) (fun _ _ => rfl)) (sound_cons (sound_set (sound_bin (sound_local (by decide +kernel) (by decide +kernel)) (sound_list (sound_econs (sound_tuple (sound_econs (sound_local (by decide +kernel) (by decide +kernel)) (sound_econs (sound_local (by decide +kernel) (by decide +kernel)) (sound_econs (sound_str) (sound_enil) (fun _ => rfl)) (fun _ => rfl)) (fun _ => rfl))) (sound_econs (sound_tuple (sound_econs (sound_local (by decide +kernel) (by decide +kernel)) (sound_econs (sound_none) (sound_econs (sound_local (by decide +kernel) (by decide +kernel)) (sound_enil) (fun _ => rfl)) (fun _ => rfl)) (fun _ => rfl))) (sound_econs (sound_tuple (sound_econs (sound_local (by decide +kernel) (by decide +kernel)) (sound_econs (sound_local (by decide +kernel) (by decide +kernel)) (sound_econs (sound_bin (sound_neg (sound_int)) (sound_local (by decide +kernel) (by decide +kernel))) (sound_enil) (fun _ => rfl)) (fun _ => rfl)) (fun _ => rfl))) (sound_econs (sound_tuple (sound_econs (sound_bool) (sound_econs (sound_int) (sound_econs (sound_local (by decide +kernel) (by decide +kernel)) (sound_enil) (fun _ => rfl)) (fun _ => rfl)) (fun _ => rfl))) (sound_enil) (fun _ => rfl)) (fun _ => rfl)) (fun _ => rfl)) (fun _ => rfl)))) (.inl (by decide +kernel)) (fun _ _ => rfl)) (sound_cons (sound_unpack (nps := [("_law_debtor", ⟨137, 8, 137, 19⟩), ("_law_creditor", ⟨137, 21, 137, 34⟩), ("_law_amount", ⟨137, 36, 137, 47⟩)]) (sound_item (sound_local (by decide +kernel) (by decide +kernel)) (sound_bin (sound_bin (sound_local (by decide +kernel) (by decide +kernel)) (sound_int)) (sound_int)) (fun _ _ _ => rfl)) (by decide +kernel) (fun _ _ => rfl) (fun _ _ => rfl)) (sound_cons (sound_set (sound_str) (.inl (by decide +kernel)) (fun _ _ => rfl)) (sound_nil))))))))) (sound_nil)) (sound_cons (sound_try (sound_cons (sound_set (sound_methC F.K (sound_local (by decide +kernel) (by decide +kernel)) (sound_econs (sound_local (by decide +kernel) (by decide +kernel)) (sound_econs (sound_local (by decide +kernel) (by decide +kernel)) (sound_econs (sound_local (by decide +kernel) (by decide +kernel)) (sound_enil) (fun _ => rfl)) (fun _ => rfl)) (fun _ => rfl)) (s_Day_owe F).call (by decide) F.m_owe.find F.m_owe.ty F.m_owe.keep (fun _ _ => rfl) (by decide) rfl) (.inl (by decide +kernel)) (fun _ _ => rfl)) (sound_nil)) (sound_cons (sound_ret (sound_cmp (sound_callF (s_law_kind F) (sound_econs (sound_local (by decide +kernel) (by decide +kernel)) (sound_enil) (fun _ => rfl)) (by decide +kernel) (by decide +kernel) (by decide)) (sound_local (by decide +kernel) (by decide +kernel)) rfl)) (sound_nil)) (by decide +kernel) (by decide +kernel) F.c_DebtError (by decide +kernel) F.m) (sound_cons (sound_expr (sound_meth (sound_local (by decide +kernel) (by decide +kernel)) (sound_econs (sound_list (sound_econs (sound_local (by decide +kernel) (by decide +kernel)) (sound_econs (sound_local (by decide +kernel) (by decide +kernel)) (sound_econs (sound_local (by decide +kernel) (by decide +kernel)) (sound_enil) (fun _ => rfl)) (fun _ => rfl)) (fun _ => rfl))) (sound_enil) (fun _ => rfl)) me_append (fun _ _ => rfl) (by decide) rfl slot_append ty_append) (fun _ _ => rfl)) (sound_cons (sound_ret (sound_and (sound_callF (s_law_whole F) (sound_econs (sound_local (by decide +kernel) (by decide +kernel)) (sound_enil) (fun _ => rfl)) (by decide +kernel) (by decide +kernel) (by decide)) (sound_one (sound_cmp (sound_local (by decide +kernel) (by decide +kernel)) (sound_local (by decide +kernel) (by decide +kernel)) rfl)))) (sound_nil)))))))))))
noncomputable def tb_law_paid : TS := tSeq (tSet "_law_number" (tItem (tList (tEcons (tCall (tEcons (tName "_law_rows") (tEnil)) lenF) (tEcons (tNeg (tConst (.int 1))) (tEcons (tConst (.bool true)) (tEcons (tConst .none) (tEcons (tConst (.str "0")) (tEcons (tConst (.bool false)) (tEcons (tBin .Add (tBin .Add (tCall (tEcons (tName "_law_rows") (tEnil)) lenF) (tConst (.int 1))) (tBin .Mod (tBin .FloorDiv (tName "_law_cell") (tConst (.int 49))) (tConst (.int 999)))) (tEnil))))))))) (tBin .Mod (tBin .FloorDiv (tName "_law_cell") (tConst (.int 7))) (tConst (.int 7))))) (tSeq (tIf (tAnd (tCmpB .Gt (tBin .Mod (tName "_law_cell") (tConst (.int 7))) (tConst (.int 0))) (tAnd (tCmpB .Gt (tCall (tEcons (tName "_law_rows") (tEnil)) lenF) (tConst (.int 0))) (tTrue))) (tSeq (tSet "_law_number" (tBin .Mod (tBin .FloorDiv (tName "_law_cell") (tConst (.int 7))) (tCall (tEcons (tName "_law_rows") (tEnil)) lenF))) (tNil)) (tNil)) (tSeq (tSet "_law_much" (tConst (.int 0))) (tSeq (tIf (tAnd (tTest (tCall (tEcons (tName "_law_number") (tEnil)) T_law_whole)) (tAnd (tChainB .LtE .Lt (tConst (.int 0)) (tName "_law_number") (tCall (tEcons (tName "_law_rows") (tEnil)) lenF)) (tTrue))) (tSeq (tSet "_law_much" (tItem (tItem (tName "_law_rows") (tName "_law_number")) (tConst (.int 2)))) (tNil)) (tNil)) (tSeq (tSet "_law_amount" (tItem (tList (tEcons (tBin .Add (tConst (.int 1)) (tBin .Mod (tBin .FloorDiv (tName "_law_cell") (tConst (.int 420))) (tConst (.int 3)))) (tEcons (tName "_law_much") (tEcons (tBin .Add (tName "_law_much") (tConst (.int 1))) (tEcons (tConst (.int 0)) (tEcons (tConst (.bool true)) (tEcons (tConst (.str "1")) (tEcons (tNeg (tConst (.int 1))) (tEcons (tBin .Add (tBin .Pow (tConst (.int 10)) (tConst (.int 30))) (tName "_law_much")) (tEnil)))))))))) (tBin .Mod (tBin .FloorDiv (tName "_law_cell") (tConst (.int 49))) (tConst (.int 8))))) (tSeq (tSet "_law_due" (tConst (.str ""))) (tSeq (tIf (tOr (tNot (tTest (tCall (tEcons (tName "_law_number") (tEnil)) T_law_whole))) (tOr (tNot (tChainB .LtE .Lt (tConst (.int 0)) (tName "_law_number") (tCall (tEcons (tName "_law_rows") (tEnil)) lenF))) (tFalse))) (tSeq (tSet "_law_due" (tConst (.str "number"))) (tNil)) (tSeq (tIf (tOr (tNot (tTest (tCall (tEcons (tName "_law_amount") (tEnil)) T_law_whole))) (tOr (tNot (tChainB .LtE .LtE (tConst (.int 1)) (tName "_law_amount") (tName "_law_much"))) (tFalse))) (tSeq (tSet "_law_due" (tConst (.str "amount"))) (tNil)) (tNil)) (tNil))) (tSeq (tTry "_law_error" exCls (tSeq (tSet "_law_found" (tMethC c_Day_10 "pay" T_Day_pay (tName "_law_day") (tEcons (tName "_law_number") (tEcons (tName "_law_amount") (tEnil))))) (tNil)) (tSeq (tRet (tCmp .Eq (tCall (tEcons (tName "_law_error") (tEnil)) T_law_kind) (tName "_law_due"))) (tNil))) (tSeq (tIf (tCmpB .NotEq (tName "_law_due") (tConst (.str ""))) (tSeq (tRet (tConst (.bool false))) (tNil)) (tNil)) (tSeq (tStore (tItem (tName "_law_rows") (tName "_law_number")) (tConst (.int 2)) (tBin .Sub (tName "_law_much") (tName "_law_amount"))) (tSeq (tRet (tAndE (tCall (tEcons (tName "_law_found") (tEnil)) T_law_whole) (tCmp .Eq (tName "_law_found") (tBin .Sub (tName "_law_much") (tName "_law_amount"))))) (tNil)))))))))))
noncomputable def T_law_paid : TF := tFun ["_law_day", "_law_rows", "_law_cell"] tb_law_paid
set_option maxRecDepth 100000 in
set_option maxHeartbeats 4000000 in
theorem s_law_paid {g : Gx} (F : Fx10 g) : HasF g 4 true "_law_paid" T_law_paid :=
  has_def (F.d 10 (by decide)) rfl (fun _ _ _ vals h => by obtain ⟨a, b, c, rfl⟩ := len3 h; rfl) (by decide +kernel) rfl rfl rfl (show SoundSs g 3 _ _ _ tb_law_paid from (sound_cons (sound_set (sound_item (sound_list (sound_econs (sound_callB (by decide +kernel) (by decide +kernel) F.b_len (sound_econs (sound_local (by decide +kernel) (by decide +kernel)) (sound_enil) (fun _ => rfl)) bi_len) (sound_econs (sound_neg (sound_int)) (sound_econs (sound_bool) (sound_econs (sound_none) (sound_econs (sound_str) (sound_econs (sound_bool) (sound_econs (sound_bin (sound_bin (sound_callB (by decide +kernel) (by decide +kernel) F.b_len (sound_econs (sound_local (by decide +kernel) (by decide +kernel)) (sound_enil) (fun _ => rfl)) bi_len) (sound_int)) (sound_bin (sound_bin (sound_local (by decide +kernel) (by decide +kernel)) (sound_int)) (sound_int))) (sound_enil) (fun _ => rfl)) (fun _ => rfl)) (fun _ => rfl)) (fun _ => rfl)) (fun _ => rfl)) (fun _ => rfl)) (fun _ => rfl))) (sound_bin (sound_bin (sound_local (by decide +kernel) (by decide +kernel)) (sound_int)) (sound_int)) (fun _ _ _ => rfl)) (.inl (by decide +kernel)) (fun _ _ => rfl)) (sound_cons (sound_if (soundB_and (soundB_cmp (sound_bin (sound_local (by decide +kernel) (by decide +kernel)) (sound_int)) (sound_int) rfl) (soundB_and (soundB_cmp (sound_callB (by decide +kernel) (by decide +kernel) F.b_len (sound_econs (sound_local (by decide +kernel) (by decide +kernel)) (sound_enil) (fun _ => rfl)) bi_len) (sound_int) rfl) (soundB_andNil))) (sound_cons (sound_set (sound_bin (sound_bin (sound_local (by decide +kernel) (by decide +kernel)) (sound_int)) (sound_callB (by decide +kernel) (by decide +kernel) F.b_len (sound_econs (sound_local (by decide +kernel) (by decide +kernel)) (sound_enil) (fun _ => rfl)) bi_len)) (.inl (by decide +kernel)) (fun _ _ => rfl)) (sound_nil)) (sound_nil)) (sound_cons (sound_set (sound_int) (.inl (by decide +kernel)) (fun _ _ => rfl)) (sound_cons (sound_if (soundB_and (soundB_plain (sound_callF (s_law_whole F) (sound_econs (sound_local (by decide +kernel) (by decide +kernel)) (sound_enil) (fun _ => rfl)) (by decide +kernel) (by decide +kernel) (by decide)) (fun _ _ => rfl)) (soundB_and (soundB_chain (sound_int) (sound_local (by decide +kernel) (by decide +kernel)) (sound_callB (by decide +kernel) (by decide +kernel) F.b_len (sound_econs (sound_local (by decide +kernel) (by decide +kernel)) (sound_enil) (fun _ => rfl)) bi_len) rfl) (soundB_andNil))) (sound_cons (sound_set (sound_item (sound_item (sound_local (by decide +kernel) (by decide +kernel)) (sound_local (by decide +kernel) (by decide +kernel)) (fun _ _ _ => rfl)) (sound_int) (fun _ _ _ => rfl)) (.inl (by decide +kernel)) (fun _ _ => rfl)) (sound_nil)) (sound_nil)) (sound_cons (sound_set (sound_item (sound_list (sound_econs (sound_bin (sound_int) (sound_bin (sound_bin (sound_local (by decide +kernel) (by decide +kernel)) (sound_int)) (sound_int))) (sound_econs (sound_local (by decide +kernel) (by decide +kernel)) (sound_econs (sound_bin (sound_local (by decide +kernel) (by decide +kernel)) (sound_int)) (sound_econs (sound_int) (sound_econs (sound_bool) (sound_econs (sound_str) (sound_econs (sound_neg (sound_int)) (sound_econs (sound_bin (sound_bin (sound_int) (sound_int)) (sound_local (by decide +kernel) (by decide +kernel))) (sound_enil) (fun _ => rfl)) (fun _ => rfl)) (fun _ => rfl)) (fun _ => rfl)) (fun _ => rfl)) (fun _ => rfl)) (fun _ => rfl)) (fun _ => rfl))) (sound_bin (sound_bin (sound_local (by decide +kernel) (by decide +kernel)) (sound_int)) (sound_int)) (fun _ _ _ => rfl)) (.inl (by decide +kernel)) (fun _ _ => rfl)) (sound_cons (sound_set (sound_str) (.inl (by decide +kernel)) (fun _ _ => rfl)) (sound_cons (sound_if (soundB_or (soundB_not (soundB_plain (sound_callF (s_law_whole F) (sound_econs (sound_local (by decide +kernel) (by decide +kernel)) (sound_enil) (fun _ => rfl)) (by decide +kernel) (by decide +kernel) (by decide)) (fun _ _ => rfl))) (soundB_or (soundB_not (soundB_chain (sound_int) (sound_local (by decide +kernel) (by decide +kernel)) (sound_callB (by decide +kernel) (by decide +kernel) F.b_len (sound_econs (sound_local (by decide +kernel) (by decide +kernel)) (sound_enil) (fun _ => rfl)) bi_len) rfl)) (soundB_orNil))) (sound_cons (sound_set (sound_str) (.inl (by decide +kernel)) (fun _ _ => rfl)) (sound_nil)) (sound_cons (sound_if (soundB_or (soundB_not (soundB_plain (sound_callF (s_law_whole F) (sound_econs (sound_local (by decide +kernel) (by decide +kernel)) (sound_enil) (fun _ => rfl)) (by decide +kernel) (by decide +kernel) (by decide)) (fun _ _ => rfl))) (soundB_or (soundB_not (soundB_chain (sound_int) (sound_local (by decide +kernel) (by decide +kernel)) (sound_local (by decide +kernel) (by decide +kernel)) rfl)) (soundB_orNil))) (sound_cons (sound_set (sound_str) (.inl (by decide +kernel)) (fun _ _ => rfl)) (sound_nil)) (sound_nil)) (sound_nil))) (sound_cons (sound_try (sound_cons (sound_set (sound_methC F.K (sound_local (by decide +kernel) (by decide +kernel)) (sound_econs (sound_local (by decide +kernel) (by decide +kernel)) (sound_econs (sound_local (by decide +kernel) (by decide +kernel)) (sound_enil) (fun _ => rfl)) (fun _ => rfl)) (s_Day_pay F).call (by decide) F.m_pay.find F.m_pay.ty F.m_pay.keep (fun _ _ => rfl) (by decide) rfl) (.inl (by decide +kernel)) (fun _ _ => rfl)) (sound_nil)) (sound_cons (sound_ret (sound_cmp (sound_callF (s_law_kind F) (sound_econs (sound_local (by decide +kernel) (by decide +kernel)) (sound_enil) (fun _ => rfl)) (by decide +kernel) (by decide +kernel) (by decide)) (sound_local (by decide +kernel) (by decide +kernel)) rfl)) (sound_nil)) (by decide +kernel) (by decide +kernel) F.c_DebtError (by decide +kernel) F.m) (sound_cons (sound_if (soundB_cmp (sound_local (by decide +kernel) (by decide +kernel)) (sound_str) rfl) (sound_cons (sound_ret (sound_bool)) (sound_nil)) (sound_nil)) (sound_cons (sound_store (sound_bin (sound_local (by decide +kernel) (by decide +kernel)) (sound_local (by decide +kernel) (by decide +kernel))) (sound_item (sound_local (by decide +kernel) (by decide +kernel)) (sound_local (by decide +kernel) (by decide +kernel)) (fun _ _ _ => rfl)) (sound_int) (fun _ _ => rfl)) (sound_cons (sound_ret (sound_and (sound_callF (s_law_whole F) (sound_econs (sound_local (by decide +kernel) (by decide +kernel)) (sound_enil) (fun _ => rfl)) (by decide +kernel) (by decide +kernel) (by decide)) (sound_one (sound_cmp (sound_local (by decide +kernel) (by decide +kernel)) (sound_bin (sound_local (by decide +kernel) (by decide +kernel)) (sound_local (by decide +kernel) (by decide +kernel))) rfl)))) (sound_nil)))))))))))))
noncomputable def tb_law_no_house : TS := tSeq (tTry "_law_error" exCls (tSeq (tExpr (tMethC c_Day_10 "balance" T_Day_balance (tName "_law_day") (tEcons (tName "_law_house") (tEnil)))) (tNil)) (tSeq (tRet (tCmp .Eq (tCall (tEcons (tName "_law_error") (tEnil)) T_law_kind) (tConst (.str "house")))) (tNil))) (tSeq (tRet (tConst (.bool false))) (tNil))
noncomputable def T_law_no_house : TF := tFun ["_law_day", "_law_house"] tb_law_no_house
set_option maxRecDepth 100000 in
set_option maxHeartbeats 4000000 in
theorem s_law_no_house {g : Gx} (F : Fx10 g) : HasF g 4 true "_law_no_house" T_law_no_house :=
  has_def (F.d 11 (by decide)) rfl (fun _ _ _ vals h => by obtain ⟨a, b, rfl⟩ := len2 h; rfl) (by decide +kernel) rfl rfl rfl (show SoundSs g 3 _ _ _ tb_law_no_house from (sound_cons (sound_try (sound_cons (sound_expr (sound_methC F.K (sound_local (by decide +kernel) (by decide +kernel)) (sound_econs (sound_local (by decide +kernel) (by decide +kernel)) (sound_enil) (fun _ => rfl)) (s_Day_balance F).call (by decide) F.m_balance.find F.m_balance.ty F.m_balance.keep (fun _ _ => rfl) (by decide) rfl) (fun _ _ => rfl)) (sound_nil)) (sound_cons (sound_ret (sound_cmp (sound_callF (s_law_kind F) (sound_econs (sound_local (by decide +kernel) (by decide +kernel)) (sound_enil) (fun _ => rfl)) (by decide +kernel) (by decide +kernel) (by decide)) (sound_str) rfl)) (sound_nil)) (by decide +kernel) (by decide +kernel) F.c_DebtError (by decide +kernel) F.m) (sound_cons (sound_ret (sound_bool)) (sound_nil))))
noncomputable def tb_law_no_number : TS := tSeq (tTry "_law_error" exCls (tSeq (tExpr (tMethC c_Day_10 "rest" T_Day_rest (tName "_law_day") (tEcons (tName "_law_number") (tEnil)))) (tNil)) (tSeq (tRet (tCmp .Eq (tCall (tEcons (tName "_law_error") (tEnil)) T_law_kind) (tConst (.str "number")))) (tNil))) (tSeq (tRet (tConst (.bool false))) (tNil))
noncomputable def T_law_no_number : TF := tFun ["_law_day", "_law_number"] tb_law_no_number
set_option maxRecDepth 100000 in
set_option maxHeartbeats 4000000 in
theorem s_law_no_number {g : Gx} (F : Fx10 g) : HasF g 4 true "_law_no_number" T_law_no_number :=
  has_def (F.d 12 (by decide)) rfl (fun _ _ _ vals h => by obtain ⟨a, b, rfl⟩ := len2 h; rfl) (by decide +kernel) rfl rfl rfl (show SoundSs g 3 _ _ _ tb_law_no_number from (sound_cons (sound_try (sound_cons (sound_expr (sound_methC F.K (sound_local (by decide +kernel) (by decide +kernel)) (sound_econs (sound_local (by decide +kernel) (by decide +kernel)) (sound_enil) (fun _ => rfl)) (s_Day_rest F).call (by decide) F.m_rest.find F.m_rest.ty F.m_rest.keep (fun _ _ => rfl) (by decide) rfl) (fun _ _ => rfl)) (sound_nil)) (sound_cons (sound_ret (sound_cmp (sound_callF (s_law_kind F) (sound_econs (sound_local (by decide +kernel) (by decide +kernel)) (sound_enil) (fun _ => rfl)) (by decide +kernel) (by decide +kernel) (by decide)) (sound_str) rfl)) (sound_nil)) (by decide +kernel) (by decide +kernel) F.c_DebtError (by decide +kernel) F.m) (sound_cons (sound_ret (sound_bool)) (sound_nil))))
noncomputable abbrev tb_law_told_1 : TS := tSeq (tRet (tAndE (tCmp .Eq (tName "_law_found") (tName "_law_sums")) (tCall (tEcons (tComp "_law_one" [] (tName "_law_found") (tTrue) (tCall (tEcons (tName "_law_one") (tEnil)) T_law_whole)) (tEnil)) allF))) (tNil)
noncomputable abbrev tb_law_told_2 : TS := tSeq (tSet "_law_found" (tComp "_law_house" ["_law_day"] (tCall (tEcons (tName "_law_count") (tEnil)) rangeF) (tTrue) (tMethC c_Day_10 "balance" T_Day_balance (tName "_law_day") (tEcons (tName "_law_house") (tEnil))))) (tb_law_told_1)
noncomputable abbrev tb_law_told_3 : TS := tSeq (tStore (tName "_law_sums") (tItem (tName "_law_row") (tConst (.int 1))) (tBin .Add (tItem (tName "_law_sums") (tItem (tName "_law_row") (tConst (.int 1)))) (tItem (tName "_law_row") (tConst (.int 2))))) (tNil)
noncomputable abbrev tb_law_told_4 : TS := tSeq (tStore (tName "_law_sums") (tItem (tName "_law_row") (tConst (.int 0))) (tBin .Sub (tItem (tName "_law_sums") (tItem (tName "_law_row") (tConst (.int 0)))) (tItem (tName "_law_row") (tConst (.int 2))))) (tb_law_told_3)
noncomputable abbrev tb_law_told_5 : TS := tSeq (tFor "_law_row" (tName "_law_rows") (tb_law_told_4)) (tb_law_told_2)
noncomputable abbrev tb_law_told_6 : TS := tSeq (tSet "_law_sums" (tComp "_law_house" [] (tCall (tEcons (tName "_law_count") (tEnil)) rangeF) (tTrue) (tConst (.int 0)))) (tb_law_told_5)
noncomputable abbrev tb_law_told_7 : TS := tSeq (tRet (tAndE (tCmp .Eq (tMethC c_Day_10 "standing" T_Day_standing (tName "_law_day") (tEnil)) (tName "_law_due")) (tCmp .Eq (tCall (tEcons (tName "_law_found") (tEnil)) lenF) (tBin .Add (tCall (tEcons (tName "_law_due") (tEnil)) lenF) (tConst (.int 1)))))) (tNil)
noncomputable abbrev tb_law_told_8 : TS := tSeq (tExpr (tMeth appendF (tName "_law_found") (tEcons (tTup (tEcons (tConst (.int 0)) (tEcons (tConst (.int 0)) (tEcons (tConst (.int 0)) (tEcons (tConst (.int 0)) (tEnil)))))) (tEnil)))) (tb_law_told_7)
noncomputable abbrev tb_law_told_9 : TS := tSeq (tRet (tConst (.bool false))) (tNil)
noncomputable abbrev tb_law_told_10 : TS := tSeq (tIf (tOr (tNot (tTest (tIsinst (tName "_law_row") okTup))) (tOr (tNot (tTest (tCall (tEcons (tComp "_law_part" [] (tName "_law_row") (tTrue) (tCall (tEcons (tName "_law_part") (tEnil)) T_law_whole)) (tEnil)) allF))) (tFalse))) (tb_law_told_9) (tNil)) (tNil)
noncomputable abbrev tb_law_told_11 : TS := tSeq (tFor "_law_row" (tName "_law_found") (tb_law_told_10)) (tb_law_told_8)
noncomputable abbrev tb_law_told_12 : TS := tSeq (tRet (tConst (.bool false))) (tNil)
noncomputable abbrev tb_law_told_13 : TS := tSeq (tIf (tOr (tNot (tTest (tIsinst (tName "_law_found") okList))) (tOr (tCmpB .NotEq (tName "_law_found") (tName "_law_due")) (tFalse))) (tb_law_told_12) (tNil)) (tb_law_told_11)
noncomputable abbrev tb_law_told_14 : TS := tSeq (tSet "_law_found" (tMethC c_Day_10 "standing" T_Day_standing (tName "_law_day") (tEnil))) (tb_law_told_13)
noncomputable abbrev tb_law_told_15 : TS := tSeq (tSet "_law_due" (tComp "_law_k" ["_law_rows"] (tCall (tEcons (tCall (tEcons (tName "_law_rows") (tEnil)) lenF) (tEnil)) rangeF) (tCmpB .Gt (tItem (tItem (tName "_law_rows") (tName "_law_k")) (tConst (.int 2))) (tConst (.int 0))) (tTup (tEcons (tName "_law_k") (tEcons (tItem (tItem (tName "_law_rows") (tName "_law_k")) (tConst (.int 0))) (tEcons (tItem (tItem (tName "_law_rows") (tName "_law_k")) (tConst (.int 1))) (tEcons (tItem (tItem (tName "_law_rows") (tName "_law_k")) (tConst (.int 2))) (tEnil)))))))) (tb_law_told_14)
noncomputable abbrev tb_law_told_16 : TS := tSeq (tIf (tCmpB .Eq (tName "_law_way") (tConst (.int 1))) (tb_law_told_15) (tNil)) (tb_law_told_6)
noncomputable abbrev tb_law_told_17 : TS := tSeq (tRet (tAndE (tCmp .Eq (tName "_law_found") (tComp "_law_row" [] (tName "_law_rows") (tTrue) (tItem (tName "_law_row") (tConst (.int 2))))) (tCall (tEcons (tComp "_law_one" [] (tName "_law_found") (tTrue) (tCall (tEcons (tName "_law_one") (tEnil)) T_law_whole)) (tEnil)) allF))) (tNil)
noncomputable abbrev tb_law_told_18 : TS := tSeq (tSet "_law_found" (tComp "_law_k" ["_law_day"] (tCall (tEcons (tCall (tEcons (tName "_law_rows") (tEnil)) lenF) (tEnil)) rangeF) (tTrue) (tMethC c_Day_10 "rest" T_Day_rest (tName "_law_day") (tEcons (tName "_law_k") (tEnil))))) (tb_law_told_17)
noncomputable abbrev tb_law_told_19 : TS := tSeq (tIf (tCmpB .Eq (tName "_law_way") (tConst (.int 0))) (tb_law_told_18) (tNil)) (tb_law_told_16)
noncomputable def tb_law_told : TS := tb_law_told_19
noncomputable def T_law_told : TF := tFun ["_law_day", "_law_rows", "_law_count", "_law_way"] tb_law_told
set_option maxRecDepth 100000 in
set_option maxHeartbeats 4000000 in
theorem s_law_told {g : Gx} (F : Fx10 g) : HasF g 4 true "_law_told" T_law_told :=
  has_def (F.d 13 (by decide)) rfl (fun _ _ _ vals h => by obtain ⟨a, b, c, d, rfl⟩ := len4 h; rfl) (by decide +kernel) rfl rfl rfl (show SoundSs g 3 _ _ _ tb_law_told from (sound_cons (sound_if (soundB_cmp (sound_local (by decide +kernel) (by decide +kernel)) (sound_int) rfl) (sound_cons (sound_setcomp (compOk (by decide +kernel) (by decide +kernel) (by decide +kernel) (by decide +kernel) (by decide +kernel) (by decide +kernel)) (sound_callT (by decide +kernel) (by decide +kernel) F.c_range (sound_econs (sound_callB (by decide +kernel) (by decide +kernel) F.b_len (sound_econs (sound_cell (by decide +kernel) (by decide +kernel)) (sound_enil) (fun _ => rfl)) bi_len) (sound_enil) (fun _ => rfl)) bi_range) (ifs_nil) (sound_methC F.K (sound_cell (by decide +kernel) (by decide +kernel)) (sound_econs (sound_local (by decide +kernel) (by decide +kernel)) (sound_enil) (fun _ => rfl)) (s_Day_rest F).call (by decide) F.m_rest.find F.m_rest.ty F.m_rest.keep (fun _ _ => rfl) (by decide) rfl) (fun _ _ => rfl) (.inl (by decide +kernel)) (swapsTrue (by decide +kernel))) (sound_cons (sound_ret (sound_and (sound_cmp (sound_local (by decide +kernel) (by decide +kernel)) (sound_comp (compOk (by decide +kernel) (by decide +kernel) (by decide +kernel) (by decide +kernel) (by decide +kernel) (by decide +kernel)) (sound_cell (by decide +kernel) (by decide +kernel)) (ifs_nil) (sound_item (sound_local (by decide +kernel) (by decide +kernel)) (sound_int) (fun _ _ _ => rfl)) (fun _ _ => rfl)) rfl) (sound_one (sound_callB (by decide +kernel) (by decide +kernel) F.b_all (sound_econs (sound_comp (compOk (by decide +kernel) (by decide +kernel) (by decide +kernel) (by decide +kernel) (by decide +kernel) (by decide +kernel)) (sound_local (by decide +kernel) (by decide +kernel)) (ifs_nil) (sound_callF (s_law_whole F) (sound_econs (sound_local (by decide +kernel) (by decide +kernel)) (sound_enil) (fun _ => rfl)) (by decide +kernel) (by decide +kernel) (by decide)) (fun _ _ => rfl)) (sound_enil) (fun _ => rfl)) (bi_all rfl))))) (sound_nil))) (sound_nil)) (sound_cons (sound_if (soundB_cmp (sound_local (by decide +kernel) (by decide +kernel)) (sound_int) rfl) (sound_cons (sound_setcomp (compOk (by decide +kernel) (by decide +kernel) (by decide +kernel) (by decide +kernel) (by decide +kernel) (by decide +kernel)) (sound_callT (by decide +kernel) (by decide +kernel) F.c_range (sound_econs (sound_callB (by decide +kernel) (by decide +kernel) F.b_len (sound_econs (sound_cell (by decide +kernel) (by decide +kernel)) (sound_enil) (fun _ => rfl)) bi_len) (sound_enil) (fun _ => rfl)) bi_range) (ifs_one (soundB_cmp (sound_item (sound_item (sound_cell (by decide +kernel) (by decide +kernel)) (sound_local (by decide +kernel) (by decide +kernel)) (fun _ _ _ => rfl)) (sound_int) (fun _ _ _ => rfl)) (sound_int) rfl)) (sound_tuple (sound_econs (sound_local (by decide +kernel) (by decide +kernel)) (sound_econs (sound_item (sound_item (sound_cell (by decide +kernel) (by decide +kernel)) (sound_local (by decide +kernel) (by decide +kernel)) (fun _ _ _ => rfl)) (sound_int) (fun _ _ _ => rfl)) (sound_econs (sound_item (sound_item (sound_cell (by decide +kernel) (by decide +kernel)) (sound_local (by decide +kernel) (by decide +kernel)) (fun _ _ _ => rfl)) (sound_int) (fun _ _ _ => rfl)) (sound_econs (sound_item (sound_item (sound_cell (by decide +kernel) (by decide +kernel)) (sound_local (by decide +kernel) (by decide +kernel)) (fun _ _ _ => rfl)) (sound_int) (fun _ _ _ => rfl)) (sound_enil) (fun _ => rfl)) (fun _ => rfl)) (fun _ => rfl)) (fun _ => rfl))) (fun _ _ => rfl) (.inl (by decide +kernel)) (swapsTrue (by decide +kernel))) (sound_cons (sound_set (sound_methC F.K (sound_cell (by decide +kernel) (by decide +kernel)) (sound_enil) (s_Day_standing F).call (by decide) F.m_standing.find F.m_standing.ty F.m_standing.keep (fun _ _ => rfl) (by decide) rfl) (.inl (by decide +kernel)) (fun _ _ => rfl)) (sound_cons (sound_if (soundB_or (soundB_not (soundB_plain (sound_isinst (sound_local (by decide +kernel) (by decide +kernel)) (by decide +kernel) F.b_isinstance (by decide +kernel) (by decide +kernel) F.c_list okList_ok (fun _ _ e => by cases e) (fun _ => rfl)) (fun _ _ => rfl))) (soundB_or (soundB_cmp (sound_local (by decide +kernel) (by decide +kernel)) (sound_local (by decide +kernel) (by decide +kernel)) rfl) (soundB_orNil))) (sound_cons (sound_ret (sound_bool)) (sound_nil)) (sound_nil)) (sound_cons (sound_for (sound_local (by decide +kernel) (by decide +kernel)) (sound_cons (sound_if (soundB_or (soundB_not (soundB_plain (sound_isinst (sound_local (by decide +kernel) (by decide +kernel)) (by decide +kernel) F.b_isinstance (by decide +kernel) (by decide +kernel) F.c_tuple okTup_ok (fun _ _ e => by cases e) (fun _ => rfl)) (fun _ _ => rfl))) (soundB_or (soundB_not (soundB_plain (sound_callB (by decide +kernel) (by decide +kernel) F.b_all (sound_econs (sound_comp (compOk (by decide +kernel) (by decide +kernel) (by decide +kernel) (by decide +kernel) (by decide +kernel) (by decide +kernel)) (sound_local (by decide +kernel) (by decide +kernel)) (ifs_nil) (sound_callF (s_law_whole F) (sound_econs (sound_local (by decide +kernel) (by decide +kernel)) (sound_enil) (fun _ => rfl)) (by decide +kernel) (by decide +kernel) (by decide)) (fun _ _ => rfl)) (sound_enil) (fun _ => rfl)) (bi_all rfl)) (fun _ _ => rfl))) (soundB_orNil))) (sound_cons (sound_ret (sound_bool)) (sound_nil)) (sound_nil)) (sound_nil)) (.inl (by decide +kernel)) (fun _ _ => rfl)) (sound_cons (sound_expr (sound_meth (sound_local (by decide +kernel) (by decide +kernel)) (sound_econs (sound_tuple (sound_econs (sound_int) (sound_econs (sound_int) (sound_econs (sound_int) (sound_econs (sound_int) (sound_enil) (fun _ => rfl)) (fun _ => rfl)) (fun _ => rfl)) (fun _ => rfl))) (sound_enil) (fun _ => rfl)) me_append (fun _ _ => rfl) (by decide) rfl slot_append ty_append) (fun _ _ => rfl)) (sound_cons (sound_ret (sound_and (sound_cmp (sound_methC F.K (sound_cell (by decide +kernel) (by decide +kernel)) (sound_enil) (s_Day_standing F).call (by decide) F.m_standing.find F.m_standing.ty F.m_standing.keep (fun _ _ => rfl) (by decide) rfl) (sound_local (by decide +kernel) (by decide +kernel)) rfl) (sound_one (sound_cmp (sound_callB (by decide +kernel) (by decide +kernel) F.b_len (sound_econs (sound_local (by decide +kernel) (by decide +kernel)) (sound_enil) (fun _ => rfl)) bi_len) (sound_bin (sound_callB (by decide +kernel) (by decide +kernel) F.b_len (sound_econs (sound_local (by decide +kernel) (by decide +kernel)) (sound_enil) (fun _ => rfl)) bi_len) (sound_int)) rfl)))) (sound_nil))))))) (sound_nil)) (sound_cons (sound_setcomp (compOk (by decide +kernel) (by decide +kernel) (by decide +kernel) (by decide +kernel) (by decide +kernel) (by decide +kernel)) (sound_callT (by decide +kernel) (by decide +kernel) F.c_range (sound_econs (sound_local (by decide +kernel) (by decide +kernel)) (sound_enil) (fun _ => rfl)) bi_range) (ifs_nil) (sound_int) (fun _ _ => rfl) (.inl (by decide +kernel)) (swapsTrue (by decide +kernel))) (sound_cons (sound_for (sound_cell (by decide +kernel) (by decide +kernel)) (sound_cons (sound_store (sound_bin (sound_item (sound_local (by decide +kernel) (by decide +kernel)) (sound_item (sound_local (by decide +kernel) (by decide +kernel)) (sound_int) (fun _ _ _ => rfl)) (fun _ _ _ => rfl)) (sound_item (sound_local (by decide +kernel) (by decide +kernel)) (sound_int) (fun _ _ _ => rfl))) (sound_local (by decide +kernel) (by decide +kernel)) (sound_item (sound_local (by decide +kernel) (by decide +kernel)) (sound_int) (fun _ _ _ => rfl)) (fun _ _ => rfl)) (sound_cons (sound_store (sound_bin (sound_item (sound_local (by decide +kernel) (by decide +kernel)) (sound_item (sound_local (by decide +kernel) (by decide +kernel)) (sound_int) (fun _ _ _ => rfl)) (fun _ _ _ => rfl)) (sound_item (sound_local (by decide +kernel) (by decide +kernel)) (sound_int) (fun _ _ _ => rfl))) (sound_local (by decide +kernel) (by decide +kernel)) (sound_item (sound_local (by decide +kernel) (by decide +kernel)) (sound_int) (fun _ _ _ => rfl)) (fun _ _ => rfl)) (sound_nil))) (.inl (by decide +kernel)) (fun _ _ => rfl)) (sound_cons (sound_setcomp (compOk (by decide +kernel) (by decide +kernel) (by decide +kernel) (by decide +kernel) (by decide +kernel) (by decide +kernel)) (sound_callT (by decide +kernel) (by decide +kernel) F.c_range (sound_econs (sound_local (by decide +kernel) (by decide +kernel)) (sound_enil) (fun _ => rfl)) bi_range) (ifs_nil) (sound_methC F.K (sound_cell (by decide +kernel) (by decide +kernel)) (sound_econs (sound_local (by decide +kernel) (by decide +kernel)) (sound_enil) (fun _ => rfl)) (s_Day_balance F).call (by decide) F.m_balance.find F.m_balance.ty F.m_balance.keep (fun _ _ => rfl) (by decide) rfl) (fun _ _ => rfl) (.inl (by decide +kernel)) (swapsTrue (by decide +kernel))) (sound_cons (sound_ret (sound_and (sound_cmp (sound_local (by decide +kernel) (by decide +kernel)) (sound_local (by decide +kernel) (by decide +kernel)) rfl) (sound_one (sound_callB (by decide +kernel) (by decide +kernel) F.b_all (sound_econs (sound_comp (compOk (by decide +kernel) (by decide +kernel) (by decide +kernel) (by decide +kernel) (by decide +kernel) (by decide +kernel)) (sound_local (by decide +kernel) (by decide +kernel)) (ifs_nil) (sound_callF (s_law_whole F) (sound_econs (sound_local (by decide +kernel) (by decide +kernel)) (sound_enil) (fun _ => rfl)) (by decide +kernel) (by decide +kernel) (by decide)) (fun _ _ => rfl)) (sound_enil) (fun _ => rfl)) (bi_all rfl))))) (sound_nil))))))))
noncomputable abbrev tb_law_stands_1 : TS := tSeq (tRet (tCall (tEcons (tComp "_law_way" ["_law_count", "_law_day", "_law_rows"] (tItem (tName "_law_ways") (tBin .Mod (tName "_law_cell") (tConst (.int 9)))) (tTrue) (tCall (tEcons (tName "_law_day") (tEcons (tName "_law_rows") (tEcons (tName "_law_count") (tEcons (tName "_law_way") (tEnil))))) T_law_told)) (tEnil)) allF)) (tNil)
noncomputable abbrev tb_law_stands_2 : TS := tSeq (tSet "_law_ways" (tList (tEcons (tList (tEcons (tConst (.int 0)) (tEcons (tConst (.int 1)) (tEcons (tConst (.int 2)) (tEnil))))) (tEcons (tList (tEcons (tConst (.int 2)) (tEcons (tConst (.int 1)) (tEcons (tConst (.int 0)) (tEnil))))) (tEcons (tList (tEcons (tConst (.int 1)) (tEnil))) (tEcons (tList (tEcons (tConst (.int 0)) (tEnil))) (tEcons (tList (tEcons (tConst (.int 2)) (tEnil))) (tEcons (tList (tEcons (tConst (.int 1)) (tEcons (tConst (.int 2)) (tEcons (tConst (.int 0)) (tEnil))))) (tEcons (tList (tEnil)) (tEcons (tList (tEcons (tConst (.int 2)) (tEcons (tConst (.int 0)) (tEnil)))) (tEcons (tList (tEcons (tConst (.int 0)) (tEcons (tConst (.int 2)) (tEnil)))) (tEnil)))))))))))) (tb_law_stands_1)
noncomputable def tb_law_stands : TS := tb_law_stands_2
noncomputable def T_law_stands : TF := tFun ["_law_day", "_law_rows", "_law_count", "_law_cell"] tb_law_stands
set_option maxRecDepth 100000 in
set_option maxHeartbeats 4000000 in
theorem s_law_stands {g : Gx} (F : Fx10 g) : HasF g 5 true "_law_stands" T_law_stands := by
  refine has_def (F.d 14 (by decide)) rfl (fun _ _ _ vals h => by obtain ⟨a, b, c, d, rfl⟩ := len4 h; rfl) (by decide +kernel) rfl rfl rfl (tb := tb_law_stands) ?_
  refine sound_cons (a := tSet _ (tList _)) ?_ ?_
  · refine sound_set ?_ ?_ ?_
    · refine sound_list ?_
      refine sound_econs ?_ ?_ ?_
      · exact sound_list (sound_econs sound_int (sound_econs sound_int (sound_econs sound_int sound_enil (fun _ => rfl)) (fun _ => rfl)) (fun _ => rfl))
      · refine sound_econs ?_ ?_ ?_
        · exact sound_list (sound_econs sound_int (sound_econs sound_int (sound_econs sound_int sound_enil (fun _ => rfl)) (fun _ => rfl)) (fun _ => rfl))
        · refine sound_econs ?_ ?_ ?_
          · exact sound_list (sound_econs sound_int sound_enil (fun _ => rfl))
          · refine sound_econs ?_ ?_ ?_
            · exact sound_list (sound_econs sound_int sound_enil (fun _ => rfl))
            · refine sound_econs ?_ ?_ ?_
              · exact sound_list (sound_econs sound_int sound_enil (fun _ => rfl))
              · refine sound_econs ?_ ?_ ?_
                · exact sound_list (sound_econs sound_int (sound_econs sound_int (sound_econs sound_int sound_enil (fun _ => rfl)) (fun _ => rfl)) (fun _ => rfl))
                · refine sound_econs ?_ ?_ ?_
                  · exact sound_list sound_enil
                  · refine sound_econs ?_ ?_ ?_
                    · exact sound_list (sound_econs sound_int (sound_econs sound_int sound_enil (fun _ => rfl)) (fun _ => rfl))
                    · refine sound_econs ?_ ?_ ?_
                      · exact sound_list (sound_econs sound_int (sound_econs sound_int sound_enil (fun _ => rfl)) (fun _ => rfl))
                      · exact sound_enil
                      · exact fun _ => rfl
                    · exact fun _ => rfl
                  · exact fun _ => rfl
                · exact fun _ => rfl
              · exact fun _ => rfl
            · exact fun _ => rfl
          · exact fun _ => rfl
        · exact fun _ => rfl
      · exact fun _ => rfl
    · exact .inl (by decide +kernel)
    · exact fun _ _ => rfl
  · exact (sound_cons (sound_ret (sound_callB (by decide +kernel) (by decide +kernel) F.b_all (sound_econs (sound_comp (compOk (by decide +kernel) (by decide +kernel) (by decide +kernel) (by decide +kernel) (by decide +kernel) (by decide +kernel)) (sound_item (sound_local (by decide +kernel) (by decide +kernel)) (sound_bin (sound_local (by decide +kernel) (by decide +kernel)) (sound_int)) (fun _ _ _ => rfl)) (ifs_nil) (sound_callF (s_law_told F) (sound_econs (sound_cell (by decide +kernel) (by decide +kernel)) (sound_econs (sound_cell (by decide +kernel) (by decide +kernel)) (sound_econs (sound_cell (by decide +kernel) (by decide +kernel)) (sound_econs (sound_local (by decide +kernel) (by decide +kernel)) (sound_enil) (fun _ => rfl)) (fun _ => rfl)) (fun _ => rfl)) (fun _ => rfl)) (by decide +kernel) (by decide +kernel) (by decide)) (fun _ _ => rfl)) (sound_enil) (fun _ => rfl)) (bi_all rfl))) (sound_nil))
noncomputable def tb_law_no_count : TS := tSeq (tTry "_law_error" exCls (tSeq (tExpr (tNew c_Day_10 T_Day___init__ (tEcons (tItem (tList (tEcons (tConst (.int 0)) (tEcons (tNeg (tConst (.int 1))) (tEcons (tConst (.int 21)) (tEcons (tConst (.bool true)) (tEcons (tConst .none) (tEcons (tConst (.str "3")) (tEcons (tBin .Add (tBin .Add (tConst (.int 20)) (tBin .Mod (tBin .FloorDiv (tName "_law_cell") (tConst (.int 8))) (tConst (.int 1000003)))) (tConst (.int 1))) (tEcons (tConst (.bool false)) (tEnil)))))))))) (tBin .Mod (tName "_law_cell") (tConst (.int 8)))) (tEnil)))) (tNil)) (tSeq (tRet (tCmp .Eq (tCall (tEcons (tName "_law_error") (tEnil)) T_law_kind) (tConst (.str "count")))) (tNil))) (tSeq (tRet (tConst (.bool false))) (tNil))
noncomputable def T_law_no_count : TF := tFun ["_law_cell"] tb_law_no_count
set_option maxRecDepth 100000 in
set_option maxHeartbeats 4000000 in
theorem s_law_no_count {g : Gx} (F : Fx10 g) : HasF g 5 true "_law_no_count" T_law_no_count :=
  has_def (F.d 15 (by decide)) rfl (fun _ _ _ vals h => by obtain ⟨a, rfl⟩ := len1 h; rfl) (by decide +kernel) rfl rfl rfl (show SoundSs g 4 _ _ _ tb_law_no_count from (sound_cons (sound_try (sound_cons (sound_expr (sound_new F.K (sound_econs (sound_item (sound_list (sound_econs (sound_int) (sound_econs (sound_neg (sound_int)) (sound_econs (sound_int) (sound_econs (sound_bool) (sound_econs (sound_none) (sound_econs (sound_str) (sound_econs (sound_bin (sound_bin (sound_int) (sound_bin (sound_bin (sound_local (by decide +kernel) (by decide +kernel)) (sound_int)) (sound_int))) (sound_int)) (sound_econs (sound_bool) (sound_enil) (fun _ => rfl)) (fun _ => rfl)) (fun _ => rfl)) (fun _ => rfl)) (fun _ => rfl)) (fun _ => rfl)) (fun _ => rfl)) (fun _ => rfl))) (sound_bin (sound_local (by decide +kernel) (by decide +kernel)) (sound_int)) (fun _ _ _ => rfl)) (sound_enil) (fun _ => rfl)) (s_Day___init__ F) (by decide) (by decide +kernel) (by decide +kernel) F.c_Day F.m___init__.find F.m___init__.ty) (fun _ _ => rfl)) (sound_nil)) (sound_cons (sound_ret (sound_cmp (sound_callF (s_law_kind F) (sound_econs (sound_local (by decide +kernel) (by decide +kernel)) (sound_enil) (fun _ => rfl)) (by decide +kernel) (by decide +kernel) (by decide)) (sound_str) rfl)) (sound_nil)) (by decide +kernel) (by decide +kernel) F.c_DebtError (by decide +kernel) F.m) (sound_cons (sound_ret (sound_bool)) (sound_nil))))
noncomputable abbrev tb_law_main_1 : TS := tSeq (tRet (tCmp .Eq (tComp "_law_pair" [] (tName "_law_held") (tCmpB .NotEq (tItem (tName "_law_pair") (tConst (.int 0))) (tItem (tName "_law_pair") (tConst (.int 1)))) (tName "_law_pair")) (tList (tEnil)))) (tNil)
noncomputable abbrev tb_law_main_2 : TS := tSeq (tRet (tConst (.bool false))) (tNil)
noncomputable abbrev tb_law_main_3 : TS := tSeq (tIf (tOr (tNot (tTest (tCall (tEcons (tItem (tName "_law_days") (tConst (.int 0))) (tEcons (tItem (tName "_law_rows") (tConst (.int 0))) (tEcons (tItem (tName "_law_counts") (tConst (.int 0))) (tEcons (tConst (.int 0)) (tEnil))))) T_law_stands))) (tOr (tNot (tTest (tCall (tEcons (tItem (tName "_law_days") (tConst (.int 1))) (tEcons (tItem (tName "_law_rows") (tConst (.int 1))) (tEcons (tItem (tName "_law_counts") (tConst (.int 1))) (tEcons (tConst (.int 1)) (tEnil))))) T_law_stands))) (tFalse))) (tb_law_main_2) (tNil)) (tb_law_main_1)
noncomputable abbrev tb_law_main_4 : TS := tSeq (tRet (tConst (.bool false))) (tNil)
noncomputable abbrev tb_law_main_5 : TS := tSeq (tIf (tOr (tNot (tTest (tName "_law_good"))) (tOr (tNot (tTest (tCall (tEcons (tItem (tName "_law_days") (tName "_law_at")) (tEcons (tItem (tName "_law_rows") (tName "_law_at")) (tEcons (tItem (tName "_law_counts") (tName "_law_at")) (tEcons (tBin .FloorDiv (tName "_law_more") (tConst (.int 5))) (tEnil))))) T_law_stands))) (tFalse))) (tb_law_main_4) (tNil)) (tNil)
noncomputable abbrev tb_law_main_6 : TS := tSeq (tSet "_law_good" (tCall (tEcons (tItem (tName "_law_days") (tName "_law_at")) (tEcons (tItem (tName "_law_rows") (tName "_law_at")) (tEcons (tItem (tName "_law_counts") (tName "_law_at")) (tEcons (tBin .FloorDiv (tName "_law_more") (tConst (.int 8))) (tEnil))))) T_law_owed)) (tNil)
noncomputable abbrev tb_law_main_7 : TS := tSeq (tSet "_law_good" (tCall (tEcons (tItem (tName "_law_days") (tName "_law_at")) (tEcons (tItem (tName "_law_rows") (tName "_law_at")) (tEcons (tBin .FloorDiv (tName "_law_more") (tConst (.int 8))) (tEnil)))) T_law_paid)) (tNil)
noncomputable abbrev tb_law_main_8 : TS := tSeq (tSet "_law_good" (tAndE (tCall (tEcons (tItem (tName "_law_days") (tName "_law_at")) (tEcons (tName "_law_house") (tEnil))) T_law_no_house) (tCall (tEcons (tItem (tName "_law_days") (tName "_law_at")) (tEcons (tName "_law_number") (tEnil))) T_law_no_number))) (tNil)
noncomputable abbrev tb_law_main_9 : TS := tSeq (tSet "_law_number" (tItem (tList (tEcons (tNeg (tConst (.int 1))) (tEcons (tCall (tEcons (tItem (tName "_law_rows") (tName "_law_at")) (tEnil)) lenF) (tEcons (tConst (.bool true)) (tEcons (tConst .none) (tEcons (tConst (.bool false)) (tEcons (tBin .Add (tCall (tEcons (tItem (tName "_law_rows") (tName "_law_at")) (tEnil)) lenF) (tConst (.int 7))) (tEnil)))))))) (tBin .Mod (tBin .FloorDiv (tName "_law_more") (tConst (.int 8))) (tConst (.int 6))))) (tb_law_main_8)
noncomputable abbrev tb_law_main_10 : TS := tSeq (tSet "_law_house" (tItem (tList (tEcons (tNeg (tConst (.int 1))) (tEcons (tItem (tName "_law_counts") (tName "_law_at")) (tEcons (tConst (.bool true)) (tEcons (tConst .none) (tEcons (tConst (.str "0")) (tEcons (tBin .Add (tItem (tName "_law_counts") (tName "_law_at")) (tConst (.int 9))) (tEcons (tConst (.bool false)) (tEnil))))))))) (tBin .Mod (tBin .FloorDiv (tName "_law_more") (tConst (.int 8))) (tConst (.int 7))))) (tb_law_main_9)
noncomputable abbrev tb_law_main_11 : TS := tSeq (tIf (tCmpB .Lt (tBin .Mod (tName "_law_more") (tConst (.int 8))) (tConst (.int 7))) (tb_law_main_7) (tb_law_main_10)) (tNil)
noncomputable abbrev tb_law_main_12 : TS := tSeq (tIf (tCmpB .Lt (tBin .Mod (tName "_law_more") (tConst (.int 8))) (tConst (.int 4))) (tb_law_main_6) (tb_law_main_11)) (tb_law_main_5)
noncomputable abbrev tb_law_main_13 : TS := tSeq (tExpr (tMeth appendF (tName "_law_held") (tEcons (tTup (tEcons (tName "_law_told_here") (tEcons (tCall (tEcons (tName "_law_told_here") (tEnil)) listF) (tEnil)))) (tEnil)))) (tNil)
noncomputable abbrev tb_law_main_14 : TS := tSeq (tSet "_law_told_here" (tMethC c_Day_10 "standing" T_Day_standing (tItem (tName "_law_days") (tName "_law_at")) (tEnil))) (tb_law_main_13)
noncomputable abbrev tb_law_main_15 : TS := tSeq (tIf (tCmpB .Eq (tBin .Mod (tBin .FloorDiv (tName "_law_more") (tConst (.int 7))) (tConst (.int 2))) (tConst (.int 1))) (tb_law_main_14) (tNil)) (tb_law_main_12)
noncomputable abbrev tb_law_main_16 : TS := tSeq (tSet "_law_good" (tConst (.bool true))) (tb_law_main_15)
noncomputable abbrev tb_law_main_17 : TS := tSeq (tSet "_law_more" (tBin .FloorDiv (tName "_law_cell") (tConst (.int 3)))) (tb_law_main_16)
noncomputable abbrev tb_law_main_18 : TS := tSeq (tSet "_law_at" (tCall (tEcons (tCmp .Eq (tBin .Mod (tName "_law_cell") (tConst (.int 3))) (tConst (.int 0))) (tEnil)) intF)) (tb_law_main_17)
noncomputable abbrev tb_law_main_19 : TS := tSeq (tFor "_law_cell" (tSlice (tName "_law_script") (tPsome (tConst (.int 2))) (tPsome (tConst (.int 42)))) (tb_law_main_18)) (tb_law_main_3)
noncomputable abbrev tb_law_main_20 : TS := tSeq (tSet "_law_held" (tList (tEnil))) (tb_law_main_19)
noncomputable abbrev tb_law_main_21 : TS := tSeq (tSet "_law_rows" (tList (tEcons (tList (tEnil)) (tEcons (tList (tEnil)) (tEnil))))) (tb_law_main_20)
noncomputable abbrev tb_law_main_22 : TS := tSeq (tSet "_law_days" (tList (tEcons (tNew c_Day_10 T_Day___init__ (tEcons (tItem (tName "_law_counts") (tConst (.int 0))) (tEnil))) (tEcons (tNew c_Day_10 T_Day___init__ (tEcons (tItem (tName "_law_counts") (tConst (.int 1))) (tEnil))) (tEnil))))) (tb_law_main_21)
noncomputable abbrev tb_law_main_23 : TS := tSeq (tRet (tConst (.bool false))) (tNil)
noncomputable abbrev tb_law_main_24 : TS := tSeq (tIf (tAnd (tCmpB .Eq (tBin .Mod (tBin .FloorDiv (tCall (tEcons (tName "_law_script") (tEcons (tConst (.int 0)) (tEnil))) T_law_cell_at) (tConst (.int 5))) (tConst (.int 9))) (tConst (.int 1))) (tAnd (tNot (tTest (tCall (tEcons (tBin .FloorDiv (tCall (tEcons (tName "_law_script") (tEcons (tConst (.int 1)) (tEnil))) T_law_cell_at) (tConst (.int 5))) (tEnil)) T_law_no_count))) (tTrue))) (tb_law_main_23) (tNil)) (tb_law_main_22)
noncomputable abbrev tb_law_main_25 : TS := tSeq (tSet "_law_counts" (tList (tEcons (tBin .Add (tConst (.int 2)) (tBin .Mod (tCall (tEcons (tName "_law_script") (tEcons (tConst (.int 0)) (tEnil))) T_law_cell_at) (tConst (.int 5)))) (tEcons (tBin .Add (tConst (.int 2)) (tBin .Mod (tCall (tEcons (tName "_law_script") (tEcons (tConst (.int 1)) (tEnil))) T_law_cell_at) (tConst (.int 19)))) (tEnil))))) (tb_law_main_24)
noncomputable def tb_law_main : TS := tb_law_main_25
noncomputable def T_law_main : TF := tFun ["_law_script"] tb_law_main
set_option maxRecDepth 100000 in
set_option maxHeartbeats 4000000 in
theorem s_law_main {g : Gx} (F : Fx10 g) : HasF g 6 true "law" T_law_main :=
  has_def (F.d 16 (by decide)) rfl (fun _ _ _ vals h => by obtain ⟨a, rfl⟩ := len1 h; rfl) (by decide +kernel) rfl rfl rfl (show SoundSs g 5 _ _ _ tb_law_main from (sound_cons (sound_set (sound_list (sound_econs (sound_bin (sound_int) (sound_bin (sound_callF (s_law_cell_at F) (sound_econs (sound_local (by decide +kernel) (by decide +kernel)) (sound_econs (sound_int) (sound_enil) (fun _ => rfl)) (fun _ => rfl)) (by decide +kernel) (by decide +kernel) (by decide)) (sound_int))) (sound_econs (sound_bin (sound_int) (sound_bin (sound_callF (s_law_cell_at F) (sound_econs (sound_local (by decide +kernel) (by decide +kernel)) (sound_econs (sound_int) (sound_enil) (fun _ => rfl)) (fun _ => rfl)) (by decide +kernel) (by decide +kernel) (by decide)) (sound_int))) (sound_enil) (fun _ => rfl)) (fun _ => rfl))) (.inl (by decide +kernel)) (fun _ _ => rfl)) (sound_cons (sound_if (soundB_and (soundB_cmp (sound_bin (sound_bin (sound_callF (s_law_cell_at F) (sound_econs (sound_local (by decide +kernel) (by decide +kernel)) (sound_econs (sound_int) (sound_enil) (fun _ => rfl)) (fun _ => rfl)) (by decide +kernel) (by decide +kernel) (by decide)) (sound_int)) (sound_int)) (sound_int) rfl) (soundB_and (soundB_not (soundB_plain (sound_callF (s_law_no_count F) (sound_econs (sound_bin (sound_callF (s_law_cell_at F) (sound_econs (sound_local (by decide +kernel) (by decide +kernel)) (sound_econs (sound_int) (sound_enil) (fun _ => rfl)) (fun _ => rfl)) (by decide +kernel) (by decide +kernel) (by decide)) (sound_int)) (sound_enil) (fun _ => rfl)) (by decide +kernel) (by decide +kernel) (by decide)) (fun _ _ => rfl))) (soundB_andNil))) (sound_cons (sound_ret (sound_bool)) (sound_nil)) (sound_nil)) (sound_cons (sound_set (sound_list (sound_econs (sound_new F.K (sound_econs (sound_item (sound_local (by decide +kernel) (by decide +kernel)) (sound_int) (fun _ _ _ => rfl)) (sound_enil) (fun _ => rfl)) (s_Day___init__ F) (by decide) (by decide +kernel) (by decide +kernel) F.c_Day F.m___init__.find F.m___init__.ty) (sound_econs (sound_new F.K (sound_econs (sound_item (sound_local (by decide +kernel) (by decide +kernel)) (sound_int) (fun _ _ _ => rfl)) (sound_enil) (fun _ => rfl)) (s_Day___init__ F) (by decide) (by decide +kernel) (by decide +kernel) F.c_Day F.m___init__.find F.m___init__.ty) (sound_enil) (fun _ => rfl)) (fun _ => rfl))) (.inl (by decide +kernel)) (fun _ _ => rfl)) (sound_cons (sound_set (sound_list (sound_econs (sound_list (sound_enil)) (sound_econs (sound_list (sound_enil)) (sound_enil) (fun _ => rfl)) (fun _ => rfl))) (.inl (by decide +kernel)) (fun _ _ => rfl)) (sound_cons (sound_set (sound_list (sound_enil)) (.inl (by decide +kernel)) (fun _ _ => rfl)) (sound_cons (sound_for (sound_slice (sound_local (by decide +kernel) (by decide +kernel)) (part_some (sound_int)) (part_some (sound_int)) (fun _ _ => rfl)) (sound_cons (sound_set (sound_callT (by decide +kernel) (by decide +kernel) F.c_int (sound_econs (sound_cmp (sound_bin (sound_local (by decide +kernel) (by decide +kernel)) (sound_int)) (sound_int) rfl) (sound_enil) (fun _ => rfl)) bi_int) (.inl (by decide +kernel)) (fun _ _ => rfl)) (sound_cons (sound_set (sound_bin (sound_local (by decide +kernel) (by decide +kernel)) (sound_int)) (.inl (by decide +kernel)) (fun _ _ => rfl)) (sound_cons (sound_set (sound_bool) (.inl (by decide +kernel)) (fun _ _ => rfl)) (sound_cons (sound_if (soundB_cmp (sound_bin (sound_bin (sound_local (by decide +kernel) (by decide +kernel)) (sound_int)) (sound_int)) (sound_int) rfl) (sound_cons (sound_set (sound_methC F.K (sound_item (sound_local (by decide +kernel) (by decide +kernel)) (sound_local (by decide +kernel) (by decide +kernel)) (fun _ _ _ => rfl)) (sound_enil) (s_Day_standing F).call (by decide) F.m_standing.find F.m_standing.ty F.m_standing.keep (fun _ _ => rfl) (by decide) rfl) (.inl (by decide +kernel)) (fun _ _ => rfl)) (sound_cons (sound_expr (sound_meth (sound_local (by decide +kernel) (by decide +kernel)) (sound_econs (sound_tuple (sound_econs (sound_local (by decide +kernel) (by decide +kernel)) (sound_econs (sound_callT (by decide +kernel) (by decide +kernel) F.c_list (sound_econs (sound_local (by decide +kernel) (by decide +kernel)) (sound_enil) (fun _ => rfl)) (bi_list rfl)) (sound_enil) (fun _ => rfl)) (fun _ => rfl))) (sound_enil) (fun _ => rfl)) me_append (fun _ _ => rfl) (by decide) rfl slot_append ty_append) (fun _ _ => rfl)) (sound_nil))) (sound_nil)) (sound_cons (sound_if (soundB_cmp (sound_bin (sound_local (by decide +kernel) (by decide +kernel)) (sound_int)) (sound_int) rfl) (sound_cons (sound_set (sound_callF (s_law_owed F) (sound_econs (sound_item (sound_local (by decide +kernel) (by decide +kernel)) (sound_local (by decide +kernel) (by decide +kernel)) (fun _ _ _ => rfl)) (sound_econs (sound_item (sound_local (by decide +kernel) (by decide +kernel)) (sound_local (by decide +kernel) (by decide +kernel)) (fun _ _ _ => rfl)) (sound_econs (sound_item (sound_local (by decide +kernel) (by decide +kernel)) (sound_local (by decide +kernel) (by decide +kernel)) (fun _ _ _ => rfl)) (sound_econs (sound_bin (sound_local (by decide +kernel) (by decide +kernel)) (sound_int)) (sound_enil) (fun _ => rfl)) (fun _ => rfl)) (fun _ => rfl)) (fun _ => rfl)) (by decide +kernel) (by decide +kernel) (by decide)) (.inl (by decide +kernel)) (fun _ _ => rfl)) (sound_nil)) (sound_cons (sound_if (soundB_cmp (sound_bin (sound_local (by decide +kernel) (by decide +kernel)) (sound_int)) (sound_int) rfl) (sound_cons (sound_set (sound_callF (s_law_paid F) (sound_econs (sound_item (sound_local (by decide +kernel) (by decide +kernel)) (sound_local (by decide +kernel) (by decide +kernel)) (fun _ _ _ => rfl)) (sound_econs (sound_item (sound_local (by decide +kernel) (by decide +kernel)) (sound_local (by decide +kernel) (by decide +kernel)) (fun _ _ _ => rfl)) (sound_econs (sound_bin (sound_local (by decide +kernel) (by decide +kernel)) (sound_int)) (sound_enil) (fun _ => rfl)) (fun _ => rfl)) (fun _ => rfl)) (by decide +kernel) (by decide +kernel) (by decide)) (.inl (by decide +kernel)) (fun _ _ => rfl)) (sound_nil)) (sound_cons (sound_set (sound_item (sound_list (sound_econs (sound_neg (sound_int)) (sound_econs (sound_item (sound_local (by decide +kernel) (by decide +kernel)) (sound_local (by decide +kernel) (by decide +kernel)) (fun _ _ _ => rfl)) (sound_econs (sound_bool) (sound_econs (sound_none) (sound_econs (sound_str) (sound_econs (sound_bin (sound_item (sound_local (by decide +kernel) (by decide +kernel)) (sound_local (by decide +kernel) (by decide +kernel)) (fun _ _ _ => rfl)) (sound_int)) (sound_econs (sound_bool) (sound_enil) (fun _ => rfl)) (fun _ => rfl)) (fun _ => rfl)) (fun _ => rfl)) (fun _ => rfl)) (fun _ => rfl)) (fun _ => rfl))) (sound_bin (sound_bin (sound_local (by decide +kernel) (by decide +kernel)) (sound_int)) (sound_int)) (fun _ _ _ => rfl)) (.inl (by decide +kernel)) (fun _ _ => rfl)) (sound_cons (sound_set (sound_item (sound_list (sound_econs (sound_neg (sound_int)) (sound_econs (sound_callB (by decide +kernel) (by decide +kernel) F.b_len (sound_econs (sound_item (sound_local (by decide +kernel) (by decide +kernel)) (sound_local (by decide +kernel) (by decide +kernel)) (fun _ _ _ => rfl)) (sound_enil) (fun _ => rfl)) bi_len) (sound_econs (sound_bool) (sound_econs (sound_none) (sound_econs (sound_bool) (sound_econs (sound_bin (sound_callB (by decide +kernel) (by decide +kernel) F.b_len (sound_econs (sound_item (sound_local (by decide +kernel) (by decide +kernel)) (sound_local (by decide +kernel) (by decide +kernel)) (fun _ _ _ => rfl)) (sound_enil) (fun _ => rfl)) bi_len) (sound_int)) (sound_enil) (fun _ => rfl)) (fun _ => rfl)) (fun _ => rfl)) (fun _ => rfl)) (fun _ => rfl)) (fun _ => rfl))) (sound_bin (sound_bin (sound_local (by decide +kernel) (by decide +kernel)) (sound_int)) (sound_int)) (fun _ _ _ => rfl)) (.inl (by decide +kernel)) (fun _ _ => rfl)) (sound_cons (sound_set (sound_and (sound_callF (s_law_no_house F) (sound_econs (sound_item (sound_local (by decide +kernel) (by decide +kernel)) (sound_local (by decide +kernel) (by decide +kernel)) (fun _ _ _ => rfl)) (sound_econs (sound_local (by decide +kernel) (by decide +kernel)) (sound_enil) (fun _ => rfl)) (fun _ => rfl)) (by decide +kernel) (by decide +kernel) (by decide)) (sound_one (sound_callF (s_law_no_number F) (sound_econs (sound_item (sound_local (by decide +kernel) (by decide +kernel)) (sound_local (by decide +kernel) (by decide +kernel)) (fun _ _ _ => rfl)) (sound_econs (sound_local (by decide +kernel) (by decide +kernel)) (sound_enil) (fun _ => rfl)) (fun _ => rfl)) (by decide +kernel) (by decide +kernel) (by decide)))) (.inl (by decide +kernel)) (fun _ _ => rfl)) (sound_nil))))) (sound_nil))) (sound_cons (sound_if (soundB_or (soundB_not (soundB_plain (sound_local (by decide +kernel) (by decide +kernel)) (fun _ _ => rfl))) (soundB_or (soundB_not (soundB_plain (sound_callF (s_law_stands F) (sound_econs (sound_item (sound_local (by decide +kernel) (by decide +kernel)) (sound_local (by decide +kernel) (by decide +kernel)) (fun _ _ _ => rfl)) (sound_econs (sound_item (sound_local (by decide +kernel) (by decide +kernel)) (sound_local (by decide +kernel) (by decide +kernel)) (fun _ _ _ => rfl)) (sound_econs (sound_item (sound_local (by decide +kernel) (by decide +kernel)) (sound_local (by decide +kernel) (by decide +kernel)) (fun _ _ _ => rfl)) (sound_econs (sound_bin (sound_local (by decide +kernel) (by decide +kernel)) (sound_int)) (sound_enil) (fun _ => rfl)) (fun _ => rfl)) (fun _ => rfl)) (fun _ => rfl)) (by decide +kernel) (by decide +kernel) (by decide)) (fun _ _ => rfl))) (soundB_orNil))) (sound_cons (sound_ret (sound_bool)) (sound_nil)) (sound_nil)) (sound_nil))))))) (.inl (by decide +kernel)) (fun _ _ => rfl)) (sound_cons (sound_if (soundB_or (soundB_not (soundB_plain (sound_callF (s_law_stands F) (sound_econs (sound_item (sound_local (by decide +kernel) (by decide +kernel)) (sound_int) (fun _ _ _ => rfl)) (sound_econs (sound_item (sound_local (by decide +kernel) (by decide +kernel)) (sound_int) (fun _ _ _ => rfl)) (sound_econs (sound_item (sound_local (by decide +kernel) (by decide +kernel)) (sound_int) (fun _ _ _ => rfl)) (sound_econs (sound_int) (sound_enil) (fun _ => rfl)) (fun _ => rfl)) (fun _ => rfl)) (fun _ => rfl)) (by decide +kernel) (by decide +kernel) (by decide)) (fun _ _ => rfl))) (soundB_or (soundB_not (soundB_plain (sound_callF (s_law_stands F) (sound_econs (sound_item (sound_local (by decide +kernel) (by decide +kernel)) (sound_int) (fun _ _ _ => rfl)) (sound_econs (sound_item (sound_local (by decide +kernel) (by decide +kernel)) (sound_int) (fun _ _ _ => rfl)) (sound_econs (sound_item (sound_local (by decide +kernel) (by decide +kernel)) (sound_int) (fun _ _ _ => rfl)) (sound_econs (sound_int) (sound_enil) (fun _ => rfl)) (fun _ => rfl)) (fun _ => rfl)) (fun _ => rfl)) (by decide +kernel) (by decide +kernel) (by decide)) (fun _ _ => rfl))) (soundB_orNil))) (sound_cons (sound_ret (sound_bool)) (sound_nil)) (sound_nil)) (sound_cons (sound_ret (sound_cmp (sound_comp (compOk (by decide +kernel) (by decide +kernel) (by decide +kernel) (by decide +kernel) (by decide +kernel) (by decide +kernel)) (sound_local (by decide +kernel) (by decide +kernel)) (ifs_one (soundB_cmp (sound_item (sound_local (by decide +kernel) (by decide +kernel)) (sound_int) (fun _ _ _ => rfl)) (sound_item (sound_local (by decide +kernel) (by decide +kernel)) (sound_int) (fun _ _ _ => rfl)) rfl)) (sound_local (by decide +kernel) (by decide +kernel)) (fun _ _ => rfl)) (sound_list (sound_enil)) rfl)) (sound_nil))))))))))

end
local macro_rules | `(tactic| walk_at "nm") => `(tactic| first | with_reducible exact setL_same | with_reducible exact compR_same | (with_reducible refine setL_other (by decide +kernel) ?_; walk_at "nm") | (with_reducible refine compR_other (by decide +kernel) (by decide +kernel) ?_; walk_at "nm") | (with_reducible refine unL_other (by decide +kernel) ?_; walk_at "nm") | with_reducible assumption)
local macro_rules | `(tactic| walk_at "sx") => `(tactic| with_reducible first
  | refine i_const ?_ | refine i_bin ?_ | refine i_add ?_ | refine i_sub ?_ | refine i_neg ?_ | refine i_cmp ?_ | refine i_cmpB ?_ | refine i_chain ?_ | refine i_chainB ?_
  | refine i_lt ?_ | refine i_le ?_ | refine i_gt ?_ | refine i_ge ?_ | refine i_eqi ?_ | refine i_nei ?_ | refine i_eqss ?_ | refine i_eqs ?_ | refine i_is ?_ | refine i_isnot ?_ | refine i_not ?_ | refine i_and ?_ | refine i_or ?_ | refine i_true ?_ | refine i_false ?_ | refine i_test ?_
  | refine i_andE ?_ | refine i_orE ?_ | refine i_notE ?_ | refine i_tup ?_ | refine i_list ?_ | refine i_enil ?_ | refine i_econs ?_ | refine i_call ?_ | refine i_item ?_ | refine i_isinst ?_ | refine i_range ?_ | refine i_divp (by decide) (by decide) ?_ | refine i_modp (by decide) ?_ | refine i_mul (.inr (by decide)) ?_ | refine i_mul (.inl (by decide)) ?_ | refine i_meth ?_
  | refine i_g0 ?_ | refine i_g1 ?_ | refine i_g2 ?_ | refine i_len3 ?_ | refine i_len2 ?_ | refine i_len4 ?_
  | refine i_attr ?_ | refine i_methC ?_ | refine i_new ?_ | refine i_tupfrom ?_ | refine i_slice ?_ | refine i_pnone ?_ | refine i_psome ?_ | refine i_dict0 ?_ | refine i_comp ?_ | refine i_lenset ?_ | refine i_max ?_ | refine i_min ?_ | refine i_pow (by decide) (by decide) (by decide) ?_
  | (refine i_name (by walk_at "nm") ?_) | refine And.intro (show List.length _ ≤ 1000000 by simp) ?_ | refine And.intro (show List.length [_] ≤ sizeLine by decide) ?_)
local macro_rules | `(tactic| walk_at "ex") => `(tactic| repeat (walk_at "sx"))
local macro_rules | `(tactic| walk_at "st") => `(tactic| first | walk_at "sx" | with_reducible first
  | refine i_seq ?_ | refine i_set ?_ | refine i_if ?_ | refine i_ret ?_ | refine i_expr ?_ | refine i_raise ?_ | refine i_nil ?_
  | refine i_setattr ?_ | refine i_store ?_ | refine i_swap ?_ | refine i_unpack ?_ | refine i_try ?_ | refine i_for ?_ | refine i_forzip ?_ | refine ite_t ?_ | refine ite_f ?_ | refine ite_nt ?_ | refine ite_nf ?_)
local macro_rules | `(tactic| walk_at "ev") => `(tactic| repeat (first | walk_at "st" | dsimp only))

noncomputable def cellN (ns : List Int) (k : Int) : Int := (ns[k.toNat]?).getD 0
theorem p_cell_at {l : Addr} {ns : List Int} {k : Int} {σ : Sto} {Q : PV → Sto → Prop} {X : Addr → Sto → Prop} (h0 : 0 ≤ k) (h1 : ns.length ≤ 63) (hq : Q (.int (cellN ns k)) σ) : T_law_cell_at [.lst l ns, .int k] σ Q X := by
  unfold T_law_cell_at tb_law_cell_at
  refine i_fun2 ?_
  walk_at "ev"
  refine i_len trivial rfl (by simp; omega) ?_
  walk_at "ev"
  refine ite_d (fun h => ?_) (fun h => ?_)
  · walk_at "ev"
    refine i_get h0 (by simp at h; omega) rfl trivial (x := .int (cellN ns k)) ?_ ?_
    · simp at h
      have : k.toNat < ns.length := by omega
      simp [cellN, this]
    · walk_at "ev"
      exact hq
  · walk_at "ev"
    have : ns[k.toNat]? = none := by simp at h ⊢; omega
    simp only [cellN, this, Option.getD] at hq
    exact hq

theorem p_is_number {p : PV} {ty : Ty} {σ : Sto} {Q : PV → Sto → Prop} {X : Addr → Sto → Prop} (h : tyOf σ p = some ty) (hx : ∀ c, ty ≠ .exc c) (hq : Q (.bool (match ty with | .int => true | _ => false)) σ) : T_is_number [p] σ Q X := by
  unfold T_is_number tb_is_number
  refine i_fun1 ?_
  walk_at "ev"
  cases ty with
  | exc c => exact absurd rfl (hx c)
  | int => exact ⟨_, _, h, rfl, _, _, h, rfl, hq⟩
  | bool => exact ⟨_, _, h, rfl, _, _, h, rfl, hq⟩
  | _ => exact ⟨_, _, h, rfl, hq⟩

/-- a value whose type is told, and which is no exception -/
noncomputable def Told (σ : Sto) (p : PV) : Prop := ∃ ty, tyOf σ p = some ty ∧ ∀ c, ty ≠ .exc c
theorem told_int {σ : Sto} {i : Int} : Told σ (.int i) := ⟨_, rfl, fun c e => by cases e⟩
theorem told_bool {σ : Sto} {i : Bool} : Told σ (.bool i) := ⟨_, rfl, fun c e => by cases e⟩
theorem told_str {σ : Sto} {i : Str} : Told σ (.str i) := ⟨_, rfl, fun c e => by cases e⟩
theorem told_none {σ : Sto} : Told σ .none := ⟨_, rfl, fun c e => by cases e⟩
theorem Told.ext {σ σ' : Sto} {p : PV} (h : Told σ p) (x : Ext σ σ') : Told σ' p := let ⟨ty, h1, h2⟩ := h; ⟨ty, x.ty h1, h2⟩

theorem p_is_number' {p : PV} {σ : Sto} {Q : PV → Sto → Prop} {X : Addr → Sto → Prop} (h : Told σ p) (h1 : ∀ i, p = .int i → Q (.bool true) σ) (h2 : (∀ i, p ≠ .int i) → Q (.bool false) σ) : T_is_number [p] σ Q X := by
  obtain ⟨ty, ht, hx⟩ := h
  refine p_is_number ht hx ?_
  cases p with
  | int i => cases ht; exact h1 i rfl
  | none => cases ht; exact h2 fun i e => by cases e
  | bool b => cases ht; exact h2 fun i e => by cases e
  | str b => cases ht; exact h2 fun i e => by cases e
  | tup b => cases ht; exact h2 fun i e => by cases e
  | lst a b => cases ht; exact h2 fun i e => by cases e
  | exc a b => cases ht; exact absurd rfl (hx b)
  | rng a b => cases ht
  | ref a =>
    have := h2 fun i e => by cases e
    unfold tyOf at ht
    dsimp only at ht
    split at ht
    · cases ht; exact this
    · cases ht; exact this
    · cases ht

theorem ty_list {σ : Sto} {a : Addr} {xs : List PV} (h : σ a = some (.list xs)) : tyOf σ (.ref a) = some .list := by unfold tyOf; simp only [h]
theorem items_ref {σ : Sto} {a : Addr} {xs : List PV} (h : σ a = some (.list xs)) : itemsOf σ (.ref a) = some xs := by unfold itemsOf; simp only [h]
theorem Ext.back {σ σ' : Sto} (x : Ext σ σ') {b : Addr} (h : σ' b = none) : σ b = none := by
  cases e : σ b with
  | none => rfl
  | some o => rw [x _ _ e] at h; cases h
noncomputable def enc (t : Int × Int × Int) : PV := .tup [.int t.1, .int t.2.1, .int t.2.2]
theorem i_num {ts : List Int} {d : Addr} {k : Int} {σ : Sto} {kk : PV → Prop} (hd : σ d = some (.list (ts.map .int))) (h0 : 0 ≤ k) (hk : k < ts.length) (hl : ts.length ≤ 1000) (h : kk (.int (ts.getD k.toNat 0))) : getP σ (.ref d) (.int k) kk := by
  have hk' : k.toNat < ts.length := by omega
  refine i_get h0 (by omega) (items_ref hd) trivial (x := .int (ts.getD k.toNat 0)) ?_ h
  simp [List.getD, hk']
theorem i_numk {ts : List Int} {d : Addr} {k : Nat} {σ : Sto} {kk : PV → Prop} (hd : σ d = some (.list (ts.map .int))) (hk : k < ts.length) (hl : ts.length ≤ 1000) (h : kk (.int (ts.getD k 0))) : getP σ (.ref d) (.int (k : Int)) kk :=
  i_num hd (Int.natCast_nonneg _) (Int.ofNat_lt.mpr hk) hl h
section
variable {α : Type} {f : α → PV} {D : List α} {d : Addr} {σ : Sto} {Q : PV → Sto → Prop} {X : Addr → Sto → Prop}
theorem i_lenm (hd : σ d = some (.list (D.map f))) (hl : D.length ≤ 1000) (h : Q (.int (D.length : Nat)) σ) : lenF [.ref d] σ Q X :=
  i_len trivial (items_ref hd) (by rw [List.length_map]; omega) (by rw [List.length_map]; exact h)
end
theorem i_getk {d : Addr} {xs : List PV} {x : PV} {k : Nat} {σ : Sto} {kk : PV → Prop} (hd : σ d = some (.list xs)) (hk : k ≤ 1000) (hx : xs[k]? = some x) (h : kk x) : getP σ (.ref d) (.int (k : Int)) kk :=
  i_get (Int.natCast_nonneg _) (by omega) (items_ref hd) trivial hx h
noncomputable def rg (js : List Nat) : List PV := js.map fun k : Nat => .int (0 + (k : Int))
theorem rg_items {σ : Sto} {n : Nat} : itemsOf σ (.rng 0 (n : Int)) = some (rg (List.range n)) := by simp [itemsOf, rg]
theorem i_rng {x : Str} {tb : TS} {ρ : Env'} {σ : Sto} {Q : Fl → Env' → Sto → Prop} {X : Addr → Env' → Sto → Prop} {n : Nat} (hn : n ≤ 1000) (h : forL x tb (fun σ' => itemsOf σ' (.rng 0 (n : Int)) = some (rg (List.range n))) (rg (List.range n)) ρ σ Q X) :
    ∃ xs, itemsOf σ (.rng 0 (n : Int)) = some xs ∧ iterOk (.rng 0 (n : Int)) ∧ forL x tb (fun σ' => itemsOf σ' (.rng 0 (n : Int)) = some xs) xs ρ σ Q X := ⟨_, rg_items, ⟨by decide, by decide, by omega, by omega⟩, h⟩
theorem rg_cons {k : Nat} {js : List Nat} {p : PV} {ps : List PV} (h : p :: ps = rg (k :: js)) : p = .int (k : Int) ∧ ps = rg js := by
  unfold rg at h
  rw [List.map_cons] at h
  injection h with h1 h2
  exact ⟨by rw [h1, Int.zero_add], h2⟩
theorem rg_nil {p : PV} {ps : List PV} (h : p :: ps = rg []) : False := by cases h

theorem p_whole {i : Int} {σ : Sto} {Q : PV → Sto → Prop} {X : Addr → Sto → Prop} (hq : Q (.bool true) σ) : T_law_whole [.int i] σ Q X := by
  unfold T_law_whole tb_law_whole
  refine i_fun1 ?_
  walk_at "ev"
  exact ⟨_, _, rfl, rfl, _, _, rfl, rfl, hq⟩
noncomputable def balStep (b : List Int) (t : Int × Int × Int) : List Int := (b.set t.1.toNat (b.getD t.1.toNat 0 - t.2.2)).set t.2.1.toNat ((b.set t.1.toNat (b.getD t.1.toNat 0 - t.2.2)).getD t.2.1.toNat 0 + t.2.2)
noncomputable def zeros (n : Nat) : List Int := List.replicate n 0
noncomputable def bals (n : Nat) (P : List (Int × Int × Int)) : List Int := P.foldl balStep (zeros n)
theorem balStep_len {b : List Int} {t : Int × Int × Int} : (balStep b t).length = b.length := by simp [balStep]
/-- all between houses -/
noncomputable def Inside (n : Nat) (P : List (Int × Int × Int)) : Prop := ∀ t ∈ P, (0 ≤ t.1 ∧ t.1 < n) ∧ (0 ≤ t.2.1 ∧ t.2.1 < n)
theorem all_zero {n : Nat} : ∀ {xs ys : List PV}, Paired (fun _ y => y = PV.int 0) xs ys → ys = (zeros xs.length).map PV.int
  | _, _, .nil => rfl
  | _, _, .cons h r => by rw [h, all_zero (n := n) r]; rfl
theorem c_zeros {n : Nat} {x c : Str} {ρ : Env'} {σ : Sto} {Q : PV → Sto → Prop} {X : Addr → Sto → Prop} (e : ρ c = some (.int (n : Nat))) (hn : n ≤ 1000) (hq : ∀ a, σ a = none → Q (.ref a) (upd σ a (.list ((zeros n).map .int)))) :
    tComp x [] (tCall (tEcons (tName c) tEnil) rangeF) tTrue (tConst (.int 0)) ρ σ Q X := by
  refine i_comp (i_call (i_econs (i_name e (i_enil (i_range ?_)))))
  refine ⟨_, rg_items, ⟨by decide, by decide, by omega, by omega⟩, by rw [rg, List.length_map, List.length_range]; exact Nat.le_trans hn (by decide), ?_⟩
  refine compL_all (fun _ y => y = PV.int 0) (by rfl) _ [] (fun p hp Q' hQ => hQ _ rfl) fun ys hys => ?_
  rw [List.nil_append, all_zero (n := n) hys, rg, List.length_map, List.length_range]
  exact hq
theorem i_numt {ts : List Int} {d : Addr} {k : Int} {σ : Sto} {kk : PV → Prop} (hd : σ d = some (.list (ts.map .int))) (hk : 0 ≤ k ∧ k < ts.length) (hl : ts.length ≤ 1000) (h : kk (.int (ts.getD k.toNat 0))) : getP σ (.ref d) (.int k) kk := i_num hd hk.1 hk.2 hl h
theorem i_put {a : Addr} {i z : Int} {ts : List Int} {σ : Sto} {kk : Sto → Prop} (h1 : σ a = some (.list (ts.map .int))) (h2 : 0 ≤ i ∧ i < ts.length) (h3 : ts.length ≤ 1000) (h : kk (upd σ a (.list ((ts.set i.toNat z).map .int)))) : setP σ (.ref a) (.int i) (.int z) kk :=
  i_setP h2.1 h1 (by rw [List.length_map]; exact h2.2) (by rw [List.length_map]; omega) (by rw [List.map_set] at h; exact h)
/-- the loop that fills the balances, whatever its names -/
noncomputable abbrev balT (f t : Str) : TS := tSeq (tStore (tName f) (tItem (tName t) (tConst (.int 0))) (tBin .Sub (tItem (tName f) (tItem (tName t) (tConst (.int 0)))) (tItem (tName t) (tConst (.int 2)))))
  (tSeq (tStore (tName f) (tItem (tName t) (tConst (.int 1))) (tBin .Add (tItem (tName f) (tItem (tName t) (tConst (.int 1)))) (tItem (tName t) (tConst (.int 2))))) tNil)
inductive BalI (n : Nat) (f : Str) (a : Addr) (P : List (Int × Int × Int)) (σ : Sto) (ps : List PV) (ρ : Env') (σ' : Sto) : Prop
  | mk (b : List Int) (R : List (Int × Int × Int)) : ρ f = some (.ref a) → ps = R.map enc → b.length = n → R.foldl balStep b = bals n P → Inside n R → σ' = upd σ a (.list (b.map .int)) → BalI n f a P σ ps ρ σ'
theorem p_balT {n : Nat} {f t : Str} {a d : Addr} {P : List (Int × Int × Int)} {ρ : Env'} {σ : Sto} {Q : Fl → Env' → Sto → Prop} {XS : Addr → Env' → Sto → Prop} (hft : (f == t) = false) (hn : n ≤ 1000) (hd : σ d = some (.list (P.map enc))) (hP : Inside n P) (ha : σ a = none)
    (e1 : ρ f = some (.ref a)) (hq : ∀ ρ', ρ' f = some (.ref a) → Q .next ρ' (upd σ a (.list ((bals n P).map .int)))) :
    forL t (balT f t) (fun σ' => itemsOf σ' (.ref d) = some (P.map enc)) (P.map enc) ρ (upd σ a (.list ((zeros n).map .int))) Q XS := by
  have hda : d ≠ a := by rintro rfl; rw [ha] at hd; cases hd
  refine forL_step (BalI n f a P σ) (fun _ _ _ => False) ?_ ?_ (fun _ _ _ h => h.elim) _ _ _ ?_
  · rintro p ps ρ' σ' Qb ⟨b, R, f1, f2, f3, f4, f5, rfl⟩ hnx _
    cases R with
    | nil => cases f2
    | cons u R =>
      injection f2 with f2 f6
      subst f2 f6
      obtain ⟨h1, h2⟩ := f5 u (.head _)
      subst f3
      have nf : ∀ {ρ'' : Env'}, setL ρ' t (enc u) f = some (.ref a) := setL_other hft f1
      have nt : setL ρ' t (enc u) t = some (.tup [.int u.1, .int u.2.1, .int u.2.2]) := setL_same
      refine i_seq (i_store (i_bin (i_item (i_name (setL_other hft f1) (i_item (i_name nt (i_const (i_g0 ?_))))))))
      refine i_numt upd_same h1 hn (i_item (i_name nt (i_const (i_g2 (i_sub ?_)))))
      refine i_name (setL_other hft f1) (i_item (i_name nt (i_const (i_g0 ?_))))
      refine i_put upd_same h1 hn ?_
      rw [upd_upd]
      have hl2 : (b.set u.1.toNat (b.getD u.1.toNat 0 - u.2.2)).length = b.length := List.length_set
      refine i_seq (i_store (i_bin (i_item (i_name (setL_other hft f1) (i_item (i_name nt (i_const (i_g1 ?_))))))))
      refine i_numt upd_same (by rw [hl2]; exact h2) (by rw [hl2]; exact hn) (i_item (i_name nt (i_const (i_g2 (i_add ?_)))))
      refine i_name (setL_other hft f1) (i_item (i_name nt (i_const (i_g1 ?_))))
      refine i_put upd_same (by rw [hl2]; exact h2) (by rw [hl2]; exact hn) ?_
      rw [upd_upd]
      refine i_nil (hnx _ _ (items_ref (upd_other hda hd)) ⟨balStep b u, R, setL_other hft f1, rfl, balStep_len, f4, fun t ht => f5 t (.tail _ ht), rfl⟩)
  · rintro ρ' σ' ⟨b, R, f1, f2, f3, f4, f5, rfl⟩
    have : R = [] := by cases R with | nil => rfl | cons k js => cases f2
    subst this
    have : b = bals n P := f4
    subst this
    exact hq ρ' f1
  · exact ⟨zeros n, P, e1, rfl, by simp [zeros], rfl, hP, rfl⟩
theorem p_balances {n : Nat} {P : List (Int × Int × Int)} {d : Addr} {σ : Sto} {Q : PV → Sto → Prop} {X : Addr → Sto → Prop} (hn : n ≤ 1000) (hd : σ d = some (.list (P.map enc))) (hP : Inside n P) (hq : ∀ a, σ a = none → Q (.ref a) (upd σ a (.list ((bals n P).map .int)))) : T_balances [.int (n : Nat), .ref d] σ Q X := by
  unfold T_balances tb_balances
  refine i_fun2 (i_seq (i_set (c_zeros (by walk_at "nm") hn fun a ha => ?_)))
  have hda : d ≠ a := by rintro rfl; rw [ha] at hd; cases hd
  walk_at "ev"
  refine ⟨_, items_ref (upd_other hda hd), trivial, p_balT (by decide +kernel) hn hd hP ha (by walk_at "nm") fun ρ' e => ?_⟩
  walk_at "ev"
  exact hq a ha
theorem p_kind_count {e : Addr} {σ : Sto} {Q : PV → Sto → Prop} {X : Addr → Sto → Prop} (hq : ∀ σ', Ext σ σ' → Q (.str "count") σ') : T_law_kind [.exc e c_BadCount_10] σ Q X := by
  unfold T_law_kind tb_law_kind
  refine i_fun1 ?_
  walk_at "ev"
  intro w hw
  walk_at "ev"
  refine ⟨_, true, rfl, rfl, ?_⟩
  walk_at "ev"
  refine ⟨⟨_, upd_same⟩, ?_⟩
  walk_at "ev"
  refine i_append upd_same (by decide) ?_
  rw [upd_upd]
  walk_at "ev"
  refine ⟨_, false, rfl, rfl, ?_⟩
  walk_at "ev"
  refine ⟨_, false, rfl, rfl, ?_⟩
  walk_at "ev"
  refine ⟨_, false, rfl, rfl, ?_⟩
  walk_at "ev"
  refine ⟨_, false, rfl, rfl, ?_⟩
  walk_at "ev"
  refine ⟨_, false, rfl, rfl, ?_⟩
  walk_at "ev"
  refine ⟨_, false, rfl, rfl, ?_⟩
  walk_at "ev"
  refine ⟨_, false, rfl, rfl, ?_⟩
  walk_at "ev"
  refine ⟨_, false, rfl, rfl, ?_⟩
  walk_at "ev"
  refine i_len trivial (items_ref upd_same) (by simp) ?_
  walk_at "ev"
  refine ite_nd (fun h => absurd rfl h) fun _ => ?_
  walk_at "ev"
  refine ⟨_, true, rfl, rfl, ?_⟩
  walk_at "ev"
  refine i_get (by decide) (by decide) (items_ref upd_same) trivial rfl ?_
  walk_at "ev"
  exact hq _ (Ext.upd hw)
theorem p_kind_debt {e : Addr} {σ : Sto} {Q : PV → Sto → Prop} {X : Addr → Sto → Prop} (hq : ∀ σ', Ext σ σ' → Q (.str "debt") σ') : T_law_kind [.exc e c_BadDebt_10] σ Q X := by
  unfold T_law_kind tb_law_kind
  refine i_fun1 ?_
  walk_at "ev"
  intro w hw
  walk_at "ev"
  refine ⟨_, false, rfl, rfl, ?_⟩
  walk_at "ev"
  refine ⟨_, true, rfl, rfl, ?_⟩
  walk_at "ev"
  refine ⟨⟨_, upd_same⟩, ?_⟩
  walk_at "ev"
  refine i_append upd_same (by decide) ?_
  rw [upd_upd]
  walk_at "ev"
  refine ⟨_, false, rfl, rfl, ?_⟩
  walk_at "ev"
  refine ⟨_, false, rfl, rfl, ?_⟩
  walk_at "ev"
  refine ⟨_, false, rfl, rfl, ?_⟩
  walk_at "ev"
  refine ⟨_, false, rfl, rfl, ?_⟩
  walk_at "ev"
  refine ⟨_, false, rfl, rfl, ?_⟩
  walk_at "ev"
  refine ⟨_, false, rfl, rfl, ?_⟩
  walk_at "ev"
  refine ⟨_, false, rfl, rfl, ?_⟩
  walk_at "ev"
  refine i_len trivial (items_ref upd_same) (by simp) ?_
  walk_at "ev"
  refine ite_nd (fun h => absurd rfl h) fun _ => ?_
  walk_at "ev"
  refine ⟨_, true, rfl, rfl, ?_⟩
  walk_at "ev"
  refine i_get (by decide) (by decide) (items_ref upd_same) trivial rfl ?_
  walk_at "ev"
  exact hq _ (Ext.upd hw)
theorem p_kind_number {e : Addr} {σ : Sto} {Q : PV → Sto → Prop} {X : Addr → Sto → Prop} (hq : ∀ σ', Ext σ σ' → Q (.str "number") σ') : T_law_kind [.exc e c_NoDebt_10] σ Q X := by
  unfold T_law_kind tb_law_kind
  refine i_fun1 ?_
  walk_at "ev"
  intro w hw
  walk_at "ev"
  refine ⟨_, false, rfl, rfl, ?_⟩
  walk_at "ev"
  refine ⟨_, false, rfl, rfl, ?_⟩
  walk_at "ev"
  refine ⟨_, false, rfl, rfl, ?_⟩
  walk_at "ev"
  refine ⟨_, false, rfl, rfl, ?_⟩
  walk_at "ev"
  refine ⟨_, false, rfl, rfl, ?_⟩
  walk_at "ev"
  refine ⟨_, false, rfl, rfl, ?_⟩
  walk_at "ev"
  refine ⟨_, true, rfl, rfl, ?_⟩
  walk_at "ev"
  refine ⟨⟨_, upd_same⟩, ?_⟩
  walk_at "ev"
  refine i_append upd_same (by decide) ?_
  rw [upd_upd]
  walk_at "ev"
  refine ⟨_, false, rfl, rfl, ?_⟩
  walk_at "ev"
  refine ⟨_, false, rfl, rfl, ?_⟩
  walk_at "ev"
  refine i_len trivial (items_ref upd_same) (by simp) ?_
  walk_at "ev"
  refine ite_nd (fun h => absurd rfl h) fun _ => ?_
  walk_at "ev"
  refine ⟨_, true, rfl, rfl, ?_⟩
  walk_at "ev"
  refine i_get (by decide) (by decide) (items_ref upd_same) trivial rfl ?_
  walk_at "ev"
  exact hq _ (Ext.upd hw)
theorem p_kind_house {e : Addr} {σ : Sto} {Q : PV → Sto → Prop} {X : Addr → Sto → Prop} (hq : ∀ σ', Ext σ σ' → Q (.str "house") σ') : T_law_kind [.exc e c_NoHouse_10] σ Q X := by
  unfold T_law_kind tb_law_kind
  refine i_fun1 ?_
  walk_at "ev"
  intro w hw
  walk_at "ev"
  refine ⟨_, false, rfl, rfl, ?_⟩
  walk_at "ev"
  refine ⟨_, false, rfl, rfl, ?_⟩
  walk_at "ev"
  refine ⟨_, false, rfl, rfl, ?_⟩
  walk_at "ev"
  refine ⟨_, false, rfl, rfl, ?_⟩
  walk_at "ev"
  refine ⟨_, false, rfl, rfl, ?_⟩
  walk_at "ev"
  refine ⟨_, false, rfl, rfl, ?_⟩
  walk_at "ev"
  refine ⟨_, false, rfl, rfl, ?_⟩
  walk_at "ev"
  refine ⟨_, true, rfl, rfl, ?_⟩
  walk_at "ev"
  refine ⟨⟨_, upd_same⟩, ?_⟩
  walk_at "ev"
  refine i_append upd_same (by decide) ?_
  rw [upd_upd]
  walk_at "ev"
  refine ⟨_, false, rfl, rfl, ?_⟩
  walk_at "ev"
  refine i_len trivial (items_ref upd_same) (by simp) ?_
  walk_at "ev"
  refine ite_nd (fun h => absurd rfl h) fun _ => ?_
  walk_at "ev"
  refine ⟨_, true, rfl, rfl, ?_⟩
  walk_at "ev"
  refine i_get (by decide) (by decide) (items_ref upd_same) trivial rfl ?_
  walk_at "ev"
  exact hq _ (Ext.upd hw)
theorem p_kind_amount {e : Addr} {σ : Sto} {Q : PV → Sto → Prop} {X : Addr → Sto → Prop} (hq : ∀ σ', Ext σ σ' → Q (.str "amount") σ') : T_law_kind [.exc e c_BadAmount_10] σ Q X := by
  unfold T_law_kind tb_law_kind
  refine i_fun1 ?_
  walk_at "ev"
  intro w hw
  walk_at "ev"
  refine ⟨_, false, rfl, rfl, ?_⟩
  walk_at "ev"
  refine ⟨_, false, rfl, rfl, ?_⟩
  walk_at "ev"
  refine ⟨_, false, rfl, rfl, ?_⟩
  walk_at "ev"
  refine ⟨_, false, rfl, rfl, ?_⟩
  walk_at "ev"
  refine ⟨_, false, rfl, rfl, ?_⟩
  walk_at "ev"
  refine ⟨_, false, rfl, rfl, ?_⟩
  walk_at "ev"
  refine ⟨_, false, rfl, rfl, ?_⟩
  walk_at "ev"
  refine ⟨_, false, rfl, rfl, ?_⟩
  walk_at "ev"
  refine ⟨_, true, rfl, rfl, ?_⟩
  walk_at "ev"
  refine ⟨⟨_, upd_same⟩, ?_⟩
  walk_at "ev"
  refine i_append upd_same (by decide) ?_
  rw [upd_upd]
  walk_at "ev"
  refine i_len trivial (items_ref upd_same) (by simp) ?_
  walk_at "ev"
  refine ite_nd (fun h => absurd rfl h) fun _ => ?_
  walk_at "ev"
  refine ⟨_, true, rfl, rfl, ?_⟩
  walk_at "ev"
  refine i_get (by decide) (by decide) (items_ref upd_same) trivial rfl ?_
  walk_at "ev"
  exact hq _ (Ext.upd hw)

/-! houses, counts, debts -/
theorem p_house {c : Int} {p : PV} {σ : Sto} {Q : PV → Sto → Prop} {X : Addr → Sto → Prop} (h : Told σ p) (h1 : ∀ i, p = .int i → 0 ≤ i → i < c → Q (.bool true) σ) (h2 : (∀ i, p = .int i → ¬ (0 ≤ i ∧ i < c)) → Q (.bool false) σ) : T_is_house [.int c, p] σ Q X := by
  unfold T_is_house tb_is_house
  refine i_fun2 ?_
  walk_at "ev"
  refine p_is_number' h (fun i e => ?_) fun hn => ?_
  · subst e
    walk_at "ev"
    refine ite_d (fun y => ?_) fun y => ?_
    · walk_at "ev"
      by_cases z : i < c
      · rw [decide_eq_true z]; exact h1 i rfl y z
      · rw [decide_eq_false z]; exact h2 fun j e => by cases e; exact fun w => z w.2
    · exact h2 fun j e => by cases e; exact fun w => y w.1
  · walk_at "ev"
    exact h2 fun i e => absurd e (hn i)
theorem p_need_count {p : PV} {σ : Sto} {Q : PV → Sto → Prop} {X : Addr → Sto → Prop} (h : Told σ p) (h1 : ∀ i, p = .int i → 1 ≤ i → i ≤ 20 → Q .none σ) (h2 : (∀ i, p = .int i → ¬ (1 ≤ i ∧ i ≤ 20)) → X c_BadCount_10 σ) : T_need_count [p] σ Q X := by
  unfold T_need_count tb_need_count
  refine i_fun1 ?_
  walk_at "ev"
  refine p_is_number' h (fun i e => ?_) fun hn => ?_
  · subst e
    walk_at "ev"
    refine ite_d (fun y => ?_) fun y => ?_
    · walk_at "ev"
      refine ite_nd (fun z => ?_) fun z => ?_
      · walk_at "ev"
        exact h2 fun j e => by cases e; exact fun w => z w.2
      · walk_at "ev"
        exact h1 i rfl y z
    · walk_at "ev"
      exact h2 fun j e => by cases e; exact fun w => y w.1
  · walk_at "ev"
    exact h2 fun i e => absurd e (hn i)
/-- whether three parts make a debt -/
noncomputable def IsDebt (c : Int) (p q r : PV) : Prop := ∃ x y z : Int, p = .int x ∧ q = .int y ∧ r = .int z ∧ (0 ≤ x ∧ x < c) ∧ (0 ≤ y ∧ y < c) ∧ x ≠ y ∧ 1 ≤ z ∧ z ≤ 1000000000
theorem p_need_debt {c : Int} {p q r : PV} {σ : Sto} {Q : PV → Sto → Prop} {X : Addr → Sto → Prop} (hp : Told σ p) (hq : Told σ q) (hr : Told σ r) (h1 : IsDebt c p q r → Q .none σ) (h2 : ¬ IsDebt c p q r → X c_BadDebt_10 σ) : T_need_debt [.int c, .tup [p, q, r]] σ Q X := by
  unfold T_need_debt tb_need_debt
  refine i_fun2 ?_
  walk_at "ev"
  refine ⟨_, true, rfl, rfl, ?_⟩
  walk_at "ev"
  refine ite_nd (fun y => absurd rfl y) fun _ => ?_
  walk_at "ev"
  refine p_house hp (fun x e a1 a2 => ?_) fun hn => ?_
  · subst e
    walk_at "ev"
    refine p_house hq (fun y e b1 b2 => ?_) fun hn => ?_
    · subst e
      walk_at "ev"
      refine ite_d (fun z => ?_) fun z => ?_
      · walk_at "ev"
        refine h2 ?_
        rintro ⟨_, _, _, e1, e2, _, _, _, h, _⟩
        cases e1; cases e2; exact h z
      · walk_at "ev"
        refine p_is_number' hr (fun i e => ?_) fun hn => ?_
        · subst e
          walk_at "ev"
          refine ite_d (fun y1 => ?_) fun y1 => ?_
          · walk_at "ev"
            refine ite_nd (fun y2 => ?_) fun y2 => ?_
            · walk_at "ev"
              refine h2 ?_
              rintro ⟨_, _, _, _, _, e3, _, _, _, _, h⟩
              cases e3; exact y2 h
            · walk_at "ev"
              exact h1 ⟨x, y, i, rfl, rfl, rfl, ⟨a1, a2⟩, ⟨b1, b2⟩, z, y1, y2⟩
          · walk_at "ev"
            refine h2 ?_
            rintro ⟨_, _, _, _, _, e3, _, _, _, h, _⟩
            cases e3; exact y1 h
        · walk_at "ev"
          refine h2 ?_
          rintro ⟨_, _, _, _, _, e3, _⟩
          exact hn _ e3
    · walk_at "ev"
      refine h2 ?_
      rintro ⟨_, _, _, _, e2, _, _, h, _⟩
      exact hn _ e2 h
  · walk_at "ev"
    refine h2 ?_
    rintro ⟨_, _, _, e1, _, _, h, _⟩
    exact hn _ e1 h

theorem compL_ext {x : Str} {cs : List Str} {te : TE} {ok : Sto → Prop} {ρ : Env'} {σ0 : Sto} {Q : List PV → Sto → Prop} (P : PV → PV → Prop) (hok : ∀ σ', Ext σ0 σ' → ok σ') : ∀ (xs acc : List PV) (σ : Sto), Ext σ0 σ →
    (∀ p ∈ xs, ∀ σ', Ext σ0 σ' → ∀ Q' : PV → Sto → Prop, (∀ y σ'', Ext σ' σ'' → P p y → Q' y σ'') → te (compR cs ρ x p) σ' Q' nope) →
    (∀ ys σ', Ext σ0 σ' → Paired P xs ys → Q (acc ++ ys) σ') → compL x cs tTrue te ok ρ xs acc σ Q
  | [], acc, σ, hs, _, hq => by
    have := hq [] σ hs .nil
    rw [List.append_nil] at this
    exact this
  | p :: ps, acc, σ, hs, h, hq => by
    show (if true = true then te (compR cs ρ x p) σ (fun y σ₂ => ok σ₂ ∧ compL x cs tTrue te ok ρ ps (acc ++ [y]) σ₂ Q) nope else ok σ ∧ compL x cs tTrue te ok ρ ps acc σ Q)
    refine ite_t (h p (.head _) σ hs _ fun y σ'' he hy => ⟨hok _ (hs.trans he), ?_⟩)
    refine compL_ext P hok ps (acc ++ [y]) σ'' (hs.trans he) (fun p' hp' => h p' (.tail _ hp')) fun ys σ' hs' hys => ?_
    have := hq (y :: ys) σ' hs' (.cons hy hys)
    rwa [List.append_assoc]

/-! the day -/
structure Dt where
  d : Int
  c : Int
  am : Int
  rest : Int
noncomputable abbrev dt (x y z : Int) : Dt := ⟨x, y, z, z⟩
noncomputable def cameP (t : Dt) : PV := .tup [.int t.d, .int t.c, .int t.am]
noncomputable def stillP (t : Dt) : PV := .int t.rest
noncomputable abbrev flds (c : Int) (ca st : Addr) : List (Str × PV) := [("houses", .int c), ("came", .ref ca), ("still", .ref st)]
structure DayAt (σ : Sto) (a ca st : Addr) (c : Int) (L : List Dt) : Prop where
  inst : Inst c_Day_10 σ a (flds c ca st)
  came : σ ca = some (.list (L.map cameP))
  still : σ st = some (.list (L.map stillP))
  ne : ca ≠ st
  len : L.length ≤ 100
theorem DayAt.ext {σ σ' : Sto} {a ca st : Addr} {c : Int} {L : List Dt} (D : DayAt σ a ca st c L) (x : Ext σ σ') : DayAt σ' a ca st c L := ⟨D.inst.ext x, x _ _ D.came, x _ _ D.still, D.ne, D.len⟩
theorem Inst.put {C : Addr} {σ : Sto} {a x : Addr} {fs : List (Str × PV)} {xs ys : List PV} (i : Inst C σ a fs) (h : σ x = some (.list xs)) : Inst C (upd σ x (.list ys)) a fs := by
  obtain ⟨d, od, h1, h2, h3⟩ := i
  refine ⟨d, od, upd_other ?_ h1, upd_other ?_ h2, h3⟩
  · rintro rfl; rw [h] at h1; cases h1
  · rintro rfl; rw [h] at h2; cases h2
theorem fl_h {c : Int} {ca st : Addr} : (flds c ca st).lookup ("houses" : Str) = some (.int c) := by kernel_rfl
theorem fl_c {c : Int} {ca st : Addr} : (flds c ca st).lookup ("came" : Str) = some (.ref ca) := by kernel_rfl
theorem fl_s {c : Int} {ca st : Addr} : (flds c ca st).lookup ("still" : Str) = some (.ref st) := by kernel_rfl
section
variable {σ : Sto} {Q : PV → Sto → Prop} {X : Addr → Sto → Prop} {a ca st : Addr} {c : Int} {L : List Dt}
theorem p_init {d : Addr} {od : Obj} (h1 : 1 ≤ c) (h2 : c ≤ 20) (ha : σ a = none) (hd : σ d = none) (hne : a ≠ d) (D : DictIs od []) (hq : ∀ σ' ca st, Ext σ σ' → DayAt σ' a ca st c [] → σ ca = none → σ st = none → Q .none σ') :
    T_Day___init__ [.ref a, .int c] (upd (upd σ d (.raw od)) a (.raw (instObj c_Day_10 d))) Q X := by
  unfold T_Day___init__ tb_Day___init__
  refine i_fun2 ?_
  walk_at "ev"
  refine p_need_count told_int (fun i e _ _ => ?_) fun hn => absurd ⟨h1, h2⟩ (hn c rfl)
  walk_at "ev"
  refine ⟨a, d, od, [], rfl, .inl ⟨_, rfl⟩, upd_same, upd_other (Ne.symm hne) upd_same, D, rfl, by decide, fun od1 D1 => ?_⟩
  walk_at "ev"
  intro w hw
  obtain ⟨wd, hw⟩ := upd_none hw
  obtain ⟨wa, hw⟩ := upd_none hw
  obtain ⟨_, hw⟩ := upd_none hw
  walk_at "ev"
  refine ⟨a, d, od1, _, rfl, .inr ⟨_, rfl⟩, upd_other (Ne.symm wa) (upd_other hne upd_same), upd_other (Ne.symm wd) upd_same, D1, by kernel_rfl, Nat.le_of_ble_eq_true rfl, fun od2 D2 => ?_⟩
  walk_at "ev"
  intro v hv
  obtain ⟨_, hv⟩ := upd_none hv
  obtain ⟨vw, hv⟩ := upd_none hv
  obtain ⟨vd, hv⟩ := upd_none hv
  obtain ⟨va, hv⟩ := upd_none hv
  obtain ⟨_, hv⟩ := upd_none hv
  walk_at "ev"
  refine ⟨a, d, od2, _, rfl, .inr ⟨_, rfl⟩, upd_other (Ne.symm va) (upd_other hne (upd_other (Ne.symm wa) (upd_other hne upd_same))), upd_other (Ne.symm vd) upd_same, D2, by kernel_rfl, Nat.le_of_ble_eq_true rfl, fun od3 D3 => ?_⟩
  walk_at "ev"
  refine hq _ w v ?_ ⟨⟨d, od3, ?_, upd_same, D3⟩, ?_, ?_, Ne.symm vw, by decide⟩ hw hv
  · intro b o hb
    have nb : ∀ {z : Addr}, σ z = none → b ≠ z := fun hz e => by rw [e, hz] at hb; cases hb
    exact upd_other (nb hd) (upd_other (nb hv) (upd_other (nb hd) (upd_other (nb hw) (upd_other (nb hd) (upd_other (nb ha) (upd_other (nb hd) hb))))))
  · exact upd_other hne (upd_other (Ne.symm va) (upd_other hne (upd_other (Ne.symm wa) (upd_other hne upd_same))))
  · exact upd_other wd (upd_other (Ne.symm vw) (upd_other wd upd_same))
  · exact upd_other vd upd_same
theorem p_init_bad {σ : Sto} {p : PV} (h : Told σ p) (hb : ∀ i, p = .int i → ¬ (1 ≤ i ∧ i ≤ 20)) (hx : X c_BadCount_10 σ) : T_Day___init__ [.ref a, p] σ Q X := by
  unfold T_Day___init__ tb_Day___init__
  refine i_fun2 ?_
  walk_at "ev"
  refine p_need_count h (fun i e k1 k2 => absurd ⟨k1, k2⟩ (hb i e)) fun _ => ?_
  exact hx
theorem p_owe {p q r : PV} (D : DayAt σ a ca st c L) (hL : L.length < 100) (hp : Told σ p) (hq : Told σ q) (hr : Told σ r)
    (h1 : ∀ x y z : Int, p = .int x → q = .int y → r = .int z → (0 ≤ x ∧ x < c) → (0 ≤ y ∧ y < c) → x ≠ y → (1 ≤ z ∧ z ≤ 1000000000) → DayAt (upd (upd σ ca (.list ((L ++ [dt x y z]).map cameP))) st (.list ((L ++ [dt x y z]).map stillP))) a ca st c (L ++ [dt x y z]) →
      Q (.int L.length) (upd (upd σ ca (.list ((L ++ [dt x y z]).map cameP))) st (.list ((L ++ [dt x y z]).map stillP)))) (h2 : ¬ IsDebt c p q r → X c_BadDebt_10 σ) : T_Day_owe [.ref a, p, q, r] σ Q X := by
  unfold T_Day_owe tb_Day_owe
  refine i_fun4 ?_
  walk_at "ev"
  refine ⟨_, _, _, rfl, D.inst, fl_h, ?_⟩
  walk_at "ev"
  refine p_need_debt hp hq hr (fun hd => ?_) fun hn => ?_
  · obtain ⟨x, y, z, rfl, rfl, rfl, b1, b2, b3, b4⟩ := hd
    have e1 : (L.map cameP) ++ [PV.tup [.int x, .int y, .int z]] = (L ++ [dt x y z]).map cameP := by rw [List.map_append]; rfl
    have e2 : (L.map stillP) ++ [PV.int z] = (L ++ [dt x y z]).map stillP := by rw [List.map_append]; rfl
    walk_at "ev"
    refine ⟨_, _, _, rfl, D.inst, fl_c, ?_⟩
    refine ⟨⟨_, D.came⟩, ?_⟩
    walk_at "ev"
    refine i_append D.came (by rw [List.length_map]; omega) ?_
    rw [e1]
    walk_at "ev"
    refine ⟨_, _, _, rfl, (D.inst.put D.came), fl_s, ?_⟩
    have hst := upd_other (o := .list ((L ++ [dt x y z]).map cameP)) (Ne.symm D.ne) D.still
    refine ⟨⟨_, hst⟩, ?_⟩
    walk_at "ev"
    refine i_append hst (by rw [List.length_map]; omega) ?_
    rw [e2]
    have D' : DayAt (upd (upd σ ca (.list ((L ++ [dt x y z]).map cameP))) st (.list ((L ++ [dt x y z]).map stillP))) a ca st c (L ++ [dt x y z]) := ⟨(D.inst.put D.came).put hst, upd_other D.ne upd_same, upd_same, D.ne, by rw [List.length_append]; exact hL⟩
    walk_at "ev"
    refine ⟨_, _, _, rfl, D'.inst, fl_c, ?_⟩
    walk_at "ev"
    refine i_lenm D'.came (by rw [List.length_append]; show L.length + 1 ≤ 1000; omega) ?_
    walk_at "ev"
    rw [List.length_append, show ((L.length + [dt x y z].length : Nat) : Int) - 1 = L.length by simp]
    exact h1 x y z rfl rfl rfl b1 b2 b3 b4 D'
  · exact h2 hn
theorem p_need_number {p : PV} (D : DayAt σ a ca st c L) (hp : Told σ p) (h1 : ∀ i, p = .int i → 0 ≤ i → i < L.length → Q .none σ) (h2 : (∀ i, p = .int i → ¬ (0 ≤ i ∧ i < L.length)) → X c_NoDebt_10 σ) : T_Day_need_number [.ref a, p] σ Q X := by
  unfold T_Day_need_number tb_Day_need_number
  refine i_fun2 ?_
  walk_at "ev"
  refine p_is_number' hp (fun i e => ?_) fun hn => ?_
  · subst e
    walk_at "ev"
    refine ite_d (fun y => ?_) fun y => ?_
    · walk_at "ev"
      refine ⟨_, _, _, rfl, D.inst, fl_c, ?_⟩
      walk_at "ev"
      refine i_lenm D.came (by have := D.len; omega) ?_
      walk_at "ev"
      refine ite_nd (fun z => ?_) fun z => ?_
      · walk_at "ev"
        exact h2 fun j e => by cases e; exact fun w => z w.2
      · walk_at "ev"
        exact h1 i rfl y z
    · walk_at "ev"
      exact h2 fun j e => by cases e; exact fun w => y w.1
  · walk_at "ev"
    exact h2 fun i e => absurd e (hn i)
theorem noM {ca st : Addr} {c : Int} : (flds c ca st).lookup ("need_number" : Str) = none ∧ (flds c ca st).lookup ("standing" : Str) = none ∧ (flds c ca st).lookup ("owe" : Str) = none ∧ (flds c ca st).lookup ("pay" : Str) = none ∧ (flds c ca st).lookup ("rest" : Str) = none ∧ (flds c ca st).lookup ("balance" : Str) = none := by
  refine ⟨?_, ?_, ?_, ?_, ?_, ?_⟩ <;> kernel_rfl
noncomputable def rst (L : List Dt) (k : Nat) : Int := (L.map Dt.rest).getD k 0
theorem D_still (D : DayAt σ a ca st c L) : σ st = some (.list ((L.map Dt.rest).map .int)) := by rw [D.still, List.map_map]; rfl
theorem p_rest {p : PV} (D : DayAt σ a ca st c L) (hp : Told σ p) (h1 : ∀ i, p = .int i → 0 ≤ i → i < L.length → Q (.int (rst L i.toNat)) σ) (h2 : (∀ i, p = .int i → ¬ (0 ≤ i ∧ i < L.length)) → X c_NoDebt_10 σ) : T_Day_rest [.ref a, p] σ Q X := by
  unfold T_Day_rest tb_Day_rest
  refine i_fun2 ?_
  walk_at "ev"
  refine ⟨⟨a, _, rfl, D.inst, noM.1⟩, ?_⟩
  walk_at "ev"
  refine p_need_number D hp (fun i e y z => ?_) h2
  subst e
  walk_at "ev"
  refine ⟨_, _, _, rfl, D.inst, fl_s, ?_⟩
  walk_at "ev"
  refine i_num (D_still D) y (by rw [List.length_map]; exact z) (by rw [List.length_map]; have := D.len; omega) ?_
  exact h1 i rfl y z
theorem p_pay {p q : PV} (D : DayAt σ a ca st c L) (hp : Told σ p) (hq : Told σ q)
    (h1 : ∀ i m : Int, p = .int i → q = .int m → 0 ≤ i → i < L.length → 1 ≤ m → m ≤ rst L i.toNat → Q (.int (rst L i.toNat - m)) (upd σ st (.list (((L.map Dt.rest).set i.toNat (rst L i.toNat - m)).map .int))))
    (h2 : (∀ i, p = .int i → ¬ (0 ≤ i ∧ i < L.length)) → X c_NoDebt_10 σ)
    (h3 : ∀ i : Int, p = .int i → 0 ≤ i → i < L.length → (∀ m, q = .int m → ¬ (1 ≤ m ∧ m ≤ rst L i.toNat)) → X c_BadAmount_10 σ) : T_Day_pay [.ref a, p, q] σ Q X := by
  unfold T_Day_pay tb_Day_pay
  refine i_fun3 ?_
  walk_at "ev"
  refine ⟨⟨a, _, rfl, D.inst, noM.1⟩, ?_⟩
  walk_at "ev"
  refine p_need_number D hp (fun i e y z => ?_) h2
  subst e
  have hz : i < ((L.map Dt.rest).length : Nat) := by rw [List.length_map]; exact z
  have hl : (L.map Dt.rest).length ≤ 1000 := by rw [List.length_map]; have := D.len; omega
  walk_at "ev"
  refine p_is_number' hq (fun m e => ?_) fun hn => ?_
  · subst e
    walk_at "ev"
    refine ite_d (fun y1 => ?_) fun y1 => ?_
    · walk_at "ev"
      refine ⟨_, _, _, rfl, D.inst, fl_s, ?_⟩
      walk_at "ev"
      refine i_num (D_still D) y hz hl ?_
      walk_at "ev"
      refine ite_nd (fun y2 => ?_) fun y2 => ?_
      · walk_at "ev"
        exact h3 i rfl y z fun j e => by cases e; exact fun w => y2 w.2
      · walk_at "ev"
        refine ⟨_, _, _, rfl, D.inst, fl_s, ?_⟩
        walk_at "ev"
        refine i_num (D_still D) y hz hl ?_
        walk_at "ev"
        refine ⟨_, _, _, rfl, D.inst, fl_s, ?_⟩
        walk_at "ev"
        refine i_setP y (D_still D) (by rw [List.length_map]; exact hz) (by rw [List.length_map]; omega) ?_
        rw [← List.map_set]
        walk_at "ev"
        refine ⟨_, _, _, rfl, (D.inst.put (D_still D)), fl_s, ?_⟩
        walk_at "ev"
        refine i_num upd_same y (by rw [List.length_set]; exact hz) (by rw [List.length_set]; exact hl) ?_
        have e3 : ((L.map Dt.rest).set i.toNat ((L.map Dt.rest).getD i.toNat 0 - m)).getD i.toNat 0 = (L.map Dt.rest).getD i.toNat 0 - m := by
          have : i.toNat < (L.map Dt.rest).length := by omega
          simp only [List.getD, List.getElem?_set_self this, Option.getD_some]
        rw [e3]
        exact h1 i m rfl rfl y z y1 y2
    · walk_at "ev"
      exact h3 i rfl y z fun j e => by cases e; exact fun w => y1 w.1
  · walk_at "ev"
    exact h3 i rfl y z fun j e => absurd e (hn j)
end

/-! what stands -/
noncomputable abbrev zt : Dt := ⟨0, 0, 0, 0⟩
noncomputable abbrev gt (L : List Dt) (k : Nat) : Dt := L.getD k zt
noncomputable def stF (L : List Dt) (k : Nat) : Option PV := if (gt L k).rest > 0 then some (.tup [.int (k : Nat), .int (gt L k).d, .int (gt L k).c, .int (gt L k).rest]) else none
noncomputable def stand (L : List Dt) : List PV := (List.range L.length).filterMap (stF L)
theorem rst_gt {L : List Dt} {k : Nat} (hk : k < L.length) : rst L k = (gt L k).rest := by
  unfold rst gt
  simp [List.getD, hk]
theorem gt_get {L : List Dt} {k : Nat} (hk : k < L.length) : L[k]? = some (gt L k) := by
  unfold gt
  simp [List.getD, hk]
theorem stF_yes {L : List Dt} {k : Nat} (h : (gt L k).rest > 0) {js : List Nat} : (js ++ [k]).filterMap (stF L) = js.filterMap (stF L) ++ [.tup [.int (k : Nat), .int (gt L k).d, .int (gt L k).c, .int (gt L k).rest]] := by
  have e : stF L k = some (.tup [.int (k : Nat), .int (gt L k).d, .int (gt L k).c, .int (gt L k).rest]) := if_pos h
  rw [List.filterMap_append, List.filterMap_cons, e]
  rfl
theorem stF_no {L : List Dt} {k : Nat} (h : ¬ (gt L k).rest > 0) {js : List Nat} : (js ++ [k]).filterMap (stF L) = js.filterMap (stF L) := by
  have e : stF L k = none := if_neg h
  rw [List.filterMap_append, List.filterMap_cons, e]
  exact List.append_nil _
theorem fmap_len {α β : Type} {f : α → Option β} : ∀ (l : List α), (l.filterMap f).length ≤ l.length := fun l => List.length_filterMap_le f l
section
variable {σ : Sto} {Q : PV → Sto → Prop} {X : Addr → Sto → Prop} {a ca st : Addr} {c : Int} {L : List Dt}
theorem i_still {k : Nat} {kk : PV → Prop} (D : DayAt σ a ca st c L) (hk : k < L.length) (h : kk (.int (gt L k).rest)) : getP σ (.ref st) (.int (k : Nat)) kk := by
  refine i_numk (D_still D) (by rw [List.length_map]; exact hk) (by rw [List.length_map]; have := D.len; omega) ?_
  rw [← rst_gt hk] at h
  exact h
theorem i_came {k : Nat} {kk : PV → Prop} (D : DayAt σ a ca st c L) (hk : k < L.length) (h : kk (cameP (gt L k))) : getP σ (.ref ca) (.int (k : Nat)) kk := by
  refine i_getk D.came (by have := D.len; omega) ?_ h
  rw [List.getElem?_map, gt_get hk]
  rfl
inductive StI (L : List Dt) (a w : Addr) (σ : Sto) (ps : List PV) (ρ : Env') (σ' : Sto) : Prop
  | mk (ds js : List Nat) : ρ "self" = some (.ref a) → ρ "found" = some (.ref w) → ps = rg js → ds ++ js = List.range L.length → σ' = upd σ w (.list (ds.filterMap (stF L))) → StI L a w σ ps ρ σ'
theorem p_standing (D : DayAt σ a ca st c L) (hq : ∀ w, σ w = none → Q (.ref w) (upd σ w (.list (stand L)))) : T_Day_standing [.ref a] σ Q X := by
  unfold T_Day_standing tb_Day_standing
  refine i_fun1 ?_
  walk_at "ev"
  intro w hw
  walk_at "ev"
  have D0 := D.ext (σ' := upd σ w (.list [])) (Ext.upd hw)
  refine ⟨_, _, _, rfl, D0.inst, fl_c, ?_⟩
  walk_at "ev"
  refine i_lenm D0.came (by have := D.len; omega) ?_
  walk_at "ev"
  refine i_rng (by have := D.len; omega) ?_
  refine forL_step (StI L a w σ) (fun _ _ _ => False) ?_ ?_ (fun _ _ _ h => h.elim) _ _ _ ?_
  · rintro p ps ρ' σ' Qb ⟨ds, js, f1, f2, f3, f4, rfl⟩ hnx _
    cases js with
    | nil => exact (rg_nil f3).elim
    | cons k js =>
      obtain ⟨rfl, rfl⟩ := rg_cons f3
      have hk : k < L.length := by
        have : k ∈ List.range L.length := by rw [← f4]; simp
        exact List.mem_range.mp this
      have hdl : ds.length ≤ 100 := by
        have := congrArg List.length f4
        rw [List.length_append, List.length_range] at this
        have := D.len; omega
      have D1 := D.ext (σ' := upd σ w (.list (ds.filterMap (stF L)))) (Ext.upd hw)
      have nx : ∀ ρ2 zs, ρ2 "self" = some (.ref a) → ρ2 "found" = some (.ref w) → zs = (ds ++ [k]).filterMap (stF L) → Qb .next ρ2 (upd σ w (.list zs)) := fun ρ2 zs g1 g2 g3 => hnx _ _ rg_items ⟨ds ++ [k], js, g1, g2, rfl, by rw [List.append_assoc]; exact f4, by rw [g3]⟩
      walk_at "ev"
      refine ⟨_, _, _, rfl, D1.inst, fl_s, ?_⟩
      walk_at "ev"
      refine i_still D1 hk ?_
      walk_at "ev"
      refine ite_d (fun y => ?_) fun y => ?_
      · walk_at "ev"
        refine ⟨⟨_, upd_same⟩, ?_⟩
        walk_at "ev"
        refine ⟨_, _, _, rfl, D1.inst, fl_c, ?_⟩
        walk_at "ev"
        refine i_came D1 hk ?_
        unfold cameP
        walk_at "ev"
        refine ⟨_, _, _, rfl, D1.inst, fl_c, ?_⟩
        walk_at "ev"
        refine i_came D1 hk ?_
        unfold cameP
        walk_at "ev"
        refine ⟨_, _, _, rfl, D1.inst, fl_s, ?_⟩
        walk_at "ev"
        refine i_still D1 hk ?_
        walk_at "ev"
        refine i_append upd_same (Nat.le_trans (fmap_len ds) (by omega)) ?_
        rw [upd_upd]
        walk_at "ev"
        exact nx _ _ (by walk_at "nm") (by walk_at "nm") (stF_yes y).symm
      · walk_at "ev"
        exact nx _ _ (by walk_at "nm") (by walk_at "nm") (stF_no y).symm
  · rintro ρ' σ' ⟨ds, js, f1, f2, f3, f4, rfl⟩
    have : js = [] := by cases js with | nil => rfl | cons k js => cases f3
    subst this
    rw [List.append_nil] at f4
    subst f4
    walk_at "ev"
    exact hq w hw
  · exact ⟨[], _, by walk_at "nm", by walk_at "nm", rfl, rfl, rfl⟩
noncomputable def tlF (t : Dt) : Option (Int × Int × Int) := if t.rest > 0 then some (t.d, t.c, t.rest) else none
noncomputable def tails (L : List Dt) : List (Int × Int × Int) := L.filterMap tlF
theorem range_map {α : Type} {L : List α} {z : α} : (List.range L.length).map (fun k => L.getD k z) = L := by
  apply List.ext_getElem?
  intro i
  rw [List.getElem?_map]
  by_cases h : i < L.length
  · rw [List.getElem?_range h, Option.map_some, List.getElem?_eq_getElem h, List.getD, List.getElem?_eq_getElem h]; rfl
  · rw [List.getElem?_eq_none (by rw [List.length_range]; omega), List.getElem?_eq_none (by omega)]; rfl
noncomputable def dropP : PV → PV
  | .tup ps => .tup (ps.drop 1)
  | p => p
theorem stand_tails : (stand L).map dropP = (tails L).map enc := by
  unfold stand tails
  conv => rhs; rw [← range_map (L := L) (z := zt)]
  rw [List.filterMap_map, List.map_filterMap, List.map_filterMap]
  congr 1
  funext k
  show (stF L k).map dropP = (tlF (gt L k)).map enc
  unfold stF tlF
  split <;> rfl
theorem stand_tup {p : PV} (h : p ∈ stand L) : ∃ a b c d : Int, p = .tup [.int a, .int b, .int c, .int d] := by
  obtain ⟨k, _, e⟩ := List.mem_filterMap.mp h
  unfold stF at e
  split at e
  · cases e; exact ⟨_, _, _, _, rfl⟩
  · cases e
/-- all between houses, nothing below nought -/
noncomputable def GoodT (n : Nat) (L : List Dt) : Prop := ∀ t ∈ L, (0 ≤ t.d ∧ t.d < n) ∧ (0 ≤ t.c ∧ t.c < n) ∧ 0 ≤ t.rest
theorem tails_in {n : Nat} (G : GoodT n L) : Inside n (tails L) := fun t ht => by
  obtain ⟨u, hu, e⟩ := List.mem_filterMap.mp ht
  unfold tlF at e
  split at e
  · cases e; exact ⟨(G u hu).1, (G u hu).2.1⟩
  · cases e
theorem bals_len {n : Nat} {P : List (Int × Int × Int)} : (bals n P).length = n := by
  have : ∀ (P : List (Int × Int × Int)) (b : List Int), (P.foldl balStep b).length = b.length := by
    intro P
    induction P with
    | nil => intro b; rfl
    | cons t P ih => intro b; rw [List.foldl_cons, ih, balStep_len]
  unfold bals
  rw [this]
  simp [zeros]
theorem p_balance {n : Nat} {p : PV} (D : DayAt σ a ca st (n : Int) L) (hn : n ≤ 1000) (G : GoodT n L) (hp : Told σ p) (h1 : ∀ i, p = .int i → 0 ≤ i → i < n → ∀ σ', Ext σ σ' → Q (.int ((bals n (tails L)).getD i.toNat 0)) σ')
    (h2 : (∀ i, p = .int i → ¬ (0 ≤ i ∧ i < n)) → X c_NoHouse_10 σ) : T_Day_balance [.ref a, p] σ Q X := by
  unfold T_Day_balance tb_Day_balance
  refine i_fun2 ?_
  walk_at "ev"
  refine ⟨_, _, _, rfl, D.inst, fl_h, ?_⟩
  walk_at "ev"
  refine p_house hp (fun i e y z => ?_) fun hn => ?_
  · subst e
    walk_at "ev"
    refine ⟨_, _, _, rfl, D.inst, fl_h, ?_⟩
    walk_at "ev"
    refine ⟨⟨a, _, rfl, D.inst, noM.2.1⟩, ?_⟩
    walk_at "ev"
    refine p_standing D fun w hw => ?_
    have hsl : (stand L).length ≤ 100 := Nat.le_trans (fmap_len _) (by rw [List.length_range]; exact D.len)
    refine ⟨stand L, items_ref upd_same, trivial, Nat.le_trans hsl (by decide), ?_⟩
    refine compL_filt (fun _ => true) dropP (items_ref upd_same) _ [] (fun _ _ _ h => h) (fun q hq' _ Q' hQ => ?_) ?_
    · obtain ⟨x1, x2, x3, x4, rfl⟩ := stand_tup hq'
      walk_at "ev"
      exact ⟨1, rfl, _, 1, rfl, rfl, Nat.le_refl _, Nat.le_of_ble_eq_true rfl, show 4 ≤ sizeLine by decide, hQ⟩
    rw [List.filter_eq_self.mpr (fun _ _ => rfl), stand_tails, List.nil_append]
    intro v hv
    walk_at "ev"
    refine p_balances hn upd_same (tails_in G) fun b hb => ?_
    walk_at "ev"
    refine i_num upd_same y (by rw [bals_len]; exact z) (by rw [bals_len]; exact hn) ?_
    exact h1 i rfl y z _ ((Ext.upd hw).trans ((Ext.upd hv).trans (Ext.upd hb)))
  · walk_at "ev"
    exact h2 hn
end

theorem i_eqd {σ : Sto} {a b : Addr} {d : PyData} {k : Bool → Prop} (h1 : DataOf σ (.ref a) d) (h2 : DataOf σ (.ref b) d) (c : d.canLay0 = true) (hd : d.depth ≤ 64) (h : k true) : cmpP .Eq σ (.ref a) (.ref b) k := by
  have s : SeqAt.shaped d = true := by
    unfold SeqAt.shaped
    rw [c, decide_eq_true hd]; rfl
  exact .inr (.inr ⟨_, _, h1, h2, s, s, by rw [SeqAt.eqv_refl _ c]; exact h⟩)
theorem ints_flat {σ : Sto} {ts : List Int} : ∀ x ∈ ts.map PV.int, Flat 3 σ x := fun x hx => by
  obtain ⟨z, _, rfl⟩ := List.mem_map.mp hx
  exact flat_int
theorem i_neql {σ : Sto} {a b : Addr} {xs : List PV} {k : Bool → Prop} (h1 : σ a = some (.list xs)) (h2 : σ b = some (.list xs)) (h3 : ∀ x ∈ xs, Flat 3 σ x) (h : k false) : cmpP .NotEq σ (.ref a) (.ref b) k := by
  obtain ⟨ds, q1, q2, q3⟩ := flats h3
  exact i_eqd (k := fun r => k (!r)) (d := .list ds) (.list h1 q1) (.list h2 q1) (by simpa [PyData.canLay0] using q2) (by simp [PyData.depth]; omega) h

/-! the law's rows -/
structure RowsAt (σ : Sto) (r : Addr) (rs : List Addr) (L : List Dt) : Prop where
  rows : σ r = some (.list (rs.map .ref))
  len : rs.length = L.length
  row : ∀ k x, rs[k]? = some x → σ x = some (.list [.int (gt L k).d, .int (gt L k).c, .int (gt L k).rest])
theorem RowsAt.ext {σ σ' : Sto} {r : Addr} {rs : List Addr} {L : List Dt} (R : RowsAt σ r rs L) (x : Ext σ σ') : RowsAt σ' r rs L := ⟨x _ _ R.rows, R.len, fun k y e => x _ _ (R.row k y e)⟩
theorem filt_true {α : Type} {l : List α} : l.filter (fun _ => true) = l := List.filter_eq_self.mpr fun _ _ => rfl
theorem c_whole {x f : Str} {p : PV} {zs : List Int} {ρ : Env'} {σ : Sto} {Q : PV → Sto → Prop} {X : Addr → Sto → Prop} (e : ρ f = some p) (hi : itemsOf σ p = some (zs.map .int)) (ho : iterOk p) (hl : zs.length ≤ 1000) (hq : ∀ σ', Ext σ σ' → Q (.bool true) σ') :
    tCall (tEcons (tComp x [] (tName f) tTrue (tCall (tEcons (tName x) tEnil) T_law_whole)) tEnil) allF ρ σ Q X := by
  refine i_call (i_econs (i_comp (i_name e ⟨_, hi, ho, by rw [List.length_map]; exact Nat.le_trans hl (by decide), ?_⟩)))
  refine compL_filt (fun _ => true) (fun _ => .bool true) hi _ [] (fun _ _ _ h => h) (fun q hq' _ Q' hQ => ?_) ?_
  · obtain ⟨i, _, rfl⟩ := List.mem_map.mp hq'
    exact i_call (i_econs (i_name compR_same (i_enil (p_whole hQ))))
  · intro w hw
    refine i_enil (i_all (bs := zs.map fun _ => true) ?_ ?_)
    · rw [upd_same, filt_true, List.nil_append, List.map_map, List.map_map]; rfl
    · rw [show (zs.map fun _ => true).all id = true by simp]
      exact hq _ (Ext.upd hw)
noncomputable def restP (L : List Dt) : PV → PV
  | .int k => .int (gt L k.toNat).rest
  | _ => .none
theorem rest_list {L : List Dt} : (rg (List.range L.length)).map (restP L) = (L.map Dt.rest).map .int := by
  conv => rhs; rw [← range_map (L := L) (z := zt)]
  unfold rg
  rw [List.map_map, List.map_map, List.map_map]
  refine List.map_congr_left fun k _ => ?_
  show PV.int (gt L (0 + (k : Int)).toNat).rest = PV.int (gt L k).rest
  rw [Int.zero_add, Int.toNat_natCast]
theorem rg_mem {n : Nat} {p : PV} (h : p ∈ rg (List.range n)) : ∃ k : Nat, k < n ∧ p = .int (k : Nat) := by
  obtain ⟨k, hk, rfl⟩ := List.mem_map.mp h
  exact ⟨k, List.mem_range.mp hk, by rw [Int.zero_add]⟩
/-- the third of a row -/
noncomputable def thirdP (σ : Sto) : PV → PV
  | .ref x => match σ x with
    | some (.list [_, _, z]) => z
    | _ => .none
  | _ => .none
theorem third_at {σ : Sto} {x : Addr} {p q z : PV} (h : σ x = some (.list [p, q, z])) : thirdP σ (.ref x) = z := by
  unfold thirdP
  dsimp only
  rw [h]
theorem third_list {σ : Sto} {r : Addr} {rs : List Addr} {L : List Dt} (R : RowsAt σ r rs L) : (rs.map PV.ref).map (thirdP σ) = (L.map Dt.rest).map .int := by
  apply List.ext_getElem?
  intro k
  rw [List.getElem?_map, List.getElem?_map, List.getElem?_map, List.getElem?_map]
  cases e : rs[k]? with
  | none =>
    have : L[k]? = none := by rw [List.getElem?_eq_none_iff] at e ⊢; rw [← R.len]; exact e
    rw [this]; rfl
  | some x =>
    have hk : k < L.length := by rw [← R.len]; exact (List.getElem?_eq_some_iff.mp e).1
    rw [gt_get hk]
    show some (thirdP σ (.ref x)) = some (PV.int (gt L k).rest)
    rw [third_at (R.row k x e)]
section
variable {n : Nat} {L : List Dt} {a ca st r : Addr} {rs : List Addr} {ρ : Env'} {σ : Sto} {QS : Fl → Env' → Sto → Prop} {XS : Addr → Env' → Sto → Prop}
theorem told0 (D : DayAt σ a ca st (n : Int) L) (R : RowsAt σ r rs L) (e1 : ρ "_law_day" = some (.ref a)) (e2 : ρ "_law_rows" = some (.ref r)) (hq : ∀ ρ' σ', Ext σ σ' → QS (.ret (.bool true)) ρ' σ') : tb_law_told_18 ρ σ QS XS := by
  have hl := D.len
  refine i_seq (i_set ?_)
  walk_at "ex"
  refine i_lenm R.rows (by rw [R.len]; omega) ?_
  walk_at "ex"
  refine ⟨_, rg_items, ⟨by decide, by decide, by rw [R.len]; omega, by rw [R.len]; omega⟩, by rw [rg, List.length_map, List.length_range, R.len]; exact Nat.le_trans hl (by decide), ?_⟩
  refine compL_filt (fun _ => true) (restP L) rg_items _ [] (fun _ _ _ h => h) (fun q hq' _ Q' hQ => ?_) ?_
  · obtain ⟨k, hk, rfl⟩ := rg_mem hq'
    rw [R.len] at hk
    walk_at "ex"
    refine ⟨⟨a, _, rfl, D.inst, noM.2.2.2.2.1⟩, ?_⟩
    walk_at "ex"
    refine p_rest D told_int (fun i e y z => ?_) fun hn => absurd ⟨Int.natCast_nonneg _, Int.ofNat_lt.mpr hk⟩ (hn _ rfl)
    cases e
    have : rst L (k : Int).toNat = (gt L k).rest := by rw [Int.toNat_natCast]; exact rst_gt hk
    rw [this]
    exact hQ
  · rw [filt_true, List.nil_append, R.len, rest_list]
    intro w hw
    generalize hσ : upd σ w _ = σ1
    obtain ⟨x1, u⟩ := al hσ hw
    refine i_seq (i_ret ?_)
    walk_at "ex"
    have R1 := R.ext x1
    refine ⟨_, items_ref R1.rows, trivial, by rw [List.length_map, R.len]; exact Nat.le_trans hl (by decide), ?_⟩
    refine compL_filt (fun _ => true) (thirdP σ1) (items_ref R1.rows) _ [] (fun _ _ _ h => h) (fun q hq' _ Q' hQ => ?_) ?_
    · obtain ⟨x, hx, rfl⟩ := List.mem_map.mp hq'
      obtain ⟨k, hk⟩ := List.mem_iff_getElem?.mp hx
      have hr := R1.row k x hk
      walk_at "ex"
      refine i_get (by decide) (by decide) (items_ref hr) trivial rfl ?_
      rw [third_at hr] at hQ
      exact hQ
    · rw [filt_true, List.nil_append, third_list R1]
      intro v hv
      refine i_eql (upd_other (by rintro rfl; rw [hv] at u; cases u) u) upd_same (fun x hx => (ints_flat x hx).mono (by decide)) ?_
      dsimp only
      generalize hσ2 : upd σ1 v _ = σ2
      obtain ⟨x2, _⟩ := al hσ2 hv
      refine c_whole (by walk_at "nm") (items_ref (x2 _ _ u)) trivial (by rw [List.length_map]; omega) fun σ' x3 => ?_
      exact hq _ _ (x1.trans (x2.trans x3))
end

/-! the sums by the rows -/
noncomputable def row3 (t : Dt) : Int × Int × Int := (t.d, t.c, t.rest)
theorem set_self {b : List Int} {i : Nat} : b.set i (b.getD i 0) = b := by
  apply List.ext_getElem?
  intro j
  rw [List.getElem?_set]
  split
  · rename_i h
    subst h
    split
    · rename_i h
      rw [List.getD, List.getElem?_eq_getElem h]; rfl
    · rename_i h
      rw [List.getElem?_eq_none (by omega)]
  · rfl
theorem balStep_zero {b : List Int} {x y : Int} : balStep b (x, y, 0) = b := by
  unfold balStep
  dsimp only
  rw [Int.sub_zero, set_self, Int.add_zero, set_self]
theorem bals_tails {n : Nat} {L : List Dt} (G : GoodT n L) : bals n (tails L) = bals n (L.map row3) := by
  unfold bals tails
  generalize zeros n = b
  induction L generalizing b with
  | nil => rfl
  | cons t L ih =>
    have G' : GoodT n L := fun u hu => G u (.tail _ hu)
    rw [List.map_cons, List.foldl_cons, ← ih G']
    by_cases h : t.rest > 0
    · have : tlF t = some (row3 t) := if_pos h
      rw [List.filterMap_cons, this]; rfl
    · have : tlF t = none := if_neg h
      have h0 : t.rest = 0 := by have := (G t (.head _)).2.2; omega
      rw [List.filterMap_cons, this]
      show _ = List.foldl balStep (balStep b (t.d, t.c, t.rest)) _
      rw [h0, balStep_zero]
theorem rows_in {n : Nat} {L : List Dt} (G : GoodT n L) : Inside n (L.map row3) := fun t ht => by
  obtain ⟨u, hu, rfl⟩ := List.mem_map.mp ht
  exact ⟨(G u hu).1, (G u hu).2.1⟩
/-- a row in the store -/
noncomputable def IsRow (σ : Sto) (p : PV) (t : Int × Int × Int) : Prop := ∃ x, p = .ref x ∧ σ x = some (.list [.int t.1, .int t.2.1, .int t.2.2])
inductive RowsL (σ : Sto) : List PV → List (Int × Int × Int) → Prop
  | nil : RowsL σ [] []
  | cons {p : PV} {t : Int × Int × Int} {ps : List PV} {T : List (Int × Int × Int)} : IsRow σ p t → RowsL σ ps T → RowsL σ (p :: ps) (t :: T)
theorem rowsL_of {σ : Sto} : ∀ {rs : List Addr} {L : List Dt}, rs.length = L.length → (∀ k x, rs[k]? = some x → σ x = some (.list [.int (gt L k).d, .int (gt L k).c, .int (gt L k).rest])) → RowsL σ (rs.map .ref) (L.map row3)
  | [], [], _, _ => .nil
  | [], _ :: _, h, _ => by cases h
  | _ :: _, [], h, _ => by cases h
  | x :: rs, t :: L, h, hr => .cons ⟨x, rfl, hr 0 x rfl⟩ (rowsL_of (Nat.succ.inj h) fun k y e => hr (k + 1) y e)
inductive BalR (n : Nat) (a : Addr) (P : List (Int × Int × Int)) (σ : Sto) (ρ0 : Env') (ps : List PV) (ρ : Env') (σ' : Sto) : Prop
  | mk (b : List Int) (R : List (Int × Int × Int)) : ρ "_law_sums" = some (.ref a) → ρ "_law_day" = ρ0 "_law_day" → ρ "_law_count" = ρ0 "_law_count" → RowsL σ ps R → b.length = n → R.foldl balStep b = bals n P → Inside n R → σ' = upd σ a (.list (b.map .int)) → BalR n a P σ ρ0 ps ρ σ'
section
variable {n : Nat} {L : List Dt} {a ca st r : Addr} {rs : List Addr} {ρ : Env'} {σ : Sto} {QS : Fl → Env' → Sto → Prop} {XS : Addr → Env' → Sto → Prop}
theorem p_balR {P : List (Int × Int × Int)} {ps : List PV} {b : Addr} (hn : n ≤ 1000) (hr : σ r = some (.list ps)) (hR : RowsL σ ps P) (hP : Inside n P) (hb : σ b = none)
    (e1 : ρ "_law_sums" = some (.ref b)) (hq : ∀ ρ', ρ' "_law_sums" = some (.ref b) → ρ' "_law_day" = ρ "_law_day" → ρ' "_law_count" = ρ "_law_count" → QS .next ρ' (upd σ b (.list ((bals n P).map .int)))) :
    forL "_law_row" tb_law_told_4 (fun σ' => itemsOf σ' (.ref r) = some ps) ps ρ (upd σ b (.list ((zeros n).map .int))) QS XS := by
  have old : ∀ {y : Addr} {o : AO} {o' : AO}, σ y = some o → upd σ b o' y = some o := fun {y o o'} h => upd_other (by rintro rfl; rw [hb] at h; cases h) h
  refine forL_step (BalR n b P σ ρ) (fun _ _ _ => False) ?_ ?_ (fun _ _ _ h => h.elim) _ _ _ ?_
  · rintro p ps' ρ' σ' Qb ⟨bb, R, f1, f2, f3, f4, f5, f6, f7, rfl⟩ hnx _
    cases f4 with
    | cons hrow f4 =>
      rename_i u R
      obtain ⟨x, rfl, hx⟩ := hrow
      obtain ⟨h1, h2⟩ := f7 u (.head _)
      subst f5
      have hl2 : (bb.set u.1.toNat (bb.getD u.1.toNat 0 - u.2.2)).length = bb.length := List.length_set
      have g0 : ∀ {o : AO} {kk : PV → Prop}, kk (.int u.1) → getP (upd σ b o) (.ref x) (.int 0) kk := fun h => i_get (by decide) (by decide) (items_ref (old hx)) trivial rfl h
      have g1 : ∀ {o : AO} {kk : PV → Prop}, kk (.int u.2.1) → getP (upd σ b o) (.ref x) (.int 1) kk := fun h => i_get (by decide) (by decide) (items_ref (old hx)) trivial rfl h
      have g2 : ∀ {o : AO} {kk : PV → Prop}, kk (.int u.2.2) → getP (upd σ b o) (.ref x) (.int 2) kk := fun h => i_get (by decide) (by decide) (items_ref (old hx)) trivial rfl h
      walk_at "ev"
      refine g0 ?_
      refine i_numt upd_same h1 hn ?_
      walk_at "ev"
      refine g2 ?_
      walk_at "ev"
      refine g0 ?_
      refine i_put upd_same h1 hn ?_
      rw [upd_upd]
      walk_at "ev"
      refine g1 ?_
      refine i_numt upd_same (by rw [hl2]; exact h2) (by rw [hl2]; exact hn) ?_
      walk_at "ev"
      refine g2 ?_
      walk_at "ev"
      refine g1 ?_
      refine i_put upd_same (by rw [hl2]; exact h2) (by rw [hl2]; exact hn) ?_
      rw [upd_upd]
      walk_at "ev"
      exact hnx _ _ (items_ref (old hr)) ⟨balStep bb u, R, by walk_at "nm", by walk_at "nm", by walk_at "nm", f4, balStep_len, f6, fun t ht => f7 t (.tail _ ht), rfl⟩
  · rintro ρ' σ' ⟨bb, R, f1, f2, f3, f4, f5, f6, f7, rfl⟩
    cases f4
    have : bb = bals n P := f6
    subst this
    exact hq ρ' f1 f2 f3
  · exact ⟨zeros n, P, e1, rfl, rfl, hR, by simp [zeros], rfl, hP, rfl⟩
noncomputable def balP (n : Nat) (P : List (Int × Int × Int)) (p y : PV) : Prop := ∀ k : Nat, p = .int (0 + (k : Int)) → y = .int ((bals n P).getD k 0)
theorem bal_list {P : List (Int × Int × Int)} : ∀ {js : List Nat} {ys : List PV}, Paired (balP n P) (rg js) ys → ys = (js.map fun k => (bals n P).getD k 0).map .int
  | [], ys, h => by cases h; rfl
  | j :: js, _, .cons h r => by rw [h j rfl, bal_list r]; rfl
theorem told2 (D : DayAt σ a ca st (n : Int) L) (R : RowsAt σ r rs L) (G : GoodT n L) (hn : n ≤ 1000) (e1 : ρ "_law_day" = some (.ref a)) (e2 : ρ "_law_rows" = some (.ref r)) (e3 : ρ "_law_count" = some (.int (n : Nat))) (hq : ∀ ρ' σ', Ext σ σ' → QS (.ret (.bool true)) ρ' σ') : tb_law_told_6 ρ σ QS XS := by
  refine i_seq (i_set (c_zeros e3 hn fun b hb => ?_))
  refine i_seq (i_for (i_name (by walk_at "nm") ?_))
  have x0 : ∀ {o}, Ext σ (upd σ b o) := Ext.upd hb
  refine ⟨_, items_ref (x0 _ _ R.rows), trivial, p_balR hn R.rows (rowsL_of R.len R.row) (rows_in G) hb (by walk_at "nm") fun ρ1 k1 k2 k3 => ?_⟩
  rw [setL_other (by decide +kernel) rfl, e1] at k2
  rw [setL_other (by decide +kernel) rfl, e3] at k3
  generalize hσ : upd σ b _ = σ1
  obtain ⟨x1, u1⟩ := al hσ hb
  refine i_seq (i_set ?_)
  walk_at "ex"
  refine ⟨_, rg_items, ⟨by decide, by decide, by omega, by omega⟩, by rw [rg, List.length_map, List.length_range]; exact Nat.le_trans hn (by decide), ?_⟩
  refine compL_ext (σ0 := σ1) (balP n (L.map row3)) (fun _ _ => rg_items) _ [] _ Ext.refl (fun q hq' σ2 x2 Q' hQ => ?_) fun ys σ2 x2 hys => ?_
  · obtain ⟨k, hk, rfl⟩ := rg_mem hq'
    walk_at "ex"
    have D2 := (D.ext x1).ext x2
    refine ⟨⟨a, _, rfl, D2.inst, noM.2.2.2.2.2⟩, ?_⟩
    walk_at "ex"
    refine p_balance D2 hn G told_int (fun i e y z σ3 x3 => ?_) fun hn => absurd ⟨Int.natCast_nonneg _, Int.ofNat_lt.mpr hk⟩ (hn _ rfl)
    cases e
    refine hQ _ _ x3 fun j e => ?_
    have : (k : Int) = 0 + j := by injection e
    have : k = j := by omega
    subst this
    rw [Int.toNat_natCast, bals_tails G]
  · rw [List.nil_append, bal_list hys]
    have eb : (List.range n).map (fun k => (bals n (L.map row3)).getD k 0) = bals n (L.map row3) := by
      have := range_map (L := bals n (L.map row3)) (z := 0)
      rwa [bals_len] at this
    rw [eb]
    intro v hv
    generalize hσ3 : upd σ2 v _ = σ3
    obtain ⟨x3, u3⟩ := al hσ3 hv
    refine i_seq (i_ret ?_)
    walk_at "ex"
    refine i_eql u3 (x3 _ _ (x2 _ _ u1)) (fun x hx => (ints_flat x hx).mono (by decide)) ?_
    dsimp only
    refine c_whole (by walk_at "nm") (items_ref u3) trivial (by rw [bals_len]; exact hn) fun σ' x4 => ?_
    exact hq _ _ (x1.trans (x2.trans (x3.trans x4)))
end

noncomputable def selP (L : List Dt) : PV → Bool
  | .int k => decide ((gt L k.toNat).rest > 0)
  | _ => false
noncomputable def dueP (L : List Dt) : PV → PV
  | .int k => .tup [.int k, .int (gt L k.toNat).d, .int (gt L k.toNat).c, .int (gt L k.toNat).rest]
  | _ => .none
theorem due_list {L : List Dt} : ∀ js : List Nat, ((rg js).filter (selP L)).map (dueP L) = js.filterMap (stF L)
  | [] => rfl
  | j :: js => by
    have e : rg (j :: js) = PV.int (j : Int) :: rg js := by unfold rg; rw [List.map_cons, Int.zero_add]
    rw [e, List.filterMap_cons]
    by_cases h : (gt L j).rest > 0
    · have e1 : stF L j = some (.tup [.int (j : Nat), .int (gt L j).d, .int (gt L j).c, .int (gt L j).rest]) := if_pos h
      rw [List.filter_cons_of_pos (by show decide _ = true; rw [decide_eq_true_eq, Int.toNat_natCast]; exact h), e1, List.map_cons, due_list js]
      rfl
    · have e1 : stF L j = none := if_neg h
      rw [List.filter_cons_of_neg (by show ¬ decide _ = true; rw [decide_eq_true_eq, Int.toNat_natCast]; exact h), e1, due_list js]
theorem stand_flat {σ : Sto} {L : List Dt} : ∀ x ∈ stand L, Flat 3 σ x := fun x hx => by
  obtain ⟨a, b, c, d, rfl⟩ := stand_tup hx
  refine (flat_tup (k := 0) fun y hy => ?_).mono (by decide)
  simp only [List.mem_cons, List.not_mem_nil, or_false] at hy
  rcases hy with rfl | rfl | rfl | rfl <;> exact flat_int
inductive TdI (a w v : Addr) (σ : Sto) (ps : List PV) (ρ : Env') (σ' : Sto) : Prop
  | mk : (∀ p ∈ ps, ∃ a b c d : Int, p = .tup [.int a, .int b, .int c, .int d]) → ρ "_law_day" = some (.ref a) → ρ "_law_found" = some (.ref w) → ρ "_law_due" = some (.ref v) → Ext σ σ' → TdI a w v σ ps ρ σ'
section
variable {n : Nat} {L : List Dt} {a ca st r : Addr} {rs : List Addr} {ρ : Env'} {σ : Sto} {QS : Fl → Env' → Sto → Prop} {XS : Addr → Env' → Sto → Prop}
theorem told1 (D : DayAt σ a ca st (n : Int) L) (R : RowsAt σ r rs L) (e1 : ρ "_law_day" = some (.ref a)) (e2 : ρ "_law_rows" = some (.ref r)) (hq : ∀ ρ' σ', Ext σ σ' → QS (.ret (.bool true)) ρ' σ') : tb_law_told_15 ρ σ QS XS := by
  have hl := D.len
  have row : ∀ {k : Nat} {kk : PV → Prop}, k < L.length → (∀ x, σ x = some (.list [.int (gt L k).d, .int (gt L k).c, .int (gt L k).rest]) → kk (.ref x)) → getP σ (.ref r) (.int (k : Nat)) kk := fun {k kk} hk h => by
    have hk' : k < rs.length := by rw [R.len]; exact hk
    refine i_getk R.rows (by omega) (x := .ref rs[k]) ?_ (h _ (R.row k _ (List.getElem?_eq_getElem hk')))
    rw [List.getElem?_map, List.getElem?_eq_getElem hk']; rfl
  refine i_seq (i_set ?_)
  walk_at "ex"
  refine i_lenm R.rows (by rw [R.len]; omega) ?_
  walk_at "ex"
  refine ⟨_, rg_items, ⟨by decide, by decide, by rw [R.len]; omega, by rw [R.len]; omega⟩, by rw [rg, List.length_map, List.length_range, R.len]; exact Nat.le_trans hl (by decide), ?_⟩
  refine compL_filt (selP L) (dueP L) rg_items _ [] (fun q hq' QB hQ => ?_) (fun q hq' _ Q' hQ => ?_) ?_
  · obtain ⟨k, hk, rfl⟩ := rg_mem hq'
    rw [R.len] at hk
    walk_at "ex"
    refine row hk fun x hx => ?_
    walk_at "ex"
    refine i_get (by decide) (by decide) (items_ref hx) trivial rfl ?_
    walk_at "ex"
    have : selP L (.int (k : Nat)) = decide ((gt L k).rest > 0) := by show decide ((gt L (k : Int).toNat).rest > 0) = _; rw [Int.toNat_natCast]
    rw [this] at hQ
    exact hQ
  · obtain ⟨k, hk, rfl⟩ := rg_mem hq'
    rw [R.len] at hk
    walk_at "ex"
    refine row hk fun x hx => ?_
    walk_at "ex"
    refine i_get (by decide) (by decide) (items_ref hx) trivial rfl ?_
    walk_at "ex"
    refine row hk fun x hx => ?_
    walk_at "ex"
    refine i_get (by decide) (by decide) (items_ref hx) trivial rfl ?_
    walk_at "ex"
    refine row hk fun x hx => ?_
    walk_at "ex"
    refine i_get (by decide) (by decide) (items_ref hx) trivial rfl ?_
    walk_at "ex"
    have : dueP L (.int (k : Nat)) = .tup [.int (k : Nat), .int (gt L k).d, .int (gt L k).c, .int (gt L k).rest] := by unfold dueP; dsimp only; rw [Int.toNat_natCast]
    rw [this] at hQ
    exact hQ
  rw [List.nil_append, due_list, R.len]
  intro v hv
  generalize hσ : upd σ v _ = σ1
  obtain ⟨x1, u1⟩ := al hσ hv
  have u1 : σ1 v = some (.list (stand L)) := u1
  refine i_seq (i_set ?_)
  walk_at "ex"
  have D1 := D.ext x1
  refine ⟨⟨a, _, rfl, D1.inst, noM.2.1⟩, ?_⟩
  walk_at "ex"
  refine p_standing D1 fun w hw => ?_
  have hwv : w ≠ v := by rintro rfl; rw [u1] at hw; cases hw
  have hw0 := x1.back hw
  generalize hσ2 : upd σ1 w _ = σ2
  obtain ⟨x2, u2⟩ := al hσ2 hw
  refine i_seq (i_if ?_)
  walk_at "ex"
  refine ⟨.list, true, ty_list u2, rfl, ?_⟩
  refine ite_nf (i_or ?_)
  walk_at "ex"
  refine i_neql u2 (x2 _ _ u1) stand_flat ?_
  refine ite_f (i_false (ite_f (i_nil ?_)))
  refine i_seq (i_for (i_name (by walk_at "nm") ?_))
  refine ⟨_, items_ref u2, trivial, ?_⟩
  refine forL_step (TdI a w v σ2) (fun _ _ _ => False) ?_ ?_ (fun _ _ _ h => h.elim) _ _ _ ?_
  · rintro p ps ρ' σ' Qb ⟨f1, f2, f3, f4, f5⟩ hnx _
    obtain ⟨z1, z2, z3, z4, rfl⟩ := f1 p (.head _)
    refine i_seq (i_if ?_)
    walk_at "ex"
    refine ⟨.tup, true, rfl, rfl, ?_⟩
    refine ite_nf (i_or (i_not (i_test (c_whole (p := .tup [.int z1, .int z2, .int z3, .int z4]) (zs := [z1, z2, z3, z4]) (by walk_at "nm") rfl trivial (Nat.le_of_ble_eq_true rfl) fun σ3 x3 => ?_))))
    refine ite_nf (i_false (ite_f (i_nil (i_nil ?_))))
    exact hnx _ _ (items_ref (x3 _ _ (f5 _ _ u2))) ⟨fun q hq => f1 q (.tail _ hq), by walk_at "nm", by walk_at "nm", by walk_at "nm", f5.trans x3⟩
  · rintro ρ' σ3 ⟨_, f2, f3, f4, f5⟩
    have u3 := f5 _ _ u2
    have hsl : (stand L).length ≤ 100 := Nat.le_trans (fmap_len _) (by rw [List.length_range]; exact hl)
    refine i_seq (i_expr ?_)
    walk_at "ex"
    refine ⟨⟨_, u3⟩, ?_⟩
    walk_at "ex"
    refine i_append u3 (by omega) ?_
    generalize hσ4 : upd σ3 w _ = σ4
    have x04 : Ext σ σ4 := by rw [← hσ4]; exact (x1.trans (x2.trans f5)).upd' hw0
    have u4 : σ4 w = some (.list (stand L ++ [.tup [.int 0, .int 0, .int 0, .int 0]])) := by rw [← hσ4]; exact upd_same
    have v4 : σ4 v = some (.list (stand L)) := by rw [← hσ4]; exact upd_other (Ne.symm hwv) (f5 _ _ (x2 _ _ u1))
    refine i_seq (i_ret ?_)
    walk_at "ex"
    have D4 := D.ext x04
    refine ⟨⟨a, _, rfl, D4.inst, noM.2.1⟩, ?_⟩
    walk_at "ex"
    refine p_standing D4 fun w5 hw5 => ?_
    generalize hσ5 : upd σ4 w5 _ = σ5
    obtain ⟨x5, u5⟩ := al hσ5 hw5
    walk_at "ex"
    refine i_eql u5 (x5 _ _ v4) (fun x hx => (stand_flat x hx).mono (by decide)) ?_
    dsimp only
    walk_at "ex"
    refine i_len trivial (items_ref (x5 _ _ u4)) (by rw [List.length_append]; show (stand L).length + 1 < 2 ^ 62; omega) ?_
    walk_at "ex"
    refine i_len trivial (items_ref (x5 _ _ v4)) (by omega) ?_
    walk_at "ex"
    rw [decide_eq_true (by rw [List.length_append]; rfl)]
    exact hq _ _ (x04.trans x5)
  · exact ⟨fun p hp => stand_tup hp, by walk_at "nm", by walk_at "nm", by walk_at "nm", Ext.refl⟩
end

theorem nine {P : Nat → Prop} (h0 : P 0) (h1 : P 1) (h2 : P 2) (h3 : P 3) (h4 : P 4) (h5 : P 5) (h6 : P 6) (h7 : P 7) (h8 : P 8) {j : Nat} (hj : j < 9) : P j := by
  rcases j with _ | _ | _ | _ | _ | _ | _ | _ | _ | j
  · exact h0
  · exact h1
  · exact h2
  · exact h3
  · exact h4
  · exact h5
  · exact h6
  · exact h7
  · exact h8
  · exact absurd hj (Nat.not_lt.mpr (Nat.le_add_left 9 j))

section
variable {n : Nat} {L : List Dt} {a ca st r : Addr} {rs : List Addr} {σ : Sto} {Q : PV → Sto → Prop} {X : Addr → Sto → Prop}
theorem p_told {wy : Int} (D : DayAt σ a ca st (n : Int) L) (R : RowsAt σ r rs L) (G : GoodT n L) (hn : n ≤ 1000) (hq : ∀ σ', Ext σ σ' → Q (.bool true) σ') : T_law_told [.ref a, .ref r, .int (n : Nat), .int wy] σ Q X := by
  unfold T_law_told tb_law_told
  refine i_fun4 (i_seq (i_if ?_))
  walk_at "ex"
  refine ite_d (fun y => told0 D R (by walk_at "nm") (by walk_at "nm") fun ρ' σ' x => hq σ' x) fun y => i_nil (i_seq (i_if ?_))
  walk_at "ex"
  refine ite_d (fun y => told1 D R (by walk_at "nm") (by walk_at "nm") fun ρ' σ' x => hq σ' x) fun y => i_nil ?_
  exact told2 D R G hn (by walk_at "nm") (by walk_at "nm") (by walk_at "nm") fun ρ' σ' x => hq σ' x
theorem all_true : ∀ {xs ys : List PV}, Paired (fun _ y => y = PV.bool true) xs ys → ys = (xs.map fun _ => true).map .bool
  | _, _, .nil => rfl
  | _, _, .cons h r => by rw [h, all_true r]; rfl
/-- the place of a list of ways -/
noncomputable def WaysAt (σ : Sto) (p : PV) : Prop := ∃ x ws, p = .ref x ∧ σ x = some (.list ws) ∧ ws.length ≤ 3 ∧ ∀ q ∈ ws, ∃ i : Int, q = .int i
theorem WaysAt.ext {σ σ' : Sto} {p : PV} (h : WaysAt σ p) (e : Ext σ σ') : WaysAt σ' p := let ⟨x, ws, h1, h2, h3⟩ := h; ⟨x, ws, h1, e _ _ h2, h3⟩
theorem ways0 {x : Addr} (h : σ x = some (.list [])) : WaysAt σ (.ref x) := ⟨x, _, rfl, h, Nat.zero_le _, fun _ hq => nomatch hq⟩
theorem ways1 {x : Addr} {i : Int} (h : σ x = some (.list [.int i])) : WaysAt σ (.ref x) := ⟨x, _, rfl, h, Nat.le_of_ble_eq_true rfl, fun q hq => by
  simp only [List.mem_cons, List.not_mem_nil, or_false] at hq; exact ⟨_, hq⟩⟩
theorem ways2 {x : Addr} {i j : Int} (h : σ x = some (.list [.int i, .int j])) : WaysAt σ (.ref x) := ⟨x, _, rfl, h, Nat.le_of_ble_eq_true rfl, fun q hq => by
  simp only [List.mem_cons, List.not_mem_nil, or_false] at hq; rcases hq with h | h <;> exact ⟨_, h⟩⟩
theorem ways3 {x : Addr} {i j k : Int} (h : σ x = some (.list [.int i, .int j, .int k])) : WaysAt σ (.ref x) := ⟨x, _, rfl, h, Nat.le_of_ble_eq_true rfl, fun q hq => by
  simp only [List.mem_cons, List.not_mem_nil, or_false] at hq; rcases hq with h | h | h <;> exact ⟨_, h⟩⟩
theorem p_stands {cell : Int} (D : DayAt σ a ca st (n : Int) L) (R : RowsAt σ r rs L) (G : GoodT n L) (hn : n ≤ 1000) (hq : ∀ σ', Ext σ σ' → Q (.bool true) σ') : T_law_stands [.ref a, .ref r, .int (n : Nat), .int cell] σ Q X := by
  unfold T_law_stands tb_law_stands
  refine i_fun4 (i_seq (i_set ?_))
  walk_at "ex"
  intro w1 h1
  generalize z1 : upd σ w1 _ = s1
  obtain ⟨x1, u1⟩ := al z1 h1
  walk_at "ex"
  intro w2 h2
  generalize z2 : upd s1 w2 _ = s2
  obtain ⟨x2, u2⟩ := al z2 h2
  walk_at "ex"
  intro w3 h3
  generalize z3 : upd s2 w3 _ = s3
  obtain ⟨x3, u3⟩ := al z3 h3
  walk_at "ex"
  intro w4 h4
  generalize z4 : upd s3 w4 _ = s4
  obtain ⟨x4, u4⟩ := al z4 h4
  walk_at "ex"
  intro w5 h5
  generalize z5 : upd s4 w5 _ = s5
  obtain ⟨x5, u5⟩ := al z5 h5
  walk_at "ex"
  intro w6 h6
  generalize z6 : upd s5 w6 _ = s6
  obtain ⟨x6, u6⟩ := al z6 h6
  walk_at "ex"
  intro w7 h7
  generalize z7 : upd s6 w7 _ = s7
  obtain ⟨x7, u7⟩ := al z7 h7
  walk_at "ex"
  intro w8 h8
  generalize z8 : upd s7 w8 _ = s8
  obtain ⟨x8, u8⟩ := al z8 h8
  walk_at "ex"
  intro w9 h9
  generalize z9 : upd s8 w9 _ = s9
  obtain ⟨x9, u9⟩ := al z9 h9
  walk_at "ex"
  intro w hw
  generalize z0 : upd s9 w _ = s0
  obtain ⟨x0, u0⟩ := al z0 hw
  have xa : Ext σ s0 := x1.trans (x2.trans (x3.trans (x4.trans (x5.trans (x6.trans (x7.trans (x8.trans (x9.trans (x0)))))))))
  refine i_seq (i_ret ?_)
  refine i_call (i_econs (i_comp ?_))
  walk_at "ex"
  have hc0 : 0 ≤ cell % 9 := Int.emod_nonneg _ (by decide)
  have hc9 : cell % 9 < 9 := Int.emod_lt_of_pos _ (by decide)
  generalize cell % 9 = m at hc0 hc9
  obtain ⟨j, rfl⟩ := Int.eq_ofNat_of_zero_le hc0
  have hj : j < 9 := by omega
  have hw9 : ∃ p, [PV.ref w1, .ref w2, .ref w3, .ref w4, .ref w5, .ref w6, .ref w7, .ref w8, .ref w9][j]? = some p ∧ WaysAt s0 p := by
    refine nine (P := fun j => ∃ p, [PV.ref w1, .ref w2, .ref w3, .ref w4, .ref w5, .ref w6, .ref w7, .ref w8, .ref w9][j]? = some p ∧ WaysAt s0 p) ?_ ?_ ?_ ?_ ?_ ?_ ?_ ?_ ?_ hj
    · exact ⟨_, rfl, (WaysAt.ext (WaysAt.ext (WaysAt.ext (WaysAt.ext (WaysAt.ext (WaysAt.ext (WaysAt.ext (WaysAt.ext (WaysAt.ext (ways3 u1) x2) x3) x4) x5) x6) x7) x8) x9) x0)⟩
    · exact ⟨_, rfl, (WaysAt.ext (WaysAt.ext (WaysAt.ext (WaysAt.ext (WaysAt.ext (WaysAt.ext (WaysAt.ext (WaysAt.ext (ways3 u2) x3) x4) x5) x6) x7) x8) x9) x0)⟩
    · exact ⟨_, rfl, (WaysAt.ext (WaysAt.ext (WaysAt.ext (WaysAt.ext (WaysAt.ext (WaysAt.ext (WaysAt.ext (ways1 u3) x4) x5) x6) x7) x8) x9) x0)⟩
    · exact ⟨_, rfl, (WaysAt.ext (WaysAt.ext (WaysAt.ext (WaysAt.ext (WaysAt.ext (WaysAt.ext (ways1 u4) x5) x6) x7) x8) x9) x0)⟩
    · exact ⟨_, rfl, (WaysAt.ext (WaysAt.ext (WaysAt.ext (WaysAt.ext (WaysAt.ext (ways1 u5) x6) x7) x8) x9) x0)⟩
    · exact ⟨_, rfl, (WaysAt.ext (WaysAt.ext (WaysAt.ext (WaysAt.ext (ways3 u6) x7) x8) x9) x0)⟩
    · exact ⟨_, rfl, (WaysAt.ext (WaysAt.ext (WaysAt.ext (ways0 u7) x8) x9) x0)⟩
    · exact ⟨_, rfl, (WaysAt.ext (WaysAt.ext (ways2 u8) x9) x0)⟩
    · exact ⟨_, rfl, (WaysAt.ext (ways2 u9) x0)⟩
  obtain ⟨p, hp, x, ws, rfl, hx, hl, hi⟩ := hw9
  refine i_getk u0 (by omega) hp ?_
  refine ⟨_, items_ref hx, trivial, Nat.le_trans hl (by decide), ?_⟩
  refine compL_ext (σ0 := s0) (fun _ y => y = PV.bool true) (fun σ' e => items_ref (e _ _ hx)) _ [] _ Ext.refl (fun q hq' σ2 e2 Q' hQ => ?_) fun ys σ2 e2 hys => ?_
  · obtain ⟨i, rfl⟩ := hi q hq'
    walk_at "ex"
    exact p_told ((D.ext xa).ext e2) ((R.ext xa).ext e2) G hn fun σ3 e3 => hQ _ _ e3 rfl
  · rw [List.nil_append, all_true hys]
    intro v hv
    refine i_enil (i_all upd_same ?_)
    rw [show (ws.map fun _ => true).all id = true by simp]
    exact hq _ (xa.trans (e2.trans (Ext.upd hv)))
theorem p_no_house {p : PV} (D : DayAt σ a ca st (n : Int) L) (G : GoodT n L) (hn : n ≤ 1000) (hp : Told σ p) (hb : ∀ i, p = .int i → ¬ (0 ≤ i ∧ i < n)) (hq : ∀ σ', Ext σ σ' → Q (.bool true) σ') : T_law_no_house [.ref a, p] σ Q X := by
  unfold T_law_no_house tb_law_no_house
  refine i_fun2 ?_
  walk_at "ev"
  refine ⟨⟨a, _, rfl, D.inst, noM.2.2.2.2.2⟩, ?_⟩
  walk_at "ev"
  refine p_balance D hn G hp (fun i e y z => absurd ⟨y, z⟩ (hb i e)) fun _ => ?_
  refine ⟨by decide, fun e he => ?_⟩
  walk_at "ev"
  refine p_kind_house fun σ' x => ?_
  walk_at "ev"
  exact hq σ' x
theorem p_no_number {p : PV} (D : DayAt σ a ca st (n : Int) L) (hp : Told σ p) (hb : ∀ i, p = .int i → ¬ (0 ≤ i ∧ i < L.length)) (hq : ∀ σ', Ext σ σ' → Q (.bool true) σ') : T_law_no_number [.ref a, p] σ Q X := by
  unfold T_law_no_number tb_law_no_number
  refine i_fun2 ?_
  walk_at "ev"
  refine ⟨⟨a, _, rfl, D.inst, noM.2.2.2.2.1⟩, ?_⟩
  walk_at "ev"
  refine p_rest D hp (fun i e y z => absurd ⟨y, z⟩ (hb i e)) fun _ => ?_
  refine ⟨by decide, fun e he => ?_⟩
  walk_at "ev"
  refine p_kind_number fun σ' x => ?_
  walk_at "ev"
  exact hq σ' x
end

theorem eight {P : Nat → Prop} (h0 : P 0) (h1 : P 1) (h2 : P 2) (h3 : P 3) (h4 : P 4) (h5 : P 5) (h6 : P 6) (h7 : P 7) {j : Nat} (hj : j < 8) : P j := by
  rcases j with _ | _ | _ | _ | _ | _ | _ | _ | j
  · exact h0
  · exact h1
  · exact h2
  · exact h3
  · exact h4
  · exact h5
  · exact h6
  · exact h7
  · omega
theorem seven {P : Nat → Prop} (h0 : P 0) (h1 : P 1) (h2 : P 2) (h3 : P 3) (h4 : P 4) (h5 : P 5) (h6 : P 6) {j : Nat} (hj : j < 7) : P j := by
  rcases j with _ | _ | _ | _ | _ | _ | _ | j
  · exact h0
  · exact h1
  · exact h2
  · exact h3
  · exact h4
  · exact h5
  · exact h6
  · omega
theorem six {P : Nat → Prop} (h0 : P 0) (h1 : P 1) (h2 : P 2) (h3 : P 3) (h4 : P 4) (h5 : P 5) {j : Nat} (hj : j < 6) : P j := by
  rcases j with _ | _ | _ | _ | _ | _ | j
  · exact h0
  · exact h1
  · exact h2
  · exact h3
  · exact h4
  · exact h5
  · omega
theorem sixteen {P : Nat → Prop} (h0 : P 0) (h1 : P 1) (h2 : P 2) (h3 : P 3) (h4 : P 4) (h5 : P 5) (h6 : P 6) (h7 : P 7) (h8 : P 8) (h9 : P 9) (h10 : P 10) (h11 : P 11) (h12 : P 12) (h13 : P 13) (h14 : P 14) (h15 : P 15) {j : Nat} (hj : j < 16) : P j := by
  rcases j with _ | _ | _ | _ | _ | _ | _ | _ | _ | _ | _ | _ | _ | _ | _ | _ | j
  · exact h0
  · exact h1
  · exact h2
  · exact h3
  · exact h4
  · exact h5
  · exact h6
  · exact h7
  · exact h8
  · exact h9
  · exact h10
  · exact h11
  · exact h12
  · exact h13
  · exact h14
  · exact h15
  · omega

/-- no count of houses -/
noncomputable def NoCount (p : PV) : Prop := (∀ σ, Told σ p) ∧ ∀ i, p = .int i → ¬ (1 ≤ i ∧ i ≤ 20)
theorem nc_int {i : Int} (h : ¬ (1 ≤ i ∧ i ≤ 20)) : NoCount (.int i) := ⟨fun _ => told_int, fun j e => by cases e; exact h⟩
theorem nc_bool {b : Bool} : NoCount (.bool b) := ⟨fun _ => told_bool, fun j e => by cases e⟩
theorem nc_none : NoCount .none := ⟨fun _ => told_none, fun j e => by cases e⟩
theorem nc_str {s : Str} : NoCount (.str s) := ⟨fun _ => told_str, fun j e => by cases e⟩
theorem p_no_count {cell : Int} {σ : Sto} {Q : PV → Sto → Prop} {X : Addr → Sto → Prop} (hq : ∀ σ', Ext σ σ' → Q (.bool true) σ') : T_law_no_count [.int cell] σ Q X := by
  unfold T_law_no_count tb_law_no_count
  refine i_fun1 ?_
  walk_at "ev"
  intro w hw
  generalize hσ : upd σ w _ = σ1
  obtain ⟨x1, u1⟩ := al hσ hw
  walk_at "ev"
  have hc0 : 0 ≤ cell % 8 := Int.emod_nonneg _ (by decide)
  have hc9 : cell % 8 < 8 := Int.emod_lt_of_pos _ (by decide)
  have hf : 0 ≤ cell / 8 % 1000003 := Int.emod_nonneg _ (by decide)
  generalize cell / 8 % 1000003 = far at hf u1
  generalize cell % 8 = m at hc0 hc9
  obtain ⟨j, rfl⟩ := Int.eq_ofNat_of_zero_le hc0
  have hj : j < 8 := by omega
  have hp : ∃ p, [PV.int 0, .int (-1), .int 21, .bool true, .none, .str "3", .int (20 + far + 1), .bool false][j]? = some p ∧ NoCount p :=
    eight (P := fun j => ∃ p, [PV.int 0, .int (-1), .int 21, .bool true, .none, .str "3", .int (20 + far + 1), .bool false][j]? = some p ∧ NoCount p)
      ⟨_, rfl, nc_int (by omega)⟩ ⟨_, rfl, nc_int (by omega)⟩ ⟨_, rfl, nc_int (by omega)⟩ ⟨_, rfl, nc_bool⟩ ⟨_, rfl, nc_none⟩ ⟨_, rfl, nc_str⟩ ⟨_, rfl, nc_int (by omega)⟩ ⟨_, rfl, nc_bool⟩ hj
  obtain ⟨p, e, np⟩ := hp
  refine i_getk u1 (by omega) e ?_
  walk_at "ev"
  intro a d od ha hd hne DD
  refine p_init_bad (np.1 _) np.2 ?_
  refine ⟨by decide, fun e he => ?_⟩
  walk_at "ev"
  refine p_kind_count fun σ' x => ?_
  walk_at "ev"
  refine hq σ' (x1.trans (Ext.trans ?_ x))
  exact (Ext.upd hd).trans (Ext.upd' Ext.refl (by unfold upd; rw [if_neg hne]; exact ha))

theorem shift_ne {n d s : Int} (h0 : 0 ≤ d) (h1 : d < n) (h2 : 1 ≤ s) (h3 : s < n) : (d + s) % n ≠ d := by
  by_cases h : d + s < n
  · rw [Int.emod_eq_of_lt (by omega) h]; omega
  · have : (d + s) % n = d + s - n := by
      rw [← Int.sub_emod_right]
      exact Int.emod_eq_of_lt (by omega) (by omega)
    omega

theorem am_le {y c : Int} (h0 : 0 < c) (h1 : c ≤ 1000000000) : 1 ≤ 1 + y % c ∧ 1 + y % c ≤ 1000000000 := by
  have := Int.emod_nonneg y (Int.ne_of_gt h0)
  have := Int.emod_lt_of_pos y h0
  omega
noncomputable abbrev ow8 : TS := tSeq (tRet (tAndE (tCall (tEcons (tName "_law_found") (tEnil)) T_law_whole) (tCmp .Eq (tName "_law_found") (tName "_law_due")))) tNil
noncomputable abbrev ow7 : TS := tSeq (tExpr (tMeth appendF (tName "_law_rows") (tEcons (tList (tEcons (tName "_law_debtor") (tEcons (tName "_law_creditor") (tEcons (tName "_law_amount") (tEnil))))) (tEnil)))) ow8
noncomputable abbrev ow6 : TS := tSeq (tTry "_law_error" exCls (tSeq (tSet "_law_found" (tMethC c_Day_10 "owe" T_Day_owe (tName "_law_day") (tEcons (tName "_law_debtor") (tEcons (tName "_law_creditor") (tEcons (tName "_law_amount") (tEnil)))))) (tNil)) (tSeq (tRet (tCmp .Eq (tCall (tEcons (tName "_law_error") (tEnil)) T_law_kind) (tName "_law_due"))) (tNil))) ow7
noncomputable abbrev ow5 : TS := tSeq (tIf (tCmpB .Eq (tBin .Mod (tName "_law_cell") (tConst (.int 6))) (tConst (.int 5))) (tSeq (tSet "_law_far" (tBin .Mod (tBin .FloorDiv (tName "_law_cell") (tConst (.int 3240))) (tConst (.int 1000003)))) (tSeq (tSet "_law_odd" (tList (tEcons (tTup (tEcons (tName "_law_debtor") (tEcons (tName "_law_debtor") (tEcons (tName "_law_amount") (tEnil))))) (tEcons (tTup (tEcons (tBin .Sub (tNeg (tConst (.int 1))) (tName "_law_far")) (tEcons (tName "_law_creditor") (tEcons (tName "_law_amount") (tEnil))))) (tEcons (tTup (tEcons (tName "_law_debtor") (tEcons (tBin .Add (tName "_law_count") (tName "_law_far")) (tEcons (tName "_law_amount") (tEnil))))) (tEnil)))))) (tSeq (tSet "_law_odd" (tBin .Add (tName "_law_odd") (tList (tEcons (tTup (tEcons (tName "_law_debtor") (tEcons (tName "_law_creditor") (tEcons (tConst (.int 0)) (tEnil))))) (tEcons (tTup (tEcons (tName "_law_debtor") (tEcons (tName "_law_creditor") (tEcons (tBin .Add (tConst (.int 1000000001)) (tName "_law_far")) (tEnil))))) (tEcons (tTup (tEcons (tName "_law_debtor") (tEcons (tConst (.bool true)) (tEcons (tName "_law_amount") (tEnil))))) (tEnil))))))) (tSeq (tSet "_law_odd" (tBin .Add (tName "_law_odd") (tList (tEcons (tTup (tEcons (tName "_law_debtor") (tEcons (tName "_law_creditor") (tEcons (tConst .none) (tEnil))))) (tEcons (tTup (tEcons (tConst (.str "0")) (tEcons (tConst (.int 1)) (tEcons (tConst (.int 1)) (tEnil))))) (tEcons (tTup (tEcons (tConst (.bool false)) (tEcons (tName "_law_creditor") (tEcons (tName "_law_amount") (tEnil))))) (tEnil))))))) (tSeq (tSet "_law_odd" (tBin .Add (tName "_law_odd") (tList (tEcons (tTup (tEcons (tName "_law_debtor") (tEcons (tBin .Sub (tNeg (tConst (.int 1))) (tName "_law_far")) (tEcons (tName "_law_amount") (tEnil))))) (tEcons (tTup (tEcons (tBin .Add (tName "_law_count") (tName "_law_far")) (tEcons (tName "_law_creditor") (tEcons (tName "_law_amount") (tEnil))))) (tEcons (tTup (tEcons (tName "_law_debtor") (tEcons (tName "_law_creditor") (tEcons (tConst (.bool true)) (tEnil))))) (tEnil))))))) (tSeq (tSet "_law_odd" (tBin .Add (tName "_law_odd") (tList (tEcons (tTup (tEcons (tName "_law_debtor") (tEcons (tName "_law_creditor") (tEcons (tConst (.str "1")) (tEnil))))) (tEcons (tTup (tEcons (tName "_law_debtor") (tEcons (tConst .none) (tEcons (tName "_law_amount") (tEnil))))) (tEcons (tTup (tEcons (tName "_law_debtor") (tEcons (tName "_law_creditor") (tEcons (tBin .Sub (tNeg (tConst (.int 1))) (tName "_law_far")) (tEnil))))) (tEcons (tTup (tEcons (tConst (.bool true)) (tEcons (tConst (.int 0)) (tEcons (tName "_law_amount") (tEnil))))) (tEnil)))))))) (tSeq (tUnpack ["_law_debtor", "_law_creditor", "_law_amount"] (tItem (tName "_law_odd") (tBin .Mod (tBin .FloorDiv (tName "_law_cell") (tConst (.int 540))) (tConst (.int 16))))) (tSeq (tSet "_law_due" (tConst (.str "debt"))) (tNil))))))))) (tNil)) ow6
noncomputable abbrev ow4 : TS := tSeq (tSet "_law_due" (tCall (tEcons (tName "_law_rows") (tEnil)) lenF)) ow5
/-- a day with its rows -/
structure Full (σ : Sto) (a ca st r : Addr) (rs : List Addr) (n : Nat) (L : List Dt) : Prop where
  day : DayAt σ a ca st (n : Int) L
  rows : RowsAt σ r rs L
  good : GoodT n L
  nd : (ca :: st :: r :: rs).Nodup
theorem Full.ext {σ σ' : Sto} {a ca st r : Addr} {rs : List Addr} {n : Nat} {L : List Dt} (F : Full σ a ca st r rs n L) (x : Ext σ σ') : Full σ' a ca st r rs n L := ⟨F.day.ext x, F.rows.ext x, F.good, F.nd⟩
/-- all but these stay -/
noncomputable def Frm (S : List Addr) (σ σ' : Sto) : Prop := ∀ b o, σ b = some o → b ∉ S → σ' b = some o
theorem Ext.frm {S : List Addr} {σ σ' : Sto} (x : Ext σ σ') : Frm S σ σ' := fun b o h _ => x b o h
theorem DayAt.put {σ : Sto} {a ca st x : Addr} {c : Int} {L : List Dt} {xs ys : List PV} (D : DayAt σ a ca st c L) (h : σ x = some (.list xs)) (h1 : x ≠ ca) (h2 : x ≠ st) : DayAt (upd σ x (.list ys)) a ca st c L := ⟨D.inst.put h, upd_other (Ne.symm h1) D.came, upd_other (Ne.symm h2) D.still, D.ne, D.len⟩
theorem nd_ne {ca st r : Addr} {rs : List Addr} (h : (ca :: st :: r :: rs).Nodup) : ca ≠ st ∧ ca ≠ r ∧ st ≠ r ∧ ∀ x ∈ rs, x ≠ ca ∧ x ≠ st ∧ x ≠ r := by
  rw [List.nodup_cons, List.nodup_cons, List.nodup_cons] at h
  obtain ⟨h1, h2, h3, _⟩ := h
  simp only [List.mem_cons, not_or] at h1 h2
  exact ⟨h1.1, h1.2.1, h2.1, fun x hx => ⟨by rintro rfl; exact h1.2.2 hx, by rintro rfl; exact h2.2 hx, by rintro rfl; exact h3 hx⟩⟩
theorem gt_left {L : List Dt} {t : Dt} {k : Nat} (h : k < L.length) : gt (L ++ [t]) k = gt L k := by
  unfold gt
  rw [List.getD, List.getD, List.getElem?_append_left h]
theorem gt_last {L : List Dt} {t : Dt} : gt (L ++ [t]) L.length = t := by
  unfold gt
  simp [List.getD]
section
variable {n : Nat} {L : List Dt} {a ca st r : Addr} {rs : List Addr} {ρ : Env'} {σ : Sto} {Q : PV → Sto → Prop} {X : Addr → Sto → Prop}
theorem ow_bad {p q z : PV} (F : Full σ a ca st r rs n L) (hL : L.length < 100) (hp : Told σ p) (hq' : Told σ q) (hz : Told σ z) (hb : ¬ IsDebt n p q z) (e1 : ρ "_law_day" = some (.ref a)) (e3 : ρ "_law_debtor" = some p) (e4 : ρ "_law_creditor" = some q) (e5 : ρ "_law_amount" = some z) (e6 : ρ "_law_due" = some (.str "debt"))
    (hq : ∀ σ', Ext σ σ' → Q (.bool true) σ') : ow6 ρ σ (funQ Q) (funX X) := by
  walk_at "ev"
  refine ⟨⟨a, _, rfl, F.day.inst, noM.2.2.1⟩, ?_⟩
  walk_at "ev"
  refine p_owe F.day hL hp hq' hz (fun x y z k1 k2 k3 k4 k5 k6 k7 _ => absurd ⟨x, y, z, k1, k2, k3, k4, k5, k6, k7⟩ hb) fun _ => ?_
  refine ⟨by decide, fun e he => ?_⟩
  walk_at "ev"
  refine p_kind_debt fun σ' x => ?_
  walk_at "ev"
  exact hq σ' x
theorem ow_good {x y z : Int} (F : Full σ a ca st r rs n L) (hL : L.length < 100) (hd : IsDebt n (.int x) (.int y) (.int z)) (e1 : ρ "_law_day" = some (.ref a)) (e2 : ρ "_law_rows" = some (.ref r)) (e3 : ρ "_law_debtor" = some (.int x)) (e4 : ρ "_law_creditor" = some (.int y)) (e5 : ρ "_law_amount" = some (.int z)) (e6 : ρ "_law_due" = some (.int L.length))
    (hq : ∀ σ' rs', Full σ' a ca st r rs' n (L ++ [dt x y z]) → Frm (ca :: st :: r :: rs) σ σ' → (∀ y ∈ rs', y ∈ rs ∨ σ y = none) → Q (.bool true) σ') : ow6 ρ σ (funQ Q) (funX X) := by
  obtain ⟨n1, n2, n3, n4⟩ := nd_ne F.nd
  walk_at "ev"
  refine ⟨⟨a, _, rfl, F.day.inst, noM.2.2.1⟩, ?_⟩
  walk_at "ev"
  refine p_owe F.day hL told_int told_int told_int (fun x' y' z' k1 k2 k3 k4 k5 k6 k7 D1 => ?_) fun hn => absurd hd hn
  cases k1; cases k2; cases k3
  generalize hσ1 : upd (upd σ ca _) st _ = σ1 at D1
  have o1 : ∀ b o, σ b = some o → b ≠ ca → b ≠ st → σ1 b = some o := fun b o h b1 b2 => by rw [← hσ1]; exact upd_other b2 (upd_other b1 h)
  have b1 : ∀ b, σ1 b = none → σ b = none ∧ b ≠ ca ∧ b ≠ st := fun b h => by rw [← hσ1] at h; obtain ⟨g1, h⟩ := upd_none h; obtain ⟨g2, h⟩ := upd_none h; exact ⟨h, g2, g1⟩
  have r1 := o1 _ _ F.rows.rows (Ne.symm n2) (Ne.symm n3)
  walk_at "ev"
  refine ⟨⟨_, r1⟩, ?_⟩
  walk_at "ev"
  intro w hw
  obtain ⟨w0, wca, wst⟩ := b1 w hw
  generalize hσ2 : upd σ1 w _ = σ2
  obtain ⟨x2, u2⟩ := al hσ2 hw
  have wr : w ≠ r := by rintro rfl; rw [r1] at hw; cases hw
  walk_at "ev"
  refine i_append (x2 _ _ r1) (by rw [List.length_map, F.rows.len]; omega) ?_
  rw [show rs.map PV.ref ++ [PV.ref w] = (rs ++ [w]).map PV.ref by rw [List.map_append]; rfl]
  generalize hσ3 : upd σ2 r _ = σ3
  have o3 : ∀ b o, σ2 b = some o → b ≠ r → σ3 b = some o := fun b o h b1 => by rw [← hσ3]; exact upd_other b1 h
  walk_at "ev"
  refine p_whole ?_
  walk_at "ev"
  rw [decide_eq_true rfl]
  have wrs : ∀ y ∈ rs, y ≠ w := fun y hy => by
    obtain ⟨k, hk⟩ := List.mem_iff_getElem?.mp hy
    rintro rfl
    have := F.rows.row k _ hk
    rw [w0] at this; cases this
  refine hq σ3 (rs ++ [w]) ⟨?_, ⟨?_, ?_, ?_⟩, ?_, ?_⟩ ?_ ?_
  · rw [← hσ3]; exact (D1.ext x2).put (x2 _ _ r1) (Ne.symm n2) (Ne.symm n3)
  · rw [← hσ3]; exact upd_same
  · rw [List.length_append, List.length_append, F.rows.len]; rfl
  · intro k y hk
    by_cases h : k < rs.length
    · rw [List.getElem?_append_left h] at hk
      have hy : y ∈ rs := List.mem_of_getElem? hk
      rw [gt_left (by rw [← F.rows.len]; exact h)]
      exact o3 _ _ (x2 _ _ (o1 _ _ (F.rows.row k y hk) (n4 y hy).1 (n4 y hy).2.1)) (n4 y hy).2.2
    · rw [List.getElem?_append_right (by omega)] at hk
      have h0 : k - rs.length = 0 := by
        have := (List.getElem?_eq_some_iff.mp hk).1
        simp at this; omega
      rw [h0] at hk
      have hk : w = y := by simpa using hk
      subst hk
      have hkl : k = L.length := by rw [← F.rows.len]; omega
      rw [hkl, gt_last]
      exact o3 _ _ u2 wr
  · intro t ht
    rcases List.mem_append.mp ht with h | h
    · exact F.good t h
    · rw [List.mem_singleton] at h
      subst h
      exact ⟨k4, k5, by show 0 ≤ z; omega⟩
  · have hnd := F.nd
    show ((ca :: st :: r :: rs) ++ [w]).Nodup
    rw [List.nodup_append]
    refine ⟨hnd, by simp, fun b hb c hc => ?_⟩
    rw [List.mem_singleton] at hc
    subst hc
    simp only [List.mem_cons] at hb
    rcases hb with rfl | rfl | rfl | hb
    · exact Ne.symm wca
    · exact Ne.symm wst
    · exact Ne.symm wr
    · exact wrs b hb
  · intro b o h hb
    simp only [List.mem_cons, not_or] at hb
    exact o3 _ _ (x2 _ _ (o1 _ _ h hb.1 hb.2.1)) hb.2.2.1
  · intro y hy
    rcases List.mem_append.mp hy with h | h
    · exact .inl h
    · rw [List.mem_singleton] at h; subst h; exact .inr w0
end

theorem a_cat2 {x y : Addr} {xs ys : List PV} {σ : Sto} {Q : PV → Sto → Prop} (h1 : σ x = some (.list xs)) (h2 : σ y = some (.list ys)) (h3 : (xs ++ ys).length ≤ 1000000) (h : ∀ c σ', Ext σ σ' → σ' c = some (.list (xs ++ ys)) → Q (.ref c) σ') : opP .Add (.ref x) (.ref y) σ Q :=
  i_cat h1 h2 h3 fun c hc => h c _ (Ext.upd hc) upd_same
/-- three parts that make no debt -/
noncomputable def NoDebtP (n : Nat) (p : PV) : Prop := ∃ x y z, p = .tup [x, y, z] ∧ (∀ σ, Told σ x) ∧ (∀ σ, Told σ y) ∧ (∀ σ, Told σ z) ∧ ¬ IsDebt n x y z
theorem nd_x {n : Nat} {x y z : PV} (t1 : ∀ σ, Told σ x) (t2 : ∀ σ, Told σ y) (t3 : ∀ σ, Told σ z) (h : ∀ i, x = .int i → ¬ (0 ≤ i ∧ i < n)) : NoDebtP n (.tup [x, y, z]) := ⟨x, y, z, rfl, t1, t2, t3, fun ⟨i, _, _, e, _, _, k, _⟩ => h i e k⟩
theorem nd_y {n : Nat} {x y z : PV} (t1 : ∀ σ, Told σ x) (t2 : ∀ σ, Told σ y) (t3 : ∀ σ, Told σ z) (h : ∀ i, y = .int i → ¬ (0 ≤ i ∧ i < n)) : NoDebtP n (.tup [x, y, z]) := ⟨x, y, z, rfl, t1, t2, t3, fun ⟨_, i, _, _, e, _, _, k, _⟩ => h i e k⟩
theorem nd_z {n : Nat} {x y z : PV} (t1 : ∀ σ, Told σ x) (t2 : ∀ σ, Told σ y) (t3 : ∀ σ, Told σ z) (h : ∀ i, z = .int i → ¬ (1 ≤ i ∧ i ≤ 1000000000)) : NoDebtP n (.tup [x, y, z]) := ⟨x, y, z, rfl, t1, t2, t3, fun ⟨_, _, i, _, _, e, _, _, _, k⟩ => h i e k⟩
theorem nd_same {n : Nat} {x : Int} {z : PV} (t3 : ∀ σ, Told σ z) : NoDebtP n (.tup [.int x, .int x, z]) := ⟨_, _, z, rfl, fun _ => told_int, fun _ => told_int, t3, fun ⟨_, _, _, e1, e2, _, _, _, k, _⟩ => by cases e1; cases e2; exact k rfl⟩
theorem ti {i : Int} : ∀ σ, Told σ (.int i) := fun _ => told_int
theorem tb' {i : Bool} : ∀ σ, Told σ (.bool i) := fun _ => told_bool
theorem ts' {i : Str} : ∀ σ, Told σ (.str i) := fun _ => told_str
theorem tn' : ∀ σ, Told σ .none := fun _ => told_none
noncomputable abbrev oddL (n : Nat) (x y z far : Int) : List PV := [.tup [.int x, .int x, .int z], .tup [.int (-1 - far), .int y, .int z], .tup [.int x, .int (n + far), .int z], .tup [.int x, .int y, .int 0], .tup [.int x, .int y, .int (1000000001 + far)], .tup [.int x, .bool true, .int z],
  .tup [.int x, .int y, .none], .tup [.str "0", .int 1, .int 1], .tup [.bool false, .int y, .int z], .tup [.int x, .int (-1 - far), .int z], .tup [.int (n + far), .int y, .int z], .tup [.int x, .int y, .bool true],
  .tup [.int x, .int y, .str "1"], .tup [.int x, .none, .int z], .tup [.int x, .int y, .int (-1 - far)], .tup [.bool true, .int 0, .int z]]
theorem odd_no {n : Nat} {x y z far : Int} (hf : 0 ≤ far) {j : Nat} (hj : j < 16) : ∃ p, (oddL n x y z far)[j]? = some p ∧ NoDebtP n p := by
  refine sixteen (P := fun j => ∃ p, (oddL n x y z far)[j]? = some p ∧ NoDebtP n p) ?_ ?_ ?_ ?_ ?_ ?_ ?_ ?_ ?_ ?_ ?_ ?_ ?_ ?_ ?_ ?_ hj
  · exact ⟨_, rfl, nd_same ti⟩
  · exact ⟨_, rfl, nd_x ti ti ti fun i e => by cases e; omega⟩
  · exact ⟨_, rfl, nd_y ti ti ti fun i e => by cases e; omega⟩
  · exact ⟨_, rfl, nd_z ti ti ti fun i e => by cases e; omega⟩
  · exact ⟨_, rfl, nd_z ti ti ti fun i e => by cases e; omega⟩
  · exact ⟨_, rfl, nd_y ti tb' ti fun i e => by cases e⟩
  · exact ⟨_, rfl, nd_z ti ti tn' fun i e => by cases e⟩
  · exact ⟨_, rfl, nd_x ts' ti ti fun i e => by cases e⟩
  · exact ⟨_, rfl, nd_x tb' ti ti fun i e => by cases e⟩
  · exact ⟨_, rfl, nd_y ti ti ti fun i e => by cases e; omega⟩
  · exact ⟨_, rfl, nd_x ti ti ti fun i e => by cases e; omega⟩
  · exact ⟨_, rfl, nd_z ti ti tb' fun i e => by cases e⟩
  · exact ⟨_, rfl, nd_z ti ti ts' fun i e => by cases e⟩
  · exact ⟨_, rfl, nd_y ti tn' ti fun i e => by cases e⟩
  · exact ⟨_, rfl, nd_z ti ti ti fun i e => by cases e; omega⟩
  · exact ⟨_, rfl, nd_x tb' ti ti fun i e => by cases e⟩

section
variable {n : Nat} {L : List Dt} {a ca st r : Addr} {rs : List Addr} {ρ : Env'} {σ : Sto} {Q : PV → Sto → Prop} {X : Addr → Sto → Prop}
/-- what a deed leaves -/
noncomputable def Left (σ : Sto) (a ca st r : Addr) (rs : List Addr) (n : Nat) (L : List Dt) (Q : PV → Sto → Prop) : Prop :=
  ∀ σ' rs' L', Full σ' a ca st r rs' n L' → L'.length ≤ L.length + 1 → Frm (ca :: st :: r :: rs) σ σ' → (∀ y ∈ rs', y ∈ rs ∨ σ y = none) → Q (.bool true) σ'
theorem Left.same {σ' : Sto} (F : Full σ a ca st r rs n L) (h : Left σ a ca st r rs n L Q) (x : Ext σ σ') : Q (.bool true) σ' := h σ' rs L (F.ext x) (Nat.le_succ _) x.frm fun y hy => .inl hy
theorem ow_rest {x y z cell : Int} (F : Full σ a ca st r rs n L) (hL : L.length < 100) (hd : IsDebt n (.int x) (.int y) (.int z)) (e0 : ρ "_law_cell" = some (.int cell)) (e7 : ρ "_law_count" = some (.int (n : Nat))) (e1 : ρ "_law_day" = some (.ref a)) (e2 : ρ "_law_rows" = some (.ref r)) (e3 : ρ "_law_debtor" = some (.int x)) (e4 : ρ "_law_creditor" = some (.int y)) (e5 : ρ "_law_amount" = some (.int z))
    (hq : Left σ a ca st r rs n L Q) : ow4 ρ σ (funQ Q) (funX X) := by
  refine i_seq (i_set ?_)
  walk_at "ex"
  refine i_lenm F.rows.rows (by rw [F.rows.len]; omega) ?_
  rw [F.rows.len]
  refine i_seq (i_if ?_)
  walk_at "ex"
  refine ite_d (fun yes => ?_) fun no => ?_
  · walk_at "ev"
    have hf : 0 ≤ cell / 3240 % 1000003 := Int.emod_nonneg _ (by decide)
    generalize cell / 3240 % 1000003 = far at hf
    intro w1 h1
    generalize z1 : upd σ w1 _ = s1
    obtain ⟨x1, u1⟩ := al z1 h1
    walk_at "ev"
    intro w2 h2
    generalize z2 : upd s1 w2 _ = s2
    obtain ⟨x2, u2⟩ := al z2 h2
    walk_at "ev"
    refine a_cat2 (x2 _ _ u1) u2 (Nat.le_of_ble_eq_true rfl) fun w3 s3 x3 u3 => ?_
    walk_at "ev"
    intro w4 h4
    generalize z4 : upd s3 w4 _ = s4
    obtain ⟨x4, u4⟩ := al z4 h4
    walk_at "ev"
    refine a_cat2 (x4 _ _ u3) u4 (Nat.le_of_ble_eq_true rfl) fun w5 s5 x5 u5 => ?_
    walk_at "ev"
    intro w6 h6
    generalize z6 : upd s5 w6 _ = s6
    obtain ⟨x6, u6⟩ := al z6 h6
    walk_at "ev"
    refine a_cat2 (x6 _ _ u5) u6 (Nat.le_of_ble_eq_true rfl) fun w7 s7 x7 u7 => ?_
    walk_at "ev"
    intro w8 h8
    generalize z8 : upd s7 w8 _ = s8
    obtain ⟨x8, u8⟩ := al z8 h8
    walk_at "ev"
    refine a_cat2 (x8 _ _ u7) u8 (Nat.le_of_ble_eq_true rfl) fun w9 s9 x9 u9 => ?_
    walk_at "ev"
    have u9 : s9 w9 = some (.list (oddL n x y z far)) := u9
    have hc0 : 0 ≤ cell / 540 % 16 := Int.emod_nonneg _ (by decide)
    have hc9 : cell / 540 % 16 < 16 := Int.emod_lt_of_pos _ (by decide)
    generalize cell / 540 % 16 = m at hc0 hc9
    obtain ⟨j, rfl⟩ := Int.eq_ofNat_of_zero_le hc0
    obtain ⟨p, hp, q1, q2, q3, rfl, t1, t2, t3, hb⟩ := odd_no (n := n) (x := x) (y := y) (z := z) hf (j := j) (by omega)
    refine i_getk u9 (by omega) hp ?_
    refine ⟨_, rfl, rfl, ?_⟩
    dsimp only [bindP]
    refine i_seq (i_set (i_const (i_nil ?_)))
    have xa := x1.trans (x2.trans (x3.trans (x4.trans (x5.trans (x6.trans (x7.trans (x8.trans x9)))))))
    exact ow_bad (F.ext xa) hL (t1 _) (t2 _) (t3 _) hb (by walk_at "nm") (by walk_at "nm") (by walk_at "nm") (by walk_at "nm") (by walk_at "nm") fun σ' x' => hq.same F (xa.trans x')
  · refine i_nil ?_
    exact ow_good F hL hd (by walk_at "nm") (by walk_at "nm") (by walk_at "nm") (by walk_at "nm") (by walk_at "nm") (by walk_at "nm") fun σ' rs' F' f' g' => hq σ' rs' _ F' (by rw [List.length_append]; exact Nat.le_refl _) f' g'
theorem p_owed {cell : Int} (F : Full σ a ca st r rs n L) (hL : L.length < 100) (h2 : 2 ≤ n) (hq : Left σ a ca st r rs n L Q) : T_law_owed [.ref a, .ref r, .int (n : Nat), .int cell] σ Q X := by
  unfold T_law_owed tb_law_owed
  refine i_fun4 (i_seq (i_set ?_))
  walk_at "ex"
  refine i_modp (by omega) ?_
  have d0 : 0 ≤ cell / 6 % (n : Int) := Int.emod_nonneg _ (by omega)
  have d1 : cell / 6 % (n : Int) < n := Int.emod_lt_of_pos _ (by omega)
  generalize cell / 6 % (n : Int) = x at d0 d1
  refine i_seq (i_set ?_)
  walk_at "ex"
  refine i_modp (by omega) ?_
  walk_at "ex"
  refine i_modp (by omega) ?_
  have c0 : 0 ≤ cell / 36 % ((n : Int) - 1) := Int.emod_nonneg _ (by omega)
  have c1 : cell / 36 % ((n : Int) - 1) < n - 1 := Int.emod_lt_of_pos _ (by omega)
  generalize cell / 36 % ((n : Int) - 1) = k at c0 c1
  have y0 : 0 ≤ (x + 1 + k) % (n : Int) := Int.emod_nonneg _ (by omega)
  have y1 : (x + 1 + k) % (n : Int) < n := Int.emod_lt_of_pos _ (by omega)
  have y2 : (x + 1 + k) % (n : Int) ≠ x := by rw [Int.add_assoc]; exact shift_ne d0 d1 (by omega) (by omega)
  generalize (x + 1 + k) % (n : Int) = y at y0 y1 y2
  refine i_seq (i_set ?_)
  walk_at "ex"
  refine i_seq (i_if ?_)
  walk_at "ex"
  refine ite_d (fun yes => ?_) fun no => ?_
  · refine i_seq (i_set ?_)
    walk_at "ex"
    refine i_nil ?_
    exact ow_rest F hL ⟨x, y, _, rfl, rfl, rfl, ⟨d0, d1⟩, ⟨y0, y1⟩, Ne.symm y2, am_le (c := 1000000000) (by decide) (by decide)⟩ (by walk_at "nm") (by walk_at "nm") (by walk_at "nm") (by walk_at "nm") (by walk_at "nm") (by walk_at "nm") (by walk_at "nm") hq
  · refine i_nil ?_
    exact ow_rest F hL ⟨x, y, _, rfl, rfl, rfl, ⟨d0, d1⟩, ⟨y0, y1⟩, Ne.symm y2, am_le (c := 3) (by decide) (by decide)⟩ (by walk_at "nm") (by walk_at "nm") (by walk_at "nm") (by walk_at "nm") (by walk_at "nm") (by walk_at "nm") (by walk_at "nm") hq
end

theorem p_whole' {p : PV} {σ : Sto} {Q : PV → Sto → Prop} {X : Addr → Sto → Prop} (h : Told σ p) (h1 : ∀ i, p = .int i → Q (.bool true) σ) (h2 : (∀ i, p ≠ .int i) → Q (.bool false) σ) : T_law_whole [p] σ Q X := by
  obtain ⟨ty, ht, hx⟩ := h
  have key : Q (.bool (match ty with | .int => true | _ => false)) σ → T_law_whole [p] σ Q X := fun hq => by
    unfold T_law_whole tb_law_whole
    refine i_fun1 ?_
    walk_at "ev"
    cases ty with
    | exc c => exact absurd rfl (hx c)
    | int => exact ⟨_, _, ht, rfl, _, _, ht, rfl, hq⟩
    | bool => exact ⟨_, _, ht, rfl, _, _, ht, rfl, hq⟩
    | _ => exact ⟨_, _, ht, rfl, hq⟩
  refine key ?_
  cases p with
  | int i => cases ht; exact h1 i rfl
  | none => cases ht; exact h2 fun i e => by cases e
  | bool b => cases ht; exact h2 fun i e => by cases e
  | str b => cases ht; exact h2 fun i e => by cases e
  | tup b => cases ht; exact h2 fun i e => by cases e
  | lst a b => cases ht; exact h2 fun i e => by cases e
  | exc a b => cases ht; exact absurd rfl (hx b)
  | rng a b => cases ht
  | ref a =>
    have := h2 fun i e => by cases e
    unfold tyOf at ht
    dsimp only at ht
    split at ht
    · cases ht; exact this
    · cases ht; exact this
    · cases ht
theorem i_nes {σ : Sto} {x y : Str} {k : Bool → Prop} (h : k (!decide (x = y))) : cmpP .NotEq σ (.str x) (.str y) k := .inr (.inl ⟨x, y, rfl, rfl, h⟩)
theorem set_map {α β : Type} {f : α → β} {L : List α} {i : Nat} {t u : α} (h : L[i]? = some u) (e : f t = f u) : (L.set i t).map f = L.map f := by
  rw [List.map_set, e]
  apply List.ext_getElem?
  intro k
  rw [List.getElem?_set]
  by_cases hk : i = k
  · subst hk
    rw [List.getElem?_map, h]
    have : i < L.length := (List.getElem?_eq_some_iff.mp h).1
    simp [this]
  · rw [if_neg hk]
theorem gt_set {L : List Dt} {i k : Nat} {t : Dt} (h : i < L.length) : gt (L.set i t) k = if i = k then t else gt L k := by
  unfold gt
  rw [List.getD, List.getElem?_set]
  by_cases hk : i = k
  · subst hk; rw [if_pos rfl, if_pos rfl, if_pos h]; rfl
  · rw [if_neg hk, if_neg hk]; rfl
noncomputable abbrev pa10 : TS := tSeq (tRet (tAndE (tCall (tEcons (tName "_law_found") (tEnil)) T_law_whole) (tCmp .Eq (tName "_law_found") (tBin .Sub (tName "_law_much") (tName "_law_amount"))))) tNil
noncomputable abbrev pa9 : TS := tSeq (tStore (tItem (tName "_law_rows") (tName "_law_number")) (tConst (.int 2)) (tBin .Sub (tName "_law_much") (tName "_law_amount"))) pa10
noncomputable abbrev pa8 : TS := tSeq (tIf (tCmpB .NotEq (tName "_law_due") (tConst (.str ""))) (tSeq (tRet (tConst (.bool false))) (tNil)) (tNil)) pa9
noncomputable abbrev pa7 : TS := tSeq (tTry "_law_error" exCls (tSeq (tSet "_law_found" (tMethC c_Day_10 "pay" T_Day_pay (tName "_law_day") (tEcons (tName "_law_number") (tEcons (tName "_law_amount") (tEnil))))) (tNil)) (tSeq (tRet (tCmp .Eq (tCall (tEcons (tName "_law_error") (tEnil)) T_law_kind) (tName "_law_due"))) (tNil))) pa8
noncomputable abbrev pa6 : TS := tSeq (tIf (tOr (tNot (tTest (tCall (tEcons (tName "_law_number") (tEnil)) T_law_whole))) (tOr (tNot (tChainB .LtE .Lt (tConst (.int 0)) (tName "_law_number") (tCall (tEcons (tName "_law_rows") (tEnil)) lenF))) (tFalse))) (tSeq (tSet "_law_due" (tConst (.str "number"))) (tNil)) (tSeq (tIf (tOr (tNot (tTest (tCall (tEcons (tName "_law_amount") (tEnil)) T_law_whole))) (tOr (tNot (tChainB .LtE .LtE (tConst (.int 1)) (tName "_law_amount") (tName "_law_much"))) (tFalse))) (tSeq (tSet "_law_due" (tConst (.str "amount"))) (tNil)) (tNil)) (tNil))) pa7
noncomputable abbrev pa5 : TS := tSeq (tSet "_law_due" (tConst (.str ""))) pa6
noncomputable abbrev pa4 : TS := tSeq (tSet "_law_amount" (tItem (tList (tEcons (tBin .Add (tConst (.int 1)) (tBin .Mod (tBin .FloorDiv (tName "_law_cell") (tConst (.int 420))) (tConst (.int 3)))) (tEcons (tName "_law_much") (tEcons (tBin .Add (tName "_law_much") (tConst (.int 1))) (tEcons (tConst (.int 0)) (tEcons (tConst (.bool true)) (tEcons (tConst (.str "1")) (tEcons (tNeg (tConst (.int 1))) (tEcons (tBin .Add (tBin .Pow (tConst (.int 10)) (tConst (.int 30))) (tName "_law_much")) (tEnil)))))))))) (tBin .Mod (tBin .FloorDiv (tName "_law_cell") (tConst (.int 49))) (tConst (.int 8))))) pa5
noncomputable abbrev pa3 : TS := tSeq (tIf (tAnd (tTest (tCall (tEcons (tName "_law_number") (tEnil)) T_law_whole)) (tAnd (tChainB .LtE .Lt (tConst (.int 0)) (tName "_law_number") (tCall (tEcons (tName "_law_rows") (tEnil)) lenF)) (tTrue))) (tSeq (tSet "_law_much" (tItem (tItem (tName "_law_rows") (tName "_law_number")) (tConst (.int 2)))) (tNil)) (tNil)) pa4
noncomputable abbrev pa2 : TS := tSeq (tSet "_law_much" (tConst (.int 0))) pa3
section
variable {n : Nat} {L : List Dt} {a ca st r : Addr} {rs : List Addr} {ρ : Env'} {σ : Sto} {Q : PV → Sto → Prop} {X : Addr → Sto → Prop}
/-- no number of a debt -/
noncomputable def NoNum (L : List Dt) (p : PV) : Prop := ∀ i, p = .int i → ¬ (0 ≤ i ∧ i < L.length)
theorem pa_num_bad {p q : PV} (F : Full σ a ca st r rs n L) (hp : Told σ p) (hq' : Told σ q) (hb : NoNum L p) (e1 : ρ "_law_day" = some (.ref a)) (e3 : ρ "_law_number" = some p) (e4 : ρ "_law_amount" = some q) (e6 : ρ "_law_due" = some (.str "number"))
    (hq : ∀ σ', Ext σ σ' → Q (.bool true) σ') : pa7 ρ σ (funQ Q) (funX X) := by
  walk_at "ev"
  refine ⟨⟨a, _, rfl, F.day.inst, noM.2.2.2.1⟩, ?_⟩
  walk_at "ev"
  refine p_pay F.day hp hq' (fun i m k1 k2 k3 k4 _ _ => absurd ⟨k3, k4⟩ (hb i k1)) (fun _ => ?_) fun i k1 k2 k3 _ => absurd ⟨k2, k3⟩ (hb i k1)
  refine ⟨by decide, fun e he => ?_⟩
  walk_at "ev"
  refine p_kind_number fun σ' x => ?_
  walk_at "ev"
  exact hq σ' x
theorem pa_am_bad {i : Nat} {q : PV} (F : Full σ a ca st r rs n L) (hi : i < L.length) (hq' : Told σ q) (hb : ∀ m, q = .int m → ¬ (1 ≤ m ∧ m ≤ (gt L i).rest)) (e1 : ρ "_law_day" = some (.ref a)) (e3 : ρ "_law_number" = some (.int (i : Nat))) (e4 : ρ "_law_amount" = some q) (e6 : ρ "_law_due" = some (.str "amount"))
    (hq : ∀ σ', Ext σ σ' → Q (.bool true) σ') : pa7 ρ σ (funQ Q) (funX X) := by
  have hr : rst L (i : Int).toNat = (gt L i).rest := by rw [Int.toNat_natCast]; exact rst_gt hi
  walk_at "ev"
  refine ⟨⟨a, _, rfl, F.day.inst, noM.2.2.2.1⟩, ?_⟩
  walk_at "ev"
  refine p_pay F.day told_int hq' (fun j m k1 k2 k3 k4 k5 k6 => ?_) (fun k => absurd ⟨Int.natCast_nonneg _, Int.ofNat_lt.mpr hi⟩ (k _ rfl)) fun j k1 k2 k3 _ => ?_
  · cases k1
    rw [hr] at k6
    exact absurd ⟨k5, k6⟩ (hb m k2)
  refine ⟨by decide, fun e he => ?_⟩
  walk_at "ev"
  refine p_kind_amount fun σ' x => ?_
  walk_at "ev"
  exact hq σ' x
theorem Full.paid {i : Nat} {m : Int} {x : Addr} (F : Full σ a ca st r rs n L) (hi : i < L.length) (hm : m ≤ (gt L i).rest) (hx : rs[i]? = some x) :
    Full (upd (upd σ st (.list (((L.map Dt.rest).set i ((gt L i).rest - m)).map .int))) x (.list [.int (gt L i).d, .int (gt L i).c, .int ((gt L i).rest - m)])) a ca st r rs n (L.set i ⟨(gt L i).d, (gt L i).c, (gt L i).am, (gt L i).rest - m⟩) := by
  obtain ⟨n1, n2, n3, n4⟩ := nd_ne F.nd
  have hxm : x ∈ rs := List.mem_of_getElem? hx
  obtain ⟨x1, x2, x3⟩ := n4 x hxm
  have hrow := F.rows.row i x hx
  have hrow1 := upd_other (o := .list (((L.map Dt.rest).set i ((gt L i).rest - m)).map .int)) x2 hrow
  refine ⟨⟨(F.day.inst.put (D_still F.day)).put hrow1, ?_, ?_, F.day.ne, by rw [List.length_set]; exact F.day.len⟩, ⟨?_, by rw [List.length_set]; exact F.rows.len, ?_⟩, ?_, F.nd⟩
  · rw [set_map (f := cameP) (t := ⟨(gt L i).d, (gt L i).c, (gt L i).am, (gt L i).rest - m⟩) (gt_get hi) rfl]
    exact upd_other (Ne.symm x1) (upd_other n1 F.day.came)
  · refine upd_other (Ne.symm x2) ?_
    rw [upd_same, List.map_set, List.map_set, List.map_map]
    rfl
  · exact upd_other (Ne.symm x3) (upd_other (Ne.symm n3) F.rows.rows)
  · intro k y hk
    rw [gt_set hi]
    have hnd : rs.Nodup := by
      have := F.nd
      rw [List.nodup_cons, List.nodup_cons, List.nodup_cons] at this
      exact this.2.2.2
    by_cases h : i = k
    · subst h
      rw [if_pos rfl]
      rw [hx] at hk
      cases hk
      exact upd_same
    · rw [if_neg h]
      have hy : y ≠ x := by
        rintro rfl
        exact h ((List.getElem?_inj (by rw [F.rows.len]; exact hi) hnd).mp (by rw [hx, hk]))
      have hym : y ∈ rs := List.mem_of_getElem? hk
      exact upd_other hy (upd_other (n4 y hym).2.1 (F.rows.row k y hk))
  · intro t ht
    rcases List.mem_or_eq_of_mem_set ht with h | h
    · exact F.good t h
    · have := F.good (gt L i) (List.mem_of_getElem? (gt_get hi))
      subst h
      exact ⟨this.1, this.2.1, by show 0 ≤ (gt L i).rest - m; omega⟩
theorem pa_good {i : Nat} {m : Int} (F : Full σ a ca st r rs n L) (hi : i < L.length) (hm1 : 1 ≤ m) (hm : m ≤ (gt L i).rest) (e1 : ρ "_law_day" = some (.ref a)) (e2 : ρ "_law_rows" = some (.ref r)) (e3 : ρ "_law_number" = some (.int (i : Nat))) (e4 : ρ "_law_amount" = some (.int m)) (e5 : ρ "_law_much" = some (.int (gt L i).rest)) (e6 : ρ "_law_due" = some (.str ""))
    (hq : Left σ a ca st r rs n L Q) : pa7 ρ σ (funQ Q) (funX X) := by
  obtain ⟨n1, n2, n3, n4⟩ := nd_ne F.nd
  have hr : rst L (i : Int).toNat = (gt L i).rest := by rw [Int.toNat_natCast]; exact rst_gt hi
  obtain ⟨x, hx⟩ : ∃ x, rs[i]? = some x := ⟨_, List.getElem?_eq_getElem (by rw [F.rows.len]; exact hi)⟩
  have hxm : x ∈ rs := List.mem_of_getElem? hx
  have hll := F.day.len
  walk_at "ev"
  refine ⟨⟨a, _, rfl, F.day.inst, noM.2.2.2.1⟩, ?_⟩
  walk_at "ev"
  refine p_pay F.day told_int told_int (fun j m' k1 k2 k3 k4 k5 k6 => ?_) (fun k => absurd ⟨Int.natCast_nonneg _, Int.ofNat_lt.mpr hi⟩ (k _ rfl)) fun j k1 k2 k3 k => ?_
  · cases k1; cases k2
    rw [hr, Int.toNat_natCast]
    walk_at "ev"
    refine i_nes ?_
    refine ite_nd (fun k => absurd rfl k) fun _ => ?_
    walk_at "ev"
    refine i_getk (upd_other (Ne.symm n3) F.rows.rows) (by omega) (x := .ref x) (by rw [List.getElem?_map, hx]; rfl) ?_
    walk_at "ev"
    refine i_setP (by decide) (upd_other (n4 x hxm).2.1 (F.rows.row i x hx)) (by show (2 : Int) < ((3 : Nat) : Int); decide) (Nat.le_of_ble_eq_true rfl) ?_
    have F' := F.paid hi hm hx
    walk_at "ev"
    refine p_whole ?_
    walk_at "ev"
    rw [decide_eq_true rfl]
    refine hq _ rs _ F' (by rw [List.length_set]; exact Nat.le_succ _) (fun b o h hb => ?_) fun y hy => .inl hy
    simp only [List.mem_cons, not_or] at hb
    exact upd_other (by rintro rfl; exact hb.2.2.2 hxm) (upd_other hb.2.1 h)
  · cases k1
    rw [hr] at k
    exact absurd ⟨hm1, hm⟩ (k m rfl)
theorem pa_due {p q : PV} {z : Int} (F : Full σ a ca st r rs n L) (hp : Told σ p) (hq' : Told σ q) (hz : NoNum L p ∨ ∃ i : Nat, p = .int (i : Nat) ∧ i < L.length ∧ z = (gt L i).rest) (e1 : ρ "_law_day" = some (.ref a)) (e2 : ρ "_law_rows" = some (.ref r)) (e3 : ρ "_law_number" = some p) (e4 : ρ "_law_amount" = some q) (e5 : ρ "_law_much" = some (.int z))
    (hq : Left σ a ca st r rs n L Q) : pa5 ρ σ (funQ Q) (funX X) := by
  have hll := F.day.len
  have hrl := F.rows.len
  have bad : ∀ ρ', ρ' "_law_day" = some (.ref a) → ρ' "_law_number" = some p → ρ' "_law_amount" = some q → ρ' "_law_due" = some (.str "number") → NoNum L p → pa7 ρ' σ (funQ Q) (funX X) := fun ρ' g1 g2 g3 g4 hn => pa_num_bad F hp hq' hn g1 g2 g3 g4 fun σ' x => hq.same F x
  refine i_seq (i_set (i_const ?_))
  refine i_seq (i_if ?_)
  walk_at "ex"
  refine p_whole' hp (fun i e => ?_) fun hn => ?_
  · subst e
    refine ite_nf ?_
    walk_at "ex"
    refine ite_d (fun y => ?_) fun y => ?_
    · walk_at "ex"
      refine i_lenm F.rows.rows (by omega) ?_
      walk_at "ex"
      refine ite_nd (fun z' => ?_) fun z' => ?_
      · refine ite_t (i_seq (i_set (i_const (i_nil ?_))))
        exact bad _ (by walk_at "nm") (by walk_at "nm") (by walk_at "nm") (by walk_at "nm") fun j e => by cases e; exact fun w => z' (by rw [hrl]; exact w.2)
      · rcases hz with hb | ⟨k, e, hk, rfl⟩
        · exact absurd ⟨y, by rw [hrl] at z'; exact z'⟩ (hb i rfl)
        cases e
        refine i_false (ite_f ?_)
        refine i_seq (i_if ?_)
        walk_at "ex"
        have am : ∀ ρ', ρ' "_law_day" = some (.ref a) → ρ' "_law_number" = some (.int (k : Nat)) → ρ' "_law_amount" = some q → ρ' "_law_due" = some (.str "amount") → (∀ m, q = .int m → ¬ (1 ≤ m ∧ m ≤ (gt L k).rest)) → pa7 ρ' σ (funQ Q) (funX X) := fun ρ' g1 g2 g3 g4 hn => pa_am_bad F hk hq' hn g1 g2 g3 g4 fun σ' x => hq.same F x
        refine p_whole' hq' (fun m e => ?_) fun hn => ?_
        · subst e
          refine ite_nf ?_
          walk_at "ex"
          refine ite_d (fun y1 => ?_) fun y1 => ?_
          · walk_at "ex"
            refine ite_nd (fun y2 => ?_) fun y2 => ?_
            · refine ite_t (i_seq (i_set (i_const (i_nil (i_nil ?_)))))
              exact am _ (by walk_at "nm") (by walk_at "nm") (by walk_at "nm") (by walk_at "nm") fun j e => by cases e; exact fun w => y2 w.2
            · refine i_false (ite_f (i_nil (i_nil ?_)))
              exact pa_good F hk y1 y2 (by walk_at "nm") (by walk_at "nm") (by walk_at "nm") (by walk_at "nm") (by walk_at "nm") (by walk_at "nm") hq
          · refine ite_nt (ite_t ?_)
            refine i_seq (i_set (i_const (i_nil (i_nil ?_))))
            exact am _ (by walk_at "nm") (by walk_at "nm") (by walk_at "nm") (by walk_at "nm") fun j e => by cases e; exact fun w => y1 w.1
        · refine ite_nt (ite_t ?_)
          refine i_seq (i_set (i_const (i_nil (i_nil ?_))))
          exact am _ (by walk_at "nm") (by walk_at "nm") (by walk_at "nm") (by walk_at "nm") fun j e => absurd e (hn j)
    · refine ite_nt (ite_t ?_)
      refine i_seq (i_set (i_const (i_nil ?_)))
      exact bad _ (by walk_at "nm") (by walk_at "nm") (by walk_at "nm") (by walk_at "nm") fun j e => by cases e; exact fun w => y w.1
  · refine ite_nt (ite_t ?_)
    refine i_seq (i_set (i_const (i_nil ?_)))
    exact bad _ (by walk_at "nm") (by walk_at "nm") (by walk_at "nm") (by walk_at "nm") fun j e => absurd e (hn j)
theorem pa_am {p : PV} {z cell : Int} (F : Full σ a ca st r rs n L) (hp : Told σ p) (hz : NoNum L p ∨ ∃ i : Nat, p = .int (i : Nat) ∧ i < L.length ∧ z = (gt L i).rest) (e0 : ρ "_law_cell" = some (.int cell)) (e1 : ρ "_law_day" = some (.ref a)) (e2 : ρ "_law_rows" = some (.ref r)) (e3 : ρ "_law_number" = some p) (e5 : ρ "_law_much" = some (.int z))
    (hq : Left σ a ca st r rs n L Q) : pa4 ρ σ (funQ Q) (funX X) := by
  refine i_seq (i_set ?_)
  walk_at "ex"
  intro w1 h1
  generalize z1 : upd σ w1 _ = s1
  obtain ⟨x1, u1⟩ := al z1 h1
  walk_at "ex"
  have hc0 : 0 ≤ cell / 49 % 8 := Int.emod_nonneg _ (by decide)
  have hc9 : cell / 49 % 8 < 8 := Int.emod_lt_of_pos _ (by decide)
  generalize cell / 49 % 8 = m at hc0 hc9
  obtain ⟨j, rfl⟩ := Int.eq_ofNat_of_zero_le hc0
  generalize cell / 420 % 3 = c3 at u1
  generalize (10 : Int) ^ Int.toNat 30 = big at u1
  obtain ⟨q, hq', tq⟩ := eight (P := fun j => ∃ q, [PV.int (1 + c3), .int z, .int (z + 1), .int 0, .bool true, .str "1", .int (-1), .int (big + z)][j]? = some q ∧ ∀ σ, Told σ q)
    ⟨_, rfl, ti⟩ ⟨_, rfl, ti⟩ ⟨_, rfl, ti⟩ ⟨_, rfl, ti⟩ ⟨_, rfl, tb'⟩ ⟨_, rfl, ts'⟩ ⟨_, rfl, ti⟩ ⟨_, rfl, ti⟩ (j := j) (by omega)
  refine i_getk u1 (by omega) hq' ?_
  have hq2 : Left s1 a ca st r rs n L Q := fun σ' rs' L' F' l' f' g' => hq σ' rs' L' F' l' (fun b o h hb => f' b o (x1 _ _ h) hb) fun y hy => (g' y hy).imp id fun h => x1.back h
  exact pa_due (F.ext x1) (hp.ext x1) (tq _) hz (by walk_at "nm") (by walk_at "nm") (by walk_at "nm") (by walk_at "nm") (by walk_at "nm") hq2
theorem pa_much {p : PV} {cell : Int} (F : Full σ a ca st r rs n L) (hp : Told σ p) (e0 : ρ "_law_cell" = some (.int cell)) (e1 : ρ "_law_day" = some (.ref a)) (e2 : ρ "_law_rows" = some (.ref r)) (e3 : ρ "_law_number" = some p)
    (hq : Left σ a ca st r rs n L Q) : pa2 ρ σ (funQ Q) (funX X) := by
  have hll := F.day.len
  have hrl := F.rows.len
  refine i_seq (i_set (i_const (i_seq (i_if ?_))))
  walk_at "ex"
  refine p_whole' hp (fun i e => ?_) fun hn => ?_
  · subst e
    dsimp only
    refine ite_t ?_
    walk_at "ex"
    refine ite_d (fun y => ?_) fun y => ?_
    · walk_at "ex"
      refine i_lenm F.rows.rows (by omega) ?_
      walk_at "ex"
      refine ite_d (fun z' => ?_) fun z' => ?_
      · obtain ⟨k, rfl⟩ := Int.eq_ofNat_of_zero_le y
        have hk : k < L.length := by rw [← hrl]; exact Int.ofNat_lt.mp z'
        obtain ⟨x, hx⟩ : ∃ x, rs[k]? = some x := ⟨_, List.getElem?_eq_getElem (by rw [hrl]; exact hk)⟩
        refine i_true (ite_t (i_seq (i_set ?_)))
        walk_at "ex"
        refine i_getk F.rows.rows (by omega) (x := .ref x) (by rw [List.getElem?_map, hx]; rfl) ?_
        walk_at "ex"
        refine i_get (by decide) (by decide) (items_ref (F.rows.row k x hx)) trivial rfl ?_
        refine i_nil ?_
        exact pa_am F hp (.inr ⟨k, rfl, hk, rfl⟩) (by walk_at "nm") (by walk_at "nm") (by walk_at "nm") (by walk_at "nm") (by walk_at "nm") hq
      · refine ite_f (i_nil ?_)
        exact pa_am F hp (.inl fun j e => by cases e; exact fun w => z' (by rw [hrl]; exact w.2)) (by walk_at "nm") (by walk_at "nm") (by walk_at "nm") (by walk_at "nm") (by walk_at "nm") hq
    · refine ite_f (ite_f (i_nil ?_))
      exact pa_am F hp (.inl fun j e => by cases e; exact fun w => y w.1) (by walk_at "nm") (by walk_at "nm") (by walk_at "nm") (by walk_at "nm") (by walk_at "nm") hq
  · refine ite_f (ite_f (i_nil ?_))
    exact pa_am F hp (.inl fun j e => absurd e (hn j)) (by walk_at "nm") (by walk_at "nm") (by walk_at "nm") (by walk_at "nm") (by walk_at "nm") hq
theorem Left.ext {σ' : Sto} (x : Ext σ σ') (hq : Left σ a ca st r rs n L Q) : Left σ' a ca st r rs n L Q := fun σ'' rs' L' F' l' f' g' => hq σ'' rs' L' F' l' (fun b o h hb => f' b o (x _ _ h) hb) fun y hy => (g' y hy).imp id fun h => x.back h
theorem p_paid {cell : Int} (F : Full σ a ca st r rs n L) (hq : Left σ a ca st r rs n L Q) : T_law_paid [.ref a, .ref r, .int cell] σ Q X := by
  have hll := F.day.len
  have hrl := F.rows.len
  unfold T_law_paid tb_law_paid
  refine i_fun3 (i_seq (i_set ?_))
  walk_at "ex"
  refine i_lenm F.rows.rows (by omega) ?_
  walk_at "ex"
  refine i_lenm F.rows.rows (by omega) ?_
  walk_at "ex"
  intro w1 h1
  generalize z1 : upd σ w1 _ = s1
  obtain ⟨x1, u1⟩ := al z1 h1
  walk_at "ex"
  have hc0 : 0 ≤ cell / 7 % 7 := Int.emod_nonneg _ (by decide)
  have hc9 : cell / 7 % 7 < 7 := Int.emod_lt_of_pos _ (by decide)
  generalize cell / 7 % 7 = m at hc0 hc9
  obtain ⟨j, rfl⟩ := Int.eq_ofNat_of_zero_le hc0
  generalize cell / 49 % 999 = c3 at u1
  obtain ⟨p, hp, tp⟩ := seven (P := fun j => ∃ q, [PV.int (rs.length : Nat), .int (-1), .bool true, .none, .str "0", .bool false, .int ((rs.length : Nat) + 1 + c3)][j]? = some q ∧ ∀ σ, Told σ q)
    ⟨_, rfl, ti⟩ ⟨_, rfl, ti⟩ ⟨_, rfl, tb'⟩ ⟨_, rfl, tn'⟩ ⟨_, rfl, ts'⟩ ⟨_, rfl, tb'⟩ ⟨_, rfl, ti⟩ (j := j) (by omega)
  refine i_getk u1 (by omega) hp ?_
  have F1 := F.ext x1
  have hq1 := hq.ext x1
  refine i_seq (i_if ?_)
  walk_at "ex"
  refine ite_d (fun y => ?_) fun y => ?_
  · walk_at "ex"
    refine i_lenm F1.rows.rows (by omega) ?_
    walk_at "ex"
    refine ite_d (fun y1 => ?_) fun y1 => ?_
    · refine i_true (ite_t (i_seq (i_set ?_)))
      walk_at "ex"
      refine i_lenm F1.rows.rows (by omega) ?_
      refine i_modp (by omega) ?_
      refine i_nil ?_
      exact pa_much F1 told_int (by walk_at "nm") (by walk_at "nm") (by walk_at "nm") (by walk_at "nm") hq1
    · refine ite_f (i_nil ?_)
      exact pa_much F1 (tp _) (by walk_at "nm") (by walk_at "nm") (by walk_at "nm") (by walk_at "nm") hq1
  · refine ite_f (i_nil ?_)
    exact pa_much F1 (tp _) (by walk_at "nm") (by walk_at "nm") (by walk_at "nm") (by walk_at "nm") hq1
end

structure Dy where
  a : Addr
  ca : Addr
  st : Addr
  r : Addr
  n : Nat
  rs : List Addr
  L : List Dt
noncomputable abbrev Dy.foot (d : Dy) : List Addr := d.ca :: d.st :: d.r :: d.rs
noncomputable abbrev Dy.At (d : Dy) (σ : Sto) : Prop := Full σ d.a d.ca d.st d.r d.rs d.n d.L
noncomputable abbrev Dy.to (d : Dy) (rs : List Addr) (L : List Dt) : Dy := { d with rs := rs, L := L }
/-- a pair that the law holds -/
noncomputable def HeldP (φ : Sto) (p : PV) : Prop := ∃ x y L, p = .tup [.ref x, .ref y] ∧ φ x = some (.list (stand L)) ∧ φ y = some (.list (stand L))
section
variable {n : Nat} {L : List Dt} {a ca st r : Addr} {rs : List Addr} {σ σ' φ : Sto} {hl : Addr} {H : List PV} {d e : Dy}
theorem Full.lists (F : Full σ a ca st r rs n L) : ∀ x ∈ ca :: st :: r :: rs, ∃ xs, σ x = some (.list xs) := by
  intro x hx
  simp only [List.mem_cons] at hx
  rcases hx with rfl | rfl | rfl | hx
  · exact ⟨_, F.day.came⟩
  · exact ⟨_, F.day.still⟩
  · exact ⟨_, F.rows.rows⟩
  · obtain ⟨k, hk⟩ := List.mem_iff_getElem?.mp hx
    exact ⟨_, F.rows.row k x hk⟩
theorem Full.frm {S : List Addr} (F : Full σ a ca st r rs n L) (f : Frm S σ σ') (hS : ∀ x ∈ S, ∃ xs, σ x = some (.list xs)) (hd : ∀ x ∈ ca :: st :: r :: rs, x ∉ S) : Full σ' a ca st r rs n L := by
  have k : ∀ x o, x ∈ ca :: st :: r :: rs → σ x = some o → σ' x = some o := fun x o hx h => f x o h (hd x hx)
  have raw : ∀ x o, σ x = some (.raw o) → σ' x = some (.raw o) := fun x o h => f x _ h fun hx => by
    obtain ⟨xs, e⟩ := hS x hx; rw [h] at e; cases e
  obtain ⟨d, od, h1, h2, h3⟩ := F.day.inst
  exact ⟨⟨⟨d, od, raw _ _ h1, raw _ _ h2, h3⟩, k _ _ (.head _) F.day.came, k _ _ (.tail _ (.head _)) F.day.still, F.day.ne, F.day.len⟩, ⟨k _ _ (.tail _ (.tail _ (.head _))) F.rows.rows, F.rows.len, fun j y e => k _ _ (.tail _ (.tail _ (.tail _ (List.mem_of_getElem? e)))) (F.rows.row j y e)⟩, F.good, F.nd⟩
structure World (σ φ : Sto) (hl : Addr) (H : List PV) (d e : Dy) : Prop where
  f0 : d.At σ
  f1 : e.At σ
  apart : ∀ x ∈ d.foot, x ∉ e.foot
  fix : ∀ b o, φ b = some o → σ b = some o ∧ b ∉ d.foot ∧ b ∉ e.foot
  hs : σ hl = some (.list H)
  ho : φ hl = none
  h0 : hl ∉ d.foot
  h1 : hl ∉ e.foot
  held : ∀ p ∈ H, HeldP φ p
theorem World.swap (W : World σ φ hl H d e) : World σ φ hl H e d := ⟨W.f1, W.f0, fun x hx hy => W.apart x hy hx, fun b o h => ⟨(W.fix b o h).1, (W.fix b o h).2.2, (W.fix b o h).2.1⟩, W.hs, W.ho, W.h1, W.h0, W.held⟩
theorem World.ext (W : World σ φ hl H d e) (x : Ext σ σ') : World σ' φ hl H d e := ⟨W.f0.ext x, W.f1.ext x, W.apart, fun b o h => ⟨x _ _ (W.fix b o h).1, (W.fix b o h).2⟩, x _ _ W.hs, W.ho, W.h0, W.h1, W.held⟩
theorem World.deed {rs' : List Addr} {L' : List Dt} (W : World σ φ hl H d e) (F : Full σ' d.a d.ca d.st d.r rs' d.n L') (f : Frm (d.ca :: d.st :: d.r :: d.rs) σ σ') (g : ∀ y ∈ rs', y ∈ d.rs ∨ σ y = none) : World σ' φ hl H (d.to rs' L') e := by
  have old : ∀ x ∈ d.ca :: d.st :: d.r :: rs', x ∈ d.foot ∨ σ x = none := fun x hx => by
    simp only [List.mem_cons] at hx ⊢
    rcases hx with h | h | h | h
    · exact .inl (.inl h)
    · exact .inl (.inr (.inl h))
    · exact .inl (.inr (.inr (.inl h)))
    · exact (g x h).imp (fun k => .inr (.inr (.inr k))) id
  refine ⟨F, W.f1.frm f W.f0.lists (fun x hx hy => W.apart x hy hx), ?_, ?_, f _ _ W.hs W.h0, W.ho, ?_, W.h1, W.held⟩
  · intro x hx hy
    rcases old x hx with h | h
    · exact W.apart x h hy
    · obtain ⟨xs, e⟩ := W.f1.lists x hy; rw [h] at e; cases e
  · intro b o h
    obtain ⟨h1, h2, h3⟩ := W.fix b o h
    refine ⟨f _ _ h1 h2, fun hb => ?_, h3⟩
    rcases old b hb with h' | h'
    · exact h2 h'
    · rw [h'] at h1; cases h1
  · intro hx
    rcases old _ hx with h | h
    · exact W.h0 h
    · have := W.hs; rw [h] at this; cases this
theorem upd_two {w v b : Addr} {o p : AO} (h : upd (upd φ w p) v p b = some o) : (b = v ∧ o = p) ∨ (b = w ∧ o = p) ∨ φ b = some o := by
  unfold upd at h
  split at h
  · rename_i k; left; cases h; exact ⟨k, rfl⟩
  · split at h
    · rename_i k; right; left; cases h; exact ⟨k, rfl⟩
    · exact .inr (.inr h)
theorem World.hold {w v : Addr} {M : List Dt} (W : World σ φ hl H d e) (hw : σ w = none) (hv : upd σ w (.list (stand M)) v = none) :
    World (upd (upd (upd σ w (.list (stand M))) v (.list (stand M))) hl (.list (H ++ [.tup [.ref w, .ref v]]))) (upd (upd φ w (.list (stand M))) v (.list (stand M))) hl (H ++ [.tup [.ref w, .ref v]]) d e := by
  obtain ⟨vw, hv0⟩ := upd_none hv
  have hlw : hl ≠ w := by rintro rfl; have := W.hs; rw [hw] at this; cases this
  have hlv : hl ≠ v := by rintro rfl; have := W.hs; rw [hv0] at this; cases this
  have x : Ext σ (upd (upd σ w (.list (stand M))) v (.list (stand M))) := (Ext.upd hw).trans (Ext.upd hv)
  have W2 := W.ext x
  have nf : ∀ z, σ z = none → z ∉ d.foot ∧ z ∉ e.foot := fun z hz => ⟨fun h => (by obtain ⟨xs, k⟩ := W.f0.lists z h; rw [hz] at k; cases k), fun h => (by obtain ⟨xs, k⟩ := W.f1.lists z h; rw [hz] at k; cases k)⟩
  have fr : Frm [hl] (upd (upd σ w (.list (stand M))) v (.list (stand M))) (upd (upd (upd σ w (.list (stand M))) v (.list (stand M))) hl (.list (H ++ [.tup [.ref w, .ref v]]))) := fun b o h hb => upd_other (fun k => hb (by rw [k]; exact .head _)) h
  have hls : ∀ x ∈ [hl], ∃ xs, upd (upd σ w (.list (stand M))) v (.list (stand M)) x = some (.list xs) := fun x hx => by rw [List.mem_singleton] at hx; subst hx; exact ⟨_, W2.hs⟩
  have pw : upd (upd φ w (.list (stand M))) v (.list (stand M)) w = some (.list (stand M)) := upd_other (Ne.symm vw) upd_same
  refine ⟨W2.f0.frm fr hls fun y hy hz => ?_, W2.f1.frm fr hls fun y hy hz => ?_, W.apart, fun b o h => ?_, upd_same, ?_, W.h0, W.h1, fun p hp => ?_⟩
  · rw [List.mem_singleton] at hz; subst hz; exact W.h0 hy
  · rw [List.mem_singleton] at hz; subst hz; exact W.h1 hy
  · rcases upd_two h with ⟨rfl, rfl⟩ | ⟨rfl, rfl⟩ | h'
    · exact ⟨upd_other (Ne.symm hlv) upd_same, nf _ hv0⟩
    · exact ⟨upd_other (Ne.symm hlw) (upd_other (Ne.symm vw) upd_same), nf _ hw⟩
    · have hbl : b ≠ hl := by rintro rfl; rw [W.ho] at h'; cases h'
      exact ⟨upd_other hbl (W2.fix b o h').1, (W2.fix b o h').2⟩
  · exact upd_other hlv (upd_other hlw W.ho)
  · rcases List.mem_append.mp hp with h | h
    · obtain ⟨x', y', M', rfl, k1, k2⟩ := W.held p h
      have keep : ∀ z o, φ z = some o → upd (upd φ w (.list (stand M))) v (.list (stand M)) z = some o := fun z o k => by
        have hz : ∀ u, σ u = none → z ≠ u := fun u hu e => by have := (W.fix z o k).1; rw [e, hu] at this; cases this
        exact upd_other (hz v hv0) (upd_other (hz w hw) k)
      exact ⟨x', y', M', rfl, keep _ _ k1, keep _ _ k2⟩
    · rw [List.mem_singleton] at h
      exact ⟨w, v, M, h, pw, upd_same⟩
theorem World.hold_ext {w v : Addr} {M : List Dt} (W : World σ φ hl H d e) (hw : σ w = none) (hv : σ v = none) : Ext φ (upd (upd φ w (.list (stand M))) v (.list (stand M))) := fun z o k => by
  have hz : ∀ u, σ u = none → z ≠ u := fun u hu e => by have := (W.fix z o k).1; rw [e, hu] at this; cases this
  exact upd_other (hz v hv) (upd_other (hz w hw) k)
end
structure Sel (φ : Sto) (dl rl cl : Addr) (k : Nat) (d : Dy) : Prop where
  le : k ≤ 1
  day : ∃ ds, φ dl = some (.list ds) ∧ ds[k]? = some (.ref d.a)
  row : ∃ ds, φ rl = some (.list ds) ∧ ds[k]? = some (.ref d.r)
  cnt : ∃ ds, φ cl = some (.list ds) ∧ ds[k]? = some (.int (d.n : Nat))
structure Nm (ρ : Env') (dl rl cl hl : Addr) : Prop where
  days : ρ "_law_days" = some (.ref dl)
  rows : ρ "_law_rows" = some (.ref rl)
  counts : ρ "_law_counts" = some (.ref cl)
  held : ρ "_law_held" = some (.ref hl)
section
variable {σ σ' φ φ' : Sto} {hl dl rl cl : Addr} {H : List PV} {d e : Dy} {k : Nat} {kk : PV → Prop} {m : Int} {ρ : Env'} {QS : Fl → Env' → Sto → Prop} {XS : Addr → Env' → Sto → Prop}
theorem Sel.ext (S : Sel φ dl rl cl k d) (x : Ext φ φ') : Sel φ' dl rl cl k d :=
  let ⟨d1, d2, d3⟩ := S.day; let ⟨r1, r2, r3⟩ := S.row; let ⟨c1, c2, c3⟩ := S.cnt; ⟨S.le, ⟨d1, x _ _ d2, d3⟩, ⟨r1, x _ _ r2, r3⟩, ⟨c1, x _ _ c2, c3⟩⟩
theorem Sel.to {rs : List Addr} {L : List Dt} (S : Sel φ dl rl cl k d) : Sel φ dl rl cl k (d.to rs L) := ⟨S.le, S.day, S.row, S.cnt⟩
theorem Sel.gd (S : Sel φ dl rl cl k d) (W : World σ φ hl H d e) (h : kk (.ref d.a)) : getP σ (.ref dl) (.int (k : Nat)) kk := by
  obtain ⟨ds, h1, h2⟩ := S.day
  exact i_getk (W.fix _ _ h1).1 (by have := S.le; omega) h2 h
theorem Sel.gr (S : Sel φ dl rl cl k d) (W : World σ φ hl H d e) (h : kk (.ref d.r)) : getP σ (.ref rl) (.int (k : Nat)) kk := by
  obtain ⟨ds, h1, h2⟩ := S.row
  exact i_getk (W.fix _ _ h1).1 (by have := S.le; omega) h2 h
theorem Sel.gc (S : Sel φ dl rl cl k d) (W : World σ φ hl H d e) (h : kk (.int (d.n : Nat))) : getP σ (.ref cl) (.int (k : Nat)) kk := by
  obtain ⟨ds, h1, h2⟩ := S.cnt
  exact i_getk (W.fix _ _ h1).1 (by have := S.le; omega) h2 h
theorem m5 (W : World σ φ hl H d e) (S : Sel φ dl rl cl k d) (hn : d.n ≤ 1000) (e1 : ρ "_law_days" = some (.ref dl)) (e2 : ρ "_law_rows" = some (.ref rl)) (e3 : ρ "_law_counts" = some (.ref cl)) (e5 : ρ "_law_at" = some (.int (k : Nat))) (e6 : ρ "_law_more" = some (.int m)) (e7 : ρ "_law_good" = some (.bool true))
    (hq : ∀ σ', World σ' φ hl H d e → QS .next ρ σ') : tb_law_main_5 ρ σ QS XS := by
  refine i_seq (i_if ?_)
  walk_at "ex"
  refine ite_nf ?_
  walk_at "ex"
  refine S.gd W ?_
  walk_at "ex"
  refine S.gr W ?_
  walk_at "ex"
  refine S.gc W ?_
  walk_at "ex"
  refine p_stands W.f0.day W.f0.rows W.f0.good hn fun σ' x => ?_
  refine ite_nf (i_false (ite_f (i_nil (i_nil ?_))))
  exact hq σ' (W.ext x)
theorem m12 (W : World σ φ hl H d e) (S : Sel φ dl rl cl k d) (h2 : 2 ≤ d.n) (hn : d.n ≤ 1000) (hL : d.L.length < 100) (e1 : ρ "_law_days" = some (.ref dl)) (e2 : ρ "_law_rows" = some (.ref rl)) (e3 : ρ "_law_counts" = some (.ref cl)) (e4 : ρ "_law_held" = some (.ref hl)) (e5 : ρ "_law_at" = some (.int (k : Nat))) (e6 : ρ "_law_more" = some (.int m))
    (hq : ∀ ρ' σ' rs' L', L'.length ≤ d.L.length + 1 → World σ' φ hl H (d.to rs' L') e → Nm ρ' dl rl cl hl → QS .next ρ' σ') : tb_law_main_12 ρ σ QS XS := by
  refine i_seq (i_if ?_)
  walk_at "ex"
  refine ite_d (fun y => ?_) fun y => ?_
  · refine i_seq (i_set ?_)
    walk_at "ex"
    refine S.gd W ?_
    walk_at "ex"
    refine S.gr W ?_
    walk_at "ex"
    refine S.gc W ?_
    walk_at "ex"
    refine p_owed W.f0 hL h2 fun σ' rs' L' F' l' f' g' => ?_
    refine i_nil ?_
    exact m5 (W.deed F' f' g') S.to hn (by walk_at "nm") (by walk_at "nm") (by walk_at "nm") (by walk_at "nm") (by walk_at "nm") (by walk_at "nm") fun σ'' W'' => hq _ σ'' rs' L' l' W'' ⟨by walk_at "nm", by walk_at "nm", by walk_at "nm", by walk_at "nm"⟩
  refine i_seq (i_if ?_)
  walk_at "ex"
  refine ite_d (fun y => ?_) fun y => ?_
  · refine i_seq (i_set ?_)
    walk_at "ex"
    refine S.gd W ?_
    walk_at "ex"
    refine S.gr W ?_
    walk_at "ex"
    refine p_paid W.f0 fun σ' rs' L' F' l' f' g' => ?_
    refine i_nil (i_nil ?_)
    exact m5 (W.deed F' f' g') S.to hn (by walk_at "nm") (by walk_at "nm") (by walk_at "nm") (by walk_at "nm") (by walk_at "nm") (by walk_at "nm") fun σ'' W'' => hq _ σ'' rs' L' l' W'' ⟨by walk_at "nm", by walk_at "nm", by walk_at "nm", by walk_at "nm"⟩
  have hll := W.f0.day.len
  have hrl := W.f0.rows.len
  refine i_seq (i_set ?_)
  walk_at "ex"
  refine S.gc W ?_
  walk_at "ex"
  refine S.gc W ?_
  walk_at "ex"
  intro w1 g1
  generalize z1 : upd σ w1 _ = s1
  obtain ⟨x1, u1⟩ := al z1 g1
  have W1 := W.ext x1
  walk_at "ex"
  have hc0 : 0 ≤ m / 8 % 7 := Int.emod_nonneg _ (by decide)
  have hc9 : m / 8 % 7 < 7 := Int.emod_lt_of_pos _ (by decide)
  generalize m / 8 % 7 = i at hc0 hc9
  obtain ⟨j, rfl⟩ := Int.eq_ofNat_of_zero_le hc0
  obtain ⟨p, hp, tp, bp⟩ := seven (P := fun j => ∃ q, [PV.int (-1), .int (d.n : Nat), .bool true, .none, .str "0", .int ((d.n : Nat) + 9), .bool false][j]? = some q ∧ (∀ σ, Told σ q) ∧ ∀ i, q = .int i → ¬ (0 ≤ i ∧ i < (d.n : Nat)))
    ⟨_, rfl, ti, fun i e => by cases e; omega⟩ ⟨_, rfl, ti, fun i e => by cases e; omega⟩ ⟨_, rfl, tb', fun i e => by cases e⟩ ⟨_, rfl, tn', fun i e => by cases e⟩ ⟨_, rfl, ts', fun i e => by cases e⟩ ⟨_, rfl, ti, fun i e => by cases e; omega⟩ ⟨_, rfl, tb', fun i e => by cases e⟩ (j := j) (by omega)
  refine i_getk u1 (by omega) hp ?_
  refine i_seq (i_set ?_)
  walk_at "ex"
  refine S.gr W1 ?_
  walk_at "ex"
  refine i_lenm W1.f0.rows.rows (by omega) ?_
  walk_at "ex"
  refine S.gr W1 ?_
  walk_at "ex"
  refine i_lenm W1.f0.rows.rows (by omega) ?_
  walk_at "ex"
  intro w2 g2
  generalize z2 : upd s1 w2 _ = s2
  obtain ⟨x2, u2⟩ := al z2 g2
  have W2 := W1.ext x2
  walk_at "ex"
  have hc0 : 0 ≤ m / 8 % 6 := Int.emod_nonneg _ (by decide)
  have hc9 : m / 8 % 6 < 6 := Int.emod_lt_of_pos _ (by decide)
  generalize m / 8 % 6 = i2 at hc0 hc9
  obtain ⟨j2, rfl⟩ := Int.eq_ofNat_of_zero_le hc0
  obtain ⟨p2, hp2, tp2, bp2⟩ := six (P := fun j => ∃ q, [PV.int (-1), .int (d.rs.length : Nat), .bool true, .none, .bool false, .int ((d.rs.length : Nat) + 7)][j]? = some q ∧ (∀ σ, Told σ q) ∧ ∀ i, q = .int i → ¬ (0 ≤ i ∧ i < (d.L.length : Nat)))
    ⟨_, rfl, ti, fun i e => by cases e; omega⟩ ⟨_, rfl, ti, fun i e => by cases e; omega⟩ ⟨_, rfl, tb', fun i e => by cases e⟩ ⟨_, rfl, tn', fun i e => by cases e⟩ ⟨_, rfl, tb', fun i e => by cases e⟩ ⟨_, rfl, ti, fun i e => by cases e; omega⟩ (j := j2) (by omega)
  refine i_getk u2 (by omega) hp2 ?_
  refine i_seq (i_set ?_)
  walk_at "ex"
  refine S.gd W2 ?_
  walk_at "ex"
  refine p_no_house W2.f0.day W2.f0.good hn (tp _) bp fun s3 x3 => ?_
  have W3 := W2.ext x3
  dsimp only
  walk_at "ex"
  refine S.gd W3 ?_
  walk_at "ex"
  refine p_no_number W3.f0.day (tp2 _) bp2 fun s4 x4 => ?_
  have W4 := W3.ext x4
  refine i_nil (i_nil ?_)
  exact m5 W4 S hn (by walk_at "nm") (by walk_at "nm") (by walk_at "nm") (by walk_at "nm") (by walk_at "nm") (by walk_at "nm") fun σ'' W'' => hq _ σ'' d.rs d.L (Nat.le_succ _) W'' ⟨by walk_at "nm", by walk_at "nm", by walk_at "nm", by walk_at "nm"⟩
theorem m15 (W : World σ φ hl H d e) (S : Sel φ dl rl cl k d) (h2 : 2 ≤ d.n) (hn : d.n ≤ 1000) (hL : d.L.length < 100) (hH : H.length ≤ 1000) (e1 : ρ "_law_days" = some (.ref dl)) (e2 : ρ "_law_rows" = some (.ref rl)) (e3 : ρ "_law_counts" = some (.ref cl)) (e4 : ρ "_law_held" = some (.ref hl)) (e5 : ρ "_law_at" = some (.int (k : Nat))) (e6 : ρ "_law_more" = some (.int m))
    (hq : ∀ ρ' σ' φ' H' rs' L', L'.length ≤ d.L.length + 1 → H'.length ≤ H.length + 1 → Ext φ φ' → World σ' φ' hl H' (d.to rs' L') e → Nm ρ' dl rl cl hl → QS .next ρ' σ') : tb_law_main_15 ρ σ QS XS := by
  refine i_seq (i_if ?_)
  walk_at "ex"
  refine ite_d (fun y => ?_) fun y => ?_
  · refine i_seq (i_set ?_)
    walk_at "ex"
    refine S.gd W ?_
    refine ⟨⟨d.a, _, rfl, W.f0.day.inst, noM.2.1⟩, ?_⟩
    walk_at "ex"
    refine p_standing W.f0.day fun w hw => ?_
    have hsl : (stand d.L).length ≤ 100 := Nat.le_trans (fmap_len _) (by rw [List.length_range]; exact W.f0.day.len)
    have x1 := Ext.upd (o := .list (stand d.L)) hw
    refine i_seq (i_expr ?_)
    walk_at "ex"
    refine ⟨⟨_, x1 _ _ W.hs⟩, ?_⟩
    walk_at "ex"
    refine i_listF upd_same (by omega) fun v hv => ?_
    walk_at "ex"
    refine i_append ((x1.trans (Ext.upd hv)) _ _ W.hs) (by omega) ?_
    refine i_nil ?_
    have W' := W.hold hw hv
    have x' := W.hold_ext (M := d.L) hw (upd_none hv).2
    exact m12 W' (S.ext x') h2 hn hL (by walk_at "nm") (by walk_at "nm") (by walk_at "nm") (by walk_at "nm") (by walk_at "nm") (by walk_at "nm") fun ρ' σ' rs' L' l' W'' N => hq ρ' σ' _ _ rs' L' l' (by rw [List.length_append]; exact Nat.le_refl _) x' W'' N
  · refine i_nil ?_
    exact m12 W S h2 hn hL (by walk_at "nm") (by walk_at "nm") (by walk_at "nm") (by walk_at "nm") (by walk_at "nm") (by walk_at "nm") fun ρ' σ' rs' L' l' W'' N => hq ρ' σ' φ H rs' L' l' (Nat.le_succ _) (fun _ _ h => h) W'' N
theorem m17 {cell : Int} (W : World σ φ hl H d e) (S : Sel φ dl rl cl k d) (h2 : 2 ≤ d.n) (hn : d.n ≤ 1000) (hL : d.L.length < 100) (hH : H.length ≤ 1000) (e1 : ρ "_law_days" = some (.ref dl)) (e2 : ρ "_law_rows" = some (.ref rl)) (e3 : ρ "_law_counts" = some (.ref cl)) (e4 : ρ "_law_held" = some (.ref hl)) (e5 : ρ "_law_at" = some (.int (k : Nat))) (e6 : ρ "_law_cell" = some (.int cell))
    (hq : ∀ ρ' σ' φ' H' rs' L', L'.length ≤ d.L.length + 1 → H'.length ≤ H.length + 1 → Ext φ φ' → World σ' φ' hl H' (d.to rs' L') e → Nm ρ' dl rl cl hl → QS .next ρ' σ') : tb_law_main_17 ρ σ QS XS := by
  refine i_seq (i_set ?_)
  walk_at "ex"
  refine i_seq (i_set (i_const ?_))
  exact m15 W S h2 hn hL hH (by walk_at "nm") (by walk_at "nm") (by walk_at "nm") (by walk_at "nm") (by walk_at "nm") (by walk_at "nm") hq
end

inductive MI (φ0 : Sto) (dl rl cl hl : Addr) (d e : Dy) (ps : List PV) (ρ : Env') (σ : Sto) : Prop
  | mk (φ : Sto) (H : List PV) (rs0 : List Addr) (L0 : List Dt) (rs1 : List Addr) (L1 : List Dt) : World σ φ hl H (d.to rs0 L0) (e.to rs1 L1) → Ext φ0 φ → Nm ρ dl rl cl hl → (∀ p ∈ ps, ∃ i : Int, p = .int i) → ps.length + L0.length ≤ 40 → ps.length + L1.length ≤ 40 → ps.length + H.length ≤ 40 → MI φ0 dl rl cl hl d e ps ρ σ
section
variable {σ σ' φ φ' : Sto} {hl dl rl cl sl : Addr} {H : List PV} {d e : Dy} {k : Nat} {kk : PV → Prop} {m : Int} {ρ : Env'} {Q : PV → Sto → Prop} {X : Addr → Sto → Prop}
theorem m1 (W : World σ φ hl H d e) (hH : H.length ≤ 1000) (e4 : ρ "_law_held" = some (.ref hl)) (hq : ∀ σ', Q (.bool true) σ') : tb_law_main_1 ρ σ (funQ Q) (funX X) := by
  refine i_seq (i_ret ?_)
  walk_at "ex"
  refine ⟨_, items_ref W.hs, trivial, Nat.le_trans hH (by decide), ?_⟩
  refine compL_filt (fun _ => false) id (items_ref W.hs) _ [] (fun p hp QB hQ => ?_) (fun _ _ h => absurd h (by decide)) ?_
  · obtain ⟨x, y, M, rfl, hx, hy⟩ := W.held p hp
    walk_at "ex"
    exact i_neql (W.fix _ _ hx).1 (W.fix _ _ hy).1 stand_flat hQ
  · rw [show ([] : List PV) ++ (H.filter fun _ => false).map id = [] by simp]
    intro w hw
    walk_at "ex"
    intro v hv
    refine i_eql (xs := []) ((Ext.upd hv) _ _ upd_same) upd_same (fun _ h => nomatch h) ?_
    exact hq _
theorem m3 (W : World σ φ hl H d e) (S0 : Sel φ dl rl cl 0 d) (S1 : Sel φ dl rl cl 1 e) (hn0 : d.n ≤ 1000) (hn1 : e.n ≤ 1000) (hH : H.length ≤ 1000) (e1 : ρ "_law_days" = some (.ref dl)) (e2 : ρ "_law_rows" = some (.ref rl)) (e3 : ρ "_law_counts" = some (.ref cl)) (e4 : ρ "_law_held" = some (.ref hl)) (hq : ∀ σ', Q (.bool true) σ') : tb_law_main_3 ρ σ (funQ Q) (funX X) := by
  refine i_seq (i_if ?_)
  walk_at "ex"
  refine S0.gd W ?_
  walk_at "ex"
  refine S0.gr W ?_
  walk_at "ex"
  refine S0.gc W ?_
  walk_at "ex"
  refine p_stands W.f0.day W.f0.rows W.f0.good hn0 fun σ' x => ?_
  have W1 := (W.ext x).swap
  refine ite_nf ?_
  walk_at "ex"
  refine S1.gd W1 ?_
  walk_at "ex"
  refine S1.gr W1 ?_
  walk_at "ex"
  refine S1.gc W1 ?_
  walk_at "ex"
  refine p_stands W1.f0.day W1.f0.rows W1.f0.good hn1 fun σ'' x' => ?_
  have W2 := (W1.ext x').swap
  refine ite_nf (i_false (ite_f (i_nil ?_)))
  exact m1 W2 hH e4 hq
theorem m_loop {items : List PV} (W : World σ φ hl [] d e) (S0 : Sel φ dl rl cl 0 d) (S1 : Sel φ dl rl cl 1 e) (n0 : 2 ≤ d.n ∧ d.n ≤ 20) (n1 : 2 ≤ e.n ∧ e.n ≤ 20) (l0 : d.L = []) (l1 : e.L = []) (hs : φ sl = some (.list items)) (hi : ∀ p ∈ items, ∃ i : Int, p = .int i) (hl40 : items.length ≤ 40)
    (e1 : ρ "_law_days" = some (.ref dl)) (e2 : ρ "_law_rows" = some (.ref rl)) (e3 : ρ "_law_counts" = some (.ref cl)) (e4 : ρ "_law_held" = some (.ref hl)) (hq : ∀ σ', Q (.bool true) σ') :
    forL "_law_cell" tb_law_main_18 (fun σ' => itemsOf σ' (.ref sl) = some items) items ρ σ (fun f ρ' σ' => match f with | .next => tb_law_main_3 ρ' σ' (funQ Q) (funX X) | f => funQ Q f ρ' σ') (funX X) := by
  refine forL_step (MI φ dl rl cl hl d e) (fun _ _ _ => False) ?_ ?_ (fun _ _ _ h => h.elim) _ _ _ ?_
  · rintro p ps ρ' σ' Qb ⟨φ1, H, rs0, L0, rs1, L1, W', x, N, f1, f2, f3, f4⟩ hnx _
    obtain ⟨cell, rfl⟩ := f1 p (.head _)
    obtain ⟨g1, g2, g3, g4⟩ := N
    rw [List.length_cons] at f2 f3 f4
    refine i_seq (i_set ?_)
    walk_at "ex"
    refine ⟨_, rfl, ?_⟩
    by_cases h : cell % 3 = 0
    · rw [decide_eq_true h, if_pos rfl]
      refine m17 (k := 1) W'.swap (S1.ext x).to n1.1 (Nat.le_trans n1.2 (by decide)) (by show L1.length < 100; omega) (by omega) (by walk_at "nm") (by walk_at "nm") (by walk_at "nm") (by walk_at "nm") setL_same (by walk_at "nm") fun ρ2 σ2 φ2 H2 rs2 L2 k1 k2 k3 k4 k5 => ?_
      have k1 : L2.length ≤ L1.length + 1 := k1
      exact hnx ρ2 σ2 (items_ref (k4.fix _ _ (k3 _ _ (x _ _ hs))).1) ⟨φ2, H2, rs0, L0, rs2, L2, k4.swap, x.trans k3, k5, fun q hq' => f1 q (.tail _ hq'), by omega, by omega, by omega⟩
    · rw [decide_eq_false h, if_neg (by decide)]
      refine m17 (k := 0) W' (S0.ext x).to n0.1 (Nat.le_trans n0.2 (by decide)) (by show L0.length < 100; omega) (by omega) (by walk_at "nm") (by walk_at "nm") (by walk_at "nm") (by walk_at "nm") setL_same (by walk_at "nm") fun ρ2 σ2 φ2 H2 rs2 L2 k1 k2 k3 k4 k5 => ?_
      have k1 : L2.length ≤ L0.length + 1 := k1
      exact hnx ρ2 σ2 (items_ref (k4.fix _ _ (k3 _ _ (x _ _ hs))).1) ⟨φ2, H2, rs2, L2, rs1, L1, k4, x.trans k3, k5, fun q hq' => f1 q (.tail _ hq'), by omega, by omega, by omega⟩
  · rintro ρ' σ' ⟨φ1, H, rs0, L0, rs1, L1, W', x, N, f1, f2, f3, f4⟩
    exact m3 W' (S0.ext x).to (S1.ext x).to (Nat.le_trans n0.2 (by decide)) (Nat.le_trans n1.2 (by decide)) (by simp at f4; omega) N.days N.rows N.counts N.held hq
  · exact ⟨φ, [], d.rs, d.L, e.rs, e.L, W, fun _ _ h => h, ⟨e1, e2, e3, e4⟩, hi, by rw [l0]; exact hl40, by rw [l1]; exact hl40, hl40⟩
/-- lists that are known apart -/
noncomputable def Known (σ : Sto) (l : List Addr) : Prop := l.Nodup ∧ ∀ y ∈ l, σ y ≠ none
theorem Known.add {l : List Addr} {x : Addr} {o : AO} (K : Known σ l) (h : σ x = none) : Known (upd σ x o) (x :: l) := by
  refine ⟨List.nodup_cons.mpr ⟨fun hx => K.2 x hx h, K.1⟩, fun y hy => ?_⟩
  rcases List.mem_cons.mp hy with rfl | hy
  · rw [upd_same]; exact fun h => nomatch h
  · have : y ≠ x := fun e => K.2 y hy (e ▸ h)
    rw [upd_other this rfl]; exact K.2 y hy
theorem Known.add2 {l : List Addr} {x z : Addr} {o p : AO} (K : Known σ l) (e : Ext σ σ') (h : σ x = none) (h' : σ z = none) (hne : x ≠ z) (hx : σ' x = some o) (hz : σ' z = some p) : Known σ' (x :: z :: l) := by
  refine ⟨List.nodup_cons.mpr ⟨fun hx => ?_, List.nodup_cons.mpr ⟨fun hz => K.2 z hz h', K.1⟩⟩, fun y hy => ?_⟩
  · rcases List.mem_cons.mp hx with rfl | hx
    · exact hne rfl
    · exact K.2 x hx h
  · rcases List.mem_cons.mp hy with rfl | hy
    · rw [hx]; exact fun h => nomatch h
    · rcases List.mem_cons.mp hy with rfl | hy
      · rw [hz]; exact fun h => nomatch h
      · intro hn
        exact K.2 y hy (e.back hn)
theorem fix_upd {P : Addr → AO → Prop} {x : Addr} {o : AO} (h : ∀ b o, φ b = some o → P b o) (hx : P x o) : ∀ b o', upd φ x o b = some o' → P b o' := fun b o' hb => by
  unfold upd at hb
  split at hb
  · rename_i e; cases hb; rw [e]; exact hx
  · exact h b o' hb
theorem fix_no {P : Addr → AO → Prop} : ∀ b o, noSto b = some o → P b o := fun b o h => nomatch h
theorem new_full {a ca st r : Addr} {n : Nat} (D : DayAt σ a ca st (n : Int) []) (hr : σ r = some (.list [])) (h : [ca, st, r].Nodup) : Full σ a ca st r [] n [] := ⟨D, ⟨hr, rfl, fun k x e => nomatch e⟩, fun t ht => (nomatch ht), h⟩
theorem nd_at {l : List Addr} (N : l.Nodup) {i j : Nat} {x y : Addr} (hi : l[i]? = some x) (hj : l[j]? = some y) (h : i ≠ j) : x ≠ y := by
  rintro rfl
  exact h ((List.getElem?_inj (List.getElem?_eq_some_iff.mp hi).1 N).mp (hi.trans hj.symm))
theorem no3 {x y z w : Addr} (h1 : x ≠ y) (h2 : x ≠ z) (h3 : x ≠ w) : x ∉ [y, z, w] := fun h => by
  simp only [List.mem_cons, List.not_mem_nil, or_false] at h
  rcases h with h | h | h
  · exact h1 h
  · exact h2 h
  · exact h3 h
theorem nd3 {x y z : Addr} (h1 : x ≠ y) (h2 : x ≠ z) (h3 : y ≠ z) : [x, y, z].Nodup := by
  simp only [List.nodup_cons, List.mem_cons, List.not_mem_nil, or_false, not_or, List.nodup_nil, not_false_iff, and_true]
  exact ⟨⟨h1, h2⟩, h3⟩
noncomputable abbrev phi (cl dl rl sl a0 a1 r0 r1 : Addr) (n0 n1 : Nat) (items : List PV) : Sto := upd (upd (upd (upd noSto cl (.list [.int (n0 : Nat), .int (n1 : Nat)])) dl (.list [.ref a0, .ref a1])) rl (.list [.ref r0, .ref r1])) sl (.list items)
theorem new_world {a0 a1 r0 r1 ca0 ca1 st0 st1 : Addr} {n0 n1 : Nat} {items : List PV} (N : [sl, hl, rl, r1, r0, dl, ca1, st1, ca0, st0, cl].Nodup) (A0 : DayAt σ a0 ca0 st0 (n0 : Int) []) (A1 : DayAt σ a1 ca1 st1 (n1 : Int) []) (k0 : σ r0 = some (.list [])) (k1 : σ r1 = some (.list [])) (k2 : σ hl = some (.list []))
    (k3 : σ cl = some (.list [.int (n0 : Nat), .int (n1 : Nat)])) (k4 : σ dl = some (.list [.ref a0, .ref a1])) (k5 : σ rl = some (.list [.ref r0, .ref r1])) (k6 : σ sl = some (.list items)) :
    World σ (phi cl dl rl sl a0 a1 r0 r1 n0 n1 items) hl [] ⟨a0, ca0, st0, r0, n0, [], []⟩ ⟨a1, ca1, st1, r1, n1, [], []⟩ := by
  refine ⟨new_full A0 k0 (nd3 (nd_at N (i := 8) (j := 9) rfl rfl (by decide)) (nd_at N (i := 8) (j := 4) rfl rfl (by decide)) (nd_at N (i := 9) (j := 4) rfl rfl (by decide))), new_full A1 k1 (nd3 (nd_at N (i := 6) (j := 7) rfl rfl (by decide)) (nd_at N (i := 6) (j := 3) rfl rfl (by decide)) (nd_at N (i := 7) (j := 3) rfl rfl (by decide))), ?_, ?_, k2, ?_, ?_, ?_, fun p hp => nomatch hp⟩
  · intro x hx
    simp only [List.mem_cons, List.not_mem_nil, or_false] at hx
    rcases hx with rfl | rfl | rfl
    · exact no3 (nd_at N (i := 8) (j := 6) rfl rfl (by decide)) (nd_at N (i := 8) (j := 7) rfl rfl (by decide)) (nd_at N (i := 8) (j := 3) rfl rfl (by decide))
    · exact no3 (nd_at N (i := 9) (j := 6) rfl rfl (by decide)) (nd_at N (i := 9) (j := 7) rfl rfl (by decide)) (nd_at N (i := 9) (j := 3) rfl rfl (by decide))
    · exact no3 (nd_at N (i := 4) (j := 6) rfl rfl (by decide)) (nd_at N (i := 4) (j := 7) rfl rfl (by decide)) (nd_at N (i := 4) (j := 3) rfl rfl (by decide))
  · exact fix_upd (fix_upd (fix_upd (fix_upd fix_no ⟨k3, no3 (nd_at N (i := 10) (j := 8) rfl rfl (by decide)) (nd_at N (i := 10) (j := 9) rfl rfl (by decide)) (nd_at N (i := 10) (j := 4) rfl rfl (by decide)), no3 (nd_at N (i := 10) (j := 6) rfl rfl (by decide)) (nd_at N (i := 10) (j := 7) rfl rfl (by decide)) (nd_at N (i := 10) (j := 3) rfl rfl (by decide))⟩) ⟨k4, no3 (nd_at N (i := 5) (j := 8) rfl rfl (by decide)) (nd_at N (i := 5) (j := 9) rfl rfl (by decide)) (nd_at N (i := 5) (j := 4) rfl rfl (by decide)), no3 (nd_at N (i := 5) (j := 6) rfl rfl (by decide)) (nd_at N (i := 5) (j := 7) rfl rfl (by decide)) (nd_at N (i := 5) (j := 3) rfl rfl (by decide))⟩) ⟨k5, no3 (nd_at N (i := 2) (j := 8) rfl rfl (by decide)) (nd_at N (i := 2) (j := 9) rfl rfl (by decide)) (nd_at N (i := 2) (j := 4) rfl rfl (by decide)), no3 (nd_at N (i := 2) (j := 6) rfl rfl (by decide)) (nd_at N (i := 2) (j := 7) rfl rfl (by decide)) (nd_at N (i := 2) (j := 3) rfl rfl (by decide))⟩) ⟨k6, no3 (nd_at N (i := 0) (j := 8) rfl rfl (by decide)) (nd_at N (i := 0) (j := 9) rfl rfl (by decide)) (nd_at N (i := 0) (j := 4) rfl rfl (by decide)), no3 (nd_at N (i := 0) (j := 6) rfl rfl (by decide)) (nd_at N (i := 0) (j := 7) rfl rfl (by decide)) (nd_at N (i := 0) (j := 3) rfl rfl (by decide))⟩
  · exact upd_other (nd_at N (i := 1) (j := 0) rfl rfl (by decide)) (upd_other (nd_at N (i := 1) (j := 2) rfl rfl (by decide)) (upd_other (nd_at N (i := 1) (j := 5) rfl rfl (by decide)) (upd_other (nd_at N (i := 1) (j := 10) rfl rfl (by decide)) rfl)))
  · exact no3 (nd_at N (i := 1) (j := 8) rfl rfl (by decide)) (nd_at N (i := 1) (j := 9) rfl rfl (by decide)) (nd_at N (i := 1) (j := 4) rfl rfl (by decide))
  · exact no3 (nd_at N (i := 1) (j := 6) rfl rfl (by decide)) (nd_at N (i := 1) (j := 7) rfl rfl (by decide)) (nd_at N (i := 1) (j := 3) rfl rfl (by decide))
theorem new_sel {a0 a1 r0 r1 : Addr} {n0 n1 : Nat} {items : List PV} {ls : List Addr} (N : (sl :: hl :: rl :: r1 :: r0 :: dl :: ls).Nodup) (hc : ls[4]? = some cl) {k : Nat} {d : Dy} (hk : k ≤ 1) (g1 : [PV.ref a0, .ref a1][k]? = some (.ref d.a)) (g2 : [PV.ref r0, .ref r1][k]? = some (.ref d.r)) (g3 : [PV.int (n0 : Nat), .int (n1 : Nat)][k]? = some (.int (d.n : Nat))) : Sel (phi cl dl rl sl a0 a1 r0 r1 n0 n1 items) dl rl cl k d :=
  ⟨hk, ⟨_, upd_other (nd_at N (i := 5) (j := 0) rfl rfl (by decide)) (upd_other (nd_at N (i := 5) (j := 2) rfl rfl (by decide)) upd_same), g1⟩, ⟨_, upd_other (nd_at N (i := 2) (j := 0) rfl rfl (by decide)) upd_same, g2⟩, ⟨_, upd_other (nd_at N (i := 10) (j := 0) hc rfl (by decide)) (upd_other (nd_at N (i := 10) (j := 2) hc rfl (by decide)) (upd_other (nd_at N (i := 10) (j := 5) hc rfl (by decide)) upd_same)), g3⟩⟩
theorem m22 {n0 n1 : Nat} {b : Addr} {ns : List Int} (h0 : 2 ≤ n0 ∧ n0 ≤ 20) (h1 : 2 ≤ n1 ∧ n1 ≤ 20) (hns : ns.length ≤ 63) (hc : σ cl = some (.list [.int (n0 : Nat), .int (n1 : Nat)])) (e0 : ρ "_law_script" = some (.lst b ns)) (e1 : ρ "_law_counts" = some (.ref cl)) (hq : ∀ σ', Q (.bool true) σ') : tb_law_main_22 ρ σ (funQ Q) (funX X) := by
  have K : Known σ [cl] := ⟨by simp, fun y hy => by rw [List.mem_singleton.mp hy, hc]; exact fun h => nomatch h⟩
  refine i_seq (i_set ?_)
  walk_at "ex"
  refine i_get (by decide) (by decide) (items_ref hc) trivial rfl ?_
  walk_at "ex"
  intro a0 d0 od0 ha0 hd0 hne0 D0
  refine p_init (by omega) (by omega) ha0 hd0 hne0 D0 fun σ1 ca0 st0 x1 A0 c1 c2 => ⟨rfl, ?_⟩
  have K1 := K.add2 x1 c1 c2 A0.ne A0.came A0.still
  walk_at "ex"
  refine i_get (by decide) (by decide) (items_ref (x1 _ _ hc)) trivial rfl ?_
  walk_at "ex"
  intro a1 d1 od1 ha1 hd1 hne1 D1
  refine p_init (by omega) (by omega) ha1 hd1 hne1 D1 fun σ2 ca1 st1 x2 A1 c3 c4 => ⟨rfl, ?_⟩
  have K2 := K1.add2 x2 c3 c4 A1.ne A1.came A1.still
  walk_at "ex"
  intro dl hdl
  have K3 := K2.add (o := .list [.ref a0, .ref a1]) hdl
  generalize hσ3 : upd σ2 dl _ = σ3 at K3
  obtain ⟨x3, u3⟩ := al hσ3 hdl
  refine i_seq (i_set ?_)
  walk_at "ex"
  intro r0 hr0
  have K4 := K3.add (o := .list []) hr0
  generalize hσ4 : upd σ3 r0 _ = σ4 at K4
  obtain ⟨x4, u4⟩ := al hσ4 hr0
  walk_at "ex"
  intro r1 hr1
  have K5 := K4.add (o := .list []) hr1
  generalize hσ5 : upd σ4 r1 _ = σ5 at K5
  obtain ⟨x5, u5⟩ := al hσ5 hr1
  walk_at "ex"
  intro rl hrl
  have K6 := K5.add (o := .list [.ref r0, .ref r1]) hrl
  generalize hσ6 : upd σ5 rl _ = σ6 at K6
  obtain ⟨x6, u6⟩ := al hσ6 hrl
  refine i_seq (i_set ?_)
  walk_at "ex"
  intro hl hhl
  have K7 := K6.add (o := .list []) hhl
  generalize hσ7 : upd σ6 hl _ = σ7 at K7
  obtain ⟨x7, u7⟩ := al hσ7 hhl
  refine i_seq (i_for ?_)
  walk_at "ex"
  refine ⟨_, rfl, ?_⟩
  walk_at "ex"
  refine ⟨_, rfl, ?_⟩
  refine ⟨ns.map .int, by show (0 : Int) ≤ 2; decide, by show (0 : Int) ≤ 42; decide, trivial, rfl, by rw [List.length_map]; exact Nat.le_trans hns (by decide), fun sl hsl => ?_⟩
  have hit : ∀ p ∈ cutL (ns.map PV.int) (some 2) (some 42), ∃ i : Int, p = .int i := fun p hp => by
    obtain ⟨i, _, h⟩ := List.mem_map.mp (List.mem_of_mem_take (List.mem_of_mem_drop hp))
    exact ⟨i, h.symm⟩
  have hln : (cutL (ns.map PV.int) (some 2) (some 42)).length ≤ 40 := by
    unfold cutL
    rw [List.length_drop, List.length_take]
    show min 42 _ - 2 ≤ 40
    omega
  generalize cutL (ns.map PV.int) (some 2) (some 42) = items at hit hln
  have K8 := K7.add (o := .list items) hsl
  generalize hσ8 : upd σ7 sl _ = σ8 at K8
  obtain ⟨x8, u8⟩ := al hσ8 hsl
  obtain ⟨N, _⟩ := K8
  have s78 : Ext σ6 σ8 := x7.trans x8
  have s58 : Ext σ5 σ8 := x6.trans s78
  have s48 : Ext σ4 σ8 := x5.trans s58
  have s38 : Ext σ3 σ8 := x4.trans s48
  have s28 : Ext σ2 σ8 := x3.trans s38
  refine ⟨_, items_ref u8, trivial, ?_⟩
  have W := new_world N (A0.ext (x2.trans s28)) (A1.ext s28) (s48 _ _ u4) (s58 _ _ u5) (x8 _ _ u7) ((x1.trans (x2.trans s28)) _ _ hc) (s38 _ _ u3) (s78 _ _ u6) u8
  exact m_loop W (new_sel N rfl (by decide) rfl rfl rfl) (new_sel N rfl (by decide) rfl rfl rfl) h0 h1 rfl rfl upd_same hit hln (by walk_at "nm") (by walk_at "nm") (by walk_at "nm") (by walk_at "nm") hq
theorem plain10 (a : Addr) (ns : List Int) (h : ns.length ≤ 63) : T_law_main [.lst a ns] noSto (fun p _ => p = .bool true) nope := by
  unfold T_law_main tb_law_main
  refine i_fun1 (i_seq (i_set ?_))
  walk_at "ex"
  refine p_cell_at (by decide) h ?_
  walk_at "ex"
  refine p_cell_at (by decide) h ?_
  walk_at "ex"
  intro cl hcl
  have b0 : 0 ≤ cellN ns 0 % 5 := Int.emod_nonneg _ (by decide)
  have b1 : cellN ns 0 % 5 < 5 := Int.emod_lt_of_pos _ (by decide)
  have b2 : 0 ≤ cellN ns 1 % 19 := Int.emod_nonneg _ (by decide)
  have b3 : cellN ns 1 % 19 < 19 := Int.emod_lt_of_pos _ (by decide)
  generalize hn0 : 2 + cellN ns 0 % 5 = c0
  generalize hn1 : 2 + cellN ns 1 % 19 = c1
  obtain ⟨n0, rfl⟩ := Int.eq_ofNat_of_zero_le (show 0 ≤ c0 by omega)
  obtain ⟨n1, rfl⟩ := Int.eq_ofNat_of_zero_le (show 0 ≤ c1 by omega)
  generalize hσ1 : upd noSto cl _ = σ1
  obtain ⟨x1, u1⟩ := al hσ1 hcl
  refine i_seq (i_if ?_)
  walk_at "ex"
  refine p_cell_at (by decide) h ?_
  walk_at "ex"
  refine ite_d (fun y => ?_) fun y => ?_
  · walk_at "ex"
    refine p_cell_at (by decide) h ?_
    walk_at "ex"
    refine p_no_count fun σ' x => ?_
    refine ite_nf (ite_f (i_nil ?_))
    exact m22 (by omega) (by omega) h (x _ _ u1) (by walk_at "nm") (by walk_at "nm") fun _ => rfl
  · refine ite_f (i_nil ?_)
    exact m22 (by omega) (by omega) h u1 (by walk_at "nm") (by walk_at "nm") fun _ => rfl
end

theorem ints_map {vs : List Value} {ns : List Int} (h : IntsAre vs ns) : vs.map (fun v => match v with | Value.int i _ => some i | _ => Option.none) = ns.map some := by
  induction h with
  | nil => rfl
  | cons _ _ _ ih => simp [ih]

end Mine

open PySem PyProof.Rows PySem.Calls PySem.W Mine
set_option maxRecDepth 100000 in
set_option maxHeartbeats 8000000 in
theorem PySem.Challenge.cw_uf030027_10_holds : PySem.Challenge.rw_uf030027_10.Holds :=
  hd10 (fun d kwd hdef => by
  intro w s₀ s₁ mg mb G Y fa o pm cd doc dV kV ho hd hcd hD hmg hg args vals as hpre hlay hrd hwl hlo
  rw [defOf_name hdef] at hmg
  have KX := kIn_of Y
  refine Ground.open G ?_
  intro T B D TE TW
  wrow_args hpre hlay hrd hwl hlo
  rename_i ns _ _ _ _ _ _ _ l vs _ hL _ _ _ hI _ hcond _
  obtain ⟨f, o', fd, h1, h2, h3, hS⟩ := s_law_main (fx10 (g := ⟨_, w, s₁.heap, H10 w.params, mg, mb, KX, T.g, T.b, T.nolimit⟩) (loose := []) T rfl)
  obtain rfl : f = fa := by
    have e : some (Value.ref f) = some (Value.ref fa) := h1.symm.trans hmg
    injection e with e; injection e
  refine wpAny_mono (hS callerA [] s₁ [_] [.lst l ns] noSto (fun p _ => p = .bool true) nope rfl ⟨by decide, by decide⟩ (fun _ => rfl) (hp_start _) (.cons (.lst hL ?_) .nil) (plain10 _ _ (by omega))) (fun v s' hp => ?_) (fun e s' hp => hp.no)
  · exact ints_map hI
  · obtain ⟨h', tk, p, σ', rfl, st, sm, r, rfl⟩ := hp
    cases r
    have keep : ∀ b o, s₁.heap.get? b = some o → h'.get? b = some o := fun b o e => st.other b o e (by simp [frs]) id rfl
    refine GoodW.toG ⟨.inl ⟨_, .bool true, [], rfl, ?_, ?_, ?_, ?_⟩, keep, rfl, hg⟩
    · intro cls; rfl
    · exact .bool true
    · wrow_post
    · exact fun _ => ⟨List.nodup_nil, fun _ m => by cases m⟩)
