import PyProof.Rows.All
import PyProof.StationsW
import PyProof.Cells
import PyProof.CompFree
import PyProof.Rows.Tup
import PyProof.RangeIter
import PyProof.TupleIter
import PyProof.PlainList
import PyProof.DefCall
import PyProof.RulesTry
import PyProof.RulesAs
import PyProof.Rows.Catch
import PyProof.RangeFor
import OpenK.KRaise
import KE.KTryMore
import PyProof.NsDelKeeps
import OpenK.KLine
import Lean
import PySem.Challenge.RW_uf030027_05
set_option Elab.async false
set_option autoImplicit false
namespace Mine
open PySem PyProof.Rows

/-- plain values -/
inductive PV where
  | none
  | bool (b : Bool)
  | int (i : Int)
  | str (x : Str)
  | tup (xs : List PV)
  | ref (a : Addr)
  | lst (a : Addr) (ns : List Int)
  | exc (a : Addr) (c : Addr)
  | rng (lo hi : Int)

/-- what the store keeps at an address -/
inductive AO where
  | list (xs : List PV)
  | raw (o : Obj)

noncomputable abbrev Sto := Addr → Option AO
noncomputable abbrev Env' := Str → Option PV

/-- a range object -/
noncomputable def IsRng (h : Heap) (a : Addr) (lo hi : Int) : Prop := ∃ t1 t2 t3, IsRange h a lo hi 1 t1 t2 t3

mutual
inductive Rep (base h : Heap) : Value → PV → Prop
  | none : Rep base h Value.none PV.none
  | bool (b : Bool) : Rep base h (Value.bool b) (PV.bool b)
  | int (i : Int) (t : Tok) : Rep base h (Value.int i t) (PV.int i)
  | str (x : Str) (t : Tok) : Rep base h (Value.str x t) (PV.str x)
  | tup {a : Addr} {o : Obj} {vs : List Value} {n : Nat} {xs : List PV} : h.get? a = some o → o.cls = .type "tuple" → o.data = .seq vs.toArray n → Reps base h vs xs → Rep base h (Value.ref a) (PV.tup xs)
  | ref (a : Addr) : Rep base h (Value.ref a) (PV.ref a)
  | lst {a : Addr} {vs : List Value} {ns : List Int} : base.IsList a vs.toArray → vs.map (fun v => match v with | Value.int i _ => some i | _ => Option.none) = ns.map some → Rep base h (Value.ref a) (PV.lst a ns)
  | exc {a c : Addr} {o : Obj} {vs : Array Value} : h.get? a = some o → o.cls = .ref c → o.data = .fields vs → Rep base h (Value.ref a) (PV.exc a c)
  | rng {a : Addr} {lo hi : Int} : IsRng h a lo hi → Rep base h (Value.ref a) (PV.rng lo hi)
inductive Reps (base h : Heap) : List Value → List PV → Prop
  | nil : Reps base h [] []
  | cons {v : Value} {vs : List Value} {x : PV} {xs : List PV} : Rep base h v x → Reps base h vs xs → Reps base h (v :: vs) (x :: xs)
end

/-- the objects on which Rep leans -/
noncomputable def Firm (o : Obj) : Prop := (∃ vs, o.data = .fields vs ∧ (o.cls = .type "range" ∨ ∃ c, o.cls = .ref c)) ∨ (o.cls = .type "tuple" ∧ ∃ xs n, o.data = .seq xs n)

theorem Rep.mono {base h h' : Heap} (k : ∀ b o, h.get? b = some o → Firm o → h'.get? b = some o) {v : Value} {x : PV} (r : Rep base h v x) : Rep base h' v x :=
  Rep.rec (motive_1 := fun v x _ => Rep base h' v x) (motive_2 := fun vs xs _ => Reps base h' vs xs)
    .none .bool .int .str (fun ho hc hd _ ih => .tup (k _ _ ho (.inr ⟨hc, _, _, hd⟩)) hc hd ih) .ref (fun h1 h2 => .lst h1 h2) (fun ho hc hd => .exc (k _ _ ho (.inl ⟨_, hd, .inr ⟨_, hc⟩⟩)) hc hd)
    (fun e => .rng (e.elim fun t1 e => e.elim fun t2 e => e.elim fun t3 ho => ⟨t1, t2, t3, k _ _ ho (.inl ⟨_, rfl, .inl rfl⟩)⟩)) .nil (fun _ _ ih1 ih2 => .cons ih1 ih2) r
theorem Reps.mono {base h h' : Heap} (k : ∀ b o, h.get? b = some o → Firm o → h'.get? b = some o) {vs : List Value} {xs : List PV} (r : Reps base h vs xs) : Reps base h' vs xs :=
  Reps.rec (motive_1 := fun _ _ _ => True) (motive_2 := fun vs xs _ => Reps base h' vs xs)
    trivial (fun _ => trivial) (fun _ _ => trivial) (fun _ _ => trivial) (fun _ _ _ _ _ => trivial) (fun _ => trivial) (fun _ _ => trivial) (fun _ _ _ => trivial) (fun _ => trivial) .nil (fun r _ _ ih2 => .cons (r.mono k) ih2) r
section
variable {base h : Heap} {v : Value}
theorem inv_none (r : Rep base h v .none) : v = .none := by cases r; rfl
theorem inv_bool {b : Bool} (r : Rep base h v (.bool b)) : v = .bool b := by cases r; rfl
theorem inv_int {i : Int} (r : Rep base h v (.int i)) : ∃ t, v = .int i t := by cases r; exact ⟨_, rfl⟩
theorem inv_str {x : Str} (r : Rep base h v (.str x)) : ∃ t, v = .str x t := by cases r; exact ⟨_, rfl⟩
theorem inv_ref {a : Addr} (r : Rep base h v (.ref a)) : v = .ref a := by cases r; rfl
theorem inv_tup {xs : List PV} (r : Rep base h v (.tup xs)) : ∃ a o vs n, v = .ref a ∧ h.get? a = some o ∧ o.cls = .type "tuple" ∧ o.data = .seq vs.toArray n ∧ Reps base h vs xs := by cases r with | tup ho hc hd rs => exact ⟨_, _, _, _, rfl, ho, hc, hd, rs⟩
theorem inv_lst {a : Addr} {ns : List Int} (r : Rep base h v (.lst a ns)) : v = .ref a ∧ ∃ vs : List Value, base.IsList a vs.toArray ∧ vs.map (fun v => match v with | Value.int i _ => some i | _ => Option.none) = ns.map some := by cases r with | lst h1 h2 => exact ⟨rfl, _, h1, h2⟩
theorem inv_rng {lo hi : Int} (r : Rep base h v (.rng lo hi)) : ∃ a, v = .ref a ∧ IsRng h a lo hi := by cases r with | rng h1 => exact ⟨_, rfl, h1⟩
theorem inv_exc {a c : Addr} (r : Rep base h v (.exc a c)) : ∃ o, v = .ref a ∧ h.get? a = some o ∧ o.cls = .ref c := by cases r with | exc h1 h2 h3 => exact ⟨_, rfl, h1, h2⟩
theorem reps_one {vals : List Value} {p : PV} (R : Reps base h vals [p]) : ∃ v, vals = [v] ∧ Rep base h v p := by cases R with | cons r rs => cases rs; exact ⟨_, rfl, r⟩
theorem reps_two {vals : List Value} {p p' : PV} (R : Reps base h vals [p, p']) : ∃ v v', vals = [v, v'] ∧ Rep base h v p ∧ Rep base h v' p' := by
  cases R with | cons r rs => obtain ⟨v', rfl, r'⟩ := reps_one rs; exact ⟨_, _, rfl, r, r'⟩
end
theorem Rep.keeps {base h h' : Heap} {v : Value} {x : PV} (r : Rep base h v x) (k : ∀ b o, h.get? b = some o → h'.get? b = some o) : Rep base h' v x := r.mono fun b o e _ => k b o e
theorem Reps.keeps {base h h' : Heap} {v : List Value} {x : List PV} (r : Reps base h v x) (k : ∀ b o, h.get? b = some o → h'.get? b = some o) : Reps base h' v x := r.mono fun b o e _ => k b o e

theorem Reps.ind {base h : Heap} {M : List Value → List PV → Prop} (nil : M [] []) (cons : ∀ {v vs x xs}, Rep base h v x → Reps base h vs xs → M vs xs → M (v :: vs) (x :: xs)) {vs : List Value} {xs : List PV} (r : Reps base h vs xs) : M vs xs :=
  Reps.rec (motive_1 := fun _ _ _ => True) (motive_2 := fun vs xs _ => M vs xs)
    trivial (fun _ => trivial) (fun _ _ => trivial) (fun _ _ => trivial) (fun _ _ _ _ _ => trivial) (fun _ => trivial) (fun _ _ => trivial) (fun _ _ _ => trivial) (fun _ => trivial) nil (fun a r _ ih => cons a r ih) r
theorem Reps.length {base h : Heap} {vs : List Value} {xs : List PV} (r : Reps base h vs xs) : vs.length = xs.length :=
  r.ind (M := fun vs xs => vs.length = xs.length) rfl fun _ _ ih => congrArg Nat.succ ih
theorem Reps.append {base h : Heap} {vs ws : List Value} {xs ys : List PV} (r : Reps base h vs xs) (q : Reps base h ws ys) : Reps base h (vs ++ ws) (xs ++ ys) :=
  r.ind (M := fun vs xs => Reps base h (vs ++ ws) (xs ++ ys)) q fun a _ ih => .cons a ih
theorem Reps.get {base h : Heap} {vs : List Value} {xs : List PV} (r : Reps base h vs xs) {k : Nat} {x : PV} (hx : xs[k]? = some x) : ∃ v, vs[k]? = some v ∧ Rep base h v x := by
  revert k
  refine r.ind (M := fun vs xs => ∀ {k : Nat}, xs[k]? = some x → ∃ v, vs[k]? = some v ∧ Rep base h v x) (fun e => ?_) fun a _ ih k e => ?_
  · cases e
  · cases k with
    | zero => cases e; exact ⟨_, rfl, a⟩
    | succ k => exact ih (k := k) e
theorem Reps.take {base h : Heap} {vs : List Value} {xs : List PV} (r : Reps base h vs xs) : ∀ k, Reps base h (vs.take k) (xs.take k) :=
  r.ind (M := fun vs xs => ∀ k, Reps base h (vs.take k) (xs.take k)) (fun k => by cases k <;> exact .nil) fun a _ ih k => by
    cases k with
    | zero => exact .nil
    | succ k => exact .cons a (ih k)
theorem Reps.drop {base h : Heap} {vs : List Value} {xs : List PV} (r : Reps base h vs xs) : ∀ k, Reps base h (vs.drop k) (xs.drop k) :=
  r.ind (M := fun vs xs => ∀ k, Reps base h (vs.drop k) (xs.drop k)) (fun k => by cases k <;> exact .nil) fun a r ih k => by
    cases k with
    | zero => exact .cons a r
    | succ k => exact ih k
theorem Reps.set {base h : Heap} {vs : List Value} {xs : List PV} (r : Reps base h vs xs) (k : Nat) {v : Value} {x : PV} (a : Rep base h v x) : Reps base h (vs.set k v) (xs.set k x) := by
  revert k
  refine r.ind (M := fun vs xs => ∀ k, Reps base h (vs.set k v) (xs.set k x)) (fun k => by cases k <;> exact .nil) fun b r ih k => ?_
  cases k with
  | zero => exact .cons a r
  | succ k => exact .cons b (ih k)

/-- the store is borne by the heap -/
noncomputable def Sim (base h : Heap) (σ : Sto) : Prop := ∀ a ao, σ a = some ao → match ao with
  | .list xs => ∃ vs : List Value, h.PlainList a vs.toArray ∧ Reps base h vs xs
  | .raw o => h.get? a = some o ∧ (o.data = .plain ∨ ∃ es n, o.data = .dict es n)

noncomputable def frs (fr : List Env) : List Addr := fr.filterMap (·.frame)

noncomputable abbrev nobody : Addr → Prop := fun _ => False

structure Step (fr : List Env) (own : Addr → Prop) (σ : Sto) (h : Heap) (σ' : Sto) (h' : Heap) : Prop where
  other : ∀ b o, h.get? b = some o → b ∉ frs fr → ¬ own b → σ b = none → h'.get? b = some o
  frame : ∀ b o, h.get? b = some o → b ∈ frs fr → ¬ own b → ∃ sl, h'.get? b = some { o with slots := sl }
  live : ∀ b o, h.get? b = some o → ¬ own b → ∃ o', h'.get? b = some o'
  new : ∀ a, σ a = none → ¬ own a → h.get? a ≠ none → σ' a = none
  dom : ∀ a, σ a ≠ none → σ' a ≠ none

theorem Step.refl {fr : List Env} {own : Addr → Prop} {σ : Sto} {h : Heap} : Step fr own σ h σ h :=
  ⟨fun _ _ e _ _ _ => e, fun _ o e _ _ => ⟨o.slots, e⟩, fun _ o e _ => ⟨o, e⟩, fun _ e _ _ => e, fun _ e => e⟩
theorem Step.trans {fr : List Env} {own : Addr → Prop} {σ σ₁ σ₂ : Sto} {h h₁ h₂ : Heap} (x : Step fr own σ h σ₁ h₁) (y : Step fr own σ₁ h₁ σ₂ h₂) : Step fr own σ h σ₂ h₂ where
  other := fun b o e n1 n2 s => y.other b o (x.other b o e n1 n2 s) n1 n2 (x.new b s n2 (by rw [e]; simp))
  frame := fun b o e n1 n2 => by
    obtain ⟨sl, e1⟩ := x.frame b o e n1 n2
    obtain ⟨sl2, e2⟩ := y.frame b _ e1 n1 n2
    exact ⟨sl2, e2⟩
  live := fun b o e n => by
    obtain ⟨o1, e1⟩ := x.live b o e n
    exact y.live b o1 e1 n
  new := fun a s n e => by
    refine y.new a (x.new a s n e) n ?_
    cases q : h.get? a with
    | none => exact absurd q e
    | some o => obtain ⟨o1, e1⟩ := x.live a o q n; rw [e1]; simp
  dom := fun a s => y.dom a (x.dom a s)
theorem Step.own {fr : List Env} {own own' : Addr → Prop} {σ σ₁ : Sto} {h h₁ : Heap} (x : Step fr own σ h σ₁ h₁) (k : ∀ b, own b → own' b) : Step fr own' σ h σ₁ h₁ where
  other := fun b o e n1 n2 s => x.other b o e n1 (fun q => n2 (k b q)) s
  frame := fun b o e n1 n2 => x.frame b o e n1 (fun q => n2 (k b q))
  live := fun b o e n => x.live b o e (fun q => n (k b q))
  new := fun a s n => x.new a s (fun q => n (k a q))
  dom := x.dom

structure Hp (base : Heap) (fr : List Env) (σ : Sto) (h : Heap) : Prop where
  stays : base.StaysIn h
  frames : h.FunFrames base fr
  sim : Sim base h σ
  fresh : ∀ a, σ a ≠ none → base.get? a = none ∧ a ∉ frs fr
  dicts : ∀ b ∈ frs fr, ∃ o es n, h.get? b = some o ∧ o.data = .dict es n

theorem Sim.not_firm {base h : Heap} {σ : Sto} (S : Sim base h σ) {b : Addr} {o : Obj} (e : h.get? b = some o) (f : Firm o) : σ b = none := by
  cases q : σ b with
  | none => rfl
  | some ao =>
    have := S b ao q
    cases ao with
    | list xs =>
      obtain ⟨vs, ⟨n, ho⟩, _⟩ := this
      rw [e] at ho; cases ho
      rcases f with ⟨ws, hw, _⟩ | ⟨hw, _⟩
      · cases hw
      · injection hw with hw; exact absurd hw (by decide)
    | raw o' =>
      obtain ⟨ho, hd⟩ := this
      rw [e] at ho; cases ho
      rcases f with ⟨ws, hw, _⟩ | ⟨_, xs, n, hw⟩ <;> rcases hd with hd | ⟨es, m, hd⟩ <;> rw [hd] at hw <;> cases hw

theorem notFirm_dict {o : Obj} {es : Array DictEntry} {n : Nat} (hd : o.data = .dict es n) : ¬ Firm o := by
  rintro (⟨vs, q, _⟩ | ⟨_, xs, m, q⟩) <;> rw [hd] at q <;> cases q
theorem notFirm_cell {o : Obj} {ov : Option Value} (hd : o.data = .cell ov) : ¬ Firm o := by
  rintro (⟨vs, q, _⟩ | ⟨_, xs, m, q⟩) <;> rw [hd] at q <;> cases q
theorem Hp.firm {base h : Heap} {fr : List Env} {σ : Sto} (H : Hp base fr σ h) {b : Addr} {o : Obj} (e : h.get? b = some o) (f : Firm o) : b ∉ frs fr ∧ σ b = none := by
  refine ⟨fun m => ?_, H.sim.not_firm e f⟩
  obtain ⟨o', es, n, h1, h2⟩ := H.dicts b m
  rw [e] at h1; cases h1
  exact notFirm_dict h2 f
theorem Step.rep {base h h' : Heap} {fr : List Env} {σ σ' : Sto} {v : Value} {p : PV} (x : Step fr nobody σ h σ' h') (H : Hp base fr σ h) (r : Rep base h v p) : Rep base h' v p :=
  r.mono fun b o e f => x.other b o e (H.firm e f).1 id (H.firm e f).2
theorem Step.reps {base h h' : Heap} {fr : List Env} {σ σ' : Sto} {v : List Value} {p : List PV} (x : Step fr nobody σ h σ' h') (H : Hp base fr σ h) (r : Reps base h v p) : Reps base h' v p :=
  r.mono fun b o e f => x.other b o e (H.firm e f).1 id (H.firm e f).2

theorem funFrames_step {base h h' : Heap} : ∀ {l : List Env}, h.FunFrames base l → (∀ b o, h.get? b = some o → (∀ vs, o.data ≠ .fields vs) → b ∈ frs l → ∃ o', h'.get? b = some o' ∧ ∀ vs, o'.data ≠ .fields vs) → h'.FunFrames base l
  | [], _, _ => trivial
  | env :: l, ⟨hk, ⟨L, o, hf, hn, ho, hd⟩, hr⟩, k => by
    have hm : L ∈ frs (env :: l) := List.mem_filterMap.mpr ⟨env, .head _, hf⟩
    obtain ⟨o', ho', hd'⟩ := k L o ho hd hm
    refine ⟨hk, ⟨L, o', hf, hn, ho', hd'⟩, funFrames_step hr fun b o e d m => k b o e d ?_⟩
    obtain ⟨en, he, hf'⟩ := List.mem_filterMap.mp m
    exact List.mem_filterMap.mpr ⟨en, .tail _ he, hf'⟩

theorem Hp.step {base h h' : Heap} {fr : List Env} {σ σ' : Sto} (H : Hp base fr σ h) (x : Step fr nobody σ h σ' h') (S : Sim base h' σ') : Hp base fr σ' h' where
  stays := fun b o e => x.other b o (H.stays b o e) (fun m => by rw [(H.frames.mem m).1] at e; cases e) id (by
    cases q : σ b with
    | none => rfl
    | some ao => have := (H.fresh b (by rw [q]; simp)).1; rw [e] at this; cases this)
  frames := funFrames_step H.frames fun b o e d m => by
    obtain ⟨sl, hs⟩ := x.frame b o e m id
    exact ⟨_, hs, d⟩
  sim := S
  fresh := fun a n => by
    by_cases q : σ a = none
    · have hn : h.get? a = none := by
        cases e : h.get? a with
        | none => rfl
        | some o => exact absurd (x.new a q id (by rw [e]; simp)) n
      refine ⟨?_, fun m => ?_⟩
      · cases e : base.get? a with
        | none => rfl
        | some o => rw [H.stays a o e] at hn; cases hn
      · obtain ⟨_, o, ho, _⟩ := H.frames.mem m
        rw [hn] at ho; cases ho
    · exact H.fresh a q
  dicts := fun b m => by
    obtain ⟨o, es, n, ho, hd⟩ := H.dicts b m
    obtain ⟨sl, hs⟩ := x.frame b o ho m id
    exact ⟨_, es, n, hs, hd⟩
end Mine

set_option autoImplicit false
namespace Mine
open PySem PyProof.Rows

/-- the run's fixed part -/
structure Gx where
  prog : Program
  w : World
  base : Heap
  K : List (Addr × Obj)
  mg : Str → Option Value
  mb : Str → Option Value
  inK : ∀ a o, K.lookup a = some o → base.get? a = some o
  hg : base.Ns mainGlobals mg
  hb : base.Ns builtinsNs mb
  nolimit : base.NoLimit

noncomputable abbrev Gx.M (g : Gx) : Model := model g.prog g.w

/-- the frame's names: what stands in the table (of heap h), what the values lean on (B) -/
structure Loc (base B h : Heap) (env : Env) (ρ : Env') : Prop where
  ns : ∃ m, h.Ns env.locals m ∧ ∀ x p, ρ x = some p → env.kindOf x = some .local → ∃ v, m x = some v ∧ Rep base B v p
  cell : ∀ x, env.kindOf x = some .cell → ∃ c ov, env.cells.lookup x = some c ∧ B.IsCell c ov ∧ ∀ p, ρ x = some p → ∃ v, ov = some v ∧ Rep base B v p

structure St (g : Gx) (fr : List Env) (env : Env) (ρ : Env') (σ : Sto) (h : Heap) : Prop where
  hp : Hp g.base fr σ h
  loc : Loc g.base h h env ρ
  nl : σ env.locals = none

noncomputable def Room (n : Nat) (A : Around) : Prop := A.depth + n < recursionLimit ∧ A.units + 8 * n + 100 < cLine
theorem Room.lt {n : Nat} {A : Around} (r : Room n A) : A.depth < recursionLimit := by have := r.1; omega
theorem Room.units {n : Nat} {A : Around} (r : Room n A) : A.units + 100 < cLine := by have := r.2; omega
theorem Room.le {n m : Nat} {A : Around} (r : Room n A) (h : m ≤ n) : Room m A := ⟨by have := r.1; omega, by have := r.2; omega⟩
theorem Room.deeper {n : Nat} {A : Around} {env : Env} (r : Room (n + 1) A) : Room n (A.deeper env) := by
  obtain ⟨h1, h2⟩ := r
  refine ⟨?_, ?_⟩
  · show A.depth + 1 + n < _; omega
  · show A.units + 3 + 8 * n + 100 < _; omega

/-- the setting of a run in a frame: the frames are fr, names are looked up in env -/
structure Cx (g : Gx) (n : Nat) (q : Bool) (A : Around) (fr : List Env) (env : Env) : Prop where
  frames : A.frames = some fr
  room : Room n A
  quiet : q = true → A.handled = none
  kind : env.scope.kind = .function
  globals : env.globals = mainGlobals
  builtins : env.builtins = builtinsNs
  inj : ∀ x y c, env.cells.lookup x = some c → env.cells.lookup y = some c → x = y
  nbase : g.base.get? env.locals = none
  cbase : ∀ x c, env.cells.lookup x = some c → g.base.get? c = none

/-- an exception in flight (just made | come from a callee | noted at this frame) -/
noncomputable def Fly (B : Heap) (fr : List Env) (x c : Addr) (h' : Heap) : Prop :=
  B.StaysIn h' ∧ h'.FunFrames B fr ∧ B.get? x = none ∧
  ((∃ t o, h'.get? x = some o ∧ o.cls = .ref c ∧ o.data = .fields #[.ref t, .none, .none, .none, .bool false, .none]) ∨
   (∃ a0, h'.TracedW B x (.ref c) a0) ∨
   (∃ a0 L env outer, fr = env :: outer ∧ env.frame = some L ∧ h'.TracedAtW B x (.ref c) a0 (rawInt L)))

structure ExcB (g : Gx) (fr : List Env) (own : Addr → Prop) (σ : Sto) (h : Heap) (σ' : Sto) (B h' : Heap) (x c : Addr) : Prop where
  other : ∀ b o, h.get? b = some o → b ∉ frs fr → ¬ own b → σ b = none → B.get? b = some o
  frame : ∀ b o, h.get? b = some o → b ∈ frs fr → ¬ own b → ∃ sl, h'.get? b = some { o with slots := sl }
  sim : Sim g.base B σ'
  new : ∀ a, σ a = none → ¬ own a → h.get? a ≠ none → σ' a = none
  dom : ∀ a, σ a ≠ none → σ' a ≠ none
  stays : g.base.StaysIn B
  nofr : ∀ b ∈ frs fr, B.get? b = none
  dicts : ∀ b ∈ frs fr, ∃ o es n, h'.get? b = some o ∧ o.data = .dict es n
  fly : Fly B fr x c h'

noncomputable abbrev TE := Env' → Sto → (PV → Sto → Prop) → (Addr → Sto → Prop) → Prop
inductive Fl where
  | next | brk | cont
  | ret (v : PV)
noncomputable abbrev TS := Env' → Sto → (Fl → Env' → Sto → Prop) → (Addr → Env' → Sto → Prop) → Prop

inductive PostE (g : Gx) (fr : List Env) (σ : Sto) (s : Shared) (Q : PV → Sto → Prop) (v : Value) (s' : Shared) : Prop
  | mk (h' : Heap) (tk : Nat) (p : PV) (σ' : Sto) : s' = { s with heap := h', toks := tk } → Step fr nobody σ s.heap σ' h' → Sim g.base h' σ' → Rep g.base h' v p → Q p σ' → PostE g fr σ s Q v s'
inductive PostX (g : Gx) (fr : List Env) (σ : Sto) (s : Shared) (X : Addr → Sto → Prop) (v : Value) (s' : Shared) : Prop
  | mk (h' : Heap) (tk : Nat) (x c : Addr) (σ' : Sto) (B : Heap) : v = .ref x → s' = { s with heap := h', toks := tk } → ExcB g fr nobody σ s.heap σ' B h' x c → X c σ' → PostX g fr σ s X v s'

noncomputable def owned (env : Env) : Addr → Prop := fun b => b = env.locals ∨ ∃ y, env.kindOf y = some .cell ∧ env.cells.lookup y = some b

inductive FlRep (base h : Heap) : Flow → Fl → Prop
  | next : FlRep base h .next .next
  | brk : FlRep base h .brk .brk
  | cont : FlRep base h .cont .cont
  | ret {v : Value} {p : PV} : Rep base h v p → FlRep base h (.ret v) (.ret p)

inductive PostS (g : Gx) (fr : List Env) (env : Env) (σ : Sto) (s : Shared) (Q : Fl → Env' → Sto → Prop) (f : Flow) (s' : Shared) : Prop
  | mk (h' : Heap) (tk : Nat) (fl : Fl) (ρ' : Env') (σ' : Sto) : s' = { s with heap := h', toks := tk } → Step fr (owned env) σ s.heap σ' h' → St g fr env ρ' σ' h' → FlRep g.base h' f fl → Q fl ρ' σ' → PostS g fr env σ s Q f s'
inductive PostXS (g : Gx) (fr : List Env) (env : Env) (σ : Sto) (s : Shared) (X : Addr → Env' → Sto → Prop) (v : Value) (s' : Shared) : Prop
  | mk (h' : Heap) (tk : Nat) (x c : Addr) (ρ' : Env') (σ' : Sto) (B : Heap) : v = .ref x → s' = { s with heap := h', toks := tk } → ExcB g fr (owned env) σ s.heap σ' B h' x c → Loc g.base B h' env ρ' → X c ρ' σ' → PostXS g fr env σ s X v s'

/-- an expression is told by a transformer -/
noncomputable def SoundE (g : Gx) (n : Nat) (q : Bool) (sc : Scope) (e : Expr) (t : TE) : Prop :=
  ∀ (A : Around) (fr : List Env) (env : Env), Cx g n q A fr env → env.scope = sc → ∀ (s : Shared) (ρ : Env') (σ : Sto) (Q : PV → Sto → Prop) (X : Addr → Sto → Prop),
    St g fr env ρ σ s.heap → t ρ σ Q X → wpAny g.M A (eval e env) (PostE g fr σ s Q) (PostX g fr σ s X) s

/-- several, from the left -/
noncomputable abbrev TEs := Env' → Sto → (List PV → Sto → Prop) → (Addr → Sto → Prop) → Prop

/-- a condition -/
noncomputable abbrev TB := Env' → Sto → (Bool → Sto → Prop) → (Addr → Sto → Prop) → Prop
inductive PostB (g : Gx) (fr : List Env) (σ : Sto) (s : Shared) (Q : Bool → Sto → Prop) (b : Bool) (s' : Shared) : Prop
  | mk (h' : Heap) (tk : Nat) (σ' : Sto) : s' = { s with heap := h', toks := tk } → Step fr nobody σ s.heap σ' h' → Sim g.base h' σ' → Q b σ' → PostB g fr σ s Q b s'
noncomputable def SoundB (g : Gx) (n : Nat) (q : Bool) (sc : Scope) (e : Expr) (t : TB) : Prop :=
  ∀ (A : Around) (fr : List Env) (env : Env), Cx g n q A fr env → env.scope = sc → ∀ (s : Shared) (ρ : Env') (σ : Sto) (Q : Bool → Sto → Prop) (X : Addr → Sto → Prop),
    St g fr env ρ σ s.heap → t ρ σ Q X → wpAny g.M A (isTrue e env (eval e env)) (PostB g fr σ s Q) (PostX g fr σ s X) s

noncomputable def SoundS (g : Gx) (n : Nat) (q : Bool) (sc : Scope) (st : Stmt) (t : TS) : Prop :=
  ∀ (A : Around) (outer : List Env) (env : Env), Cx g n q A (env :: outer) env → env.scope = sc → env.frame = some env.locals → ∀ (s : Shared) (ρ : Env') (σ : Sto) (Q : Fl → Env' → Sto → Prop) (X : Addr → Env' → Sto → Prop),
    St g (env :: outer) env ρ σ s.heap → t ρ σ Q X → wpAny g.M A (exec st env) (PostS g (env :: outer) env σ s Q) (PostXS g (env :: outer) env σ s X) s
noncomputable def SoundSs (g : Gx) (n : Nat) (q : Bool) (sc : Scope) (st : List Stmt) (t : TS) : Prop :=
  ∀ (A : Around) (outer : List Env) (env : Env), Cx g n q A (env :: outer) env → env.scope = sc → env.frame = some env.locals → ∀ (s : Shared) (ρ : Env') (σ : Sto) (Q : Fl → Env' → Sto → Prop) (X : Addr → Env' → Sto → Prop),
    St g (env :: outer) env ρ σ s.heap → t ρ σ Q X → wpAny g.M A (execs st env) (PostS g (env :: outer) env σ s Q) (PostXS g (env :: outer) env σ s X) s

/-! moving along -/
theorem IsCell.notIn {base h : Heap} {σ : Sto} (S : Sim base h σ) {c : Addr} {ov : Option Value} (hc : h.IsCell c ov) : σ c = none := by
  obtain ⟨o, ho, hd⟩ := hc
  cases q : σ c with
  | none => rfl
  | some ao =>
    have := S c ao q
    cases ao with
    | list xs => obtain ⟨vs, ⟨n, ho'⟩, _⟩ := this; rw [ho] at ho'; cases ho'; cases hd
    | raw o' => obtain ⟨ho', hd'⟩ := this; rw [ho] at ho'; cases ho'; rcases hd' with hd' | ⟨_, _, hd'⟩ <;> rw [hd] at hd' <;> cases hd'
theorem IsCell.notFr {base h : Heap} {fr : List Env} {σ : Sto} (H : Hp base fr σ h) {c : Addr} {ov : Option Value} (hc : h.IsCell c ov) : c ∉ frs fr := fun m => by
  obtain ⟨o, ho, hd⟩ := hc
  obtain ⟨o', es, n, ho', hd'⟩ := H.dicts c m
  rw [ho] at ho'; cases ho'; rw [hd] at hd'; cases hd'

theorem Ns.up {h h' : Heap} {a : Addr} {m : Str → Option Value} (hn : h.Ns a m) (k : ∀ o, h.get? a = some o → ∃ sl, h'.get? a = some { o with slots := sl }) : h'.Ns a m := by
  obtain ⟨o, es, ep, ho, hd, r⟩ := hn
  obtain ⟨sl, hs⟩ := k o ho
  exact ⟨_, es, ep, hs, hd, r⟩
theorem IsCell.up {h h' : Heap} {a : Addr} {ov : Option Value} (hn : h.IsCell a ov) (k : ∀ o, h.get? a = some o → ∃ sl, h'.get? a = some { o with slots := sl }) : h'.IsCell a ov := by
  obtain ⟨o, ho, hd⟩ := hn
  obtain ⟨sl, hs⟩ := k o ho
  exact ⟨_, hs, hd⟩

theorem St.step {g : Gx} {fr : List Env} {env : Env} {ρ : Env'} {σ σ' : Sto} {h h' : Heap} (H : St g fr env ρ σ h) (x : Step fr nobody σ h σ' h') (S : Sim g.base h' σ') : St g fr env ρ σ' h' := by
  have up : ∀ b o, h.get? b = some o → σ b = none → ∃ sl, h'.get? b = some { o with slots := sl } := fun b o e n => by
    by_cases m : b ∈ frs fr
    · exact x.frame b o e m id
    · exact ⟨o.slots, x.other b o e m id n⟩
  obtain ⟨hp, ⟨⟨m, hn, hm⟩, hc⟩, nl⟩ := H
  refine ⟨hp.step x S, ⟨⟨m, Ns.up hn fun o e => up _ o e nl, fun y p e k => ?_⟩, fun y k => ?_⟩, ?_⟩
  · obtain ⟨v, hv, r⟩ := hm y p e k
    exact ⟨v, hv, x.rep hp r⟩
  · obtain ⟨c, ov, h1, h2, h3⟩ := hc y k
    refine ⟨c, ov, h1, IsCell.up h2 fun o e => up _ o e (IsCell.notIn hp.sim h2), fun p e => ?_⟩
    obtain ⟨v, e1, r⟩ := h3 p e
    exact ⟨v, e1, x.rep hp r⟩
  · refine x.new _ nl id ?_
    obtain ⟨o, es, ep, ho, _⟩ := hn
    rw [ho]; simp

theorem ExcB.before {g : Gx} {fr : List Env} {own : Addr → Prop} {σ σ₁ σ₂ : Sto} {h h₁ B h₂ : Heap} {x c : Addr} (a : Step fr own σ h σ₁ h₁) (e : ExcB g fr own σ₁ h₁ σ₂ B h₂ x c) : ExcB g fr own σ h σ₂ B h₂ x c where
  other := fun b o e1 n1 n2 n3 => e.other b o (a.other b o e1 n1 n2 n3) n1 n2 (a.new b n3 n2 (by rw [e1]; simp))
  frame := fun b o e1 n1 n2 => by
    obtain ⟨sl, h1⟩ := a.frame b o e1 n1 n2
    obtain ⟨sl2, h2⟩ := e.frame b _ h1 n1 n2
    exact ⟨sl2, h2⟩
  sim := e.sim
  new := fun b n n2 e1 => by
    refine e.new b (a.new b n n2 e1) n2 ?_
    cases q : h.get? b with
    | none => exact absurd q e1
    | some o => obtain ⟨o1, h1⟩ := a.live b o q n2; rw [h1]; simp
  dom := fun b n => e.dom b (a.dom b n)
  stays := e.stays
  nofr := e.nofr
  dicts := e.dicts
  fly := e.fly
theorem ExcB.own {g : Gx} {fr : List Env} {own own' : Addr → Prop} {σ σ₂ : Sto} {h B h₂ : Heap} {x c : Addr} (e : ExcB g fr own σ h σ₂ B h₂ x c) (k : ∀ b, own b → own' b) : ExcB g fr own' σ h σ₂ B h₂ x c :=
  { e with other := fun b o e1 n1 n2 n3 => e.other b o e1 n1 (fun q => n2 (k b q)) n3, frame := fun b o e1 n1 n2 => e.frame b o e1 n1 (fun q => n2 (k b q)), new := fun a s n => e.new a s (fun q => n (k a q)) }

theorem PostE.up {g : Gx} {fr : List Env} {σ σ₁ : Sto} {s : Shared} {h₁ : Heap} {tk : Nat} {Q : PV → Sto → Prop} {v : Value} {s' : Shared} (a : Step fr nobody σ s.heap σ₁ h₁) (p : PostE g fr σ₁ { s with heap := h₁, toks := tk } Q v s') : PostE g fr σ s Q v s' := by
  obtain ⟨h', tk', p, σ', rfl, b, S, r, hq⟩ := p
  exact ⟨h', tk', p, σ', rfl, a.trans b, S, r, hq⟩
theorem PostB.up {g : Gx} {fr : List Env} {σ σ₁ : Sto} {s : Shared} {h₁ : Heap} {tk : Nat} {Q : Bool → Sto → Prop} {v : Bool} {s' : Shared} (a : Step fr nobody σ s.heap σ₁ h₁) (p : PostB g fr σ₁ { s with heap := h₁, toks := tk } Q v s') : PostB g fr σ s Q v s' := by
  obtain ⟨h', tk', σ', rfl, b, S, hq⟩ := p
  exact ⟨h', tk', σ', rfl, a.trans b, S, hq⟩
theorem PostX.up {g : Gx} {fr : List Env} {σ σ₁ : Sto} {s : Shared} {h₁ : Heap} {tk : Nat} {X : Addr → Sto → Prop} {v : Value} {s' : Shared} (a : Step fr nobody σ s.heap σ₁ h₁) (p : PostX g fr σ₁ { s with heap := h₁, toks := tk } X v s') : PostX g fr σ s X v s' := by
  obtain ⟨h', tk', x, c, σ', B, rfl, rfl, e, hx⟩ := p
  exact ⟨h', tk', x, c, σ', B, rfl, rfl, ExcB.before a e, hx⟩

/-- one step of an evaluation, then the rest -/
theorem bindE {g : Gx} {fr : List Env} {A : Around} {σ : Sto} {s : Shared} {t : Sem Value} {Q₁ : PV → Sto → Prop} {X : Addr → Sto → Prop} {f : Value → Shared → Prop}
    (h : wpAny g.M A t (PostE g fr σ s Q₁) (PostX g fr σ s X) s)
    (k : ∀ v h₁ tk p σ₁, Step fr nobody σ s.heap σ₁ h₁ → Sim g.base h₁ σ₁ → Rep g.base h₁ v p → Q₁ p σ₁ → f v { s with heap := h₁, toks := tk }) :
    wpAny g.M A t f (PostX g fr σ s X) s :=
  wpAny_mono h (fun v _ ⟨h', tk, p, σ', e, b, S, r, hq⟩ => e ▸ k v h' tk p σ' b S r hq) fun _ _ x => x

theorem doneE {g : Gx} {fr : List Env} {σ : Sto} {s : Shared} {Q : PV → Sto → Prop} {v : Value} {p : PV} {tk : Nat} (S : Sim g.base s.heap σ) (r : Rep g.base s.heap v p) (hq : Q p σ) : PostE g fr σ s Q v { s with toks := tk } :=
  ⟨s.heap, tk, p, σ, rfl, Step.refl, S, r, hq⟩

/-! names and constants -/
noncomputable def tName (x : Str) : TE := fun ρ σ Q _ => match ρ x with
  | some p => Q p σ
  | none => False
noncomputable def tConst (p : PV) : TE := fun _ σ Q _ => Q p σ

section
variable {g : Gx} {n : Nat} {q : Bool} {sc : Scope}
theorem sound_local {x : Str} {pos : Pos} (hl : sc.names.lookup x = some .local) (hd : (x == ("__debug__" : Str)) = false) : SoundE g n q sc (.Name x pos) (tName x) := by
  intro A fr env C hsc s ρ σ Q X H ht
  subst hsc
  unfold tName at ht
  split at ht
  · rename_i p hp
    obtain ⟨⟨m, hn, hm⟩, _⟩ := H.loc
    obtain ⟨v, hv, r⟩ := hm x p hp hl
    exact wpAny_Name (wpAny_loadName_local C.kind hl hn hv (doneE (tk := s.toks) H.hp.sim r ht)) hd
  · exact ht.elim
theorem sound_cell {x : Str} {pos : Pos} (hl : sc.names.lookup x = some .cell) (hd : (x == ("__debug__" : Str)) = false) : SoundE g n q sc (.Name x pos) (tName x) := by
  intro A fr env C hsc s ρ σ Q X H ht
  subst hsc
  unfold tName at ht
  split at ht
  · rename_i p hp
    obtain ⟨c, ov, h1, h2, h3⟩ := H.loc.cell x hl
    obtain ⟨v, rfl, r⟩ := h3 p hp
    exact wpAny_Name (wpAny_loadName_cell C.kind hl h1 h2 (doneE (tk := s.toks) H.hp.sim r ht)) hd
  · exact ht.elim
theorem sound_int {i : Int} {k : Nat} {pos : Pos} : SoundE g n q sc (.Constant (.int i) k pos) (tConst (.int i)) := by
  intro A fr env C hsc s ρ σ Q X H ht
  exact wpAny_Constant_int (doneE H.hp.sim (.int _ _) ht)
theorem sound_str {x : Str} {k : Nat} {pos : Pos} : SoundE g n q sc (.Constant (.str x) k pos) (tConst (.str x)) := by
  intro A fr env C hsc s ρ σ Q X H ht
  exact wpAny_mkText (doneE H.hp.sim (.str _ _) ht)
theorem sound_bool {b : Bool} {k : Nat} {pos : Pos} : SoundE g n q sc (.Constant (.bool b) k pos) (tConst (.bool b)) := by
  intro A fr env C hsc s ρ σ Q X H ht
  exact wpAny_pure (doneE (tk := s.toks) H.hp.sim (.bool _) ht)
theorem sound_none {k : Nat} {pos : Pos} : SoundE g n q sc (.Constant .none k pos) (tConst .none) := by
  intro A fr env C hsc s ρ σ Q X H ht
  exact wpAny_pure (doneE (tk := s.toks) H.hp.sim .none ht)
end
end Mine

set_option autoImplicit false
namespace Mine
open PySem PyProof.Rows

noncomputable def setL (ρ : Env') (x : Str) (p : PV) : Env' := fun y => if y = x then some p else ρ y

/-- one own object turned -/
theorem turned {base h h' : Heap} {fr : List Env} {own : Addr → Prop} {σ : Sto} {a : Addr} (H : Hp base fr σ h) (ho : own a) (hs : Heap.SameBut a h h') (hsz : ∃ o', h'.get? a = some o' ∧ ((∃ es n, o'.data = .dict es n) ∨ ((∃ ov, o'.data = .cell ov) ∧ a ∉ frs fr)))
    (hb : base.get? a = none) (hσ : σ a = none) (hf : ∀ o, h.get? a = some o → ¬ Firm o) : Step fr own σ h σ h' ∧ Hp base fr σ h' ∧ (∀ {v : Value} {p : PV}, Rep base h v p → Rep base h' v p) := by
  have firm : ∀ b o, h.get? b = some o → Firm o → h'.get? b = some o := fun b o e f => by
    have : b ≠ a := by rintro rfl; exact hf o e f
    exact (hs.2 b this).trans e
  refine ⟨⟨fun b o e _ n _ => ?_, fun b o e _ n => ?_, fun b o e n => ?_, fun _ e _ _ => e, fun _ e => e⟩, ⟨fun b o e => ?_, ?_, ?_, H.fresh, fun b m => ?_⟩, fun r => r.mono firm⟩
  · exact (hs.2 b (by rintro rfl; exact n ho)).trans e
  · exact ⟨o.slots, (hs.2 b (by rintro rfl; exact n ho)).trans e⟩
  · by_cases q : b = a
    · subst q; obtain ⟨o', h1, _⟩ := hsz; exact ⟨o', h1⟩
    · exact ⟨o, (hs.2 b q).trans e⟩
  · exact (hs.2 b (by rintro rfl; rw [hb] at e; cases e)).trans (H.stays b o e)
  · refine funFrames_step H.frames fun b o e d m => ?_
    by_cases q : b = a
    · subst q
      obtain ⟨o', h1, h2⟩ := hsz
      refine ⟨o', h1, fun vs z => ?_⟩
      rcases h2 with ⟨es, n, h2⟩ | ⟨⟨ov, h2⟩, _⟩ <;> rw [h2] at z <;> cases z
    · exact ⟨o, (hs.2 b q).trans e, d⟩
  · intro c ao e
    have hne : c ≠ a := by rintro rfl; rw [hσ] at e; cases e
    have := H.sim c ao e
    cases ao with
    | list xs =>
      obtain ⟨vs, ⟨m, h1⟩, r⟩ := this
      exact ⟨vs, ⟨m, (hs.2 c hne).trans h1⟩, r.mono firm⟩
    | raw o => exact ⟨(hs.2 c hne).trans this.1, this.2⟩
  · by_cases q : b = a
    · subst q
      obtain ⟨o', h1, h2⟩ := hsz
      rcases h2 with ⟨es, n, h2⟩ | ⟨_, h2⟩
      · exact ⟨o', es, n, h1, h2⟩
      · exact absurd m h2
    · obtain ⟨o, es, n, h1, h2⟩ := H.dicts b m
      exact ⟨o, es, n, (hs.2 b q).trans h1, h2⟩

theorem store {g : Gx} {n : Nat} {q : Bool} {A : Around} {fr : List Env} {env : Env} {s : Shared} {ρ : Env'} {σ : Sto} {x : Str} {v : Value} {p : PV} {E : Value → Shared → Prop} {Q : Unit → Shared → Prop} (C : Cx g n q A fr env) (H : St g fr env ρ σ s.heap)
    (hx : env.kindOf x = some .local ∨ env.kindOf x = some .cell) (r : Rep g.base s.heap v p)
    (k : ∀ h' tk, Step fr (owned env) σ s.heap σ h' → St g fr env (setL ρ x p) σ h' → Q () { s with heap := h', toks := tk }) : wpAny g.M A (storeName env x v) Q E s := by
  obtain ⟨hp, ⟨⟨m, hn, hm⟩, hc⟩, nl⟩ := H
  have hLd : ∀ o, s.heap.get? env.locals = some o → ¬ Firm o := fun o e => by
    obtain ⟨o', es, ep, ho, hd, _⟩ := hn
    rw [e] at ho; cases ho; exact notFirm_dict hd
  rcases hx with hx | hx
  · refine wpAny_storeName_local hx hn (fun h' hn' hs' => ?_) (by rw [C.kind]; rfl)
    have hsz : ∃ o', h'.get? env.locals = some o' ∧ ((∃ es n, o'.data = .dict es n) ∨ ((∃ ov, o'.data = .cell ov) ∧ env.locals ∉ frs fr)) := by
      obtain ⟨o', es, ep, ho, hd, _⟩ := hn'
      exact ⟨o', ho, .inl ⟨es, ep, hd⟩⟩
    obtain ⟨S1, H1, R1⟩ := turned (own := owned env) hp (.inl rfl) hs' hsz C.nbase nl hLd
    refine k h' _ S1 ⟨H1, ⟨⟨_, hn', fun y p' e k' => ?_⟩, fun y k' => ?_⟩, nl⟩
    · unfold setL at e
      by_cases hy : y = x
      · subst hy
        rw [if_pos rfl] at e; cases e
        exact ⟨v, by rw [if_pos rfl], R1 r⟩
      · rw [if_neg hy] at e
        obtain ⟨w, h1, h2⟩ := hm y p' e k'
        exact ⟨w, by rw [if_neg hy]; exact h1, R1 h2⟩
    · obtain ⟨c, ov, h1, h2, h3⟩ := hc y k'
      have hcl : c ≠ env.locals := by
        rintro rfl
        obtain ⟨o, ho, hd⟩ := h2
        obtain ⟨o', es, ep, ho', hd', _⟩ := hn
        rw [ho] at ho'; cases ho'; rw [hd] at hd'; cases hd'
      refine ⟨c, ov, h1, h2.sameBut hs' hcl, fun p' e => ?_⟩
      have hy : y ≠ x := by rintro rfl; rw [hx] at k'; cases k'
      unfold setL at e
      rw [if_neg hy] at e
      obtain ⟨w, h4, h5⟩ := h3 p' e
      exact ⟨w, h4, R1 h5⟩
  · obtain ⟨c, ov, h1, h2, _⟩ := hc x hx
    refine wpAny_storeName_cell C.kind hx h1 h2 fun h' hc' hs' => ?_
    have hnf := IsCell.notFr hp h2
    have hsz : ∃ o', h'.get? c = some o' ∧ ((∃ es n, o'.data = .dict es n) ∨ ((∃ ov, o'.data = .cell ov) ∧ c ∉ frs fr)) := by
      obtain ⟨o', ho, hd⟩ := hc'
      exact ⟨o', ho, .inr ⟨⟨_, hd⟩, hnf⟩⟩
    have hcf : ∀ o, s.heap.get? c = some o → ¬ Firm o := fun o e => by
      obtain ⟨o', ho, hd⟩ := h2
      rw [e] at ho; cases ho; exact notFirm_cell hd
    obtain ⟨S1, H1, R1⟩ := turned (own := owned env) hp (.inr ⟨x, hx, h1⟩) hs' hsz (C.cbase _ _ h1) (IsCell.notIn hp.sim h2) hcf
    have hcl : env.locals ≠ c := by
      rintro e
      obtain ⟨o, ho, hd⟩ := h2
      obtain ⟨o', es, ep, ho', hd', _⟩ := hn
      rw [← e, ho'] at ho; cases ho; rw [hd'] at hd; cases hd
    refine k h' s.toks S1 ⟨H1, ⟨⟨m, hn.sameBut hs' hcl, fun y p' e k' => ?_⟩, fun y k' => ?_⟩, nl⟩
    · have hy : y ≠ x := by rintro rfl; rw [hx] at k'; cases k'
      unfold setL at e
      rw [if_neg hy] at e
      obtain ⟨w, h3, h4⟩ := hm y p' e k'
      exact ⟨w, h3, R1 h4⟩
    · by_cases hy : y = x
      · subst hy
        refine ⟨c, some v, h1, hc', fun p' e => ?_⟩
        unfold setL at e
        rw [if_pos rfl] at e; cases e
        exact ⟨v, rfl, R1 r⟩
      · obtain ⟨c', ov', h3, h4, h5⟩ := hc y k'
        have hne : c' ≠ c := by rintro rfl; exact hy (C.inj y x _ h3 h1)
        refine ⟨c', ov', h3, h4.sameBut hs' hne, fun p' e => ?_⟩
        unfold setL at e
        rw [if_neg hy] at e
        obtain ⟨w, h6, h7⟩ := h5 p' e
        exact ⟨w, h6, R1 h7⟩

theorem PostS.up {g : Gx} {fr : List Env} {env : Env} {σ σ₁ : Sto} {s : Shared} {h₁ : Heap} {tk : Nat} {Q : Fl → Env' → Sto → Prop} {f : Flow} {s' : Shared} (a : Step fr (owned env) σ s.heap σ₁ h₁) (p : PostS g fr env σ₁ { s with heap := h₁, toks := tk } Q f s') : PostS g fr env σ s Q f s' := by
  obtain ⟨h', tk', fl, ρ', σ', rfl, b, S, r, hq⟩ := p
  exact ⟨h', tk', fl, ρ', σ', rfl, a.trans b, S, r, hq⟩
theorem PostXS.up {g : Gx} {fr : List Env} {env : Env} {σ σ₁ : Sto} {s : Shared} {h₁ : Heap} {tk : Nat} {X : Addr → Env' → Sto → Prop} {v : Value} {s' : Shared} (a : Step fr (owned env) σ s.heap σ₁ h₁) (p : PostXS g fr env σ₁ { s with heap := h₁, toks := tk } X v s') : PostXS g fr env σ s X v s' := by
  obtain ⟨h', tk', x, c, ρ', σ', B, rfl, rfl, e, l, hx⟩ := p
  exact ⟨h', tk', x, c, ρ', σ', B, rfl, rfl, ExcB.before a e, l, hx⟩

theorem ExcB.loc {g : Gx} {fr : List Env} {env : Env} {ρ : Env'} {σ σ' : Sto} {h B h' : Heap} {x c : Addr} (H : St g fr env ρ σ h) (e : ExcB g fr nobody σ h σ' B h' x c) (hL : env.locals ∈ frs fr) : Loc g.base B h' env ρ := by
  obtain ⟨hp, ⟨⟨m, hn, hm⟩, hc⟩, nl⟩ := H
  have firm : ∀ b o, h.get? b = some o → Firm o → B.get? b = some o := fun b o e1 f => e.other b o e1 (hp.firm e1 f).1 id (hp.firm e1 f).2
  refine ⟨⟨m, Ns.up hn fun o h1 => e.frame _ o h1 hL id, fun y p h1 h2 => ?_⟩, fun y k => ?_⟩
  · obtain ⟨v, h3, h4⟩ := hm y p h1 h2
    exact ⟨v, h3, h4.mono firm⟩
  · obtain ⟨c', ov, h1, h2, h3⟩ := hc y k
    refine ⟨c', ov, h1, IsCell.up h2 fun o h4 => ⟨o.slots, e.other _ o h4 (IsCell.notFr hp h2) id (IsCell.notIn hp.sim h2)⟩, fun p h4 => ?_⟩
    obtain ⟨v, h5, h6⟩ := h3 p h4
    exact ⟨v, h5, h6.mono firm⟩

theorem PostX.stmt {g : Gx} {outer : List Env} {env : Env} {ρ : Env'} {σ : Sto} {s : Shared} {X : Addr → Env' → Sto → Prop} {v : Value} {s' : Shared} (H : St g (env :: outer) env ρ σ s.heap) (hf : env.frame = some env.locals) (p : PostX g (env :: outer) σ s (fun c σ' => X c ρ σ') v s') : PostXS g (env :: outer) env σ s X v s' := by
  obtain ⟨h', tk, x, c, σ', B, rfl, rfl, e, hx⟩ := p
  exact ⟨h', tk, x, c, ρ, σ', B, rfl, rfl, e.own (fun _ z => z.elim), ExcB.loc H e (List.mem_filterMap.mpr ⟨env, .head _, hf⟩), hx⟩

/-- an expression's evaluation inside a statement -/
theorem stmtE {g : Gx} {outer : List Env} {env : Env} {A : Around} {ρ : Env'} {σ : Sto} {s : Shared} {t : Sem Value} {Q₁ : PV → Sto → Prop} {X : Addr → Env' → Sto → Prop} {f : Value → Shared → Prop} (H : St g (env :: outer) env ρ σ s.heap) (hf : env.frame = some env.locals)
    (h : wpAny g.M A t (PostE g (env :: outer) σ s Q₁) (PostX g (env :: outer) σ s fun c σ' => X c ρ σ') s)
    (k : ∀ v h₁ tk p σ₁, Step (env :: outer) nobody σ s.heap σ₁ h₁ → St g (env :: outer) env ρ σ₁ h₁ → Rep g.base h₁ v p → Q₁ p σ₁ → f v { s with heap := h₁, toks := tk }) :
    wpAny g.M A t f (PostXS g (env :: outer) env σ s X) s :=
  wpAny_mono h (fun v _ ⟨h', tk, p, σ', e, b, S, r, hq⟩ => e ▸ k v h' tk p σ' b (H.step b S) r hq) fun _ _ x => x.stmt H hf
theorem stmtB {g : Gx} {outer : List Env} {env : Env} {A : Around} {ρ : Env'} {σ : Sto} {s : Shared} {t : Sem Bool} {Q₁ : Bool → Sto → Prop} {X : Addr → Env' → Sto → Prop} {f : Bool → Shared → Prop} (H : St g (env :: outer) env ρ σ s.heap) (hf : env.frame = some env.locals)
    (h : wpAny g.M A t (PostB g (env :: outer) σ s Q₁) (PostX g (env :: outer) σ s fun c σ' => X c ρ σ') s)
    (k : ∀ b h₁ tk σ₁, Step (env :: outer) nobody σ s.heap σ₁ h₁ → St g (env :: outer) env ρ σ₁ h₁ → Q₁ b σ₁ → f b { s with heap := h₁, toks := tk }) :
    wpAny g.M A t f (PostXS g (env :: outer) env σ s X) s :=
  wpAny_mono h (fun v _ ⟨h', tk, σ', e, b, S, hq⟩ => e ▸ k v h' tk σ' b (H.step b S) hq) fun _ _ x => x.stmt H hf
theorem noOwn {fr : List Env} {own : Addr → Prop} {σ σ₁ : Sto} {h h₁ : Heap} (x : Step fr nobody σ h σ₁ h₁) : Step fr own σ h σ₁ h₁ := x.own fun _ z => z.elim

/-! statements -/
noncomputable def tNil : TS := fun ρ σ Q _ => Q .next ρ σ
noncomputable def tSeq (a b : TS) : TS := fun ρ σ Q X => a ρ σ (fun f ρ' σ' => match f with
  | .next => b ρ' σ' Q X
  | f => Q f ρ' σ') X
noncomputable def tSet (x : Str) (e : TE) : TS := fun ρ σ Q X => e ρ σ (fun p σ' => Q .next (setL ρ x p) σ') (fun c σ' => X c ρ σ')
noncomputable def tIf (b : TB) (t e : TS) : TS := fun ρ σ Q X => b ρ σ (fun r σ' => if r = true then t ρ σ' Q X else e ρ σ' Q X) (fun c σ' => X c ρ σ')
noncomputable def tRet (e : TE) : TS := fun ρ σ Q X => e ρ σ (fun p σ' => Q (.ret p) ρ σ') (fun c σ' => X c ρ σ')
noncomputable def tExpr (e : TE) : TS := fun ρ σ Q X => e ρ σ (fun _ σ' => Q .next ρ σ') (fun c σ' => X c ρ σ')

section
variable {g : Gx} {n : Nat} {q : Bool} {sc : Scope}
theorem sound_nil : SoundSs g n q sc [] tNil := by
  intro A outer env C hsc hf s ρ σ Q X H ht
  exact wpAny_execs_nil ⟨s.heap, s.toks, .next, ρ, σ, rfl, Step.refl, H, .next, ht⟩
theorem sound_cons {st : Stmt} {rest : List Stmt} {a b : TS} (h1 : SoundS g n q sc st a) (h2 : SoundSs g n q sc rest b) : SoundSs g n q sc (st :: rest) (tSeq a b) := by
  intro A outer env C hsc hf s ρ σ Q X H ht
  refine wpAny_execs_cons (wpAny_mono (h1 A outer env C hsc hf s ρ σ _ X H ht) (fun f s' hp => ?_) fun _ _ x => x)
  obtain ⟨h', tk, fl, ρ', σ', rfl, S1, H1, r, hq⟩ := hp
  cases r with
  | next =>
    exact wpAny_mono (h2 A outer env C hsc hf { s with heap := h', toks := tk } ρ' σ' Q X H1 hq) (fun _ _ x => x.up S1) fun _ _ x => x.up S1
  | brk => exact ⟨h', tk, .brk, ρ', σ', rfl, S1, H1, .brk, hq⟩
  | cont => exact ⟨h', tk, .cont, ρ', σ', rfl, S1, H1, .cont, hq⟩
  | ret r => exact ⟨h', tk, _, ρ', σ', rfl, S1, H1, .ret r, hq⟩
theorem sound_set {x : Str} {e : Expr} {pos' pos : Pos} {t : TE} (he : SoundE g n q sc e t) (hx : sc.names.lookup x = some .local ∨ sc.names.lookup x = some .cell)
    (hs : ∀ env : Env, env.scope = sc → swapsWith e (some (.Name x pos')) pos.line env = pure false) : SoundS g n q sc (.Assign [.Name x pos'] e pos) (tSet x t) := by
  intro A outer env C hsc hf s ρ σ Q X H ht
  have hx' : env.kindOf x = some .local ∨ env.kindOf x = some .cell := by subst hsc; exact hx
  refine wpAny_Assign_Name (stmtE H hf (he A _ env C hsc s ρ σ _ _ H ht) fun v h₁ tk p σ₁ S1 H1 r hq => ?_) (hs env hsc)
  exact store C H1 hx' r fun h' tk' S2 H2 => ⟨h', tk', .next, _, σ₁, rfl, (noOwn S1).trans S2, H2, .next, hq⟩
theorem sound_if {test : Expr} {body orelse : List Stmt} {pos : Pos} {b : TB} {t e : TS} (hb : SoundB g n q sc test b) (h1 : SoundSs g n q sc body t) (h2 : SoundSs g n q sc orelse e) : SoundS g n q sc (.If test body orelse pos) (tIf b t e) := by
  intro A outer env C hsc hf s ρ σ Q X H ht
  refine wpAny_If (stmtB H hf (hb A _ env C hsc s ρ σ _ _ H ht) fun r h₁ tk σ₁ S1 H1 hq => ?_)
  cases r with
  | true => exact wpAny_mono (h1 A outer env C hsc hf { s with heap := h₁, toks := tk } ρ σ₁ Q X H1 (by simpa using hq)) (fun _ _ x => x.up (noOwn S1)) fun _ _ x => x.up (noOwn S1)
  | false => exact wpAny_mono (h2 A outer env C hsc hf { s with heap := h₁, toks := tk } ρ σ₁ Q X H1 (by simpa using hq)) (fun _ _ x => x.up (noOwn S1)) fun _ _ x => x.up (noOwn S1)
theorem sound_ret {e : Expr} {pos : Pos} {t : TE} (he : SoundE g n q sc e t) : SoundS g n q sc (.Return (some e) pos) (tRet t) := by
  intro A outer env C hsc hf s ρ σ Q X H ht
  refine wpAny_Return_some (stmtE H hf (he A _ env C hsc s ρ σ _ _ H ht) fun v h₁ tk p σ₁ S1 H1 r hq => ?_)
  exact ⟨h₁, tk, .ret p, ρ, σ₁, rfl, noOwn S1, H1, .ret r, hq⟩
end
end Mine

set_option autoImplicit false
namespace Mine
open PySem PyProof.Rows

noncomputable def Held (B : Heap) (env : Env) (outer : List Env) (x c : Addr) (h' : Heap) : Prop :=
  B.StaysIn h' ∧ h'.FunFrames B (env :: outer) ∧ B.get? x = none ∧ ∃ a0 L, env.frame = some L ∧ h'.TracedAtW B x (.ref c) a0 (rawInt L)
noncomputable def Flown (B : Heap) (fr : List Env) (x c : Addr) (h' : Heap) : Prop := B.StaysIn h' ∧ h'.FunFrames B fr ∧ B.get? x = none ∧ ∃ a0, h'.TracedW B x (.ref c) a0
theorem Held.fly {B : Heap} {env : Env} {outer : List Env} {x c : Addr} {h' : Heap} (H : Held B env outer x c h') : Fly B (env :: outer) x c h' := by
  obtain ⟨h1, h2, h3, a0, L, h4, h5⟩ := H
  exact ⟨h1, h2, h3, .inr (.inr ⟨a0, L, env, outer, rfl, h4, h5⟩)⟩
theorem Flown.fly {B : Heap} {fr : List Env} {x c : Addr} {h' : Heap} (H : Flown B fr x c h') : Fly B fr x c h' := by
  obtain ⟨h1, h2, h3, h4⟩ := H
  exact ⟨h1, h2, h3, .inr (.inl h4)⟩

section
variable {M : Model} {A : Around} {E : Value → Shared → Prop} {s : Shared} {B : Heap} {env : Env} {outer : List Env} {L x c : Addr} {Q : Unit → Shared → Prop}
theorem Fly.note (hfr : A.frames = some (env :: outer)) (hf : env.frame = some L) (F : Fly B (env :: outer) x c s.heap)
    (k : ∀ h', Held B env outer x c h' → s.heap.UpToSlots h' → Q () { s with heap := h' }) : wpAny M A (noteFrame (.ref x) env) Q E s := by
  obtain ⟨h1, h2, h3, h4⟩ := F
  rcases h4 with ⟨t, o, ho, hc, hd⟩ | ⟨a0, ht⟩ | ⟨a0, L', env', outer', e1, e2, ht⟩
  · unfold noteFrame
    simp only [hf]
    refine wpAny_bind (wpAny_field ho hd (x := .none) rfl ?_)
    rw [if_neg (by decide)]
    refine wpAny_entryW (a0 := .ref t) hfr h2 hf ho h1 h3 hd (by simp) rfl fun h' hN => ?_
    obtain ⟨k1, k2, k3, k4⟩ := hN
    rw [hc] at k3
    exact k h' ⟨k1, k2, h3, _, L, hf, k3⟩ k4
  · refine wpAny_noteFrame_onW hfr h2 hf ht h1 h3 fun h' hN => ?_
    obtain ⟨k1, k2, k3, k4⟩ := hN
    exact k h' ⟨k1, k2, h3, a0, L, hf, k3⟩ k4
  · cases e1
    rw [hf] at e2; cases e2
    exact wpAny_noteFrame_againW hf ht (k s.heap ⟨h1, h2, h3, a0, L, hf, ht⟩ (.refl _))
theorem Held.land (H : Held B env outer x c s.heap) (k : ∀ h', Flown B (env :: outer) x c h' → s.heap.UpToSlots h' → Q () { s with heap := h' }) : wpAny M A (setFlight (.ref x) none) Q E s := by
  obtain ⟨h1, h2, h3, a0, L, hf, ht⟩ := H
  exact wpAny_setFlight_noneW h1 h2 ht fun h' k1 k2 k3 k4 => k h' ⟨k1, k2, h3, a0, k3⟩ fun b o hb hn => ⟨o.slots, k4 b o hb hn⟩
theorem Flown.land {fr : List Env} (H : Flown B fr x c s.heap) (k : ∀ h', Flown B fr x c h' → s.heap.UpToSlots h' → Q () { s with heap := h' }) : wpAny M A (setFlight (.ref x) none) Q E s := by
  obtain ⟨h1, h2, h3, a0, ht⟩ := H
  exact wpAny_setFlight_noneW h1 h2 ht.at fun h' k1 k2 k3 k4 => k h' ⟨k1, k2, h3, a0, k3⟩ fun b o hb hn => ⟨o.slots, k4 b o hb hn⟩
theorem Flown.tail (H : Flown B (env :: outer) x c s.heap) : Flown B outer x c s.heap := by
  obtain ⟨h1, ⟨_, _, h2⟩, h3, h4⟩ := H
  exact ⟨h1, h2, h3, h4⟩
theorem Fly.leave (hfr : A.frames = some (env :: outer)) (hf : env.frame = some L) (F : Fly B (env :: outer) x c s.heap)
    (k : ∀ h', Flown B outer x c h' → s.heap.UpToSlots h' → Q () { s with heap := h' }) : wpAny M A (leaving env (.ref x)) Q E s := by
  unfold leaving
  refine wpAny_bind (F.note hfr hf fun h' H1 u1 => ?_)
  exact Held.land (s := { s with heap := h' }) H1 fun h'' H2 u2 => k h'' (Flown.tail (s := { s with heap := h'' }) H2) (u1.trans u2)
theorem Held.back {E : Value → Shared → Prop} (H : Held B env outer x c s.heap) (k : ∀ h', Held B env outer x c h' → s.heap.UpToSlots h' → E (.ref x) { s with heap := h' }) : cameBackBy M A env E (.ref x) s := by
  obtain ⟨hkb, hl, hen, a0, L, hf, oe, vs, T, oT, ts, he, hcls, hd, h1, hnT, hTe, hT, hdT, h3⟩ := H
  have hsz3 : 3 < ts.size := (Array.getElem?_eq_some_iff.mp h3).1
  have other : ∀ b, b ≠ T → (s.heap.update T (Obj.mapFields (·.setIfInBounds 3 ((some L).elim Value.none fun f => rawInt f)))).get? b = s.heap.get? b :=
    fun b hb => Heap.get?_update_other _ _ (Ne.symm hb)
  have noRecord : ∀ b o, s.heap.get? b = some o → (∀ vs, o.data ≠ .fields vs) → b ≠ T := fun b o hb hnf q => by
    rw [q, hT] at hb; injection hb with hb; subst hb; exact hnf ts hdT
  unfold cameBackBy
  refine wpAny_bind (wpAny_field he hd h1 ?_)
  rw [if_neg (show ¬ ((Value.ref T == Value.none) = true) from by simp), hf]
  unfold setFlight
  refine wpAny_bind (wpAny_field he hd h1 ?_)
  rw [if_pos (show (Value.ref T != Value.none) = true from by simp)]
  refine wpAny_setField hT hdT hsz3 (k _ ⟨fun b o hbo => (other b fun q => by rw [q, hnT] at hbo; cases hbo).trans (hkb b o hbo),
    hl.of_keeps fun b o hb hnf => ⟨o, (other b (noRecord b o hb hnf)).trans hb, rfl⟩, hen, a0, L, hf, ?_⟩ fun b o hb hnf => ⟨o.slots, (other b (noRecord b o hb hnf)).trans hb⟩)
  exact ⟨oe, vs, T, _, _, (other x (Ne.symm hTe)).trans he, hcls, hd, h1, hnT, hTe, Heap.get?_update_self _ hT (Obj.isFreed_of_fields (Obj.data_mapFields hdT _)), Obj.data_mapFields hdT _, by simp [hsz3]⟩
end

theorem ExcB.turn {g : Gx} {fr : List Env} {own : Addr → Prop} {σ σ' : Sto} {h B h' h'' : Heap} {x c : Addr} (e : ExcB g fr own σ h σ' B h' x c) (u : h'.UpToSlots h'') (F : Fly B fr x c h'') : ExcB g fr own σ h σ' B h'' x c :=
  { e with
    frame := fun b o e1 n1 n2 => by
      obtain ⟨sl, h1⟩ := e.frame b o e1 n1 n2
      obtain ⟨o', es, n, h2, h3⟩ := e.dicts b n1
      rw [h1] at h2; cases h2
      obtain ⟨sl2, h4⟩ := u b _ h1 (fun vs q => by rw [h3] at q; cases q)
      exact ⟨sl2, h4⟩
    dicts := fun b n1 => by
      obtain ⟨o', es, n, h2, h3⟩ := e.dicts b n1
      obtain ⟨sl2, h4⟩ := u b _ h2 (fun vs q => by rw [h3] at q; cases q)
      exact ⟨_, es, n, h4, h3⟩
    fly := F }
theorem Loc.turn {base B h' h'' : Heap} {env : Env} {ρ : Env'} (l : Loc base B h' env ρ) (u : h'.UpToSlots h'') : Loc base B h'' env ρ :=
  ⟨let ⟨m, h1, h2⟩ := l.ns; ⟨m, u.ns h1, h2⟩, l.cell⟩

noncomputable abbrev TF := List PV → Sto → (PV → Sto → Prop) → (Addr → Sto → Prop) → Prop
noncomputable def SoundF (g : Gx) (n : Nat) (q : Bool) (f : Addr) (T : TF) : Prop :=
  ∀ (A : Around) (fr : List Env) (s : Shared) (vals : List Value) (ps : List PV) (σ : Sto) (Q : PV → Sto → Prop) (X : Addr → Sto → Prop), A.frames = some fr → Room n A → (q = true → A.handled = none) →
    Hp g.base fr σ s.heap → Reps g.base s.heap vals ps → T ps σ Q X → wpAny g.M A (call (.ref f) vals) (PostE g fr σ s Q) (PostX g fr σ s X) s

noncomputable def bindP : List Str → List PV → Env' → Env'
  | x :: xs, p :: ps, ρ => bindP xs ps (setL ρ x p)
  | _, _, ρ => ρ
noncomputable def tFun (names : List Str) (tb : TS) : TF := fun ps σ Q X => ps.length = names.length ∧ tb (bindP names ps fun _ => none) σ (fun fl _ σ' => match fl with
  | .ret p => Q p σ'
  | .next => Q .none σ'
  | _ => False) (fun c _ σ' => X c σ')

theorem bindP_rep {base h : Heap} {kindOf : Str → Option NameKind} : ∀ (names : List Str) (vals : List Value) (ps : List PV) (ρ : Env') (m cm : Str → Option Value), Reps base h vals ps →
    (∀ x ∈ names, kindOf x = some .local ∨ kindOf x = some .cell) →
    (∀ x p, ρ x = some p → (kindOf x = some .local → ∃ v, m x = some v ∧ Rep base h v p) ∧ (kindOf x = some .cell → ∃ v, cm x = some v ∧ Rep base h v p)) →
    ∀ x p, bindP names ps ρ x = some p → (kindOf x = some .local → ∃ v, bindL kindOf (names.zip vals) m x = some v ∧ Rep base h v p) ∧ (kindOf x = some .cell → ∃ v, bindC kindOf (names.zip vals) cm x = some v ∧ Rep base h v p)
  | [], vals, ps, ρ, m, cm, _, _, inv, x, p, e => inv x p e
  | y :: ys, [], ps, ρ, m, cm, r, _, inv, x, p, e => by cases r; exact inv x p e
  | y :: ys, v :: vs, ps, ρ, m, cm, r, hk, inv, x, p, e => by
    cases r with
    | cons a r =>
      rename_i p₀ ps
      rw [List.zip_cons_cons]
      unfold bindL bindC
      refine bindP_rep ys vs ps (setL ρ y p₀) _ _ r (fun z hz => hk z (.tail _ hz)) (fun z pz ez => ?_) x p e
      unfold setL at ez
      by_cases hz : z = y
      · subst hz
        rw [if_pos rfl] at ez; cases ez
        refine ⟨fun kl => ⟨v, by rw [if_pos kl, if_pos rfl], a⟩, fun kc => ⟨v, by rw [if_neg (by rw [kc]; decide), if_pos rfl], a⟩⟩
      · rw [if_neg hz] at ez
        obtain ⟨i1, i2⟩ := inv z pz ez
        refine ⟨fun kl => ?_, fun kc => ?_⟩
        · obtain ⟨w, h1, h2⟩ := i1 kl
          refine ⟨w, ?_, h2⟩
          split
          · show (if z = y then _ else _) = _; rw [if_neg hz]; exact h1
          · exact h1
        · obtain ⟨w, h1, h2⟩ := i2 kc
          refine ⟨w, ?_, h2⟩
          split
          · exact h1
          · show (if z = y then _ else _) = _; rw [if_neg hz]; exact h1

theorem frs_cons {env : Env} {outer : List Env} {L : Addr} (h : env.frame = some L) : frs (env :: outer) = L :: frs outer := by
  unfold frs; rw [List.filterMap_cons, h]

theorem fresh_size {h : Heap} {b : Addr} (hb : h.objs.size ≤ b) : h.get? b = none := by
  cases q : h.get? b with
  | none => rfl
  | some o => exact absurd (Heap.lt_size q) (Nat.not_lt.mpr hb)

theorem sound_fun {g : Gx} {n : Nat} {q : Bool} {f : Addr} {o : Obj} {fd : FuncData} {body : List Stmt} {names : List Str} {tb : TS} (ho : g.base.get? f = some o) (hd : o.data = .func fd) (hb : fd.body = .stmts body) (hcl : fd.closure = [])
    (hcd : g.base.CodeRec fd.code fd.qualname) (hgl : fd.globals = mainGlobals) (hbu : fd.builtins = builtinsNs)
    (hbind : ∀ vals : List Value, vals.length = names.length → bindArgs fd ⟨vals, []⟩ = pure (names.zip vals))
    (hk1 : ∀ x ∈ names, fd.scope.names.lookup x = some .local ∨ fd.scope.names.lookup x = some .cell)
    (hk2 : ∀ (L : Nat) (x : Str), fd.scope.names.lookup x = some .cell → ((cellsFrom L fd.scope.names []).lookup x).isSome = true)
    (hco : fd.scope.isCoroutine = false) (hgen : fd.scope.isGenerator = false) (hk : fd.scope.kind = .function)
    (hbody : SoundSs g n q fd.scope body tb) : SoundF g (n + 1) q f (tFun names tb) := by
  intro A fr s vals ps σ Q X hfr hroom hqu H R ht
  obtain ⟨hlen, ht⟩ := ht
  have hlen' : vals.length = names.length := R.length.trans hlen
  refine wpAny_call (codeAny_call_cells hroom.lt (H.stays _ _ ho) hd (g.nolimit.keeps H.stays) (hcd.keeps H.stays) hb (hbind vals hlen') hcl (fun x hx => ?_) (fun s₁ I => ?_) hco hgen hk)
  · have hm : x.1 ∈ names := (List.of_mem_zip hx).1
    rcases hk1 _ hm with k | k
    · exact .inl k
    · exact .inr ⟨k, hk2 _ _ k⟩
  obtain ⟨⟨⟨h₁, tk₁, rfl⟩, hns, hkeep, hfresh⟩, hcell, hap, hab⟩ := I
  generalize hE : callEnvC fd s.heap.objs.size f = env' at *
  have e1 : env'.locals = s.heap.objs.size := by subst hE; rfl
  have e2 : env'.frame = some env'.locals := by subst hE; rfl
  have e3 : env'.scope = fd.scope := by subst hE; rfl
  have e4 : env'.cells = cellsFrom (s.heap.objs.size + 1) fd.scope.names [] := by subst hE; rfl
  have e5 : env'.globals = mainGlobals := by subst hE; exact hgl
  have e6 : env'.builtins = builtinsNs := by subst hE; exact hbu
  have hLb : g.base.get? env'.locals = none := by rw [e1]; exact H.stays.fresh
  have cge : ∀ y c, env'.cells.lookup y = some c → s.heap.objs.size < c := fun y c hc => by have := hab y c (mem_of_lookup hc); rw [e1] at this; exact this
  have hcb : ∀ y c, env'.cells.lookup y = some c → g.base.get? c = none := fun y c hc => by
    have := cge y c hc
    cases z : g.base.get? c with
    | none => rfl
    | some o' => exact absurd (Heap.lt_size (H.stays c o' z)) (Nat.not_lt.mpr (Nat.le_of_lt this))
  have C' : Cx g n q (A.deeper env') (env' :: fr) env' := ⟨Around.frames_deeper hfr, hroom.deeper, hqu, by rw [e3]; exact hk, e5, e6,
    fun y z c h1 h2 => name_of_addr hap (mem_of_lookup h1) (mem_of_lookup h2), hLb, hcb⟩
  have hlt : ∀ b o, s.heap.get? b = some o → b ≠ env'.locals := fun b o e z => by
    have := Heap.lt_size e; rw [z, e1] at this; exact Nat.lt_irrefl _ this
  have hno : ∀ b o, s.heap.get? b = some o → ¬ owned env' b := fun b o e hm => by
    rcases hm with z | ⟨y, _, h1⟩
    · exact hlt b o e z
    · exact absurd (Heap.lt_size e) (Nat.not_lt.mpr (Nat.le_of_lt (cge y b h1)))
  have S1 : Sim g.base h₁ σ := fun a ao e => by
    have := H.sim a ao e
    cases ao with
    | list xs => obtain ⟨vs, ⟨m, h1⟩, r⟩ := this; exact ⟨vs, ⟨m, hkeep _ _ h1⟩, r.keeps hkeep⟩
    | raw o' => exact ⟨hkeep _ _ this.1, this.2⟩
  have dl : ∀ a, σ a ≠ none → ∃ o', s.heap.get? a = some o' := fun a hz => by
    cases z : σ a with
    | none => exact absurd z hz
    | some ao =>
      have := H.sim a ao z
      cases ao with
      | list xs => obtain ⟨vs, ⟨m, h1⟩, r⟩ := this; exact ⟨_, h1⟩
      | raw o' => exact ⟨o', this.1⟩
  have hfrs := frs_cons (outer := fr) e2
  have Hp1 : Hp g.base (env' :: fr) σ h₁ := ⟨fun b o' e => hkeep _ _ (H.stays _ _ e),
    Heap.FunFrames.cons (by rw [e3, hk]; decide) e2 hns hLb (H.frames.of_keeps fun b o' e _ => ⟨o', hkeep _ _ e, rfl⟩), S1,
    fun a hz => ⟨(H.fresh a hz).1, by
      rw [hfrs]
      intro hm
      rcases List.mem_cons.mp hm with z | hm
      · obtain ⟨o', h1⟩ := dl a hz; exact hlt a o' h1 z
      · exact (H.fresh a hz).2 hm⟩,
    fun b hm => by
      rw [hfrs] at hm
      rcases List.mem_cons.mp hm with z | hm
      · subst z; obtain ⟨o', es, ep, h1, h2, _⟩ := hns; exact ⟨o', es, ep, h1, h2⟩
      · obtain ⟨o', es, ep, h1, h2⟩ := H.dicts b hm; exact ⟨o', es, ep, hkeep _ _ h1, h2⟩⟩
  have nl1 : σ env'.locals = none := by
    cases z : σ env'.locals with
    | none => rfl
    | some ao => obtain ⟨o', h1⟩ := dl _ (by rw [z]; simp); exact absurd rfl (hlt _ o' h1)
  have BR := bindP_rep (base := g.base) (h := h₁) (kindOf := env'.kindOf) names vals ps (fun _ => none) (fun _ => none) (fun _ => none) (R.keeps hkeep) (fun x hx => by
    have := hk1 x hx
    unfold Env.kindOf; rw [e3]; exact this) (fun x p e => by cases e)
  have L1 : Loc g.base h₁ h₁ env' (bindP names ps fun _ => none) := ⟨⟨_, hns, fun x p e k => (BR x p e).1 k⟩, fun x k => by
    have k' : fd.scope.names.lookup x = some .cell := by rw [← e3]; exact k
    have := hk2 (s.heap.objs.size + 1) x k'
    rw [← e4] at this
    obtain ⟨c, hc⟩ := Option.isSome_iff_exists.mp this
    exact ⟨c, _, hc, hcell x c hc, fun p e => (BR x p e).2 k⟩⟩
  have St1 : St g (env' :: fr) env' (bindP names ps fun _ => none) σ h₁ := ⟨Hp1, L1, nl1⟩
  have res := hbody (A.deeper env') fr env' C' e3 e2 { s with heap := h₁, toks := tk₁ } _ σ _ _ St1 ht
  have notfr : ∀ b o', s.heap.get? b = some o' → (b ∈ frs (env' :: fr) ↔ b ∈ frs fr) := fun b o' e => by
    rw [hfrs]
    constructor
    · intro hm
      rcases List.mem_cons.mp hm with z | hm
      · exact absurd z (hlt b o' e)
      · exact hm
    · exact fun hm => .tail _ hm
  refine wpAny_mono res (fun fl s' hp => ?_) fun v s' hp => ?_
  · obtain ⟨h', tk, fl', ρ', σ', rfl, S2, H2, r, hq⟩ := hp
    have S3 : Step fr nobody σ s.heap σ' h' := ⟨fun b o' e n1 _ n3 => S2.other b o' (hkeep _ _ e) (fun m => n1 ((notfr b o' e).mp m)) (hno b o' e) n3,
      fun b o' e n1 _ => S2.frame b o' (hkeep _ _ e) ((notfr b o' e).mpr n1) (hno b o' e), fun b o' e _ => S2.live b o' (hkeep _ _ e) (hno b o' e),
      fun a n1 _ n3 => by
        cases z : s.heap.get? a with
        | none => exact absurd z n3
        | some o' => exact S2.new a n1 (hno a o' z) (by show h₁.get? a ≠ none; rw [hkeep _ _ z]; simp), S2.dom⟩
    cases r with
    | ret r => exact ⟨h', tk, _, σ', rfl, S3, H2.hp.sim, r, hq⟩
    | next => exact ⟨h', tk, .none, σ', rfl, S3, H2.hp.sim, .none, hq⟩
    | brk => exact hq.elim
    | cont => exact hq.elim
  · obtain ⟨h', tk, x, c, ρ', σ', B, rfl, rfl, e, l, hx⟩ := hp
    refine Fly.leave (s := { s with heap := h', toks := tk }) (Around.frames_deeper hfr) e2 e.fly fun h'' F u => ?_
    refine ⟨h'', tk, x, c, σ', B, rfl, rfl, ⟨fun b o' e1 n1 _ n3 => e.other b o' (hkeep _ _ e1) (fun m => n1 ((notfr b o' e1).mp m)) (hno b o' e1) n3, fun b o' e1 n1 _ => ?_, e.sim, fun a n1 _ n3 => ?_, e.dom, e.stays,
      fun b m => e.nofr b (by rw [hfrs]; exact .tail _ m), fun b m => ?_, F.fly⟩, hx⟩
    · obtain ⟨sl, h1⟩ := e.frame b o' (hkeep _ _ e1) ((notfr b o' e1).mpr n1) (hno b o' e1)
      obtain ⟨o2, es, ep, h2, h3⟩ := e.dicts b ((notfr b o' e1).mpr n1)
      rw [h1] at h2; cases h2
      obtain ⟨sl2, h4⟩ := u b _ h1 (fun vs z => by rw [h3] at z; cases z)
      exact ⟨sl2, h4⟩
    · cases z : s.heap.get? a with
      | none => exact absurd z n3
      | some o' => exact e.new a n1 (hno a o' z) (by show h₁.get? a ≠ none; rw [hkeep _ _ z]; simp)
    · obtain ⟨o2, es, ep, h2, h3⟩ := e.dicts b (by rw [hfrs]; exact .tail _ m)
      obtain ⟨sl2, h4⟩ := u b _ h2 (fun vs z => by rw [h3] at z; cases z)
      exact ⟨_, es, ep, h4, h3⟩
end Mine

set_option autoImplicit false
namespace Mine
open PySem PyProof.Rows

noncomputable def itemsOf (σ : Sto) : PV → Option (List PV)
  | .ref a => match σ a with
    | some (.list xs) => some xs
    | _ => none
  | .tup xs => some xs
  | .lst _ ns => some (ns.map .int)
  | .rng lo hi => some ((List.range (hi - lo).toNat).map fun k => .int (lo + (k : Nat)))
  | _ => none
noncomputable def iterOk : PV → Prop
  | .rng lo hi => -(2 ^ 62) ≤ lo ∧ lo < 2 ^ 62 ∧ -(2 ^ 62) ≤ hi ∧ hi < 2 ^ 62
  | _ => True

noncomputable def NR (p : PV) : Prop := match p with
  | .rng _ _ => False
  | _ => True
noncomputable def IterAt (base h : Heap) (I : Addr) : PV → Nat → Prop
  | .ref a, k => h.IsListIter I a k
  | .lst a _, k => h.IsListIter I a k
  | .tup xs, k => ∃ (t : Addr) (vs : List Value), h.IsTupleIter I t k ∧ h.IsTuple t vs.toArray ∧ Reps base h vs xs
  | .rng lo hi, k => IsRangeIter h I (lo + (k : Int)) (((hi - lo).toNat : Int) - (k : Int)) 1
  | _, _ => False

/-- an iterator's object: a record of no class that Rep leans on -/
noncomputable def IterObj (o : Obj) : Prop := (∃ vs, o.data = .fields vs) ∧ (o.cls = .type "list_iterator" ∨ o.cls = .type "tuple_iterator" ∨ o.cls = .type "range_iterator")
theorem IterObj.notFirm {o : Obj} (i : IterObj o) : ¬ Firm o := by
  obtain ⟨⟨vs, hd⟩, hc⟩ := i
  rintro (⟨ws, _, q | ⟨c, q⟩⟩ | ⟨q, xs, n, q'⟩)
  · rcases hc with hc | hc | hc <;> rw [hc] at q <;> injection q with q <;> exact absurd q (by decide)
  · rcases hc with hc | hc | hc <;> rw [hc] at q <;> cases q
  · rw [hd] at q'; cases q'
theorem IterAt.obj {base h : Heap} {I : Addr} {p : PV} {k : Nat} (i : IterAt base h I p k) : ∃ o, h.get? I = some o ∧ IterObj o := by
  cases p with
  | ref a => obtain ⟨o, h1, h2, h3⟩ := i; exact ⟨o, h1, ⟨_, h3⟩, .inl h2⟩
  | lst a ns => obtain ⟨o, h1, h2, h3⟩ := i; exact ⟨o, h1, ⟨_, h3⟩, .inl h2⟩
  | tup xs => obtain ⟨t, vs, ⟨o, h1, h2, h3⟩, _⟩ := i; exact ⟨o, h1, ⟨_, h3⟩, .inr (.inl h2)⟩
  | rng lo hi => exact ⟨_, i, ⟨_, rfl⟩, .inr (.inr rfl)⟩
  | _ => exact i.elim
theorem IterAt.keep {base h h' : Heap} {I : Addr} {p : PV} {k : Nat} (i : IterAt base h I p k) (hI : ∀ o, h.get? I = some o → h'.get? I = some o) (hf : ∀ b o, h.get? b = some o → Firm o → h'.get? b = some o) : IterAt base h' I p k := by
  cases p with
  | ref a => obtain ⟨o, h1, h2⟩ := i; exact ⟨o, hI o h1, h2⟩
  | lst a ns => obtain ⟨o, h1, h2⟩ := i; exact ⟨o, hI o h1, h2⟩
  | tup xs => obtain ⟨t, vs, ⟨o, h1, h2⟩, ⟨o', h3, h4, n, h5⟩, r⟩ := i; exact ⟨t, vs, ⟨o, hI o h1, h2⟩, ⟨o', hf _ _ h3 (.inr ⟨h4, _, _, h5⟩), h4, n, h5⟩, r.mono hf⟩
  | rng lo hi => exact hI _ i
  | _ => exact i.elim

theorem lst_items {base h : Heap} : ∀ {vs : List Value} {ns : List Int}, vs.map (fun v => match v with | Value.int i _ => some i | _ => Option.none) = ns.map some → Reps base h vs (ns.map .int)
  | [], [], _ => .nil
  | [], n :: ns, e => by simp at e
  | v :: vs, [], e => by simp at e
  | v :: vs, n :: ns, e => by
    simp only [List.map_cons, List.cons.injEq] at e
    obtain ⟨e1, e2⟩ := e
    refine .cons ?_ (lst_items e2)
    cases v with
    | int i t => simp at e1; subst e1; exact .int _ _
    | _ => simp at e1

noncomputable def LR (p : PV) : Prop := match p with
  | .ref _ => True
  | .lst _ _ => True
  | _ => False
theorem list_of {base h : Heap} {fr : List Env} {σ : Sto} {v : Value} {p : PV} {xs : List PV} (H : Hp base fr σ h) (r : Rep base h v p) (hi : itemsOf σ p = some xs) (hn : LR p) : ∃ l, v = .ref l ∧ ∃ vs : List Value, h.IsList l vs.toArray ∧ Reps base h vs xs := by
  cases p with
  | ref a =>
    obtain rfl := inv_ref r
    cases e : σ a with
    | none => rw [itemsOf, e] at hi; cases hi
    | some ao =>
      rw [itemsOf, e] at hi
      cases ao with
      | raw o => cases hi
      | list ys =>
        cases hi
        obtain ⟨vs, hl, rs⟩ := H.sim a _ e
        exact ⟨a, rfl, vs, hl.isList, rs⟩
  | lst a ns =>
    cases hi
    obtain ⟨rfl, vs, ⟨o, h3, h4⟩, h2⟩ := inv_lst r
    exact ⟨a, rfl, vs, ⟨o, H.stays _ _ h3, h4⟩, lst_items h2⟩
  | _ => exact hn.elim
/-- what has items and is no range is a list or a tuple -/
theorem seq_of {base h : Heap} {fr : List Env} {σ : Sto} {v : Value} {p : PV} {xs : List PV} (H : Hp base fr σ h) (r : Rep base h v p) (hi : itemsOf σ p = some xs) (hn : NR p) : ∃ l, v = .ref l ∧ ∃ vs : List Value, (h.IsList l vs.toArray ∨ h.IsTuple l vs.toArray) ∧ Reps base h vs xs := by
  have go : LR p → ∃ l, v = .ref l ∧ ∃ vs : List Value, (h.IsList l vs.toArray ∨ h.IsTuple l vs.toArray) ∧ Reps base h vs xs := fun hl => by
    obtain ⟨l, h1, vs, h2, h3⟩ := list_of H r hi hl
    exact ⟨l, h1, vs, .inl h2, h3⟩
  cases p with
  | ref a => exact go trivial
  | lst a ns => exact go trivial
  | tup ys =>
    cases hi
    obtain ⟨a, o, vs, n, rfl, ho, hc, hd, rs⟩ := inv_tup r
    exact ⟨a, rfl, vs, .inr ⟨o, ho, hc, n, hd⟩, rs⟩
  | rng lo hi => exact hn.elim
  | _ => cases hi
section
variable {g : Gx} {A : Around} {E : Value → Shared → Prop} {s : Shared} {fr : List Env} {σ : Sto}

theorem iter_start {v : Value} {p : PV} {xs : List PV} {Q : Value → Shared → Prop} (H : Hp g.base fr σ s.heap) (r : Rep g.base s.heap v p) (hi : itemsOf σ p = some xs) (ok : iterOk p)
    (k : ∀ I h', (∀ b o, s.heap.get? b = some o → h'.get? b = some o) → s.heap.get? I = none → IterAt g.base h' I p 0 → Q (.ref I) { s with heap := h' }) : wpAny g.M A (pyIter v) Q E s := by
  have fresh : s.heap.get? s.heap.objs.size = none := fresh_size (Nat.le_refl _)
  have kp : ∀ (o' : Obj) b o, s.heap.get? b = some o → (s.heap.push o').get? b = some o := fun o' b o e => Heap.get?_push_of_some _ e
  cases p with
  | rng lo hi' =>
    obtain ⟨a, rfl, t1, t2, t3, hr⟩ := inv_rng r
    obtain ⟨o1, o2, o3, o4⟩ := ok
    refine wpAny_pyIter_range hr (small_one o1 o2 o3 o4) (k _ _ (kp _) fresh ?_)
    show IsRangeIter _ _ _ _ _
    have e : Builtin.Range.rangeSize lo hi' 1 = ((hi' - lo).toNat : Int) := by
      have := rangeSize_one (a := lo) (b := hi')
      rw [this]; split <;> omega
    unfold IsRangeIter
    rw [Heap.get?_push_size _ rfl, e]
    simp
  | tup ys =>
    obtain ⟨a, o, vs, n, rfl, ho, hc, hd, rs⟩ := inv_tup r
    exact wpAny_pyIter_tuple ⟨_, ho, hc, _, hd⟩ (k _ _ (kp _) fresh ⟨_, _, ⟨_, Heap.get?_push_size _ rfl, rfl, rfl⟩, ⟨_, kp _ _ _ ho, hc, _, hd⟩, rs.keeps (kp _)⟩)
  | ref a =>
    obtain ⟨l, hv, vs, hl, rs⟩ := list_of H r hi trivial
    obtain rfl := inv_ref r
    cases hv
    exact wpAny_pyIter_list hl (k _ _ (kp _) fresh ⟨_, Heap.get?_push_size _ rfl, rfl, rfl⟩)
  | lst a ns =>
    obtain ⟨l, hv, vs, hl, rs⟩ := list_of H r hi trivial
    obtain ⟨rfl, _⟩ := inv_lst r
    cases hv
    exact wpAny_pyIter_list hl (k _ _ (kp _) fresh ⟨_, Heap.get?_push_size _ rfl, rfl, rfl⟩)
  | _ => cases hi

theorem iter_item {I : Addr} {p x : PV} {k : Nat} {xs : List PV} {Q : Option Value → Shared → Prop} (H : Hp g.base fr σ s.heap) (hr : ∀ a ns, p = .lst a ns → Rep g.base s.heap (.ref a) p) (hi : itemsOf σ p = some xs) (i : IterAt g.base s.heap I p k) (hx : xs[k]? = some x)
    (kk : ∀ v h' tk, Heap.SameBut I s.heap h' → IterAt g.base h' I p (k + 1) → Rep g.base s.heap v x → Q (some v) { s with heap := h', toks := tk }) : wpAny g.M A (pyNext (.ref I)) Q E s := by
  have io := i.obj
  cases p with
  | ref a =>
    obtain ⟨l, hv, vs, hl, rs⟩ := list_of H (.ref a) hi trivial
    cases hv
    obtain ⟨v, hv, rv⟩ := rs.get hx
    exact wpAny_pyNext_list_item i hl (by simpa using hv) fun h' hit' hs' => kk v h' s.toks hs' hit' rv
  | lst a ns =>
    obtain ⟨l, hv, vs, hl, rs⟩ := list_of H (hr a ns rfl) hi trivial
    cases hv
    obtain ⟨v, hv, rv⟩ := rs.get hx
    exact wpAny_pyNext_list_item i hl (by simpa using hv) fun h' hit' hs' => kk v h' s.toks hs' hit' rv
  | tup ys =>
    simp [itemsOf] at hi; subst hi
    obtain ⟨t, vs, h1, h2, rs⟩ := i
    obtain ⟨v, hv, rv⟩ := rs.get hx
    obtain ⟨o, ho, io⟩ := io
    refine wpAny_pyNext_tuple_item h1 h2 (by simpa using hv) fun h' hit' hs' => kk v h' s.toks hs' ⟨t, vs, hit', ?_, ?_⟩ rv
    · obtain ⟨o', h3, h4, n, h5⟩ := h2
      refine ⟨o', (hs'.2 _ ?_).trans h3, h4, n, h5⟩
      rintro rfl
      rw [ho] at h3; cases h3
      exact io.notFirm (.inr ⟨h4, _, _, h5⟩)
    · exact rs.mono fun b o' e f => (hs'.2 _ (by rintro rfl; rw [ho] at e; cases e; exact io.notFirm f)).trans e
  | rng lo hi' =>
    simp [itemsOf] at hi; subst hi
    rw [List.getElem?_map] at hx
    by_cases hk : k < (hi' - lo).toNat
    · rw [List.getElem?_range hk] at hx
      simp at hx; subst hx
      refine wpAny_pyNext_range_item i (by omega) fun h' hit' hs' => kk _ h' _ hs' ?_ (.int _ _)
      show IsRangeIter h' I _ _ _
      have e1 : lo + ((k + 1 : Nat) : Int) = lo + (k : Int) + 1 := by omega
      have e2 : ((hi' - lo).toNat : Int) - ((k + 1 : Nat) : Int) = ((hi' - lo).toNat : Int) - (k : Int) - 1 := by omega
      rw [e1, e2]; exact hit'
    · rw [List.getElem?_eq_none (by simp; omega)] at hx
      simp at hx
  | _ => exact i.elim

theorem iter_end {I : Addr} {p : PV} {k : Nat} {xs : List PV} {Q : Option Value → Shared → Prop} (hh : A.handled = none) (H : Hp g.base fr σ s.heap) (hr : ∀ a ns, p = .lst a ns → Rep g.base s.heap (.ref a) p) (hi : itemsOf σ p = some xs) (i : IterAt g.base s.heap I p k) (hx : xs[k]? = none)
    (kk : ∀ h' tk, Heap.ExtBut I s.heap h' → Q none { s with heap := h', toks := tk }) : wpAny g.M A (pyNext (.ref I)) Q E s := by
  have none_at : ∀ {vs : List Value}, Reps g.base s.heap vs xs → vs.toArray[k]? = none := fun {vs} rs => by
    rw [List.getElem?_eq_none_iff, ← rs.length] at hx
    simpa using hx
  cases p with
  | ref a =>
    obtain ⟨l, hv, vs, hl, rs⟩ := list_of H (.ref a) hi trivial
    cases hv
    exact wpAny_pyNext_list_end hh i hl (none_at rs) fun h' hs' => kk h' s.toks hs'
  | lst a ns =>
    obtain ⟨l, hv, vs, hl, rs⟩ := list_of H (hr a ns rfl) hi trivial
    cases hv
    exact wpAny_pyNext_list_end hh i hl (none_at rs) fun h' hs' => kk h' s.toks hs'
  | tup ys =>
    simp [itemsOf] at hi; subst hi
    obtain ⟨t, vs, h1, h2, rs⟩ := i
    refine wpAny_pyNext_tuple_end hh h1 h2 ?_ fun h' hs' => kk h' s.toks hs'
    rw [List.getElem?_eq_none_iff] at hx
    simp [rs.length]; omega
  | rng lo hi' =>
    simp [itemsOf] at hi; subst hi
    rw [List.getElem?_eq_none_iff] at hx
    simp at hx
    exact wpAny_pyNext_range_end hh i (by omega) fun h' hs' => kk h' s.toks hs'
  | _ => exact i.elim
end
end Mine

set_option autoImplicit false
namespace Mine
open PySem PyProof.Rows

theorem Sim.keepBut {base h h' : Heap} {σ : Sto} {I : Addr} (S : Sim base h σ) (hI : ∀ o, h.get? I = some o → IterObj o) (k : Heap.ExtBut I h h') : Sim base h' σ := fun a ao e => by
  have firm : ∀ b o, h.get? b = some o → Firm o → h'.get? b = some o := fun b o e f => k b o (by rintro rfl; exact (hI o e).notFirm f) e
  have := S a ao e
  cases ao with
  | list xs =>
    obtain ⟨vs, ⟨n, h1⟩, r⟩ := this
    exact ⟨vs, ⟨n, k a _ (by rintro rfl; obtain ⟨⟨ws, q⟩, _⟩ := hI _ h1; cases q) h1⟩, r.mono firm⟩
  | raw o => exact ⟨k a o (by rintro rfl; obtain ⟨⟨ws, q⟩, _⟩ := hI o this.1; rcases this.2 with z | ⟨es, n, z⟩ <;> rw [z] at q <;> cases q) this.1, this.2⟩
theorem Hp.keepBut {base h h' : Heap} {fr : List Env} {σ : Sto} {I : Addr} (H : Hp base fr σ h) (hI : ∀ o, h.get? I = some o → IterObj o) (hb : base.get? I = none) (k : Heap.ExtBut I h h') : Hp base fr σ h' := by
  have nf : ∀ b ∈ frs fr, ∀ o, h.get? b = some o → b ≠ I := fun b m o e z => by
    subst z
    obtain ⟨o', es, n, h1, h2⟩ := H.dicts b m
    rw [e] at h1; cases h1
    obtain ⟨⟨ws, q⟩, _⟩ := hI o e
    rw [h2] at q; cases q
  refine ⟨fun b o e => k b o (by rintro rfl; rw [hb] at e; cases e) (H.stays b o e), funFrames_step H.frames fun b o e d m => ⟨o, k b o (nf b m o e) e, d⟩, H.sim.keepBut hI k, H.fresh, fun b m => ?_⟩
  obtain ⟨o', es, n, h1, h2⟩ := H.dicts b m
  exact ⟨o', es, n, k b o' (nf b m o' h1) h1, h2⟩
theorem St.keepBut {g : Gx} {fr : List Env} {env : Env} {ρ : Env'} {σ : Sto} {h h' : Heap} {I : Addr} (H : St g fr env ρ σ h) (hI : ∀ o, h.get? I = some o → IterObj o) (hb : g.base.get? I = none) (k : Heap.ExtBut I h h') : St g fr env ρ σ h' := by
  have firm : ∀ b o, h.get? b = some o → Firm o → h'.get? b = some o := fun b o e f => k b o (by rintro rfl; exact (hI o e).notFirm f) e
  obtain ⟨hp, ⟨⟨m, hn, hm⟩, hc⟩, nl⟩ := H
  refine ⟨hp.keepBut hI hb k, ⟨⟨m, Ns.up hn fun o e => ⟨o.slots, k _ o ?_ e⟩, fun y p e1 e2 => ?_⟩, fun y e1 => ?_⟩, nl⟩
  · rintro rfl
    obtain ⟨o', es, ep, h1, h2, _⟩ := hn
    rw [e] at h1; cases h1
    obtain ⟨⟨ws, q⟩, _⟩ := hI o e
    rw [h2] at q; cases q
  · obtain ⟨v, h1, h2⟩ := hm y p e1 e2
    exact ⟨v, h1, h2.mono firm⟩
  · obtain ⟨c, ov, h1, ⟨o, h2, h3⟩, h4⟩ := hc y e1
    refine ⟨c, ov, h1, ⟨o, k c o ?_ h2, h3⟩, fun p e2 => ?_⟩
    · rintro rfl
      obtain ⟨⟨ws, q⟩, _⟩ := hI o h2
      rw [h3] at q; cases q
    · obtain ⟨v, h5, h6⟩ := h4 p e2
      exact ⟨v, h5, h6.mono firm⟩
theorem Step.keepBut {fr : List Env} {own : Addr → Prop} {σ σ' : Sto} {h h' h'' : Heap} {I : Addr} (x : Step fr own σ h σ' h') (hI : h.get? I = none) (k : Heap.ExtBut I h' h'') : Step fr own σ h σ' h'' where
  other := fun b o e n1 n2 n3 => k b o (by rintro rfl; rw [hI] at e; cases e) (x.other b o e n1 n2 n3)
  frame := fun b o e n1 n2 => by
    obtain ⟨sl, h1⟩ := x.frame b o e n1 n2
    exact ⟨sl, k b _ (by rintro rfl; rw [hI] at e; cases e) h1⟩
  live := fun b o e n => by
    obtain ⟨o', h1⟩ := x.live b o e n
    exact ⟨o', k b o' (by rintro rfl; rw [hI] at e; cases e) h1⟩
  new := x.new
  dom := x.dom
theorem Step.keeps {fr : List Env} {own : Addr → Prop} {σ : Sto} {h h' : Heap} (k : ∀ b o, h.get? b = some o → h'.get? b = some o) : Step fr own σ h σ h' :=
  ⟨fun b o e _ _ _ => k b o e, fun b o e _ _ => ⟨o.slots, k b o e⟩, fun b o e _ => ⟨o, k b o e⟩, fun _ e _ _ => e, fun _ e => e⟩
theorem Sim.keeps {base h h' : Heap} {σ : Sto} (S : Sim base h σ) (k : ∀ b o, h.get? b = some o → h'.get? b = some o) : Sim base h' σ := fun a ao e => by
  have := S a ao e
  cases ao with
  | list xs => obtain ⟨vs, ⟨n, h1⟩, r⟩ := this; exact ⟨vs, ⟨n, k _ _ h1⟩, r.keeps k⟩
  | raw o => exact ⟨k _ _ this.1, this.2⟩
theorem St.keeps {g : Gx} {fr : List Env} {env : Env} {ρ : Env'} {σ : Sto} {h h' : Heap} (H : St g fr env ρ σ h) (k : ∀ b o, h.get? b = some o → h'.get? b = some o) : St g fr env ρ σ h' := H.step (Step.keeps k) (H.hp.sim.keeps k)

theorem rep_lst {base h h' : Heap} {v : Value} {a : Addr} {ns : List Int} (r : Rep base h v (.lst a ns)) : Rep base h' (.ref a) (.lst a ns) := by
  cases r with | lst h1 h2 => exact .lst h1 h2

/-- an iterator stays while the body runs -/
theorem IterAt.step {g : Gx} {fr : List Env} {env : Env} {ρ : Env'} {σ σ' : Sto} {h h' : Heap} {I : Addr} {p : PV} {k : Nat} (i : IterAt g.base h I p k) (H : St g fr env ρ σ h) (x : Step fr (owned env) σ h σ' h') : IterAt g.base h' I p k := by
  have nown : ∀ b o, h.get? b = some o → (IterObj o ∨ Firm o) → b ∉ frs fr ∧ ¬ owned env b ∧ σ b = none := fun b o e f => by
    refine ⟨fun m => ?_, fun m => ?_, ?_⟩
    · obtain ⟨o', es, n, h1, h2⟩ := H.hp.dicts b m
      rw [e] at h1; cases h1
      rcases f with ⟨⟨ws, q⟩, _⟩ | f
      · rw [h2] at q; cases q
      · exact notFirm_dict h2 f
    · rcases m with z | ⟨y, z1, z2⟩
      · subst z
        obtain ⟨m, ⟨o', es, ep, h1, h2, _⟩, _⟩ := H.loc.ns
        rw [e] at h1; cases h1
        rcases f with ⟨⟨ws, q⟩, _⟩ | f
        · rw [h2] at q; cases q
        · exact notFirm_dict h2 f
      · obtain ⟨c, ov, h1, ⟨o', h2, h3⟩, _⟩ := H.loc.cell y z1
        rw [h1] at z2; cases z2
        rw [e] at h2; cases h2
        rcases f with ⟨⟨ws, q⟩, _⟩ | f
        · rw [h3] at q; cases q
        · exact notFirm_cell h3 f
    · rcases f with f | f
      · cases z : σ b with
        | none => rfl
        | some ao =>
          have := H.hp.sim b ao z
          obtain ⟨⟨ws, q⟩, _⟩ := f
          cases ao with
          | list xs => obtain ⟨vs, ⟨n, h1⟩, _⟩ := this; rw [e] at h1; cases h1; cases q
          | raw o' => obtain ⟨h1, h2⟩ := this; rw [e] at h1; cases h1; rcases h2 with z | ⟨es, n, z⟩ <;> rw [z] at q <;> cases q
      · exact H.hp.sim.not_firm e f
  obtain ⟨o, ho, io⟩ := i.obj
  refine i.keep (fun o' e => ?_) fun b o' e f => ?_
  · rw [ho] at e; cases e
    obtain ⟨n1, n2, n3⟩ := nown I o ho (.inl io)
    exact x.other I o ho n1 n2 n3
  · obtain ⟨n1, n2, n3⟩ := nown b o' e (.inr f)
    exact x.other b o' e n1 n2 n3

noncomputable def forL (x : Str) (tb : TS) (ok : Sto → Prop) : List PV → TS
  | [] => fun ρ σ Q _ => Q .next ρ σ
  | p :: ps => fun ρ σ Q X => tb (setL ρ x p) σ (fun fl ρ' σ' => match fl with
      | .next => ok σ' ∧ forL x tb ok ps ρ' σ' Q X
      | .cont => ok σ' ∧ forL x tb ok ps ρ' σ' Q X
      | .brk => Q .next ρ' σ'
      | .ret v => Q (.ret v) ρ' σ') X
noncomputable def tFor (x : Str) (ti : TE) (tb : TS) : TS := fun ρ σ Q X => ti ρ σ (fun p σ₁ => ∃ xs, itemsOf σ₁ p = some xs ∧ iterOk p ∧ forL x tb (fun σ' => itemsOf σ' p = some xs) xs ρ σ₁ Q X) (fun c σ' => X c ρ σ')

/-- an exception inside a loop's turn: noted here, it comes back at the loop's own statement -/
theorem noted_back {g : Gx} {A : Around} {outer : List Env} {env : Env} {σ : Sto} {s s₁ : Shared} {X : Addr → Env' → Sto → Prop} {v : Value} (hfr : A.frames = some (env :: outer)) (hf : env.frame = some env.locals)
    (p : PostXS g (env :: outer) env σ s X v s₁) : notedBy g.M A env (cameBackBy g.M A env (PostXS g (env :: outer) env σ s X)) v s₁ := by
  obtain ⟨h', tk, x, c, ρ', σ', B, rfl, rfl, e, l, hx⟩ := p
  refine Fly.note (s := { s with heap := h', toks := tk }) hfr hf e.fly fun h₂ H2 u2 => ?_
  refine Held.back (s := { s with heap := h₂, toks := tk }) H2 fun h₃ H3 u3 => ?_
  exact ⟨h₃, tk, x, c, ρ', σ', B, rfl, rfl, e.turn (u2.trans u3) H3.fly, l.turn (u2.trans u3), hx⟩

inductive ForI (g : Gx) (outer : List Env) (env : Env) (s : Shared) (σ₁ : Sto) (h₁ : Heap) (I : Addr) (p : PV) (xs : List PV) (x : Str) (tb : TS) (Q : Fl → Env' → Sto → Prop) (X : Addr → Env' → Sto → Prop) (m : Nat) (s' : Shared) : Prop
  | mk (k : Nat) (h : Heap) (tk' : Nat) (ρ' : Env') (σ' : Sto) : s' = { s with heap := h, toks := tk' } → m = xs.length + 1 - k → k ≤ xs.length → Step (env :: outer) (owned env) σ₁ h₁ σ' h → St g (env :: outer) env ρ' σ' h → IterAt g.base h I p k →
    itemsOf σ' p = some xs → forL x tb (fun σ' => itemsOf σ' p = some xs) (xs.drop k) ρ' σ' Q X → ForI g outer env s σ₁ h₁ I p xs x tb Q X m s'
section
variable {g : Gx} {n : Nat} {sc : Scope}
theorem sound_for {x : Str} {px pos : Pos} {iter : Expr} {body : List Stmt} {ti : TE} {tb : TS} (hi : SoundE g n true sc iter ti) (hb : SoundSs g n true sc body tb) (hx : sc.names.lookup x = some .local ∨ sc.names.lookup x = some .cell)
    (hs : ∀ (env : Env) (v : Value), foldedSetIterable iter env v = pure v) : SoundS g n true sc (.For (.Name x px) iter body [] pos) (tFor x ti tb) := by
  intro A outer env C hsc hf s ρ σ Q X H ht
  have hx' : env.kindOf x = some .local ∨ env.kindOf x = some .cell := by subst hsc; exact hx
  refine wpAny_For (stmtE H hf (hi A _ env C hsc s ρ σ _ _ H ht) fun v h₁ tk p σ₁ S1 H1 r hq => ?_) (hs env)
  obtain ⟨xs, hxs, hok, hl⟩ := hq
  refine iter_start (s := { s with heap := h₁, toks := tk }) H1.hp r hxs hok fun I h₂ hk2 hI i0 => ?_
  have hbI : g.base.get? I = none := by
    cases z : g.base.get? I with
    | none => rfl
    | some o => rw [H1.hp.stays I o z] at hI; cases hI
  have hr : ∀ (h : Heap) a ns, p = .lst a ns → Rep g.base h (.ref a) p := fun h a ns e => by subst e; exact rep_lst r
  refine codeAny_forLoop (ForI g outer env s σ₁ h₁ I p xs x tb Q X) ?_ (xs.length + 1) ⟨0, h₂, tk, ρ, σ₁, rfl, rfl, Nat.zero_le _, Step.keeps hk2, H1.keeps hk2, i0, hxs, by simpa using hl⟩
  rintro m s' ⟨k, h, tk', ρ', σ', rfl, rfl, hle, S, H', i, hit, hL⟩
  have hIo : ∀ o, h.get? I = some o → IterObj o := fun o e => by obtain ⟨o', h1, h2⟩ := i.obj; rw [e] at h1; cases h1; exact h2
  by_cases hk : k < xs.length
  · have hxk : xs[k]? = some xs[k] := List.getElem?_eq_getElem hk
    rw [List.drop_eq_getElem_cons hk] at hL
    refine iter_item (s := { s with heap := h, toks := tk' }) H'.hp (hr h) hit i hxk fun v' h₃ tk₃ hs₃ i₃ rv => ?_
    have H3 := H'.keepBut hIo hbI hs₃.extBut
    have rv3 : Rep g.base h₃ v' xs[k] := rv.mono fun b o e f => (hs₃.2 b (by rintro rfl; exact (hIo o e).notFirm f)).trans e
    have S3 := S.keepBut hI hs₃.extBut
    refine wpAny_assign_Name (store (s := { s with heap := h₃, toks := tk₃ }) C H3 hx' rv3 fun h₄ tk₄ S4 H4 => ?_)
    have i4 := i₃.step H3 S4
    have S04 := S3.trans S4
    refine wpAny_mono (hb A outer env C hsc hf { s with heap := h₄, toks := tk₄ } _ σ' _ X H4 hL) (fun f s₃ hp => ?_) fun e s₃ hp => noted_back C.frames hf (hp.up ((noOwn S1).trans S04))
    obtain ⟨h₅, tk₅, fl, ρ₅, σ₅, rfl, S5, H5, rf, hq⟩ := hp
    have i5 := i4.step H4 S5
    have S05 := S04.trans S5
    have go : itemsOf σ₅ p = some xs ∧ forL x tb (fun σ' => itemsOf σ' p = some xs) (xs.drop (k + 1)) ρ₅ σ₅ Q X → ∃ m, m < xs.length + 1 - k ∧ ForI g outer env s σ₁ h₁ I p xs x tb Q X m { s with heap := h₅, toks := tk₅ } := fun z =>
      ⟨xs.length + 1 - (k + 1), by omega, ⟨k + 1, h₅, tk₅, ρ₅, σ₅, rfl, rfl, hk, S05, H5, i5, z.1, z.2⟩⟩
    cases rf with
    | next => exact go hq
    | cont => exact go hq
    | brk => exact ⟨h₅, tk₅, .next, ρ₅, σ₅, rfl, (noOwn S1).trans S05, H5, .next, hq⟩
    | ret rv => exact ⟨h₅, tk₅, _, ρ₅, σ₅, rfl, (noOwn S1).trans S05, H5, .ret rv, hq⟩
  · have hke : k = xs.length := by omega
    subst hke
    rw [List.drop_length] at hL
    refine iter_end (s := { s with heap := h, toks := tk' }) (C.quiet rfl) H'.hp (hr h) hit i (List.getElem?_eq_none (Nat.le_refl _)) fun h₃ tk₃ hs₃ => ?_
    exact wpAny_execs_nil ⟨h₃, tk₃, .next, ρ', σ', rfl, (noOwn S1).trans (S.keepBut hI hs₃), H'.keepBut hIo hbI hs₃, .next, hL⟩

end
end Mine

set_option autoImplicit false
namespace Mine
open PySem PyProof.Rows

noncomputable def upd (σ : Sto) (a : Addr) (ao : AO) : Sto := fun b => if b = a then some ao else σ b

/-! arithmetic -/
noncomputable def opP (op : Operator) (a b : PV) (σ : Sto) (Q : PV → Sto → Prop) : Prop :=
  match op with
  | .Add => (∃ x y, a = .int x ∧ b = .int y ∧ Q (.int (x + y)) σ) ∨ ∃ x y xs ys, a = .ref x ∧ b = .ref y ∧ σ x = some (.list xs) ∧ σ y = some (.list ys) ∧ (xs ++ ys).length ≤ 1000000 ∧ ∀ c, σ c = none → Q (.ref c) (upd σ c (.list (xs ++ ys)))
  | .Sub => ∃ x y, a = .int x ∧ b = .int y ∧ Q (.int (x - y)) σ
  | .Mult => ∃ x y, a = .int x ∧ b = .int y ∧ ((-(2 ^ 64) < x ∧ x < 2 ^ 64) ∨ (-(2 ^ 64) < y ∧ y < 2 ^ 64)) ∧ Q (.int (x * y)) σ
  | .FloorDiv => ∃ x y, a = .int x ∧ b = .int y ∧ y ≠ 0 ∧ y.natAbs < 1073741824 ∧ Q (.int (x.fdiv y)) σ
  | .Mod => ∃ x y, a = .int x ∧ b = .int y ∧ y ≠ 0 ∧ Q (.int (x.fmod y)) σ
  | .Pow => ∃ x y, a = .int x ∧ b = .int y ∧ 0 ≤ y ∧ y ≤ 1000 ∧ x.natAbs < 2 ^ 64 ∧ Q (.int (x ^ y.toNat)) σ
  | _ => False
noncomputable def tBin (op : Operator) (l r : TE) : TE := fun ρ σ Q X => l ρ σ (fun a σ₁ => r ρ σ₁ (fun b σ₂ => opP op a b σ₂ Q) X) X
noncomputable def tNeg (e : TE) : TE := fun ρ σ Q X => e ρ σ (fun a σ₁ => match a with
  | .int x => Q (.int (-x)) σ₁
  | _ => False) X

/-! data of a value -/
mutual
inductive DataOf (σ : Sto) : PV → PyData → Prop
  | none : DataOf σ .none .none
  | bool (b : Bool) : DataOf σ (.bool b) (.bool b)
  | int (i : Int) : DataOf σ (.int i) (.int i)
  | str (x : Str) : DataOf σ (.str x) (.str x)
  | tup {xs : List PV} {ds : List PyData} : DatasOf σ xs ds → DataOf σ (.tup xs) (.tuple ds)
  | list {a : Addr} {xs : List PV} {ds : List PyData} : σ a = some (.list xs) → DatasOf σ xs ds → DataOf σ (.ref a) (.list ds)
inductive DatasOf (σ : Sto) : List PV → List PyData → Prop
  | nil : DatasOf σ [] []
  | cons {x : PV} {d : PyData} {xs : List PV} {ds : List PyData} : DataOf σ x d → DatasOf σ xs ds → DatasOf σ (x :: xs) (d :: ds)
end

theorem DataOf.reads {base h : Heap} {σ : Sto} (S : Sim base h σ) {p : PV} {d : PyData} (D : DataOf σ p d) : ∀ v, Rep base h v p → ∃ as, Reads h v d as := by
  refine DataOf.rec (motive_1 := fun p d _ => ∀ v, Rep base h v p → ∃ as, Reads h v d as) (motive_2 := fun ps ds _ => ∀ vs, Reps base h vs ps → ∃ as, ReadsAll h vs ds as) ?_ ?_ ?_ ?_ ?_ ?_ ?_ ?_ D
  · intro v r; obtain rfl := inv_none r; exact ⟨_, .none⟩
  · intro b v r; obtain rfl := inv_bool r; exact ⟨_, .bool b⟩
  · intro i v r; obtain ⟨t, rfl⟩ := inv_int r; exact ⟨_, .int _ _⟩
  · intro x v r; obtain ⟨t, rfl⟩ := inv_str r; exact ⟨_, .str _ _⟩
  · intro xs ds _ ih v r
    obtain ⟨a, o, vs, n, rfl, ho, hc, hd, rs⟩ := inv_tup r
    obtain ⟨as, q⟩ := ih vs rs
    exact ⟨_, .tuple ho hc hd q⟩
  · intro a xs ds e _ ih v r
    obtain rfl := inv_ref r
    obtain ⟨vs, ⟨n, ho⟩, rs⟩ := S _ _ e
    obtain ⟨as, q⟩ := ih vs rs
    exact ⟨_, .list ho rfl rfl q⟩
  · intro vs r; cases r; exact ⟨_, .nil⟩
  · intro x d xs ds _ _ ih1 ih2 vs r
    cases r with
    | cons r rs =>
      obtain ⟨bs, q⟩ := ih1 _ r
      obtain ⟨cs, q'⟩ := ih2 _ rs
      exact ⟨_, .cons q q'⟩
theorem DatasOf.reads {base h : Heap} {σ : Sto} (S : Sim base h σ) {ps : List PV} {ds : List PyData} (D : DatasOf σ ps ds) : ∀ vs, Reps base h vs ps → ∃ as, ReadsAll h vs ds as := by
  refine DatasOf.rec (motive_1 := fun p d _ => True) (motive_2 := fun ps ds _ => ∀ vs, Reps base h vs ps → ∃ as, ReadsAll h vs ds as) trivial (fun _ => trivial) (fun _ => trivial) (fun _ => trivial) (fun _ _ => trivial) (fun _ _ _ => trivial) ?_ ?_ D
  · intro vs r; cases r; exact ⟨_, .nil⟩
  · intro x d xs ds h1 _ _ ih2 vs r
    cases r with
    | cons r rs =>
      obtain ⟨bs, q⟩ := h1.reads S _ r
      obtain ⟨cs, q'⟩ := ih2 _ rs
      exact ⟨_, .cons q q'⟩

noncomputable def eqP (σ : Sto) (a b : PV) (k : Bool → Prop) : Prop := (∃ x y, a = .int x ∧ b = .int y ∧ k (decide (x = y))) ∨ (∃ x y, a = .str x ∧ b = .str y ∧ k (decide (x = y))) ∨
  ∃ d e, DataOf σ a d ∧ DataOf σ b e ∧ SeqAt.shaped d = true ∧ SeqAt.shaped e = true ∧ k (PyData.eqv d e)
noncomputable def isNone : PV → Bool
  | .none => true
  | _ => false
noncomputable def inP (σ : Sto) (a b : PV) (k : Bool → Prop) : Prop := ∃ (x : Int) (l : Addr) (ns : List Int), a = .int x ∧ b = .ref l ∧ σ l = some (.list (ns.map .int)) ∧ k (decide (x ∈ ns))
noncomputable def ints2 (a b : PV) (f : Int → Int → Prop) : Prop := ∃ x y, a = .int x ∧ b = .int y ∧ f x y
noncomputable def cmpP (op : CmpOp) (σ : Sto) (a b : PV) (k : Bool → Prop) : Prop := match op with
  | .Lt => ints2 a b fun x y => k (decide (x < y))
  | .LtE => ints2 a b fun x y => k (decide (x ≤ y))
  | .Gt => ints2 a b fun x y => k (decide (x > y))
  | .GtE => ints2 a b fun x y => k (decide (x ≥ y))
  | .Eq => eqP σ a b k
  | .NotEq => eqP σ a b fun r => k (!r)
  | .Is => b = .none ∧ k (isNone a)
  | .IsNot => b = .none ∧ k (!isNone a)
  | .In => inP σ a b k
  | .NotIn => inP σ a b fun r => k (!r)
noncomputable def tCmp (op : CmpOp) (l r : TE) : TE := fun ρ σ Q X => l ρ σ (fun a σ₁ => r ρ σ₁ (fun b σ₂ => cmpP op σ₂ a b fun c => Q (.bool c) σ₂) X) X
noncomputable def tCmpB (op : CmpOp) (l r : TE) : TB := fun ρ σ Q X => l ρ σ (fun a σ₁ => r ρ σ₁ (fun b σ₂ => cmpP op σ₂ a b fun c => Q c σ₂) X) X
noncomputable def tChainB (op op' : CmpOp) (l m r : TE) : TB := fun ρ σ Q X => l ρ σ (fun a σ₁ => m ρ σ₁ (fun b σ₂ => cmpP op σ₂ a b fun c => if c = true then r ρ σ₂ (fun d σ₃ => cmpP op' σ₃ b d fun e => Q e σ₃) X else Q false σ₂) X) X

/-- a pure step: nothing is made but tokens -/
theorem pureE {g : Gx} {fr : List Env} {σ σ₁ : Sto} {s : Shared} {h₁ : Heap} {tk' : Nat} {Q : PV → Sto → Prop} {v : Value} {p : PV} (S1 : Step fr nobody σ s.heap σ₁ h₁) (Sm : Sim g.base h₁ σ₁) (r : Rep g.base h₁ v p) (hq : Q p σ₁) : PostE g fr σ s Q v { s with heap := h₁, toks := tk' } :=
  ⟨h₁, tk', p, σ₁, rfl, S1, Sm, r, hq⟩

theorem datas_ints {σ : Sto} : ∀ ns : List Int, DatasOf σ (ns.map .int) (ns.map .int)
  | [] => .nil
  | n :: ns => .cons (.int n) (datas_ints ns)
theorem canLay_ints : ∀ ns : List Int, PyData.canLayAll0 (ns.map PyData.int) = true
  | [] => rfl
  | n :: ns => by simp [PyData.canLayAll0, PyData.canLay0, canLay_ints ns]
theorem depth_ints : ∀ ns : List Int, PyData.depthAll (ns.map PyData.int) = 0
  | [] => rfl
  | n :: ns => by simp [PyData.depthAll, PyData.depth, depth_ints ns]
theorem any_ints (x : Int) : ∀ ns : List Int, ((ns.map PyData.int).any fun y => PyData.eqv y (.int x)) = decide (x ∈ ns)
  | [] => by simp
  | n :: ns => by
    rw [List.map_cons, List.any_cons, any_ints x ns]
    simp only [PyData.eqv, List.mem_cons]
    by_cases h : x = n
    · subst h; simp
    · have : ¬ n = x := fun e => h e.symm
      simp [h, this]

section
variable {g : Gx} {A : Around} {fr : List Env} {s : Shared} {σ : Sto}
theorem rep_isNone {base h : Heap} {v : Value} {p : PV} (r : Rep base h v p) : (isNone p = true ∧ v = .none) ∨ (isNone p = false ∧ v ≠ .none) := by
  cases r <;> first | exact .inl ⟨rfl, rfl⟩ | exact .inr ⟨rfl, by intro z; cases z⟩
theorem beq_dec {α : Type} [DecidableEq α] {x y : α} : (x == y) = decide (x = y) := by by_cases z : x = y <;> simp [z]
theorem eq_any {n : Nat} {u v : Value} {a b : PV} {k : Bool → Prop} {E : Value → Shared → Prop} (hr : Room n A) (Sm : Sim g.base s.heap σ) (ra : Rep g.base s.heap u a) (rb : Rep g.base s.heap v b) (hk : eqP σ a b k) :
    ∃ c, k c ∧ (∀ {Q : Value → Shared → Prop}, Q (.bool c) s → wpAny g.M A (compareOp .Eq u v) Q E s) ∧ (∀ {Q : Value → Shared → Prop}, Q (.bool (!c)) s → wpAny g.M A (compareOp .NotEq u v) Q E s) := by
  have hu : A.units + 64 < cLine := by have := hr.units; omega
  rcases hk with ⟨x, y, rfl, rfl, hk⟩ | ⟨x, y, rfl, rfl, hk⟩ | ⟨d, e, h1, h2, h3, h4, h5⟩
  · obtain ⟨t, rfl⟩ := inv_int ra
    obtain ⟨t', rfl⟩ := inv_int rb
    exact ⟨_, hk, fun {Q} hq => PyProof.Rows.eq_int (by rw [beq_dec]; exact hq), fun {Q} hq => PyProof.Rows.ne_int (by show Q (.bool (!(x == y))) s; rw [beq_dec]; exact hq)⟩
  · obtain ⟨t, rfl⟩ := inv_str ra
    obtain ⟨t', rfl⟩ := inv_str rb
    exact ⟨_, hk, fun {Q} hq => PyProof.Rows.eq_str (by rw [beq_dec]; exact hq), fun {Q} hq => PyProof.Rows.ne_str (by show Q (.bool (!(x == y))) s; rw [beq_dec]; exact hq)⟩
  · obtain ⟨as, q1⟩ := h1.reads Sm _ ra
    obtain ⟨bs, q2⟩ := h2.reads Sm _ rb
    exact ⟨_, h5, fun hq => eq_dataH q1 q2 h3 h4 hu hq, fun hq => ne_dataH q1 q2 h3 h4 hu hq⟩
theorem in_any {n : Nat} {u v : Value} {a b : PV} {k : Bool → Prop} {E : Value → Shared → Prop} (hr : Room n A) (Sm : Sim g.base s.heap σ) (ra : Rep g.base s.heap u a) (rb : Rep g.base s.heap v b) (hk : inP σ a b k) :
    ∃ c, k c ∧ (∀ {Q : Value → Shared → Prop}, Q (.bool c) s → wpAny g.M A (compareOp .In u v) Q E s) ∧ (∀ {Q : Value → Shared → Prop}, Q (.bool (!c)) s → wpAny g.M A (compareOp .NotIn u v) Q E s) := by
  obtain ⟨x, l, ns, rfl, rfl, h1, h2⟩ := hk
  obtain ⟨t, rfl⟩ := inv_int ra
  obtain rfl := inv_ref rb
  obtain ⟨vs, ⟨m, h3⟩, rs⟩ := Sm _ _ h1
  obtain ⟨as, q⟩ := DatasOf.reads Sm (datas_ints ns) _ rs
  have hun : A.units + 1 + min (PyData.depthAll (ns.map PyData.int)) (PyData.int x).depth < cLine := by
    have := hr.units
    rw [depth_ints]; simp; omega
  exact ⟨_, h2, fun hq => SeqAt.in_list_reads (.list h3 rfl rfl (by simpa using q)) (.int x t) (canLay_ints ns) rfl hun (by rw [any_ints]; exact hq),
    fun hq => SeqAt.notIn_list_reads (.list h3 rfl rfl (by simpa using q)) (.int x t) (canLay_ints ns) rfl hun (by rw [any_ints]; exact hq)⟩
theorem two_any {u v : Value} {a b : PV} {f : Int → Int → Prop} {P : Value → Value → Prop} (ra : Rep g.base s.heap u a) (rb : Rep g.base s.heap v b) (hk : ints2 a b f) (h : ∀ x y t t', f x y → P (.int x t) (.int y t')) : P u v := by
  obtain ⟨x, y, rfl, rfl, hk⟩ := hk
  obtain ⟨t, rfl⟩ := inv_int ra
  obtain ⟨t', rfl⟩ := inv_int rb
  exact h _ _ _ _ hk
/-- comparing two values -/
theorem cmp_any {n : Nat} {op : CmpOp} {u v : Value} {a b : PV} {k : Bool → Prop} {Q : Value → Shared → Prop} {E : Value → Shared → Prop} (hr : Room n A) (Sm : Sim g.base s.heap σ) (ra : Rep g.base s.heap u a) (rb : Rep g.base s.heap v b) (hk : cmpP op σ a b k) (hQ : ∀ c, k c → Q (.bool c) s) :
    wpAny g.M A (compareOp op u v) Q E s := by
  cases op with
  | Lt => exact two_any (P := fun u v => wpAny g.M A (compareOp .Lt u v) Q E s) ra rb hk fun x y t t' h => PyProof.Rows.lt_int (hQ _ h)
  | LtE => exact two_any (P := fun u v => wpAny g.M A (compareOp .LtE u v) Q E s) ra rb hk fun x y t t' h => PyProof.Rows.le_int (hQ _ h)
  | Gt => exact two_any (P := fun u v => wpAny g.M A (compareOp .Gt u v) Q E s) ra rb hk fun x y t t' h => PyProof.Rows.gt_int (hQ _ h)
  | GtE => exact two_any (P := fun u v => wpAny g.M A (compareOp .GtE u v) Q E s) ra rb hk fun x y t t' h => PyProof.Rows.ge_int (hQ _ h)
  | Eq => obtain ⟨c, h1, h2, _⟩ := eq_any hr Sm ra rb hk; exact h2 (hQ _ h1)
  | NotEq => obtain ⟨c, h1, _, h2⟩ := eq_any (k := fun r => k (!r)) hr Sm ra rb hk; exact h2 (hQ _ h1)
  | Is =>
    obtain ⟨rfl, hk⟩ := hk
    obtain rfl := inv_none rb
    rcases rep_isNone ra with ⟨h1, rfl⟩ | ⟨h1, h2⟩
    · rw [h1] at hk; exact is_none_none (hQ _ hk)
    · rw [h1] at hk; exact is_none_ne h2 (hQ _ hk)
  | IsNot =>
    obtain ⟨rfl, hk⟩ := hk
    obtain rfl := inv_none rb
    rcases rep_isNone ra with ⟨h1, rfl⟩ | ⟨h1, h2⟩
    · rw [h1] at hk; exact isnot_none_none (hQ _ hk)
    · rw [h1] at hk; exact isnot_none_ne h2 (hQ _ hk)
  | In => obtain ⟨c, h1, h2, _⟩ := in_any hr Sm ra rb hk; exact h2 (hQ _ h1)
  | NotIn => obtain ⟨c, h1, _, h2⟩ := in_any (k := fun r => k (!r)) hr Sm ra rb hk; exact h2 (hQ _ h1)
end
end Mine

set_option autoImplicit false
set_option linter.unusedVariables false
namespace Mine
open PySem PyProof.Rows PySem.Calls

theorem addList {base h h' : Heap} {fr : List Env} {own : Addr → Prop} {σ : Sto} {c : Addr} {vs : List Value} {xs : List PV} (S : Sim base h σ) (k : ∀ b o, h.get? b = some o → h'.get? b = some o) (hc : h.get? c = none) (hl : h'.PlainList c vs.toArray) (r : Reps base h' vs xs) :
    σ c = none ∧ Step fr own σ h (upd σ c (.list xs)) h' ∧ Sim base h' (upd σ c (.list xs)) := by
  have hσ : σ c = none := by
    cases z : σ c with
    | none => rfl
    | some ao =>
      have := S c ao z
      cases ao with
      | list xs => obtain ⟨vs, ⟨m, h1⟩, _⟩ := this; rw [hc] at h1; cases h1
      | raw o => rw [hc] at this; cases this.1
  refine ⟨hσ, ⟨fun b o e _ _ _ => k b o e, fun b o e _ _ => ⟨o.slots, k b o e⟩, fun b o e _ => ⟨o, k b o e⟩, fun a e _ n => ?_, fun a e => ?_⟩, fun a ao e => ?_⟩
  · unfold upd
    rw [if_neg (by rintro rfl; exact n hc)]; exact e
  · unfold upd
    split
    · simp
    · exact e
  · unfold upd at e
    split at e
    · rename_i q; subst q; cases e; exact ⟨vs, hl, r⟩
    · exact S.keeps k a ao e

theorem newList_any {g : Gx} {A : Around} {fr : List Env} {s : Shared} {σ : Sto} {vs : List Value} {xs : List PV} {Q : Value → Shared → Prop} {E : Value → Shared → Prop} (Sm : Sim g.base s.heap σ) (r : Reps g.base s.heap vs xs) (hsz : vs.length ≤ sizeLine)
    (k : ∀ c h', σ c = none → Step fr nobody σ s.heap (upd σ c (.list xs)) h' → Sim g.base h' (upd σ c (.list xs)) → Q (.ref c) { s with heap := h' }) : wpAny g.M A (newList vs) Q E s := by
  have kp : ∀ b o, s.heap.get? b = some o → (s.heap.push { cls := .type "list", data := .seq vs.toArray }).get? b = some o := fun b o e => Heap.get?_push_of_some _ e
  obtain ⟨h1, h2, h3⟩ := addList (fr := fr) (own := nobody) Sm kp (fresh_size (Nat.le_refl _)) ⟨_, Heap.get?_push_size _ rfl⟩ (r.keeps kp)
  exact wpAny_newList (k _ _ h1 h2 h3) hsz

/-! several expressions -/
inductive PostEs (g : Gx) (fr : List Env) (σ : Sto) (s : Shared) (Q : List PV → Sto → Prop) (vs : List Value) (s' : Shared) : Prop
  | mk (h' : Heap) (tk : Nat) (ps : List PV) (σ' : Sto) : s' = { s with heap := h', toks := tk } → Step fr nobody σ s.heap σ' h' → Sim g.base h' σ' → Reps g.base h' vs ps → Q ps σ' → PostEs g fr σ s Q vs s'
noncomputable def SoundEs (g : Gx) (n : Nat) (q : Bool) (sc : Scope) (es : List Expr) (t : TEs) : Prop :=
  (∀ (env : Env) (pos : Pos), (backTo pos (starEach es env)).any (·.1) = false) ∧
  ∀ (A : Around) (fr : List Env) (env : Env), Cx g n q A fr env → env.scope = sc → ∀ (pos : Pos) (s : Shared) (ρ : Env') (σ : Sto) (Q : List PV → Sto → Prop) (X : Addr → Sto → Prop),
    St g fr env ρ σ s.heap → t ρ σ Q X → wpAny g.M A (spliced (backTo pos (starEach es env))) (PostEs g fr σ s Q) (PostX g fr σ s X) s
noncomputable def tEnil : TEs := fun _ σ Q _ => Q [] σ
noncomputable def tEcons (e : TE) (es : TEs) : TEs := fun ρ σ Q X => e ρ σ (fun p σ₁ => es ρ σ₁ (fun ps σ₂ => Q (p :: ps) σ₂) X) X

section
variable {g : Gx} {n : Nat} {q : Bool} {sc : Scope}
theorem sound_enil : SoundEs g n q sc [] tEnil :=
  ⟨fun _ _ => rfl, fun A fr env C hsc pos s ρ σ Q X H ht => spliced_nil ⟨s.heap, s.toks, [], σ, rfl, Step.refl, H.hp.sim, .nil, ht⟩⟩
theorem sound_econs {e : Expr} {es : List Expr} {t : TE} {ts : TEs} (he : SoundE g n q sc e t) (hes : SoundEs g n q sc es ts) (hns : ∀ env : Env, starEach (e :: es) env = (false, eval e env) :: starEach es env) : SoundEs g n q sc (e :: es) (tEcons t ts) := by
  refine ⟨fun env pos => ?_, fun A fr env C hsc pos s ρ σ Q X H ht => ?_⟩
  · rw [hns]
    show ((false, _) :: backTo pos (starEach es env)).any (·.1) = false
    rw [List.any_cons, hes.1 env pos]; rfl
  · rw [hns]
    show wpAny _ _ (spliced ((false, eval e env) :: backTo pos (starEach es env))) _ _ _
    refine spliced_cons (bindE (he A fr env C hsc s ρ σ _ X H ht) fun v h₁ tk p σ₁ S1 Sm1 r hq => ?_)
    refine wpAny_mono (hes.2 A fr env C hsc pos { s with heap := h₁, toks := tk } ρ σ₁ _ X (H.step S1 Sm1) hq) (fun vs s' hp => ?_) fun _ _ x => x.up S1
    obtain ⟨h₂, tk₂, ps, σ₂, rfl, S2, Sm2, rs, hq⟩ := hp
    exact ⟨h₂, tk₂, p :: ps, σ₂, rfl, S1.trans S2, Sm2, .cons (S2.rep (H.hp.step S1 Sm1) r) rs, hq⟩

theorem evalArgs_es {es : List Expr} {ts : TEs} (hes : SoundEs g n q sc es ts) {A : Around} {fr : List Env} {env : Env} (C : Cx g n q A fr env) (hsc : env.scope = sc) {f : Value} {pos : Pos} {s : Shared} {ρ : Env'} {σ : Sto} {Q : List PV → Sto → Prop} {X : Addr → Sto → Prop}
    (H : St g fr env ρ σ s.heap) (ht : ts ρ σ Q X) : wpAny g.M A (evalArgs f true (backTo pos (starEach es env)) []) (fun a s' => a.kw = [] ∧ PostEs g fr σ s Q a.pos s') (PostX g fr σ s X) s := by
  have h1 := hes.1 env pos
  have h2 := hes.2 A fr env C hsc pos s ρ σ Q X H ht
  generalize backTo pos (starEach es env) = l at h1 h2
  cases l with
  | nil =>
    have h3 := wpAny_mono h2 (fun vs s' (hp : PostEs g fr σ s Q vs s') => hp) fun _ _ x => x
    unfold evalArgs
    show wpAny _ _ (spliced [] >>= _) _ _ s
    refine wpAny_bind (wpAny_mono h3 (fun vs s' hp => ?_) fun _ _ x => x)
    refine wpAny_bind (wpAny_pure (wpAny_holding ?_))
    exact wpAny_bind (wpAny_pure (wpAny_bind (wpAny_pure (wpAny_pure ⟨rfl, hp⟩))))
  | cons a r =>
    obtain ⟨b, x⟩ := a
    have hb : b = false := by
      rw [List.any_cons] at h1
      cases b with
      | false => rfl
      | true => simp at h1
    subst hb
    exact evalArgs_plain (wpAny_mono h2 (fun vs s' hp => ⟨rfl, hp⟩) fun _ _ x => x)

/-! displays -/
noncomputable def tTup (ts : TEs) : TE := fun ρ σ Q X => ts ρ σ (fun ps σ' => ps.length ≤ 1000000 ∧ Q (.tup ps) σ') X
noncomputable def tList (ts : TEs) : TE := fun ρ σ Q X => ts ρ σ (fun ps σ' => ps.length ≤ 1000000 ∧ ∀ c, σ' c = none → Q (.ref c) (upd σ' c (.list ps))) X
theorem big_ok {k : Nat} (h : k ≤ 1000000) : k ≤ sizeLine := by unfold sizeLine; omega
theorem sound_tuple {es : List Expr} {k : Nat} {pos : Pos} {ts : TEs} (hes : SoundEs g n q sc es ts) : SoundE g n q sc (.Tuple es k pos) (tTup ts) := by
  intro A fr env C hsc s ρ σ Q X H ht
  refine Tuple_ (wpAny_mono (hes.2 A fr env C hsc pos s ρ σ _ X H ht) (fun vs s' hp => ?_) fun _ _ x => x)
  obtain ⟨h₂, tk₂, ps, σ₂, rfl, S2, Sm2, rs, hl, hq⟩ := hp
  have kp : ∀ b o, h₂.get? b = some o → (h₂.push { cls := .type "tuple", data := .seq vs.toArray }).get? b = some o := fun b o e => Heap.get?_push_of_some _ e
  refine wpAny_newTuple (s := { s with heap := h₂, toks := tk₂ }) ⟨_, tk₂, .tup ps, σ₂, rfl, S2.trans (Step.keeps kp), Sm2.keeps kp, .tup (Heap.get?_push_size _ rfl) rfl rfl (rs.keeps kp), hq⟩ (by rw [rs.length]; exact big_ok hl)
theorem sound_list {es : List Expr} {pos : Pos} {ts : TEs} (hes : SoundEs g n q sc es ts) : SoundE g n q sc (.List es pos) (tList ts) := by
  intro A fr env C hsc s ρ σ Q X H ht
  refine List_ (wpAny_mono (hes.2 A fr env C hsc pos s ρ σ _ X H ht) (fun vs s' hp => ?_) fun _ _ x => x)
  obtain ⟨h₂, tk₂, ps, σ₂, rfl, S2, Sm2, rs, hl, hq⟩ := hp
  exact newList_any (s := { s with heap := h₂, toks := tk₂ }) Sm2 rs (by rw [rs.length]; exact big_ok hl) fun c h' h1 h2 h3 => ⟨h', tk₂, _, _, rfl, S2.trans h2, h3, .ref c, hq c h1⟩

/-! operators -/
theorem sound_bin {l r : Expr} {op : Operator} {pos : Pos} {tl tr : TE} (hl : SoundE g n q sc l tl) (hr : SoundE g n q sc r tr) : SoundE g n q sc (.BinOp l op r pos) (tBin op tl tr) := by
  intro A fr env C hsc s ρ σ Q X H ht
  refine wpAny_BinOp (bindE (hl A fr env C hsc s ρ σ _ X H ht) fun u h₁ tk a σ₁ S1 Sm1 ra hq => ?_)
  have H1 := H.step S1 Sm1
  refine wpAny_mono (bindE (hr A fr env C hsc { s with heap := h₁, toks := tk } ρ σ₁ _ X H1 hq) fun v h₂ tk₂ b σ₂ S2 Sm2 rb hq => ?_) (fun _ _ x => x) fun _ _ x => x.up S1
  have ra := S2.rep H1.hp ra
  have S := S1.trans S2
  cases op with
  | Add =>
    rcases hq with ⟨x, y, rfl, rfl, hq⟩ | ⟨x, y, xs, ys, rfl, rfl, e1, e2, hle, hq⟩
    · obtain ⟨t, rfl⟩ := inv_int ra
      obtain ⟨t', rfl⟩ := inv_int rb
      exact PyProof.Rows.add_int (pureE S Sm2 (.int _ _) hq)
    · obtain rfl := inv_ref ra
      obtain rfl := inv_ref rb
      obtain ⟨vs, ⟨m1, ho⟩, r1⟩ := Sm2 _ _ e1
      obtain ⟨ws, ⟨m2, ho2⟩, r2⟩ := Sm2 _ _ e2
      have r12 := r1.append r2
      have hsz : (vs ++ ws).length ≤ sizeLine := by rw [r12.length]; exact big_ok hle
      have e : vs.toArray ++ ws.toArray = (vs ++ ws).toArray := by simp
      refine concat_meets (s := { s with heap := h₂, toks := tk₂ }) ⟨_, ho, rfl⟩ ⟨_, ho2, rfl⟩ noFill_list_add seq_list_add PySem.F.slot_list_add PySem.F.entry_list_add (PySem.F.args_list_add_2 _ _) (list_addW _ _ vs.toArray ws.toArray m1 m2 none none #[] #[] (by simpa using hsz)) ⟨ho, ho2, ?_⟩
      rw [e]
      have kp : ∀ b o, h₂.get? b = some o → (h₂.push { cls := .type "list", data := .seq (vs ++ ws).toArray }).get? b = some o := fun b o e => Heap.get?_push_of_some _ e
      obtain ⟨z1, z2, z3⟩ := addList (fr := fr) (own := nobody) Sm2 kp (fresh_size (Nat.le_refl _)) ⟨_, Heap.get?_push_size _ rfl⟩ (r12.keeps kp)
      exact ⟨_, tk₂, _, _, rfl, S.trans z2, z3, .ref _, hq _ z1⟩
  | Sub =>
    exact two_any (s := { s with heap := h₂, toks := tk₂ }) (P := fun u v => wpAny g.M A (binaryOp .Sub u v) _ _ _) ra rb hq fun x y t t' hq => PyProof.Rows.sub_int (pureE S Sm2 (.int _ _) hq)
  | Mult =>
    refine two_any (s := { s with heap := h₂, toks := tk₂ }) (P := fun u v => wpAny g.M A (binaryOp .Mult u v) _ _ _) ra rb hq fun x y t t' hq => ?_
    refine PyProof.Rows.mul_int (pureE S Sm2 (.int _ _) hq.2) ?_
    rcases hq.1 with ⟨z1, z2⟩ | ⟨z1, z2⟩
    · exact IntMulOk.of_left (intBits_le_64 z1 z2)
    · exact IntMulOk.of_right (intBits_le_64 z1 z2)
  | FloorDiv =>
    exact two_any (s := { s with heap := h₂, toks := tk₂ }) (P := fun u v => wpAny g.M A (binaryOp .FloorDiv u v) _ _ _) ra rb hq fun x y t t' hq => PyProof.Rows.floordiv_int hq.1 (pureE S Sm2 (.int _ _) hq.2.2) (.inl (PyProof.noPylong_small hq.2.1))
  | Mod =>
    exact two_any (s := { s with heap := h₂, toks := tk₂ }) (P := fun u v => wpAny g.M A (binaryOp .Mod u v) _ _ _) ra rb hq fun x y t t' hq => PyProof.Rows.mod_int' hq.1 (pureE S Sm2 (.int _ _) hq.2)
  | Pow =>
    refine two_any (s := { s with heap := h₂, toks := tk₂ }) (P := fun u v => wpAny g.M A (binaryOp .Pow u v) _ _ _) ra rb hq fun x y t t' hq => ?_
    obtain ⟨z1, z2, z3, hq⟩ := hq
    refine PyProof.Rows.pow_int z1 ?_ (pureE S Sm2 (.int _ _) hq)
    have hb := PyProof.Rows.intBits_le (k := 64) z3
    have e1 : ((Builtin.Int.intBits _ : Nat) : Int) ≤ 64 := Int.ofNat_le.mpr hb
    refine Int.le_trans (Int.mul_le_mul e1 z2 z1 (by decide)) (by decide)
  | _ => exact hq.elim
end
end Mine

set_option autoImplicit false
set_option linter.unusedVariables false
namespace Mine
open PySem PyProof.Rows PySem.Calls

section
variable {g : Gx} {n : Nat} {q : Bool} {sc : Scope}

theorem sound_neg {x : Expr} {pos : Pos} {t : TE} (hx : SoundE g n q sc x t) : SoundE g n q sc (.UnaryOp .USub x pos) (tNeg t) := by
  intro A fr env C hsc s ρ σ Q X H ht
  refine UnaryOp_ (bindE (hx A fr env C hsc s ρ σ _ X H ht) fun u h₁ tk a σ₁ S1 Sm1 ra hq => ?_)
  cases a with
  | int i => obtain ⟨t, rfl⟩ := inv_int ra; exact PyProof.Rows.neg_int (pureE S1 Sm1 (.int _ _) hq)
  | _ => exact hq.elim

/-! conditions -/
noncomputable def tNot (b : TB) : TB := fun ρ σ Q X => b ρ σ (fun r σ' => Q (!r) σ') X
noncomputable def tAnd (b c : TB) : TB := fun ρ σ Q X => b ρ σ (fun r σ' => if r = true then c ρ σ' Q X else Q false σ') X
noncomputable def tOr (b c : TB) : TB := fun ρ σ Q X => b ρ σ (fun r σ' => if r = true then Q true σ' else c ρ σ' Q X) X
noncomputable def tTrue : TB := fun _ σ Q _ => Q true σ
noncomputable def tFalse : TB := fun _ σ Q _ => Q false σ
noncomputable def tTest (e : TE) : TB := fun ρ σ Q X => e ρ σ (fun p σ' => match p with
  | .bool b => Q b σ'
  | _ => False) X

theorem bindB {A : Around} {fr : List Env} {σ : Sto} {s : Shared} {t : Sem Bool} {Q₁ : Bool → Sto → Prop} {X : Addr → Sto → Prop} {f : Bool → Shared → Prop}
    (h : wpAny g.M A t (PostB g fr σ s Q₁) (PostX g fr σ s X) s)
    (k : ∀ b h₁ tk σ₁, Step fr nobody σ s.heap σ₁ h₁ → Sim g.base h₁ σ₁ → Q₁ b σ₁ → f b { s with heap := h₁, toks := tk }) :
    wpAny g.M A t f (PostX g fr σ s X) s :=
  wpAny_mono h (fun v _ ⟨h', tk, σ', e, b, S, hq⟩ => e ▸ k v h' tk σ' b S hq) fun _ _ x => x

theorem soundB_not {x : Expr} {pos : Pos} {b : TB} (hb : SoundB g n q sc x b) : SoundB g n q sc (.UnaryOp .Not x pos) (tNot b) := by
  intro A fr env C hsc s ρ σ Q X H ht
  exact isTrue_not (bindB (hb A fr env C hsc s ρ σ _ X H ht) fun r h₁ tk σ₁ S1 Sm1 hq => ⟨h₁, tk, σ₁, rfl, S1, Sm1, hq⟩)
theorem soundB_andNil {pos : Pos} : SoundB g n q sc (.BoolOp .And [] pos) tTrue := by
  intro A fr env C hsc s ρ σ Q X H ht
  exact isTrue_and_nil ⟨s.heap, s.toks, σ, rfl, Step.refl, H.hp.sim, ht⟩
theorem soundB_orNil {pos : Pos} : SoundB g n q sc (.BoolOp .Or [] pos) tFalse := by
  intro A fr env C hsc s ρ σ Q X H ht
  exact isTrue_or_nil ⟨s.heap, s.toks, σ, rfl, Step.refl, H.hp.sim, ht⟩
theorem soundB_and {x : Expr} {rest : List Expr} {pos : Pos} {b c : TB} (hb : SoundB g n q sc x b) (hc : SoundB g n q sc (.BoolOp .And rest pos) c) : SoundB g n q sc (.BoolOp .And (x :: rest) pos) (tAnd b c) := by
  intro A fr env C hsc s ρ σ Q X H ht
  refine isTrue_and (bindB (hb A fr env C hsc s ρ σ _ X H ht) fun r h₁ tk σ₁ S1 Sm1 hq => ?_)
  cases r with
  | true =>
    rw [if_pos rfl]
    exact wpAny_mono (hc A fr env C hsc { s with heap := h₁, toks := tk } ρ σ₁ Q X (H.step S1 Sm1) (by simpa using hq)) (fun _ _ x => x.up S1) fun _ _ x => x.up S1
  | false => rw [if_neg (by decide)]; exact ⟨h₁, tk, σ₁, rfl, S1, Sm1, by simpa using hq⟩
theorem soundB_or {x : Expr} {rest : List Expr} {pos : Pos} {b c : TB} (hb : SoundB g n q sc x b) (hc : SoundB g n q sc (.BoolOp .Or rest pos) c) : SoundB g n q sc (.BoolOp .Or (x :: rest) pos) (tOr b c) := by
  intro A fr env C hsc s ρ σ Q X H ht
  refine isTrue_or (bindB (hb A fr env C hsc s ρ σ _ X H ht) fun r h₁ tk σ₁ S1 Sm1 hq => ?_)
  cases r with
  | false =>
    rw [if_neg (by decide)]
    exact wpAny_mono (hc A fr env C hsc { s with heap := h₁, toks := tk } ρ σ₁ Q X (H.step S1 Sm1) (by simpa using hq)) (fun _ _ x => x.up S1) fun _ _ x => x.up S1
  | true => rw [if_pos rfl]; exact ⟨h₁, tk, σ₁, rfl, S1, Sm1, by simpa using hq⟩
/-- a plain expression as a condition -/
theorem soundB_plain {e : Expr} {t : TE} (he : SoundE g n q sc e t) (hp : ∀ (env : Env) (whole : Sem Value), isTrue e env whole = (do let v ← whole; standAt e.pos; holding [v] (truthy v))) : SoundB g n q sc e (tTest t) := by
  intro A fr env C hsc s ρ σ Q X H ht
  refine isTrue_plain (bindE (he A fr env C hsc s ρ σ _ X H ht) fun u h₁ tk a σ₁ S1 Sm1 ra hq => ?_) (hp env _)
  cases a with
  | bool b => obtain rfl := inv_bool ra; exact wpAny_truthy_bool ⟨h₁, tk, σ₁, rfl, S1, Sm1, hq⟩
  | _ => exact hq.elim

theorem sound_cmp {l r : Expr} {op : CmpOp} {pos : Pos} {tl tr : TE} (hl : SoundE g n q sc l tl) (hr : SoundE g n q sc r tr) (hm : behindInMarks op r = false) : SoundE g n q sc (.Compare l [op] [r] pos) (tCmp op tl tr) := by
  intro A fr env C hsc s ρ σ Q X H ht
  refine wpAny_Compare1 (bindE (hl A fr env C hsc s ρ σ _ X H ht) fun u h₁ tk a σ₁ S1 Sm1 ra hq => ?_) hm
  have H1 := H.step S1 Sm1
  refine wpAny_mono (bindE (hr A fr env C hsc { s with heap := h₁, toks := tk } ρ σ₁ _ X H1 hq) fun v h₂ tk₂ b σ₂ S2 Sm2 rb hq => ?_) (fun _ _ x => x) fun _ _ x => x.up S1
  exact cmp_any (s := { s with heap := h₂, toks := tk₂ }) C.room Sm2 (S2.rep H1.hp ra) rb hq fun c hc => ⟨h₂, tk₂, .bool c, σ₂, rfl, S1.trans S2, Sm2, .bool c, hc⟩
theorem soundB_cmp {l r : Expr} {op : CmpOp} {pos : Pos} {tl tr : TE} (hl : SoundE g n q sc l tl) (hr : SoundE g n q sc r tr) (hm : behindInMarks op r = false) : SoundB g n q sc (.Compare l [op] [r] pos) (tCmpB op tl tr) := by
  intro A fr env C hsc s ρ σ Q X H ht
  refine wpAny_isTrue_Compare1 (bindE (hl A fr env C hsc s ρ σ _ X H ht) fun u h₁ tk a σ₁ S1 Sm1 ra hq => ?_) hm
  have H1 := H.step S1 Sm1
  refine wpAny_mono (bindE (hr A fr env C hsc { s with heap := h₁, toks := tk } ρ σ₁ _ X H1 hq) fun v h₂ tk₂ b σ₂ S2 Sm2 rb hq => ?_) (fun _ _ x => x) fun _ _ x => x.up S1
  exact cmp_any (s := { s with heap := h₂, toks := tk₂ }) C.room Sm2 (S2.rep H1.hp ra) rb hq fun c hc => wpAny_truthy_bool ⟨h₂, tk₂, σ₂, rfl, S1.trans S2, Sm2, hc⟩
theorem soundB_chain {l m r : Expr} {op op' : CmpOp} {pos : Pos} {tl tm tr : TE} (hl : SoundE g n q sc l tl) (hm' : SoundE g n q sc m tm) (hr : SoundE g n q sc r tr) (hm : lastMarks [op, op'] [m, r] = false) : SoundB g n q sc (.Compare l [op, op'] [m, r] pos) (tChainB op op' tl tm tr) := by
  intro A fr env C hsc s ρ σ Q X H ht
  refine isTrue_chain (bindE (hl A fr env C hsc s ρ σ _ X H ht) fun u h₁ tk a σ₁ S1 Sm1 ra hq => ?_) hm
  have H1 := H.step S1 Sm1
  refine wpAny_mono (test_link (bindE (hm' A fr env C hsc { s with heap := h₁, toks := tk } ρ σ₁ _ X H1 hq) fun v h₂ tk₂ b σ₂ S2 Sm2 rb hq => ?_)) (fun _ _ x => x) fun _ _ x => x.up S1
  have H2 := H1.step S2 Sm2
  refine cmp_any (s := { s with heap := h₂, toks := tk₂ }) C.room Sm2 (S2.rep H1.hp ra) rb hq fun c hc => wpAny_truthy_bool ?_
  cases c with
  | false => rw [if_neg (by decide)]; exact ⟨h₂, tk₂, σ₂, rfl, S1.trans S2, Sm2, by simpa using hc⟩
  | true =>
    rw [if_pos rfl]
    refine wpAny_mono (test_last (bindE (hr A fr env C hsc { s with heap := h₂, toks := tk₂ } ρ σ₂ _ X H2 (by simpa using hc)) fun v h₃ tk₃ d σ₃ S3 Sm3 rd hq => ?_)) (fun _ _ x => x) fun _ _ x => x.up S2
    exact cmp_any (s := { s with heap := h₃, toks := tk₃ }) C.room Sm3 (S3.rep H2.hp rb) rd hq fun c hc => wpAny_truthy_bool ⟨h₃, tk₃, σ₃, rfl, (S1.trans S2).trans S3, Sm3, hc⟩

/-! and, or, not as values (of bools) -/
noncomputable def tAndE (a b : TE) : TE := fun ρ σ Q X => a ρ σ (fun p σ' => match p with
  | .bool true => b ρ σ' Q X
  | .bool false => Q (.bool false) σ'
  | _ => False) X
noncomputable def tNotE (a : TE) : TE := fun ρ σ Q X => a ρ σ (fun p σ' => match p with
  | .bool b => Q (.bool (!b)) σ'
  | _ => False) X
theorem sound_one {e : Expr} {op : BoolOp} {pos : Pos} {t : TE} (he : SoundE g n q sc e t) : SoundE g n q sc (.BoolOp op [e] pos) t := by
  intro A fr env C hsc s ρ σ Q X H ht
  exact BoolOp_one (he A fr env C hsc s ρ σ Q X H ht)
theorem sound_and {e₁ e₂ : Expr} {rest : List Expr} {pos : Pos} {a b : TE} (h1 : SoundE g n q sc e₁ a) (h2 : SoundE g n q sc (.BoolOp .And (e₂ :: rest) pos) b) : SoundE g n q sc (.BoolOp .And (e₁ :: e₂ :: rest) pos) (tAndE a b) := by
  intro A fr env C hsc s ρ σ Q X H ht
  refine BoolOp_and (bindE (h1 A fr env C hsc s ρ σ _ X H ht) fun u h₁ tk a σ₁ S1 Sm1 ra hq => ?_)
  cases a with
  | bool b =>
    obtain rfl := inv_bool ra
    refine wpAny_truthy_bool ?_
    cases b with
    | true => rw [if_pos rfl]; exact wpAny_mono (h2 A fr env C hsc { s with heap := h₁, toks := tk } ρ σ₁ Q X (H.step S1 Sm1) hq) (fun _ _ x => x.up S1) fun _ _ x => x.up S1
    | false => rw [if_neg (by decide)]; exact ⟨h₁, tk, .bool false, σ₁, rfl, S1, Sm1, .bool _, hq⟩
  | _ => exact hq.elim
theorem sound_not {x : Expr} {pos : Pos} {t : TE} (hx : SoundE g n q sc x t) : SoundE g n q sc (.UnaryOp .Not x pos) (tNotE t) := by
  intro A fr env C hsc s ρ σ Q X H ht
  refine UnaryOp_ (bindE (hx A fr env C hsc s ρ σ _ X H ht) fun u h₁ tk a σ₁ S1 Sm1 ra hq => ?_)
  cases a with
  | bool b => obtain rfl := inv_bool ra; exact not_of (wpAny_truthy_bool ⟨h₁, tk, .bool (!b), σ₁, rfl, S1, Sm1, .bool _, hq⟩)
  | _ => exact hq.elim

/-! items -/
noncomputable def getP (σ : Sto) (a i : PV) (k : PV → Prop) : Prop := ∃ j, i = .int j ∧ -(2 ^ 62) < j ∧ j < 2 ^ 62 ∧ ∃ xs, itemsOf σ a = some xs ∧ NR a ∧ ((0 ≤ j ∧ ∃ x, xs[j.toNat]? = some x ∧ k x) ∨ (j < 0 ∧ 0 ≤ j + xs.length ∧ ∃ x, xs[(j + xs.length).toNat]? = some x ∧ k x))
noncomputable def tItem (a i : TE) : TE := fun ρ σ Q X => a ρ σ (fun p σ₁ => i ρ σ₁ (fun j σ₂ => getP σ₂ p j fun x => Q x σ₂) X) X

theorem item_any {A : Around} {s : Shared} {σ : Sto} {fr : List Env} {value slice : Expr} {u v : Value} {a i : PV} {k : PV → Prop} {Q : Value → Shared → Prop} {E : Value → Shared → Prop} (H : Hp g.base fr σ s.heap) (ra : Rep g.base s.heap u a) (ri : Rep g.base s.heap v i) (hk : getP σ a i k)
    (hQ : ∀ w x, Rep g.base s.heap w x → k x → Q w s) (hs : ∀ l j t, subscripted slice false (.ref l) (.int j t) = operate [.ref l, .int j t] (getItem (.ref l) (.int j t))) : wpAny g.M A (subscriptTail value slice u v) Q E s := by
  obtain ⟨j, rfl, hj0, hj1, xs, hxs, hnr, hk⟩ := hk
  obtain ⟨t, rfl⟩ := inv_int ri
  obtain ⟨l, rfl, vs, hl, rs⟩ := seq_of H ra hxs hnr
  have hlen := rs.length
  have at' : ∀ {m : Nat} {x : PV}, xs[m]? = some x → ∃ w, vs[m]? = some w ∧ Rep g.base s.heap w x ∧ m < vs.length := fun {m x} hx => by
    obtain ⟨w, hw, r⟩ := rs.get hx
    exact ⟨w, hw, r, (List.getElem?_eq_some_iff.mp hw).1⟩
  rcases hl with hl | hl
  · refine tail_any hl.typeIs slot_list_getitem.lookup ?_ (hs _ _ _)
    rcases hk with ⟨h0, x, hx, hk⟩ | ⟨h0, h1, x, hx, hk⟩
    · obtain ⟨w, hw, rw', _⟩ := at' hx
      exact wpAny_getItem_list hl h0 (by omega) (by simpa using hw) (hQ w x rw' hk)
    · obtain ⟨w, hw, rw', _⟩ := at' hx
      exact wpAny_getItem_list_neg hl h0 (by simp; omega) (by omega) (by simpa [hlen] using hw) (hQ w x rw' hk)
  · rcases hk with ⟨h0, x, hx, hk⟩ | ⟨h0, h1, x, hx, hk⟩
    · obtain ⟨w, hw, rw', hlt⟩ := at' hx
      refine item_tupleT (j := j.toNat) hl (by omega) (by omega) ?_ hw (hQ w x rw' hk) (hs _ _ _)
      unfold seqIndex?
      simp only
      rw [if_neg (show ¬ j < 0 by omega), if_pos (by rw [Bool.and_eq_true]; exact ⟨decide_eq_true h0, decide_eq_true (by omega)⟩)]
    · obtain ⟨w, hw, rw', hlt⟩ := at' hx
      refine item_tupleT (j := (j + xs.length).toNat) hl (by omega) (by omega) ?_ hw (hQ w x rw' hk) (hs _ _ _)
      unfold seqIndex?
      simp only
      rw [if_pos h0, hlen, if_pos (by rw [Bool.and_eq_true]; exact ⟨decide_eq_true h1, decide_eq_true (by omega)⟩)]
theorem sound_item {value slice : Expr} {pos : Pos} {a i : TE} (ha : SoundE g n q sc value a) (hi : SoundE g n q sc slice i) (hs : ∀ l j t, subscripted slice false (.ref l) (.int j t) = operate [.ref l, .int j t] (getItem (.ref l) (.int j t))) : SoundE g n q sc (.Subscript value slice pos) (tItem a i) := by
  intro A fr env C hsc s ρ σ Q X H ht
  refine Subscript_ (bindE (ha A fr env C hsc s ρ σ _ X H ht) fun u h₁ tk a σ₁ S1 Sm1 ra hq => ?_)
  have H1 := H.step S1 Sm1
  refine wpAny_mono (bindE (hi A fr env C hsc { s with heap := h₁, toks := tk } ρ σ₁ _ X H1 hq) fun v h₂ tk₂ b σ₂ S2 Sm2 rb hq => ?_) (fun _ _ x => x) fun _ _ x => x.up S1
  exact item_any (s := { s with heap := h₂, toks := tk₂ }) (H1.hp.step S2 Sm2) (S2.rep H1.hp ra) rb hq (fun w x rw' hk => ⟨h₂, tk₂, x, σ₂, rfl, S1.trans S2, Sm2, rw', hk⟩) hs
end
end Mine

set_option autoImplicit false
set_option linter.unusedVariables false
namespace Mine
open PySem PyProof.Rows PySem.Calls

theorem turnList {base h h' : Heap} {fr : List Env} {own : Addr → Prop} {σ : Sto} {a : Addr} {xs xs' : List PV} {vs' : List Value} (H : Hp base fr σ h) (e : σ a = some (.list xs)) (hs : Heap.SameBut a h h') (hl : h'.PlainList a vs'.toArray) (r : Reps base h vs' xs') :
    Step fr own σ h (upd σ a (.list xs')) h' ∧ Sim base h' (upd σ a (.list xs')) := by
  have firm : ∀ b o, h.get? b = some o → Firm o → h'.get? b = some o := fun b o eb f => (hs.2 b (by rintro rfl; rw [(H.firm eb f).2] at e; cases e)).trans eb
  refine ⟨⟨fun b o eb _ _ n => (hs.2 b (by rintro rfl; rw [n] at e; cases e)).trans eb, fun b o eb m _ => ⟨o.slots, (hs.2 b (by rintro rfl; exact (H.fresh b (by rw [e]; simp)).2 m)).trans eb⟩, fun b o eb _ => ?_, fun c n _ _ => ?_, fun c n => ?_⟩, fun c ao ec => ?_⟩
  · by_cases q : b = a
    · subst q; obtain ⟨m, h1⟩ := hl; exact ⟨_, h1⟩
    · exact ⟨o, (hs.2 b q).trans eb⟩
  · unfold upd; rw [if_neg (by rintro rfl; rw [n] at e; cases e)]; exact n
  · unfold upd
    split
    · simp
    · exact n
  · unfold upd at ec
    split at ec
    · rename_i q; subst q; cases ec; exact ⟨vs', hl, r.mono firm⟩
    · rename_i q
      have := H.sim c ao ec
      cases ao with
      | list ys => obtain ⟨vs, ⟨m, h1⟩, r⟩ := this; exact ⟨vs, ⟨m, (hs.2 c q).trans h1⟩, r.mono firm⟩
      | raw o => exact ⟨(hs.2 c q).trans this.1, this.2⟩

section
variable {g : Gx} {n : Nat} {q : Bool} {sc : Scope}

/-! calls by a global name -/
noncomputable def tCall (ts : TEs) (T : TF) : TE := fun ρ σ Q X => ts ρ σ (fun ps σ₁ => T ps σ₁ Q X) X

/-- what a global name holds -/
noncomputable def GlobAt (g : Gx) (x : Str) (v : Value) : Prop := g.mg x = some v ∨ (g.mg x = none ∧ g.mb x = some v)
theorem name_glob {A : Around} {fr : List Env} {env : Env} {s : Shared} {ρ : Env'} {σ : Sto} {x : Str} {pos : Pos} {v : Value} {Q : Value → Shared → Prop} {E : Value → Shared → Prop} (C : Cx g n q A fr env) (H : St g fr env ρ σ s.heap) (hx : env.scope.names.lookup x = some .globalImplicit) (hd : (x == ("__debug__" : Str)) = false)
    (hg : GlobAt g x v) (hQ : Q v s) : wpAny g.M A (eval (.Name x pos) env) Q E s := by
  refine Name_function_global C.kind hx ?_ hd
  rcases hg with h1 | ⟨h1, h2⟩
  · exact loadGlobal_global (by rw [C.globals]; exact g.hg.keeps H.hp.stays) h1 hQ
  · exact loadGlobal_builtin (by rw [C.globals]; exact g.hg.keeps H.hp.stays) h1 (by rw [C.builtins]; exact g.hb.keeps H.hp.stays) h2 hQ

theorem sound_call {m : Nat} {x : Str} {np pos : Pos} {es : List Expr} {ts : TEs} {f : Addr} {o : Obj} {fd : FuncData} {T : TF} (hx : sc.names.lookup x = some .globalImplicit) (hd : (x == ("__debug__" : Str)) = false) (hg : GlobAt g x (.ref f)) (ho : g.base.get? f = some o) (hf : o.data = .func fd)
    (hes : SoundEs g n q sc es ts) (hT : SoundF g m q f T) (hm : m ≤ n) : SoundE g n q sc (.Call (.Name x np) es [] pos) (tCall ts T) := by
  intro A fr env C hsc s ρ σ Q X H ht
  refine wpAny_Call_ofName (name_glob C H (by rw [hsc]; exact hx) hd hg ?_)
  refine callWith_function (o := o) (fd := fd) (wpAny_mono (evalArgs_es hes C hsc H ht) (fun a s' hp => ?_) fun _ _ x => x)
  obtain ⟨hkw, h₁, tk, ps, σ₁, rfl, S1, Sm1, rs, hq⟩ := hp
  obtain ⟨apos, akw⟩ := a
  obtain rfl : akw = [] := hkw
  have H1 := H.step S1 Sm1
  refine ⟨⟨H1.hp.stays _ _ ho, hf⟩, ?_⟩
  exact wpAny_mono (hT A fr { s with heap := h₁, toks := tk } apos ps σ₁ Q X C.frames (C.room.le hm) C.quiet H1.hp rs hq) (fun _ _ x => x.up S1) fun _ _ x => x.up S1

/-- a built-in function, or a class, told by what it does to its arguments -/
noncomputable def SoundBI (g : Gx) (n : Nat) (q : Bool) (f : Value) (T : TF) : Prop :=
  ∀ (A : Around) (fr : List Env) (s : Shared) (vals : List Value) (ps : List PV) (σ : Sto) (Q : PV → Sto → Prop) (X : Addr → Sto → Prop), A.frames = some fr → Room n A → (q = true → A.handled = none) →
    Hp g.base fr σ s.heap → Reps g.base s.heap vals ps → T ps σ Q X → wpAny g.M A (call f vals) (PostE g fr σ s Q) (PostX g fr σ s X) s
theorem sound_callB {x : Str} {np pos : Pos} {es : List Expr} {ts : TEs} {id : String} {T : TF} (hx : sc.names.lookup x = some .globalImplicit) (hd : (x == ("__debug__" : Str)) = false) (hg : GlobAt g x (.builtin id))
    (hes : SoundEs g n q sc es ts) (hT : SoundBI g n q (.builtin id) T) : SoundE g n q sc (.Call (.Name x np) es [] pos) (tCall ts T) := by
  intro A fr env C hsc s ρ σ Q X H ht
  refine wpAny_Call_ofName (name_glob C H (by rw [hsc]; exact hx) hd hg ?_)
  refine callWith_builtin (hes.1 env pos) (wpAny_mono (evalArgs_es hes C hsc H ht) (fun a s' hp => ?_) fun _ _ x => x)
  obtain ⟨hkw, h₁, tk, ps, σ₁, rfl, S1, Sm1, rs, hq⟩ := hp
  obtain ⟨apos, akw⟩ := a
  obtain rfl : akw = [] := hkw
  have H1 := H.step S1 Sm1
  exact wpAny_mono (hT A fr { s with heap := h₁, toks := tk } apos ps σ₁ Q X C.frames C.room C.quiet H1.hp rs hq) (fun _ _ x => x.up S1) fun _ _ x => x.up S1
theorem sound_callT {x : Str} {np pos : Pos} {es : List Expr} {ts : TEs} {id : String} {T : TF} (hx : sc.names.lookup x = some .globalImplicit) (hd : (x == ("__debug__" : Str)) = false) (hg : GlobAt g x (.type id))
    (hes : SoundEs g n q sc es ts) (hT : SoundBI g n q (.type id) T) : SoundE g n q sc (.Call (.Name x np) es [] pos) (tCall ts T) := by
  intro A fr env C hsc s ρ σ Q X H ht
  refine wpAny_Call_ofName (name_glob C H (by rw [hsc]; exact hx) hd hg ?_)
  refine PyProof.Rows.callWith_type (hes.1 env pos) (wpAny_mono (evalArgs_es hes C hsc H ht) (fun a s' hp => ?_) fun _ _ x => x)
  obtain ⟨hkw, h₁, tk, ps, σ₁, rfl, S1, Sm1, rs, hq⟩ := hp
  obtain ⟨apos, akw⟩ := a
  obtain rfl : akw = [] := hkw
  have H1 := H.step S1 Sm1
  exact wpAny_mono (hT A fr { s with heap := h₁, toks := tk } apos ps σ₁ Q X C.frames C.room C.quiet H1.hp rs hq) (fun _ _ x => x.up S1) fun _ _ x => x.up S1

/-! len, range, list, tuple, int -/
noncomputable def lenF : TF := fun ps σ Q _ => ∃ p xs, ps = [p] ∧ NR p ∧ itemsOf σ p = some xs ∧ xs.length < 2 ^ 62 ∧ Q (.int xs.length) σ
theorem bi_len : SoundBI g n q (.builtin "len") lenF := by
  intro A fr s vals ps σ Q X hfr hroom hq H R ht
  obtain ⟨p, xs, rfl, hnr, hxs, hlt, hQ⟩ := ht
  obtain ⟨v, rfl, r⟩ := reps_one R
  obtain ⟨l, rfl, vs, hl, rs⟩ := seq_of H r hxs hnr
  have hlen := rs.length
  have fin : ∀ {tk tk' : Nat}, PostE g fr σ s Q (.int (vs.toArray.size : Nat) tk) { s with toks := tk' } := fun {tk tk'} => ⟨s.heap, tk', _, σ, rfl, Step.refl, H.sim, .int _ _, by rw [List.size_toArray, hlen]; exact hQ⟩
  rcases hl with hl | hl
  · exact len_list hl (by rw [List.size_toArray]; omega) fin
  · exact len_tuple hl (by rw [List.size_toArray]; omega) fin

noncomputable def rangeF : TF := fun ps σ Q _ => ∃ n, ps = [.int n] ∧ Q (.rng 0 n) σ
theorem bi_range : SoundBI g n q (.type "range") rangeF := by
  intro A fr s vals ps σ Q X hfr hroom hq H R ht
  obtain ⟨m, rfl, ht⟩ := ht
  obtain ⟨v, rfl, r⟩ := reps_one R
  obtain ⟨t, rfl⟩ := inv_int r
  have kp : ∀ b o, s.heap.get? b = some o → (s.heap.push { cls := .type "range", data := .fields #[.int 0 s.toks, .int m t, .int 1 (s.toks + 1)] }).get? b = some o := fun b o e => Heap.get?_push_of_some _ e
  exact call_range_1 ⟨_, _, _, σ, rfl, Step.keeps kp, H.sim.keeps kp, .rng ⟨_, _, _, Heap.get?_push_size _ rfl⟩, ht⟩

noncomputable def listF : TF := fun ps σ Q _ => (∃ a xs, ps = [.ref a] ∧ σ a = some (.list xs) ∧ xs.length ≤ 1000000 ∧ ∀ c, σ c = none → Q (.ref c) (upd σ c (.list xs))) ∨
  ∃ lo hi, ps = [.rng lo hi] ∧ iterOk (.rng lo hi) ∧ hi - lo ≤ 1000000 ∧ ∀ c, σ c = none → Q (.ref c) (upd σ c (.list ((List.range (hi - lo).toNat).map fun k => .int (lo + (k : Nat)))))
theorem itemsOf_reps {base h : Heap} {lo : Int} : ∀ {vs : List Value} {k : Nat}, (∀ (i : Nat) v, vs[i]? = some v → ∃ t, v = .int (lo + ((k + i : Nat) : Int)) t) → Reps base h vs ((List.range' k vs.length).map fun j => .int (lo + (j : Nat)))
  | [], k, _ => by simpa using Reps.nil
  | v :: vs, k, hv => by
    rw [List.length_cons, List.range'_succ, List.map_cons]
    refine .cons ?_ (itemsOf_reps fun i w hw => ?_)
    · obtain ⟨t, rfl⟩ := hv 0 v rfl
      exact .int _ _
    · obtain ⟨t, ht⟩ := hv (i + 1) w (by simpa using hw)
      exact ⟨t, by rw [ht]; congr 2; omega⟩
theorem bi_list (hqt : q = true) : SoundBI g n q (.type "list") listF := by
  intro A fr s vals ps σ Q X hfr hroom hq H R ht
  rcases ht with ⟨a, xs, rfl, e, hle, hQ⟩ | ⟨lo, hi, rfl, ⟨o1, o2, o3, o4⟩, hle, hQ⟩
  · obtain ⟨v, rfl, r⟩ := reps_one R
    obtain rfl := inv_ref r
    obtain ⟨vs, ⟨m, hl⟩, rs⟩ := H.sim _ _ e
    refine call_list_seq _ (.inl rfl) hl rfl rfl (fun h' c' hk hD => ?_) (by rw [List.size_toArray, rs.length]; exact big_ok hle)
    obtain ⟨z1, z2, z3⟩ := addList (fr := fr) (own := nobody) H.sim hk (fresh_size (Nat.le_refl _)) ⟨_, hD⟩ (rs.keeps hk)
    exact ⟨h', s.toks, _, _, rfl, z2, z3, .ref _, hQ _ z1⟩
  · obtain ⟨v, rfl, r⟩ := reps_one R
    obtain ⟨a, rfl, t1, t2, t3, hr⟩ := inv_rng r
    have e : Builtin.Range.rangeSize lo hi 1 = ((hi - lo).toNat : Int) := by
      have := rangeSize_one (a := lo) (b := hi)
      rw [this]; split <;> omega
    refine call_list_range (hq hqt) hr (small_one o1 o2 o3 o4) e (by omega) fun h' tk acc c' hk hD hacc => ?_
    have hr : Reps g.base h' acc.toList ((List.range (hi - lo).toNat).map fun k => .int (lo + (k : Nat))) := by
      have hlen : acc.toList.length = (hi - lo).toNat := by simpa using hacc.1
      have := itemsOf_reps (base := g.base) (h := h') (lo := lo) (vs := acc.toList) (k := 0) fun i v hv => by
        obtain ⟨t, ht⟩ := hacc.2 i v (by simpa using hv)
        exact ⟨t, by rw [ht]; simp⟩
      rw [hlen, ← List.range_eq_range'] at this
      exact this
    obtain ⟨z1, z2, z3⟩ := addList (fr := fr) (own := nobody) (vs := acc.toList) H.sim hk (fresh_size (Nat.le_refl _)) ⟨_, by simpa using hD⟩ hr
    exact ⟨h', tk, _, _, rfl, z2, z3, .ref _, hQ _ z1⟩

noncomputable def tupleF : TF := fun ps σ Q _ => ∃ a xs, ps = [.ref a] ∧ σ a = some (.list xs) ∧ xs.length ≤ 1000000 ∧ Q (.tup xs) σ
theorem bi_tuple : SoundBI g n q (.type "tuple") tupleF := by
  intro A fr s vals ps σ Q X hfr hroom hq H R ht
  obtain ⟨a, xs, rfl, e, hle, hQ⟩ := ht
  obtain ⟨v, rfl, r⟩ := reps_one R
  obtain rfl := inv_ref r
  obtain ⟨vs, hl, rs⟩ := H.sim _ _ e
  refine call_tuple_list hl.isList (fun h' hk => ?_) (by rw [List.size_toArray, rs.length]; exact big_ok hle)
  have kp : ∀ b o, s.heap.get? b = some o → (h'.push { cls := .type "tuple", data := .seq vs.toArray }).get? b = some o := fun b o e => Heap.get?_push_of_some _ (hk _ _ e)
  exact ⟨_, s.toks, _, σ, rfl, Step.keeps kp, H.sim.keeps kp, .tup (Heap.get?_push_size _ rfl) rfl rfl (rs.keeps kp), hQ⟩

end
end Mine

set_option autoImplicit false
set_option linter.unusedVariables false
namespace Mine
open PySem PyProof.Rows PySem.Calls

section
variable {g : Gx} {n : Nat} {q : Bool} {sc : Scope}

theorem sound_expr {e : Expr} {pos : Pos} {t : TE} (he : SoundE g n q sc e t) (hs : ∀ env : Env, env.scope = sc → swapsWith e none pos.line env = pure false) : SoundS g n q sc (.Expr e pos) (tExpr t) := by
  intro A outer env C hsc hf s ρ σ Q X H ht
  refine wpAny_Expr_any (stmtE H hf (he A _ env C hsc s ρ σ _ _ H ht) fun v h₁ tk p σ₁ S1 H1 r hq => ?_) ?_ (hs env hsc)
  · exact ⟨h₁, tk, .next, ρ, σ₁, rfl, noOwn S1, H1, .next, hq⟩
  · unfold interactive; rw [C.kind]; rfl

/-! a store at a list's place -/
noncomputable def setP (σ : Sto) (a i v : PV) (k : Sto → Prop) : Prop := ∃ l j xs, a = .ref l ∧ i = .int j ∧ 0 ≤ j ∧ σ l = some (.list xs) ∧ j < xs.length ∧ xs.length ≤ 1000000 ∧ k (upd σ l (.list (xs.set j.toNat v)))
noncomputable def tStore (o i v : TE) : TS := fun ρ σ Q X => v ρ σ (fun p σ₁ => o ρ σ₁ (fun a σ₂ => i ρ σ₂ (fun j σ₃ => setP σ₃ a j p fun σ₄ => Q .next ρ σ₄) (fun c σ' => X c ρ σ')) (fun c σ' => X c ρ σ')) (fun c σ' => X c ρ σ')

theorem mapSeq_plain (its : Array Value) (m : Nat) (f : Array Value → Array Value) : ∃ m', Obj.mapSeq f { cls := .type "list", data := .seq its m } = { cls := .type "list", data := .seq (f its) m' } := ⟨_, rfl⟩
theorem plain_update {h : Heap} {l : Addr} {its : Array Value} (hl : h.PlainList l its) (f : Array Value → Array Value) : (h.update l (Obj.mapSeq f)).PlainList l (f its) := by
  obtain ⟨m, ho⟩ := hl
  obtain ⟨m', e⟩ := mapSeq_plain its m f
  exact ⟨m', by rw [Heap.get?_update_self _ ho (by rw [e]; rfl), e]⟩

theorem setItem_plain {A : Around} {s : Shared} {E : Value → Shared → Prop} {l : Addr} {items : Array Value} {k : Int} {t : Tok} {v : Value} {Q : Unit → Shared → Prop} (hl : s.heap.PlainList l items)
    (h0 : 0 ≤ k) (hfit : k < 2 ^ 63) (hn : k < items.size)
    (hQ : ∀ h', h'.PlainList l (items.setIfInBounds k.toNat v) → Heap.SameBut l s.heap h' → Q () { s with heap := h' }) :
    wpAny g.M A (setItem (.ref l) (.int k t) v) Q E s := by
  obtain ⟨o, ho, hc, ne, hd⟩ := hl.isList
  unfold setItem
  try with_reducible refine wpAny_holding ?_
  first | refine wpAny_bind (wpAny_pure ?_) | skip
  refine wpAny_bind (wpAny_sequenceKey hl.isList.typeIs (by decide) ?_)
  refine wpAny_bind (wpAny_callSpecial?_slot (name := Str.ofString "__setitem__") hl.isList.typeIs slot_list_setitem
    (wpAny_call_entry slot_list_setitem hl.isList.typeIs entry_list_setitem ?_ (args_list_setitem _ _ _)))
  show wpAny _ _ (Builtin.List.listSubscript? (.int k t) >>= _) _ _ s
  refine wpAny_bind (wpAny_listSubscript_int (fitsIndex_of h0 hfit) ?_)
  clear hfit
  obtain ⟨j, rfl⟩ := Int.eq_ofNat_of_zero_le h0
  have hj : j < items.size := by omega
  have hx' : items[j]? = some items[j] := Array.getElem?_eq_getElem hj
  show wpAny _ _ ((seqItemAt l j >>= fun r => pure (r.map (j, ·))) >>= _) _ _ s
  refine wpAny_bind (wpAny_bind (wpAny_seqItemAt ho hd (wpAny_pure ?_)))
  rw [hx']
  show wpAny _ _ (setSeqItemAt l j v >>= _) _ _ s
  have hfin := plain_update hl (·.setIfInBounds j v)
  refine wpAny_bind (wpAny_setSeqItemAt ho hd ?_)
  first
    | exact wpAny_bind (wpAny_pure (wpAny_pure ⟨.none, rfl, wpAny_pure (hQ _ hfin (Heap.SameBut.update ..))⟩))
    | exact wpAny_pure ⟨.none, rfl, wpAny_pure (hQ _ hfin (Heap.SameBut.update ..))⟩

theorem sound_store {o i e : Expr} {pos' pos : Pos} {to ti te : TE} (he : SoundE g n q sc e te) (ho : SoundE g n q sc o to) (hi : SoundE g n q sc i ti) (hs : ∀ env : Env, env.scope = sc → swapsWith e (some (.Subscript o i pos')) pos.line env = pure false) :
    SoundS g n q sc (.Assign [.Subscript o i pos'] e pos) (tStore to ti te) := by
  intro A outer env C hsc hf s ρ σ Q X H ht
  refine wpAny_Assign_Subscript (stmtE H hf (he A _ env C hsc s ρ σ _ _ H ht) fun v h₁ tk p σ₁ S1 H1 r hq => ?_) (hs env hsc)
  refine wpAny_mono (stmtE (s := { s with heap := h₁, toks := tk }) H1 hf (ho A _ env C hsc { s with heap := h₁, toks := tk } ρ σ₁ _ _ H1 hq) fun ov h₂ tk₂ a σ₂ S2 H2 ra hq => ?_) (fun _ _ x => x) fun _ _ x => x.up (noOwn S1)
  refine wpAny_mono (stmtE (s := { s with heap := h₂, toks := tk₂ }) H2 hf (hi A _ env C hsc { s with heap := h₂, toks := tk₂ } ρ σ₂ _ _ H2 hq) fun iv h₃ tk₃ j σ₃ S3 H3 rj hq => ?_) (fun _ _ x => x) fun _ _ x => x.up (noOwn (S1.trans S2))
  have r3 := S3.rep H2.hp (S2.rep H1.hp r)
  have ra := S3.rep H2.hp ra
  obtain ⟨l, k, xs, rfl, rfl, h0, e, hlt, hle, hq⟩ := hq
  obtain rfl := inv_ref ra
  obtain ⟨t, rfl⟩ := inv_int rj
  obtain ⟨vs, hl, rs⟩ := H3.hp.sim _ _ e
  have hlen := rs.length
  refine setItem_plain (s := { s with heap := h₃, toks := tk₃ }) hl h0 (by omega) (by rw [List.size_toArray]; omega) fun h' hl' hs' => ?_
  have hl'' : h'.PlainList l (vs.set k.toNat v).toArray := by simpa using hl'
  obtain ⟨z1, z2⟩ := turnList (own := nobody) H3.hp e hs' hl'' (rs.set k.toNat r3)
  exact ⟨h', tk₃, .next, ρ, _, rfl, noOwn (((S1.trans S2).trans S3).trans z1), H3.step z1 z2, .next, hq⟩

/-! methods of a list -/
noncomputable def appendF (a : Addr) : TF := fun ps σ Q _ => ∃ v xs, ps = [v] ∧ σ a = some (.list xs) ∧ xs.length ≤ 1000000 ∧ Q .none (upd σ a (.list (xs ++ [v])))
noncomputable def insertF (a : Addr) : TF := fun ps σ Q _ => ∃ i v xs, ps = [.int i, v] ∧ 0 ≤ i ∧ i < 2 ^ 62 ∧ σ a = some (.list xs) ∧ xs.length ≤ 1000000 ∧ Q .none (upd σ a (.list (xs.take i.toNat ++ v :: xs.drop i.toNat)))
noncomputable def tMeth (T : Addr → TF) (o : TE) (ts : TEs) : TE := fun ρ σ Q X => o ρ σ (fun p σ₁ => match p with
  | .ref a => (∃ xs, σ₁ a = some (.list xs)) ∧ ts ρ σ₁ (fun ps σ₂ => T a ps σ₂ Q X) X
  | _ => False) X

noncomputable def SoundMe (g : Gx) (n : Nat) (q : Bool) (id : String) (T : Addr → TF) : Prop :=
  ∀ (A : Around) (fr : List Env) (s : Shared) (a : Addr) (vals : List Value) (ps : List PV) (σ : Sto) (Q : PV → Sto → Prop) (X : Addr → Sto → Prop), A.frames = some fr → Room n A → (q = true → A.handled = none) →
    Hp g.base fr σ s.heap → Reps g.base s.heap vals ps → T a ps σ Q X → wpAny g.M A (call (.builtin id) (.ref a :: vals)) (PostE g fr σ s Q) (PostX g fr σ s X) s

theorem me_append : SoundMe g n q "list.append" appendF := by
  intro A fr s a vals ps σ Q X hfr hroom hq H R ht
  obtain ⟨v, xs, rfl, e, hle, hQ⟩ := ht
  obtain ⟨vv, rfl, r⟩ := reps_one R
  obtain ⟨vs, hl, rs⟩ := H.sim _ _ e
  refine wpAny_list_append_plain hl (fun h' hl' hs' => ?_) (by rw [List.size_toArray, rs.length]; exact big_ok hle)
  have hl'' : h'.PlainList a (vs ++ [vv]).toArray := by simpa using hl'
  obtain ⟨z1, z2⟩ := turnList (own := nobody) H e hs' hl'' (rs.append (.cons r .nil))
  exact ⟨h', s.toks, _, _, rfl, z1, z2, .none, hQ⟩
theorem fitsIdx {i : Int} (h0 : 0 ≤ i) (h1 : i < 2 ^ 62) : ¬ (!Builtin.List.listFitsIndex i) = true := by
  unfold Builtin.List.listFitsIndex
  simp; omega
theorem me_insert : SoundMe g n q "list.insert" insertF := by
  intro A fr s a vals ps σ Q X hfr hroom hq H R ht
  · obtain ⟨i, v, xs, rfl, h0, h1, e, hle, hQ⟩ := ht
    obtain ⟨iv, vv, rfl, ri, rv⟩ := reps_two R
    obtain ⟨t, rfl⟩ := inv_int ri
    obtain ⟨vs, ⟨m, hl⟩, rs⟩ := H.sim _ _ e
    have hsz : vs.toArray.size ≤ sizeLine := by rw [List.size_toArray, rs.length]; exact big_ok hle
    refine call_meets PySem.F.slot_list_insert ⟨_, hl, rfl⟩ PySem.F.entry_list_insert (PySem.F.args_list_insert_3 _ _ _) (AutoListH.list_insert_list_int_val_1 a vs.toArray m i t _ (fitsIdx h0 h1) hsz) ⟨hl, ?_⟩
    have hpl := plain_update (l := a) ⟨m, hl⟩ (fun xs : Array Value => have k := if i < 0 then (i + ((xs.size : Nat) : Int)).toNat else min i.toNat xs.size; (xs.extract 0 k).push vv ++ xs.extract k)
    have e2 : ((fun xs : Array Value => have k := if i < 0 then (i + ((xs.size : Nat) : Int)).toNat else min i.toNat xs.size; (xs.extract 0 k).push vv ++ xs.extract k) vs.toArray) = (vs.take i.toNat ++ vv :: vs.drop i.toNat).toArray := by
      have hneg : ¬ i < 0 := by omega
      simp only [if_neg hneg, List.size_toArray]
      apply Array.ext'
      by_cases hc : i.toNat ≤ vs.length
      · rw [Nat.min_eq_left hc]; simp [List.take_of_length_le]
      · have hc' : vs.length ≤ i.toNat := by omega
        rw [Nat.min_eq_right hc']
        simp [List.take_of_length_le hc', List.drop_of_length_le hc']
    have hpl' : (s.heap.update a (Obj.mapSeq (fun xs : Array Value => have k := if i < 0 then (i + ((xs.size : Nat) : Int)).toNat else min i.toNat xs.size; (xs.extract 0 k).push vv ++ xs.extract k))).PlainList a (vs.take i.toNat ++ vv :: vs.drop i.toNat).toArray := by
      rw [← e2]; exact hpl
    obtain ⟨z1, z2⟩ := turnList (own := nobody) H e (Heap.SameBut.update ..) hpl' ((rs.take i.toNat).append (.cons rv (rs.drop i.toNat)))
    exact ⟨_, s.toks, _, _, rfl, z1, z2, .none, hQ⟩
theorem sound_meth {o : Expr} {name : Str} {apos pos : Pos} {es : List Expr} {id : String} {T : Addr → TF} {to : TE} {ts : TEs} (ho : SoundE g n q sc o to) (hes : SoundEs g n q sc es ts) (hT : SoundMe g n q id T)
    (hbase : ∀ env : Env, env.scope = sc → attributeBase o name env (eval o env) = eval o env)
    (hlen : es.length < 29) (hline : (apos.endLine == pos.line) = true) (slot : Slot "list" name id) (hty : typeOf (.builtin id) = pure (.type "method_descriptor")) :
    SoundE g n q sc (.Call (.Attribute o name apos) es [] pos) (tMeth T to ts) := by
  intro A fr env C hsc s ρ σ Q X H ht
  refine wpAny_Call_method (T := "list") (id := id) (hbase env hsc) ?_ hline PySem.F.plainAttrs_list slot hty (bindE (ho A fr env C hsc s ρ σ _ X H ht) fun u h₁ tk a σ₁ S1 Sm1 ra hq => ?_)
  · have h1 := hes.1 env pos
    have h2 : (backTo pos (starEach es env)).all (fun x => !x.1) = true := by
      rw [List.all_eq_true]
      intro x hx
      rw [List.any_eq_false] at h1
      simpa using h1 x hx
    have h3 : (backToKw pos (keywordEach [] env)).all (fun x => x.1.isSome) = true := rfl
    rw [h2, h3]
    simp only [Bool.and_self, Bool.true_and, List.length_nil, List.isEmpty_nil, if_true, decide_eq_true_eq]
    omega
  have H1 := H.step S1 Sm1
  cases a with
  | ref l =>
    obtain rfl := inv_ref ra
    obtain ⟨⟨xs, e⟩, hq⟩ := hq
    obtain ⟨vs, ⟨m, hl⟩, rs⟩ := Sm1 _ _ e
    refine ⟨⟨_, hl, rfl⟩, fun b hb => ?_, ?_⟩
    · cases hb; exact ⟨_, hl, rfl⟩
    · refine wpAny_mono (callWith_builtin (hes.1 env pos) (wpAny_mono (evalArgs_es (s := { s with heap := h₁, toks := tk }) hes C hsc H1 hq) (fun a s' hp => ?_) fun _ _ x => x)) (fun _ _ x => x) fun _ _ x => x.up S1
      obtain ⟨hkw, h₂, tk₂, ps, σ₂, rfl, S2, Sm2, rs, hq⟩ := hp
      obtain ⟨apos, akw⟩ := a
      obtain rfl : akw = [] := hkw
      have H2 := H1.step S2 Sm2
      exact wpAny_mono (hT A fr { s with heap := h₂, toks := tk₂ } l apos ps σ₂ Q X C.frames C.room C.quiet H2.hp rs hq) (fun _ _ x => x.up (S1.trans S2)) fun _ _ x => PostX.up (s := { s with heap := h₁, toks := tk }) S2 x
  | _ => exact hq.elim
end
end Mine

set_option autoImplicit false
set_option linter.unusedVariables false
namespace Mine
open PySem PyProof.Rows PySem.Calls

/-! an address that no one else knows -/
structure Priv (g : Gx) (fr : List Env) (env : Env) (σ : Sto) (h : Heap) (a : Addr) : Prop where
  nb : g.base.get? a = none
  nf : a ∉ frs fr
  ns : σ a = none
  nl : a ≠ env.locals
  no : ∃ o, h.get? a = some o ∧ ¬ Firm o ∧ ∀ ov, o.data ≠ .cell ov

theorem Priv.firm {g : Gx} {fr : List Env} {env : Env} {σ : Sto} {h : Heap} {a : Addr} (P : Priv g fr env σ h a) {o : Obj} (e : h.get? a = some o) : ¬ Firm o ∧ ∀ ov, o.data ≠ .cell ov := by
  obtain ⟨o', h1, h2⟩ := P.no
  rw [e] at h1; cases h1; exact h2
theorem Priv.up {g : Gx} {fr : List Env} {env env' : Env} {σ σ' : Sto} {h h' : Heap} {a : Addr} (P : Priv g fr env σ h a) (x : Step fr nobody σ h σ' h') : Priv g fr env σ' h' a := by
  obtain ⟨o, h1, h2⟩ := P.no
  exact ⟨P.nb, P.nf, x.new a P.ns id (by rw [h1]; simp), P.nl, o, x.other a o h1 P.nf id P.ns, h2⟩
theorem Priv.at {g : Gx} {fr : List Env} {env : Env} {σ σ' : Sto} {h h' : Heap} {a : Addr} (P : Priv g fr env σ h a) (x : Step fr nobody σ h σ' h') {o : Obj} (e : h.get? a = some o) : h'.get? a = some o := x.other a o e P.nf id P.ns
theorem Priv.but {g : Gx} {fr : List Env} {env : Env} {σ : Sto} {h h' : Heap} {a b : Addr} (P : Priv g fr env σ h a) (k : Heap.ExtBut b h h') (n : a ≠ b) : Priv g fr env σ h' a := by
  obtain ⟨o, h1, h2⟩ := P.no
  exact ⟨P.nb, P.nf, P.ns, P.nl, o, k a o n h1, h2⟩

theorem St.but {g : Gx} {fr : List Env} {env : Env} {ρ : Env'} {σ : Sto} {h h' : Heap} {a : Addr} (H : St g fr env ρ σ h) (P : Priv g fr env σ h a) (k : Heap.ExtBut a h h') : St g fr env ρ σ h' := by
  have firm : ∀ b o, h.get? b = some o → Firm o → h'.get? b = some o := fun b o e f => k b o (by rintro rfl; exact (P.firm e).1 f) e
  obtain ⟨hp, ⟨⟨m, hn, hm⟩, hc⟩, nl⟩ := H
  refine ⟨⟨fun b o e => k b o (by rintro rfl; rw [P.nb] at e; cases e) (hp.stays b o e), funFrames_step hp.frames fun b o e d m => ⟨o, k b o (by rintro rfl; exact P.nf m) e, d⟩, fun c ao e => ?_, hp.fresh, fun b m => ?_⟩, ⟨⟨m, Ns.up hn fun o e => ⟨o.slots, k _ o (Ne.symm P.nl) e⟩, fun y p e1 e2 => ?_⟩, fun y e1 => ?_⟩, nl⟩
  · have hca : c ≠ a := by rintro rfl; rw [P.ns] at e; cases e
    have := hp.sim c ao e
    cases ao with
    | list xs => obtain ⟨vs, ⟨n, h1⟩, r⟩ := this; exact ⟨vs, ⟨n, k c _ hca h1⟩, r.mono firm⟩
    | raw o => exact ⟨k c o hca this.1, this.2⟩
  · obtain ⟨o', es, n, h1, h2⟩ := hp.dicts b m
    exact ⟨o', es, n, k b o' (by rintro rfl; exact P.nf m) h1, h2⟩
  · obtain ⟨v, h1, h2⟩ := hm y p e1 e2
    exact ⟨v, h1, h2.mono firm⟩
  · obtain ⟨c, ov, h1, ⟨o, h2, h3⟩, h4⟩ := hc y e1
    refine ⟨c, ov, h1, ⟨o, k c o ?_ h2, h3⟩, fun p e2 => ?_⟩
    · rintro rfl
      exact (P.firm h2).2 ov h3
    · obtain ⟨v, h5, h6⟩ := h4 p e2
      exact ⟨v, h5, h6.mono firm⟩

/-! the cells that a comprehension takes along -/
noncomputable def clOf (env : Env) : List (Str × NameKind) → List (Str × Addr) → List (Str × Addr)
  | [], acc => acc
  | (y, k) :: r, acc => clOf env r (if k == .free then match env.cells.lookup y with | some c => (y, c) :: acc | none => acc else acc)

theorem closure_go (env : Env) (f : Str × NameKind → List (Str × Addr) → Sem (ForInStep (List (Str × Addr)))) (hf : ∀ y k r, f (y, k) r = if (k == NameKind.free) = true then (do let c ← cellOf env y; pure (ForInStep.yield ((y, c) :: r))) else pure (ForInStep.yield r)) :
    ∀ (names : List (Str × NameKind)) (acc : List (Str × Addr)), (∀ y ∈ names, y.2 = .free → (env.cells.lookup y.1).isSome = true) → forIn (m := Sem) names acc f = pure (clOf env names acc)
  | [], acc, _ => rfl
  | (y, k) :: r, acc, h => by
    have ih := closure_go env f hf r
    rw [List.forIn_cons, hf]
    by_cases hk : (k == NameKind.free) = true
    · obtain ⟨c, hc⟩ := Option.isSome_iff_exists.mp (h (y, k) (.head _) (by simpa using hk))
      have hc' : env.cells.lookup y = some c := hc
      have e : cellOf env y = pure c := by unfold cellOf; rw [hc']
      rw [if_pos hk, e, pure_bind, pure_bind]
      show forIn r ((y, c) :: acc) f = _
      rw [ih _ fun z hz => h z (.tail _ hz)]
      simp [clOf, hk, hc']
    · rw [if_neg hk, pure_bind]
      show forIn r acc f = _
      rw [ih _ fun z hz => h z (.tail _ hz)]
      simp [clOf, hk]

theorem closureFor_cl {env : Env} {scope : Scope} (h : ∀ y ∈ scope.names, y.2 = .free → (env.cells.lookup y.1).isSome = true) : closureFor scope env = pure (clOf env scope.names []) := by
  unfold closureFor
  dsimp only
  rw [closure_go env _ (fun y k r => by rfl) scope.names [] h]
  rfl

theorem clOf_from (env : Env) : ∀ (names : List (Str × NameKind)) (acc : List (Str × Addr)), (∀ y c, (y, c) ∈ acc → env.cells.lookup y = some c) → ∀ y c, (y, c) ∈ clOf env names acc → env.cells.lookup y = some c
  | [], acc, h => h
  | (z, k) :: r, acc, h => by
    refine clOf_from env r _ ?_
    split
    · split
      · rename_i c hc
        intro y c' hm
        rcases List.mem_cons.mp hm with e | hm
        · cases e; exact hc
        · exact h y c' hm
      · exact h
    · exact h
theorem clOf_acc (env : Env) : ∀ (names : List (Str × NameKind)) (acc : List (Str × Addr)) (x), x ∈ acc → x ∈ clOf env names acc
  | [], acc, x, h => h
  | (z, k) :: r, acc, x, h => by
    refine clOf_acc env r _ x ?_
    split
    · split
      · exact .tail _ h
      · exact h
    · exact h
theorem clOf_has (env : Env) : ∀ (names : List (Str × NameKind)) (acc : List (Str × Addr)) (y : Str) (c : Addr), (y, NameKind.free) ∈ names → env.cells.lookup y = some c → (y, c) ∈ clOf env names acc
  | [], acc, y, c, h, _ => by simp at h
  | (z, k) :: r, acc, y, c, h, hc => by
    rcases List.mem_cons.mp h with e | h
    · cases e
      refine clOf_acc env r _ _ ?_
      simp [hc]
    · exact clOf_has env r _ y c h hc
theorem lookup_of_mem {l : List (Str × Addr)} {y : Str} {c : Addr} (h : (y, c) ∈ l) : ∃ c', l.lookup y = some c' := by
  induction l with
  | nil => simp at h
  | cons z l ih =>
    obtain ⟨z1, z2⟩ := z
    rw [List.lookup_cons]
    by_cases e : (y == z1) = true
    · rw [e]; exact ⟨z2, rfl⟩
    · have e' : (y == z1) = false := by simpa using e
      rw [e']
      rcases List.mem_cons.mp h with q | h
      · cases q; simp at e
      · exact ih h

theorem relabel_cell {env : Env} : ∀ {names : List (Str × NameKind)} {x : Str}, (∀ y ∈ names, y.2 ≠ .cell) →
    (names.map fun (n, k) => if (k == NameKind.free && env.scope.kind == .function && env.kindOf n == some .cell) then (n, NameKind.cell) else (n, k)).lookup x = some .cell → (x, NameKind.free) ∈ names ∧ env.kindOf x = some .cell
  | [], _, _, h => by simp at h
  | (n, k) :: r, x, hn, h => by
    have ih := @relabel_cell env r x fun y hy => hn y (.tail _ hy)
    simp only [List.map_cons] at h
    by_cases hc : (k == NameKind.free && env.scope.kind == .function && env.kindOf n == some .cell) = true
    · rw [if_pos hc] at h
      simp only [List.lookup_cons] at h
      by_cases e : (x == n) = true
      · simp at e
        subst e
        simp at hc
        refine ⟨?_, hc.2⟩
        rw [hc.1.1]; exact .head _
      · have e' : (x == n) = false := by simpa using e
        rw [e'] at h
        exact ⟨.tail _ (ih h).1, (ih h).2⟩
    · rw [if_neg hc] at h
      simp only [List.lookup_cons] at h
      by_cases e : (x == n) = true
      · rw [e] at h
        simp at h
        exact absurd h (hn (n, k) (.head _))
      · have e' : (x == n) = false := by simpa using e
        rw [e'] at h
        exact ⟨.tail _ (ih h).1, (ih h).2⟩

noncomputable def compR (cs : List Str) (ρ : Env') (x : Str) (p : PV) : Env' := fun y => if y = x then some p else if y ∈ cs then ρ y else none

noncomputable abbrev nope : Addr → Sto → Prop := fun _ _ => False
noncomputable def compL (x : Str) (cs : List Str) (tt : TB) (te : TE) (ok : Sto → Prop) (ρ : Env') : List PV → List PV → Sto → (List PV → Sto → Prop) → Prop
  | [], ys, σ, Q => Q ys σ
  | p :: ps, ys, σ, Q => tt (compR cs ρ x p) σ (fun b σ₁ => if b = true then te (compR cs ρ x p) σ₁ (fun y σ₂ => ok σ₂ ∧ compL x cs tt te ok ρ ps (ys ++ [y]) σ₂ Q) nope else ok σ₁ ∧ compL x cs tt te ok ρ ps ys σ₁ Q) nope
noncomputable def tComp (x : Str) (cs : List Str) (ti : TE) (tt : TB) (te : TE) : TE := fun ρ σ Q X => ti ρ σ (fun p σ₁ => ∃ xs, itemsOf σ₁ p = some xs ∧ iterOk p ∧ xs.length ≤ sizeLine ∧
  compL x cs tt te (fun σ' => itemsOf σ' p = some xs) ρ xs [] σ₁ (fun ys σ₂ => ∀ a, σ₂ a = none → Q (.ref a) (upd σ₂ a (.list ys)))) X

noncomputable def SoundIfs (g : Gx) (n : Nat) (sc : Scope) (ifs : List Expr) (t : TB) : Prop :=
  ∀ (A : Around) (fr : List Env) (env : Env), Cx g n true A fr env → env.scope = sc → ∀ (s : Shared) (ρ : Env') (σ : Sto) (Q : Bool → Sto → Prop) (X : Addr → Sto → Prop),
    St g fr env ρ σ s.heap → t ρ σ Q X → wpAny g.M A (forIn ifs true fun c r => if r = true then do let ok ← isTrue c env (eval c env); pure (ForInStep.yield ok) else pure (ForInStep.yield r)) (PostB g fr σ s Q) (PostX g fr σ s X) s
theorem ifs_nil {g : Gx} {n : Nat} {sc : Scope} : SoundIfs g n sc [] tTrue := fun A fr env C hsc s ρ σ Q X H ht =>
  wpAny_tests_nil ⟨s.heap, s.toks, σ, rfl, Step.refl, H.hp.sim, ht⟩
theorem PostX.no {g : Gx} {fr : List Env} {σ : Sto} {s s' : Shared} {v : Value} {P : Prop} (p : PostX g fr σ s nope v s') : P := by
  obtain ⟨_, _, _, _, _, _, _, _, _, f⟩ := p
  exact f.elim
end Mine

set_option autoImplicit false
set_option linter.unusedVariables false
namespace Mine
open PySem PyProof.Rows PySem.Calls

section
variable {g : Gx} {n : Nat} {sc sc' : Scope}

/-- what a comprehension's scope must be like -/
structure CompOk (sc sc' scope : Scope) (x : Str) (cs : List Str) : Prop where
  rel : ∀ env : Env, env.scope = sc → relabel scope env = sc'
  kind : scope.kind = .function
  nocell : ∀ y ∈ scope.names, y.2 ≠ .cell
  free : ∀ y ∈ scope.names, y.2 = .free → sc.names.lookup y.1 = some .cell
  names : ∀ y ∈ scope.names, y.2 = .local → scope.names.lookup y.1 = some .local
  hx : scope.names.lookup x = some .local
  cs : ∀ y ∈ cs, sc'.names.lookup y ≠ some .local

theorem comp_inner {scope : Scope} {x : Str} {cs : List Str} {A : Around} {fr : List Env} {env : Env} {ρ : Env'} {σ : Sto} {h : Heap} {D : Addr} {m : Str → Option Value} {v : Value} {p : PV} (K : CompOk sc sc' scope x cs) (C : Cx g n true A fr env) (hsc : env.scope = sc) (H : St g fr env ρ σ h)
    (hD : Priv g fr env σ h D) (hn : h.Ns D m) (hm : m x = some v) (r : Rep g.base h v p) :
    Cx g n true A fr (compEnvC scope (clOf env scope.names []) D env) ∧ (compEnvC scope (clOf env scope.names []) D env).scope = sc' ∧ St g fr (compEnvC scope (clOf env scope.names []) D env) (compR cs ρ x p) σ h := by
  have e1 : (compEnvC scope (clOf env scope.names []) D env).scope = sc' := K.rel env hsc
  have from' : ∀ y c, (clOf env scope.names []).lookup y = some c → env.cells.lookup y = some c := fun y c e => clOf_from env scope.names [] (fun _ _ z => by simp at z) y c (mem_of_lookup e)
  refine ⟨⟨C.frames, C.room, C.quiet, K.kind, C.globals, C.builtins, fun y z c h1 h2 => C.inj y z c (from' _ _ h1) (from' _ _ h2), hD.nb, fun y c h1 => C.cbase y c (from' _ _ h1)⟩, e1, H.hp, ⟨⟨m, hn, fun y p' h1 h2 => ?_⟩, fun y h1 => ?_⟩, hD.ns⟩
  · unfold compR at h1
    by_cases hy : y = x
    · subst hy
      rw [if_pos rfl] at h1; cases h1
      exact ⟨v, hm, r⟩
    · rw [if_neg hy] at h1
      by_cases hc : y ∈ cs
      · exact absurd (by rw [← e1]; exact h2) (K.cs y hc)
      · rw [if_neg hc] at h1; cases h1
  · obtain ⟨h2, h3⟩ := relabel_cell (env := env) (x := y) K.nocell h1
    obtain ⟨c, ov, h4, h5, h6⟩ := H.loc.cell y h3
    obtain ⟨c', h7⟩ := lookup_of_mem (clOf_has env scope.names [] y c h2 h4)
    have h8 := from' _ _ h7
    rw [h4] at h8; cases h8
    refine ⟨c, ov, h7, h5, fun p' h9 => h6 p' ?_⟩
    unfold compR at h9
    by_cases hy : y = x
    · subst hy
      have := lookup_relabel_local (env := env) K.hx
      unfold Env.kindOf compEnvC relabel at h1
      rw [this] at h1; cases h1
    · rw [if_neg hy] at h9
      by_cases hc : y ∈ cs
      · rw [if_pos hc] at h9; exact h9
      · rw [if_neg hc] at h9; cases h9

theorem iter_self {g : Gx} {A : Around} {E : Value → Shared → Prop} {s : Shared} {I : Addr} {p : PV} {k : Nat} {Q : Value → Shared → Prop} (i : IterAt g.base s.heap I p k) (h : Q (.ref I) s) : wpAny g.M A (pyIter (.ref I)) Q E s := by
  cases p with
  | ref a => exact wpAny_pyIter_listiter i h
  | lst a ns => exact wpAny_pyIter_listiter i h
  | tup xs => obtain ⟨t, vs, i, _⟩ := i; exact wpAny_pyIter_tupleiter i h
  | rng lo hi => exact wpAny_pyIter_rangeiter i h
  | _ => exact i.elim

inductive CompI (g : Gx) (fr : List Env) (env : Env) (ρ : Env') (σ : Sto) (s : Shared) (I D T : Addr) (p : PV) (xs : List PV) (x : Str) (cs : List Str) (tt : TB) (te : TE) (Qc : List PV → Sto → Prop) (m : Nat) (s' : Shared) : Prop
  | mk (kk : Nat) (h : Heap) (tk' : Nat) (σ' : Sto) (ys : List PV) (vs : List Value) (mm : Str → Option Value) : s' = { s with heap := h, toks := tk' } → m = xs.length + 1 - kk → kk ≤ xs.length → ys.length ≤ kk → Step fr nobody σ s.heap σ' h → St g fr env ρ σ' h → IterAt g.base h I p kk →
      itemsOf σ' p = some xs → Priv g fr env σ' h T → Priv g fr env σ' h D → Priv g fr env σ' h I → h.Ns T mm → h.PlainList D vs.toArray → Reps g.base h vs ys → compL x cs tt te (fun σ' => itemsOf σ' p = some xs) ρ (xs.drop kk) ys σ' Qc → CompI g fr env ρ σ s I D T p xs x cs tt te Qc m s'
set_option maxHeartbeats 1600000 in
theorem comp_core {scope : Scope} {x : Str} {px pos : Pos} {cs : List Str} {elt iter : Expr} {ifs : List Expr} {tt : TB} {te : TE} (K : CompOk sc sc' scope x cs) (hif : SoundIfs g n sc' ifs tt) (he : SoundE g n true sc' elt te)
    {A : Around} {fr : List Env} {env : Env} {ρ : Env'} {σ : Sto} {s : Shared} {xv : Value} {p : PV} {xs : List PV} {Qc : List PV → Sto → Prop} {E : Value → Shared → Prop} {RR : Value → Addr → Result → Shared → Prop} (C : Cx g n true A fr env) (hsc : env.scope = sc) (H : St g fr env ρ σ s.heap) (r : Rep g.base s.heap xv p) (hxs : itemsOf σ p = some xs) (hok : iterOk p) (hsz : xs.length ≤ sizeLine)
    (hL : compL x cs tt te (fun σ' => itemsOf σ' p = some xs) ρ xs [] σ Qc)
    (k : ∀ D T h' tk ys σ', s.heap.get? D = none → s.heap.get? T = none → D ≠ T → σ' D = none → Step fr nobody σ s.heap (upd σ' D (.list ys)) h' → St g fr env ρ (upd σ' D (.list ys)) h' → Priv g fr env (upd σ' D (.list ys)) h' T → (∃ m, h'.Ns T m) → Qc ys σ' → RR (.ref D) T (.ok .next) { s with heap := h', toks := tk }) :
    wpAny g.M A (pyIter xv) (fun it s₂ => wpAny g.M A (newList []) (fun acc s₃ => wpAny g.M A (newFunctionEnv scope env.globals (clOf env scope.names []) [] env.qual none .none (some env)) (fun cenv s₄ =>
      codeAny g.M A (.compStart (.ListComp elt [⟨.Name x px, iter, ifs, 0⟩] scope pos) 0 it acc { cenv with scope := relabel scope env }) (RR acc cenv.locals) s₄) E s₃) E s₂) E s := by
  refine iter_start (s := s) H.hp r hxs hok fun I h₂ hk2 hI i0 => ?_
  have hr : ∀ (h : Heap) a ns, p = .lst a ns → Rep g.base h (.ref a) p := fun h a ns e => by subst e; exact rep_lst r
  have hIlt : I < h₂.objs.size := by obtain ⟨o, h1, _⟩ := i0.obj; exact Heap.lt_size h1
  refine wpAny_newList ?_ (Nat.zero_le _)
  refine wpAny_newFunctionEnv K.nocell (by intro y hy; simp at hy) (fun h₃ hns₃ hsb₃ => ?_) K.kind
  dsimp only at hns₃ hsb₃ ⊢
  generalize hH2 : h₂.push { cls := .type "list", dict := none, data := .seq ([] : List Value).toArray } = H2 at hns₃ hsb₃ ⊢
  have hT : H2.objs.size = h₂.objs.size + 1 := by rw [← hH2, Heap.size_push]
  have hDT : h₂.objs.size ≠ H2.objs.size := by rw [hT]; exact Nat.ne_of_lt (Nat.lt_succ_self _)
  have up3 : ∀ b o, h₂.get? b = some o → h₃.get? b = some o := fun b o e => hsb₃.extBut b o (by have := Heap.lt_size e; intro z; rw [z, hT] at this; exact Nat.lt_irrefl _ (Nat.lt_of_succ_lt this)) (Heap.get?_push_of_some _ (hH2 ▸ Heap.get?_push_of_some _ e))
  have hacc : h₃.PlainList h₂.objs.size #[] := ⟨_, hsb₃.extBut _ _ hDT (Heap.get?_push_of_some _ (hH2 ▸ Heap.get?_push_size _ rfl))⟩
  have lts : ∀ b o, s.heap.get? b = some o → b < h₂.objs.size := fun b o e => Heap.lt_size (hk2 b o e)
  have up03 : ∀ b o, s.heap.get? b = some o → h₃.get? b = some o := fun b o e => up3 b o (hk2 b o e)
  have fr0 : ∀ a, h₂.objs.size ≤ a → s.heap.get? a = none := fun a ha => by
    cases e : s.heap.get? a with
    | none => rfl
    | some o => exact absurd (lts a o e) (Nat.not_lt.mpr ha)
  have hT' : s.heap.get? H2.objs.size = none := fr0 _ (by rw [hT]; exact Nat.le_succ _)
  have hD' : s.heap.get? h₂.objs.size = none := fr0 _ (Nat.le_refl _)
  have priv : ∀ a o, s.heap.get? a = none → h₃.get? a = some o → ¬ Firm o → (∀ ov, o.data ≠ .cell ov) → Priv g fr env σ h₃ a := fun a o e1 e2 e3 e4 => by
    refine ⟨?_, fun m => ?_, ?_, ?_, o, e2, e3, e4⟩
    · cases z : g.base.get? a with
      | none => rfl
      | some o' => rw [H.hp.stays a o' z] at e1; cases e1
    · obtain ⟨o', _, _, h1, _⟩ := H.hp.dicts a m
      rw [e1] at h1; cases h1
    · cases z : σ a with
      | none => rfl
      | some ao =>
        have := H.hp.sim a ao z
        cases ao with
        | list xs => obtain ⟨vs, ⟨m, h1⟩, _⟩ := this; rw [e1] at h1; cases h1
        | raw o' => rw [e1] at this; cases this.1
    · rintro rfl
      obtain ⟨m, ⟨o', _, _, h1, _⟩, _⟩ := H.loc.ns
      rw [e1] at h1; cases h1
  have PT : Priv g fr env σ h₃ H2.objs.size := by
    obtain ⟨o, es, ep, h1, h2, _⟩ := hns₃
    exact priv _ o hT' h1 (notFirm_dict h2) fun ov z => by rw [h2] at z; cases z
  have PD : Priv g fr env σ h₃ h₂.objs.size := by
    obtain ⟨m, h1⟩ := hacc
    refine priv _ _ hD' h1 ?_ fun ov z => by cases z
    rintro (⟨vs, q, _⟩ | ⟨q, _⟩)
    · cases q
    · injection q with q; exact absurd q (by decide)
  have PI : Priv g fr env σ h₃ I := by
    obtain ⟨o, h1, h2⟩ := i0.obj
    refine priv _ o hI (up3 _ _ h1) h2.notFirm fun ov z => ?_
    obtain ⟨⟨ws, q⟩, _⟩ := h2
    rw [q] at z; cases z
  have hID : I ≠ h₂.objs.size := Nat.ne_of_lt hIlt
  have hIT : I ≠ H2.objs.size := by rw [hT]; exact Nat.ne_of_lt (Nat.lt_succ_of_lt hIlt)
  generalize hDg : h₂.objs.size = D at *
  generalize hTg : H2.objs.size = T at *
  have i3 : IterAt g.base h₃ I p 0 := i0.keep (fun o e => up3 _ o e) fun b o e _ => up3 b o e
  have noted : ∀ {v : Value} {s₀ s' : Shared} {σ₀ : Sto} {F : Value → Shared → Prop}, PostX g fr σ₀ s₀ nope v s' → F v s' := fun p => p.no
  have loop : ∀ tk, codeAny g.M A (.compLoop (.ListComp elt [⟨.Name x px, iter, ifs, 0⟩] scope pos) 0 (.ref I) (.ref D) (compEnvC scope (clOf env scope.names []) T env)) (RR (.ref D) T) { s with heap := h₃, toks := tk } := by
    intro tk
    refine codeAny_compLoop_tests (CompI g fr env ρ σ s I D T p xs x cs tt te Qc) ?_ (xs.length + 1)
      ⟨0, h₃, tk, σ, [], [], _, rfl, rfl, Nat.zero_le _, Nat.le_refl _, Step.keeps up03, H.keeps up03, i3, hxs, PT, PD, PI, hns₃, hacc, .nil, by simpa using hL⟩
    rintro m s' ⟨kk, h, tk', σ', ys, vs, mm, rfl, rfl, hle, hys, S, H', i, hit, QT, QD, QI, hns, hpl, hrs, hL⟩
    by_cases hk : kk < xs.length
    · have hxk : xs[kk]? = some xs[kk] := List.getElem?_eq_getElem hk
      rw [List.drop_eq_getElem_cons hk] at hL
      refine iter_item (s := { s with heap := h, toks := tk' }) H'.hp (hr h) hit i hxk fun v' h₄ tk₄ hs₄ i₄ rv => ?_
      have H4 := H'.but QI hs₄.extBut
      have firm4 : ∀ b o, h.get? b = some o → Firm o → h₄.get? b = some o := fun b o e f => hs₄.extBut b o (by rintro rfl; exact (QI.firm e).1 f) e
      have QT4 := QT.but hs₄.extBut (Ne.symm hIT)
      have QD4 := QD.but hs₄.extBut (Ne.symm hID)
      have S4 := S.keepBut hI hs₄.extBut
      have ns4 := hns.sameBut hs₄ (Ne.symm hIT)
      have pl4 := hpl.extBut hs₄.extBut (Ne.symm hID)
      have QI4 : Priv g fr env σ' h₄ I := by
        obtain ⟨o, h1, h2⟩ := i₄.obj
        refine ⟨QI.nb, QI.nf, QI.ns, QI.nl, o, h1, h2.notFirm, fun ov z => ?_⟩
        obtain ⟨⟨ws, q⟩, _⟩ := h2
        rw [q] at z; cases z
      refine wpAny_assign_Name (wpAny_storeName_local (env := compEnvC scope (clOf env scope.names []) T env) (lookup_relabel_local K.hx) ns4 (fun h₅ hn₅ hs₅ => ?_) (by show (scope.kind == _ || (scope.kind == _ && _)) = false; rw [K.kind]; rfl))
      have H5 := H4.but QT4 hs₅.extBut
      have firm5 : ∀ b o, h₄.get? b = some o → Firm o → h₅.get? b = some o := fun b o e f => hs₅.extBut b o (by rintro rfl; exact (QT4.firm e).1 f) e
      have QT5 : Priv g fr env σ' h₅ T := by
        obtain ⟨o, es, ep, h1, h2, _⟩ := hn₅
        exact ⟨QT.nb, QT.nf, QT.ns, QT.nl, o, h1, notFirm_dict h2, fun ov z => by rw [h2] at z; cases z⟩
      have QD5 := QD4.but hs₅.extBut hDT
      have QI5 := QI4.but hs₅.extBut hIT
      have S5 := S4.keepBut hT' hs₅.extBut
      have pl5 := pl4.extBut hs₅.extBut hDT
      have i5 : IterAt g.base h₅ I p (kk + 1) := i₄.keep (fun o e => hs₅.extBut _ o hIT e) firm5
      have rs5 := (hrs.mono firm4).mono firm5
      obtain ⟨C5, hsc5, HC5⟩ := comp_inner K C hsc H5 QT5 hn₅ (by simp) ((rv.mono firm4).mono firm5)
      refine wpAny_mono (hif A fr _ C5 hsc5 { s with heap := h₅, toks := _ } _ σ' _ nope HC5 hL) (fun b s₆ hp => ?_) fun e s₆ hp => noted hp
      obtain ⟨h₆, tk₆, σ₆, rfl, S6, Sm6, hq⟩ := hp
      have S06 := S5.trans S6
      have H6 := H5.step S6 Sm6
      have QT6 := QT5.up (env' := env) S6
      have QD6 := QD5.up (env' := env) S6
      have QI6 := QI5.up (env' := env) S6
      have ns6 := Ns.up hn₅ fun o e => ⟨o.slots, QT5.at S6 e⟩
      have pl6 : h₆.PlainList D vs.toArray := by obtain ⟨mq, h1⟩ := pl5; exact ⟨mq, QD5.at S6 h1⟩
      have i6 : IterAt g.base h₆ I p (kk + 1) := i5.keep (fun o e => QI5.at S6 e) fun b o e f => S6.other b o e (H5.hp.firm e f).1 id (H5.hp.firm e f).2
      have rs6 := S6.reps H5.hp rs5
      cases b with
      | false =>
        rw [if_neg (by decide)] at hq ⊢
        exact ⟨xs.length + 1 - (kk + 1), by omega, ⟨kk + 1, h₆, tk₆, σ₆, ys, vs, _, rfl, rfl, hk, by omega, S06, H6, i6, hq.1, QT6, QD6, QI6, ns6, pl6, rs6, hq.2⟩⟩
      | true =>
        rw [if_pos rfl] at hq ⊢
        obtain ⟨C6, hsc6, HC6⟩ := comp_inner (x := x) K C hsc H6 QT6 ns6 (by simp) (S6.rep H5.hp ((rv.mono firm4).mono firm5))
        refine wpAny_mono (he A fr _ C6 hsc6 { s with heap := h₆, toks := tk₆ } _ σ₆ _ nope HC6 hq) (fun y s₇ hp => ?_) fun e s₇ hp => noted hp
        obtain ⟨h₇, tk₇, py, σ₇, rfl, S7, Sm7, ry, hq⟩ := hp
        have S07 := S06.trans S7
        have H7 := H6.step S7 Sm7
        have QT7 := QT6.up (env' := env) S7
        have QD7 := QD6.up (env' := env) S7
        have QI7 := QI6.up (env' := env) S7
        have ns7 := Ns.up ns6 fun o e => ⟨o.slots, QT6.at S7 e⟩
        have pl7 : h₇.PlainList D vs.toArray := by obtain ⟨mq, h1⟩ := pl6; exact ⟨mq, QD6.at S7 h1⟩
        have i7 : IterAt g.base h₇ I p (kk + 1) := i6.keep (fun o e => QI6.at S7 e) fun b o e f => S7.other b o e (H6.hp.firm e f).1 id (H6.hp.firm e f).2
        have rs7 := S7.reps H6.hp rs6
        refine wpAny_list_append_plain pl7 (fun h₈ pl₈ hs₈ => ?_) (by rw [List.size_toArray, hrs.length]; exact Nat.le_trans hys (Nat.le_trans hle hsz))
        have firm8 : ∀ b o, h₇.get? b = some o → Firm o → h₈.get? b = some o := fun b o e f => hs₈.extBut b o (by rintro rfl; exact (QD7.firm e).1 f) e
        have pl8 : h₈.PlainList D (vs ++ [y]).toArray := by simpa using pl₈
        have QD8 : Priv g fr env σ₇ h₈ D := by
          obtain ⟨mq, h1⟩ := pl8
          refine ⟨QD7.nb, QD7.nf, QD7.ns, QD7.nl, _, h1, ?_, fun ov z => by cases z⟩
          rintro (⟨vs, q, _⟩ | ⟨q, _⟩)
          · cases q
          · injection q with q; exact absurd q (by decide)
        exact ⟨xs.length + 1 - (kk + 1), by omega, ⟨kk + 1, h₈, tk₇, σ₇, ys ++ [py], vs ++ [y], _, rfl, rfl, hk, by simp; omega, S07.keepBut hD' hs₈.extBut, H7.but QD7 hs₈.extBut, i7.keep (fun o e => hs₈.extBut _ o hID e) firm8, hq.1,
          QT7.but hs₈.extBut (Ne.symm hDT), QD8, QI7.but hs₈.extBut hID, ns7.sameBut hs₈ (Ne.symm hDT), pl8, (rs7.append (.cons ry .nil)).mono firm8, hq.2⟩⟩
    · have hke : kk = xs.length := by omega
      subst hke
      rw [List.drop_length] at hL
      refine iter_end (s := { s with heap := h, toks := tk' }) (C.quiet rfl) H'.hp (hr h) hit i (List.getElem?_eq_none (Nat.le_refl _)) fun h₄ tk₄ hs₄ => ?_
      have H4 := H'.but QI hs₄
      have firm4 : ∀ b o, h.get? b = some o → Firm o → h₄.get? b = some o := fun b o e f => hs₄ b o (by rintro rfl; exact (QI.firm e).1 f) e
      have QT4 := QT.but hs₄ (Ne.symm hIT)
      have S4 := S.keepBut hI hs₄
      have pl4 := hpl.extBut hs₄ (Ne.symm hID)
      have rs4 := hrs.mono firm4
      have Sm4 : Sim g.base h₄ (upd σ' D (.list ys)) := fun a ao e => by
        unfold upd at e
        split at e
        · rename_i q; subst q; cases e; exact ⟨vs, pl4, rs4⟩
        · exact H4.hp.sim a ao e
      have SD : Step fr nobody σ s.heap (upd σ' D (.list ys)) h₄ := ⟨S4.other, S4.frame, S4.live, fun a e1 e2 e3 => by
          unfold upd
          rw [if_neg (by rintro rfl; exact e3 hD')]
          exact S4.new a e1 e2 e3, fun a e => by
          unfold upd
          split
          · simp
          · exact S4.dom a e⟩
      refine k D T h₄ tk₄ ys σ' hD' hT' hDT QD.ns SD (H.step SD Sm4) ⟨QT4.nb, QT4.nf, ?_, QT4.nl, QT4.no⟩ ⟨mm, ?_⟩ hL
      · unfold upd
        rw [if_neg (Ne.symm hDT)]; exact QT4.ns
      · obtain ⟨o, es, ep, h1, h2⟩ := hns
        exact ⟨o, es, ep, hs₄ _ o (Ne.symm hIT) h1, h2⟩
  exact codeAny_compStart_list (loop _) (iter_self (s := { s with heap := h₃, toks := _ }) i3 (loop _))
end
end Mine

set_option autoImplicit false
set_option linter.unusedVariables false
namespace Mine
open PySem PyProof.Rows PySem.Calls

section
variable {g : Gx} {n : Nat} {sc sc' : Scope}
theorem comp_cells {scope : Scope} {x : Str} {cs : List Str} {fr : List Env} {env : Env} {ρ : Env'} {σ : Sto} {h : Heap} (K : CompOk sc sc' scope x cs) (hsc : env.scope = sc) (H : St g fr env ρ σ h) : closureFor scope env = pure (clOf env scope.names []) :=
  closureFor_cl fun y hy hk => by
    have := K.free y hy hk
    rw [← hsc] at this
    obtain ⟨c, ov, h1, _⟩ := H.loc.cell y.1 this
    rw [h1]; rfl

theorem sound_setcomp {scope : Scope} {x y : Str} {px py pos spos : Pos} {cs : List Str} {elt iter : Expr} {ifs : List Expr} {ti : TE} {tt : TB} {te : TE} (K : CompOk sc sc' scope x cs) (hi : SoundE g n true sc iter ti) (hif : SoundIfs g n sc' ifs tt) (he : SoundE g n true sc' elt te)
    (hs : ∀ (env : Env) (v : Value), foldedSetIterable iter env v = pure v) (hy : sc.names.lookup y = some .local ∨ sc.names.lookup y = some .cell)
    (hsw : ∀ env : Env, env.scope = sc → swapsWith (.ListComp elt [⟨.Name x px, iter, ifs, 0⟩] scope pos) (some (.Name y py)) spos.line env = pure true) :
    SoundS g n true sc (.Assign [.Name y py] (.ListComp elt [⟨.Name x px, iter, ifs, 0⟩] scope pos) spos) (tSet y (tComp x cs ti tt te)) := by
  intro A outer env C hsc hf s ρ σ Q X H ht
  have hy' : env.kindOf y = some .local ∨ env.kindOf y = some .cell := by subst hsc; exact hy
  rw [exec_Assign_Name_used _ _ _ _ (hsw env hsc)]
  refine wpAny_bind (wpAny_standAt (wpAny_bind ?_))
  show wpAny _ A (do let _ ← comprehension (.ListComp elt [⟨.Name x px, iter, ifs, 0⟩] scope pos) scope env _ (newList []) false (eval iter env) (some (assign (.Name y py) env))) _ _ s
  refine wpAny_bind (wpAny_mono (wpAny_comprehension_free (use := some (assign (.Name y py) env)) (Q := fun _ s' => PostS g (env :: outer) env σ s Q .next s') rfl (hs env) (comp_cells K hsc H) K.kind K.names
    (stmtE H hf (hi A _ env C hsc s ρ σ _ _ H ht) fun xv h₁ tk p σ₁ S1 H1 r hq => ?_)) (fun _ s' hq => wpAny_pure (wpAny_pure hq)) fun _ _ e => e)
  obtain ⟨xs, hxs, hok, hsz, hL⟩ := hq
  refine comp_core (s := { s with heap := h₁, toks := tk }) (RR := fun acc T => compPost g.M A (PostXS g (env :: outer) env σ s X) (some (assign (.Name y py) env)) (fun _ s' => PostS g (env :: outer) env σ s Q .next s') acc T) K hif he C hsc H1 r hxs hok hsz hL ?_
  intro D T h' tk' ys σ' hD hT hDT hσ S2 H2 PT hm hQ
  obtain ⟨m, hn⟩ := hm
  show wpAny _ A (assign (.Name y py) env (.ref D)) _ _ _
  have hTk : ∀ h'', Step (env :: outer) (owned env) (upd σ' D (.list ys)) h' (upd σ' D (.list ys)) h'' → ∀ o, h'.get? T = some o → h''.get? T = some o := fun h'' x o e => by
    refine x.other T o e PT.nf (fun z => ?_) PT.ns
    rcases z with z | ⟨w, z1, z2⟩
    · exact PT.nl z
    · obtain ⟨c, ov, q1, ⟨o', q2, q3⟩, _⟩ := H2.loc.cell w z1
      rw [q1] at z2; cases z2
      exact (PT.firm q2).2 _ q3
  refine wpAny_assign_Name (store (s := { s with heap := h', toks := tk' }) C H2 hy' (.ref D) fun h₃ tk₃ S3 H3 => ?_)
  have hn3 : h₃.Ns T m := Ns.up hn fun o e => ⟨o.slots, hTk h₃ S3 o e⟩
  have PT3 : Priv g (env :: outer) env (upd σ' D (.list ys)) h₃ T := by
    obtain ⟨o, h1, h2⟩ := PT.no
    exact ⟨PT.nb, PT.nf, PT.ns, PT.nl, o, hTk h₃ S3 o h1, h2⟩
  refine ⟨m, hn3, fun h'' hs'' => ?_⟩
  exact ⟨h'', tk₃, .next, _, _, rfl, ((noOwn S1).trans ((noOwn S2).trans S3)).keepBut (by
    cases z : s.heap.get? T with
    | none => rfl
    | some o =>
      obtain ⟨o', h1⟩ := S1.live T o z id
      have hT' : h₁.get? T = none := hT
      rw [hT'] at h1; cases h1) hs''.extBut, H3.but PT3 hs''.extBut, .next, hQ D hσ⟩
end
end Mine

set_option autoImplicit false
set_option linter.unusedVariables false
namespace Mine
open PySem PyProof.Rows PySem.Calls PySem.W

theorem raised {g : Gx} {fr : List Env} {σ : Sto} {h h' : Heap} {x c : Addr} {vs : List Value} (H : Hp g.base fr σ h) (M : Heap.MadeExcOf h h' x (.ref c) vs) : ExcB g fr nobody σ h σ (hideAll h (frs fr)) h' x c := by
  have firm : ∀ b o, h.get? b = some o → Firm o → (hideAll h (frs fr)).get? b = some o := fun b o e f => hideAll_get _ e (H.firm e f).1
  refine ⟨fun b o e n1 _ _ => hideAll_get _ e n1, fun b o e n1 _ => ⟨o.slots, M.keeps b o e⟩, fun a ao e => ?_, fun a e _ _ => e, fun a e => e, fun b o e => hideAll_get _ (H.stays b o e) fun m => ?_, fun b m => hideAll_none _ m, fun b m => ?_, ?_⟩
  · have nf : a ∉ frs fr := (H.fresh a (by rw [e]; simp)).2
    have := H.sim a ao e
    cases ao with
    | list xs => obtain ⟨vs, ⟨n, h1⟩, r⟩ := this; exact ⟨vs, ⟨n, hideAll_get _ h1 nf⟩, r.mono firm⟩
    | raw o => exact ⟨hideAll_get _ this.1 nf, this.2⟩
  · rw [(H.frames.mem m).1] at e; cases e
  · obtain ⟨o, es, n, h1, h2⟩ := H.dicts b m
    exact ⟨o, es, n, M.keeps _ _ h1, h2⟩
  · refine ⟨fun b o e => M.keeps b o (of_hideAll _ e), ?_, ?_, .inl ?_⟩
    · refine funFrames_step (funFrames_hide H.frames fun env he a hf => List.mem_filterMap.mpr ⟨env, he, hf⟩) fun b o e d m => ⟨o, M.keeps b o e, d⟩
    · cases q : (hideAll h (frs fr)).get? x with
      | none => rfl
      | some o => have := of_hideAll _ q; rw [M.new] at this; cases this
    · obtain ⟨t, h1, _⟩ := M.there
      exact ⟨t, _, h1, rfl, rfl⟩

noncomputable def tRaise (c : Addr) (ts : TEs) : TS := fun ρ σ Q X => ts ρ σ (fun ps σ' => ps.length ≤ sizeLine ∧ X c ρ σ') (fun c' σ' => X c' ρ σ')

section
variable {g : Gx} {n : Nat} {sc : Scope}
theorem sound_raise {x : Str} {c : Addr} {B newId initId : String} {bm : List Value} {es : List Expr} {ts : TEs} {np cpos pos : Pos} (O : OwnCls x c bm newId g.mg g.base) (FB : ExcBaseFacts B newId initId bm) (hes : SoundEs g n true sc es ts)
    (hx : sc.names.lookup x = some .globalImplicit) (hd : (x == ("__debug__" : Str)) = false) : SoundS g n true sc (.Raise (some (.Call (.Name x np) es [] cpos)) none pos) (tRaise c ts) := by
  intro A outer env C hsc hf s ρ σ Q X H ht
  obtain ⟨tl, N, nm, q, bs, hdct, sn, sub, ab, col, dd, k0, k1, k2, k3, k5, mN, hC, hN, hni, T⟩ := O.obj
  refine wpAny_Raise_call_subT (C := c) (nm := nm) (q := q) (N := N) (bs := bs) (bm := tl) (hdct := hdct) (sn := sn) (sub := sub) (ab := ab) (col := col) (dd := dd) (k0 := k0) (k1 := k1) (k2 := k2) (k3 := k3) (k5 := k5)
    FB (mN := mN) (T.hasType FB.hasBase) (C.quiet rfl) (hes.1 env cpos) hni (name_glob C H (by rw [hsc]; exact hx) hd (.inl O.bound) ⟨rfl, ?_⟩)
  refine wpAny_mono (evalArgs_es (f := .ref c) hes C hsc H ht) (fun a s' hp => ?_) fun _ _ y => y.stmt H hf
  obtain ⟨hkw, h₁, tk, ps, σ₁, rfl, S1, Sm1, rs, hle, hq⟩ := hp
  have H1 := H.step S1 Sm1
  have st := H1.hp.stays
  refine ⟨hkw, by rw [rs.length]; exact hle, st _ _ hC, hN.keeps st, T.keeps st, fun h' e M => ?_⟩
  have R := raised H1.hp M
  have P : PostX g (env :: outer) σ₁ { s with heap := h₁, toks := tk } (fun c' σ' => X c' ρ σ') (.ref e) { s with heap := h', toks := tk } := ⟨h', tk, e, c, σ₁, _, rfl, rfl, R, hq⟩
  exact (P.stmt H1 hf).up (noOwn S1)
end
end Mine

set_option autoImplicit false
set_option linter.unusedVariables false
namespace Mine
open PySem PyProof.Rows PySem.Calls PySem.W

theorem Flown.obj {B : Heap} {fr : List Env} {x c : Addr} {h' : Heap} (H : Flown B fr x c h') : ∃ o vs, h'.get? x = some o ∧ o.cls = .ref c ∧ o.data = .fields vs := by
  obtain ⟨_, _, _, a0, oe, vs, T, oT, ts, h1, h2, h3, _⟩ := H
  exact ⟨oe, vs, h1, h2.1, h3⟩

/-- an exception that has landed: the frame goes on -/
theorem ExcB.land {g : Gx} {n : Nat} {q : Bool} {A : Around} {outer : List Env} {env : Env} {ρ ρ' : Env'} {σ σ' : Sto} {h B h' : Heap} {x c : Addr} (C : Cx g n q A (env :: outer) env) (hf : env.frame = some env.locals) (H : St g (env :: outer) env ρ σ h)
    (e : ExcB g (env :: outer) (owned env) σ h σ' B h' x c) (l : Loc g.base B h' env ρ') : Step (env :: outer) (owned env) σ h σ' h' ∧ St g (env :: outer) env ρ' σ' h' := by
  obtain ⟨st, ff, nx, _⟩ := e.fly
  have inB : ∀ a, σ' a ≠ none → ∃ o, B.get? a = some o := fun a hz => by
    cases z : σ' a with
    | none => exact absurd z hz
    | some ao =>
      have := e.sim a ao z
      cases ao with
      | list xs => obtain ⟨vs, ⟨m, h1⟩, _⟩ := this; exact ⟨_, h1⟩
      | raw o => exact ⟨o, this.1⟩
  have nf : ∀ a, σ' a ≠ none → a ∉ frs (env :: outer) := fun a hz m => by
    obtain ⟨o, h1⟩ := inB a hz
    rw [e.nofr a m] at h1; cases h1
  have hL : env.locals ∈ frs (env :: outer) := List.mem_filterMap.mpr ⟨env, .head _, hf⟩
  refine ⟨⟨fun b o e1 n1 n2 n3 => st b o (e.other b o e1 n1 n2 n3), e.frame, fun b o e1 n2 => ?_, e.new, e.dom⟩, ⟨⟨fun b o z => st b o (e.stays b o z), funFrames_base e.stays ff, e.sim.keeps st, fun a hz => ⟨?_, nf a hz⟩, e.dicts⟩, ⟨?_, fun y k => ?_⟩, ?_⟩⟩
  · by_cases m : b ∈ frs (env :: outer)
    · obtain ⟨sl, h1⟩ := e.frame b o e1 m n2; exact ⟨_, h1⟩
    · cases z : σ b with
      | none => exact ⟨o, st b o (e.other b o e1 m n2 z)⟩
      | some ao =>
        obtain ⟨o', h1⟩ := inB b (e.dom b (by rw [z]; simp))
        exact ⟨o', st b o' h1⟩
  · cases z : g.base.get? a with
    | none => rfl
    | some o =>
      exfalso
      refine hz (e.new a ?_ ?_ ?_)
      · cases w : σ a with
        | none => rfl
        | some ao => rw [(H.hp.fresh a (by rw [w]; simp)).1] at z; cases z
      · intro hm
        rcases hm with rfl | ⟨y, _, h1⟩
        · rw [C.nbase] at z; cases z
        · rw [C.cbase y a h1] at z; cases z
      · rw [H.hp.stays a o z]; simp
  · obtain ⟨m, h1, h2⟩ := l.ns
    exact ⟨m, h1, fun y p e1 e2 => let ⟨v, h3, h4⟩ := h2 y p e1 e2; ⟨v, h3, h4.keeps st⟩⟩
  · obtain ⟨c', ov, h1, ⟨o, h2, h3⟩, h4⟩ := l.cell y k
    exact ⟨c', ov, h1, ⟨o, st _ _ h2, h3⟩, fun p e1 => let ⟨v, h5, h6⟩ := h4 p e1; ⟨v, h5, h6.keeps st⟩⟩
  · cases z : σ' env.locals with
    | none => rfl
    | some ao => exact absurd hL (nf _ (by rw [z]; simp))

/-- the handler's name goes -/
noncomputable def unL (ρ : Env') (n : Str) : Env' := fun y => if y = n then none else ρ y
noncomputable def tTry (n : Str) (cls : List Addr) (tb th : TS) : TS := fun ρ σ Q X => tb ρ σ Q (fun c ρ' σ' => c ∈ cls ∧ ∀ a, σ' a = none → th (setL ρ' n (.exc a c)) σ' (fun fl ρ'' σ'' => Q fl (unL ρ'' n) σ'') (fun _ _ _ => False))

section
variable {g : Gx} {n : Nat} {sc : Scope}
theorem nameGoes {q : Bool} {A A' : Around} {fr : List Env} {env : Env} {s : Shared} {ρ : Env'} {σ : Sto} {x : Str} {pos : Pos} {E : Value → Shared → Prop} {Q : Unit → Shared → Prop} (C : Cx g n q A' fr env) (H : St g fr env ρ σ s.heap)
    (hx : env.kindOf x = some .local) (k : ∀ h' tk, Step fr (owned env) σ s.heap σ h' → St g fr env (unL ρ x) σ h' → Q () { s with heap := h', toks := tk }) : wpAny g.M A (do bindName env x .none; unbindBehindTheSuite env x pos) Q E s := by
  obtain ⟨hp, ⟨⟨m, hn, hm⟩, hc⟩, nl⟩ := H
  have hLd : ∀ o, s.heap.get? env.locals = some o → ¬ Firm o := fun o e => by
    obtain ⟨o', es, ep, ho, hd, _⟩ := hn
    rw [e] at ho; cases ho; exact notFirm_dict hd
  refine wpAny_nameGoes_keeps hx hn (by rw [C.kind]; rfl) fun h' v' hn' hs' => ?_
  have hsz : ∃ o', h'.get? env.locals = some o' ∧ ((∃ es n, o'.data = .dict es n) ∨ ((∃ ov, o'.data = .cell ov) ∧ env.locals ∉ frs fr)) := by
    obtain ⟨o', es, ep, ho, hd, _⟩ := hn'
    exact ⟨o', ho, .inl ⟨es, ep, hd⟩⟩
  obtain ⟨S1, H1, R1⟩ := turned (own := owned env) hp (.inl rfl) hs' hsz C.nbase nl hLd
  have un : ∀ y p', unL ρ x y = some p' → y ≠ x ∧ ρ y = some p' := fun y p' e => by
    unfold unL at e
    split at e
    · cases e
    · exact ⟨by assumption, e⟩
  refine k h' _ S1 ⟨H1, ⟨⟨_, hn', fun y p' e k' => ?_⟩, fun y k' => ?_⟩, nl⟩
  · obtain ⟨ne, e⟩ := un y p' e
    obtain ⟨v, h1, r⟩ := hm y p' e k'
    exact ⟨v, by rw [if_neg ne]; exact h1, R1 r⟩
  obtain ⟨c, ov, h1, h2, h3⟩ := hc y k'
  have hcl : c ≠ env.locals := by
    rintro rfl
    obtain ⟨o, ho, hd⟩ := h2
    obtain ⟨o', es, ep, ho', hd', _⟩ := hn
    rw [ho] at ho'; cases ho'; rw [hd] at hd'; cases hd'
  exact ⟨c, ov, h1, h2.sameBut hs' hcl, fun p' e => let ⟨v, h4, r⟩ := h3 p' (un y p' e).2; ⟨v, h4, R1 r⟩⟩

theorem sound_try {q : Bool} {body : List Stmt} {hb : List Stmt} {b₀ : Stmt} {cn nm : Str} {np hpos pos : Pos} {D : Addr} {cls : List Addr} {tb th : TS} (h1 : SoundSs g n q sc body tb) (h2 : SoundSs g n false sc (b₀ :: hb) th)
    (hcn : sc.names.lookup cn = some .globalImplicit) (hcd : (cn == ("__debug__" : Str)) = false) (hD : GlobAt g cn (.ref D)) (hnm : sc.names.lookup nm = some .local)
    (hm : ∀ c ∈ cls, exmOne g.K (.ref c) (.ref D) = some true) : SoundS g n q sc (.Try body [.ExceptHandler (some (.Name cn np)) (some nm) (b₀ :: hb) hpos] [] [] pos) (tTry nm cls tb th) := by
  intro A outer env C hsc hf s ρ σ Q X H ht
  have hnm' : env.kindOf nm = some .local := by subst hsc; exact hnm
  refine wpAny_Try_except (wpAny_mono (h1 A outer env C hsc hf s ρ σ Q _ H ht) (fun f s' hp => ?_) fun v s' hp => ?_)
  · cases f with
    | next => exact wpAny_execs_nil hp
    | _ => exact hp
  · obtain ⟨h', tk, x, c, ρ', σ', B, rfl, rfl, e, l, hc, hx⟩ := hp
    refine Fly.note (s := { s with heap := h', toks := tk }) C.frames hf e.fly fun h₂ H2 u2 => ?_
    refine Held.land (s := { s with heap := h₂, toks := tk }) H2 fun h₃ H3 u3 => ?_
    have u03 := u2.trans u3
    have e3 := e.turn u03 H3.fly
    have l3 := l.turn u03
    obtain ⟨S3, St3⟩ := ExcB.land C hf H e3 l3
    have Cm : Cx g n false (A.mark (some (.ref x))) (env :: outer) env := ⟨C.frames, C.room, fun z => Bool.noConfusion z, C.kind, C.globals, C.builtins, C.inj, C.nbase, C.cbase⟩
    refine wpAny_handleBy_cons (codeAny_handlers_test (name_glob (s := { s with heap := h₃, toks := tk }) Cm St3 (by rw [hsc]; exact hcn) hcd hD ?_)) (by intro z; cases z)
    obtain ⟨o, vs, ho, hcl, hd⟩ := H3.obj
    have LT : Looks g.M h₃ (typeOf (.ref x)) (.ref c) := hcl ▸ (Looks.ld ho).andThen .now
    have KI : Frag.In g.K h₃ := fun a o z => St3.hp.stays a o (g.inK a o z)
    refine (exm_one KI LT (hm c hc)).here (s := { s with heap := h₃, toks := tk }) ?_
    show codeAny _ _ _ _ _
    refine codeAny_handlers_suite_as (Flown.land (s := { s with heap := h₃, toks := tk }) H3 fun h₄ H4 u4 => ?_)
    have e4 := e3.turn u4 H4.fly
    have l4 := l3.turn u4
    obtain ⟨S4, St4⟩ := ExcB.land C hf H e4 l4
    obtain ⟨o, vs, ho, hcl, hd⟩ := H4.obj
    have hσx : σ' x = none := by
      cases z : σ' x with
      | none => rfl
      | some ao =>
        have nx := H4.2.2.1
        have := e4.sim x ao z
        cases ao with
        | list xs => obtain ⟨vs, ⟨m, h1⟩, _⟩ := this; rw [nx] at h1; cases h1
        | raw o => rw [nx] at this; cases this.1
    refine store (s := { s with heap := h₄, toks := tk }) Cm St4 (.inl hnm') (.exc ho hcl hd) fun h₅ tk₅ S5 St5 => ?_
    refine wpAny_mono (h2 (A.mark (some (.ref x))) outer env Cm hsc hf { s with heap := h₅, toks := tk₅ } _ σ' _ _ St5 (hx x hσx)) (fun f s₆ hp => ?_) fun v s₆ hp => ?_
    · obtain ⟨h₆, tk₆, fl, ρ₆, σ₆, rfl, S6, St6, rf, hq⟩ := hp
      refine nameGoes (s := { s with heap := h₆, toks := tk₆ }) C St6 hnm' fun h₇ tk₇ S7 St7 => ?_
      refine ⟨h₇, tk₇, fl, unL ρ₆ nm, σ₆, rfl, S4.trans (S5.trans (S6.trans S7)), St7, ?_, hq⟩
      cases rf with
      | next => exact .next
      | brk => exact .brk
      | cont => exact .cont
      | ret r => exact .ret (r.mono fun b o e f => S7.other b o e (St6.hp.firm e f).1 (fun z => by
          rcases z with rfl | ⟨y, z1, z2⟩
          · obtain ⟨m, ⟨o', es, ep, q1, q2, _⟩, _⟩ := St6.loc.ns
            rw [e] at q1; cases q1
            exact notFirm_dict q2 f
          · obtain ⟨c', ov, q1, ⟨o', q2, q3⟩, _⟩ := St6.loc.cell y z1
            rw [q1] at z2; cases z2
            rw [e] at q2; cases q2
            exact notFirm_cell q3 f) (St6.hp.firm e f).2)
    · obtain ⟨_, _, _, _, _, _, _, _, _, _, _, z⟩ := hp
      exact z.elim
end
end Mine

set_option autoImplicit false
set_option linter.unusedVariables false
set_option maxRecDepth 100000
namespace Mine
open PySem PyProof.Rows PySem.Calls PySem.W Builtin Builtin.ObjectAttr Builtin.Getset_descriptor

/-- an own exception class, as far as isinstance asks -/
structure ExcK (K : Frag) (c : Addr) : Prop where
  ga : findIn K (.ref c) "__getattribute__" = some (some (.builtin "BaseException.__getattribute__"))
  gn : findIn K (.ref c) "__getattr__" = some none
  cl : findIn K (.ref c) "__class__" = some (some (.builtin "object.__class__"))
  mo : mroIn K c (.type "object") = some true
  mb : mroIn K c (.type "BaseException") = some true
  is : (clsIn K c).isSome = true

section
variable {prog : Program} {w : World} {A : Around} {E : Value → Shared → Prop} {h : Heap} {g : Array GenState} {d : Drawn} {t : Nat} {os : OsState} {a c : Addr} {o : Obj} {K : Frag}

theorem exc_class_get {R : Result → Shared → Prop} (X : K.In h) (F' : ExcK K c) (hx : h.get? a = some o) (hc : o.cls = .ref c) (hq : R (.ok (.ret (.ref c))) ⟨h, g, d, t, os⟩) :
    codeAny (model prog w) A (.call (.builtin "getset_descriptor.__get__") ⟨[.builtin "object.__class__", .ref a, .ref c], []⟩) R ⟨h, g, d, t, os⟩ := by
  have hT5 : (⟨h, g, d, t, os⟩ : Shared).TypeIs (.builtin "object.__class__") "getset_descriptor" := F.typeOf_object_class
  have L1 := looks_mroIn (M := model prog w) X F'.mo
  have L0 : Looks (model prog w) h (typeOf (.ref a)) (.ref c) := hc ▸ (Looks.ld hx).andThen .now
  refine codeAny_call_builtin F.slot_gs_get.plain F.entry_gs_get (F.slot_gs_get.check _ _ _ _ _ _ _ _ hT5 (F.args_gs_get _ _ _) ?_)
  unfold Builtin.«getset_descriptor.__get__» descrGet
  rw [dga_obj]
  refine wpAny_bind (wpAny_pure ?_)
  unfold descrGetter descrCheckInstance descrNameAndClass isInstance
  simp only [KF.owner_class]
  repeat lk
  refine ⟨Code.quiet_builtin _ (by decide +kernel), codeAny_builtin KF.entry_class ?_⟩
  unfold Builtin.«object.__class__» shownTypeOf
  repeat lk
  exact hq

theorem exc_check_ga {M : Model} {nameV : Value} {Q : Unit → Shared → Prop} (X : K.In h) (F' : ExcK K c) (hx : h.get? a = some o) (hc : o.cls = .ref c) (hq : Q () ⟨h, g, d, t, os⟩) : wpAny M A (checkBuiltinCall "BaseException.__getattribute__" ⟨[.ref a, nameV], []⟩) Q E ⟨h, g, d, t, os⟩ := by
  have hk : builtinKind "BaseException.__getattribute__" = some .slot := by decide +kernel
  have hsplit : splitId "BaseException.__getattribute__" = some ("BaseException", "__getattribute__") := by decide +kernel
  have L1 := looks_mroIn (M := M) X F'.mb
  have L0 : Looks M h (typeOf (.ref a)) (.ref c) := hc ▸ (Looks.ld hx).andThen .now
  have LI : Looks M h (isInstance (.ref a) (.type "BaseException")) true := L0.andThen L1
  have ha := F.args_bexc_ga (.ref a) nameV
  simp only [checkBuiltinCall, hk, hsplit]
  refine wpAny_bind (LI.at ?_)
  repeat (first | assumption | wp_step)

theorem exc_class_entry {tk : Tok} {Q : Fin → Shared → Prop} (X : K.In h) (F' : ExcK K c) (hx : h.get? a = some o) (hc : o.cls = .ref c) (hq : Q (.done (.ret (.ref c))) ⟨h, g, d, t, os⟩) :
    wpAny (model prog w) A (Builtin.«object.__getattribute__» ⟨[.ref a, .str "__class__" tk], []⟩) Q E ⟨h, g, d, t, os⟩ := by
  have hT5 : (⟨h, g, d, t, os⟩ : Shared).TypeIs (.builtin "object.__class__") "getset_descriptor" := F.typeOf_object_class
  have f5 := F.typeOf_object_class
  have f6 := F.slot_gs_get.lookup
  have f7 := F.slot_gs_set.lookup
  have L1 := looks_findIn (M := model prog w) X F'.cl
  repeat (any_goals (first | assumption | (with_reducible refine wpAny_loadPart_at hx ?_; rw [hc]) | with_reducible refine Looks.at L1 ?_ | wp_step))
  refine exc_class_get X F' hx hc ?_
  repeat (any_goals (first | assumption | wp_step))

theorem exc_class_call {tk : Tok} {R : Result → Shared → Prop} (X : K.In h) (F' : ExcK K c) (hx : h.get? a = some o) (hc : o.cls = .ref c) (hq : R (.ok (.ret (.ref c))) ⟨h, g, d, t, os⟩) :
    codeAny (model prog w) A (.call (.builtin "BaseException.__getattribute__") ⟨[.ref a, .str "__class__" tk], []⟩) R ⟨h, g, d, t, os⟩ :=
  codeAny_call_builtin F.attr_ValueError.ga.plain F.entry_bexc_ga (exc_check_ga X F' hx hc (exc_class_entry X F' hx hc hq))

theorem exc_class_by {tk : Tok} {Q : Value → Shared → Prop} (X : K.In h) (F' : ExcK K c) (hx : h.get? a = some o) (hc : o.cls = .ref c) (hq : Q (.ref c) ⟨h, g, d, t, os⟩) :
    wpAny (model prog w) A (getAttrBy (.ref a) (.str "__class__" tk) false) Q E ⟨h, g, d, t, os⟩ := by
  have f3 := F.attr_ValueError.ga.bind (.ref a)
  have hx0 : (false && onTheHeap (Value.builtin "BaseException.__getattribute__")) = false := rfl
  have hx2 : (Value.builtin "BaseException.__getattribute__" == Value.builtin "object.__getattribute__") = false := by decide +kernel
  have hx1 : (onTheHeap (Value.ref c) && Value.builtin "BaseException.__getattribute__" == Value.builtin "object.__getattribute__") = false := by rw [hx2]; rfl
  have L1 := looks_findIn (M := model prog w) X F'.ga
  have L2 := looks_findIn (M := model prog w) X F'.gn
  repeat (any_goals (first | assumption | (with_reducible refine wpAny_loadPart_at hx ?_; rw [hc]) | with_reducible refine Looks.at L1 ?_ | with_reducible refine Looks.at L2 ?_ | wp_step))
  refine exc_class_call X F' hx hc ?_
  repeat (any_goals (first | assumption | wp_step))

theorem exc_class_attr {Q : Option Value → Shared → Prop} (X : K.In h) (F' : ExcK K c) (hx : h.get? a = some o) (hc : o.cls = .ref c) (hq : Q (some (.ref c)) ⟨h, g, d, t + 1, os⟩) : wpAny (model prog w) A (getAttr? (.ref a) "__class__") Q E ⟨h, g, d, t, os⟩ := by
  unfold getAttr? getAttrBy?
  repeat (any_goals (first | assumption | with_reducible apply exc_class_by X F' hx hc | wp_step))
end

theorem kitx_exc {K : Frag} {a c : Addr} (F' : ExcK K c) : KitX K (.ref a) (.ref c) (fun h => ∃ o, h.get? a = some o ∧ o.cls = .ref c) where
  ty := fun M h X ⟨o, h1, h2⟩ => h2 ▸ (Looks.ld h1).andThen .now
  it := fun M h X _ => by
    obtain ⟨cd, hcd⟩ := Option.isSome_iff_exists.mp F'.is
    unfold clsIn at hcd
    split at hcd
    · rename_i c' d' cd' sl' ho
      intro A' Q' E' s' k q
      unfold isType loadHead
      exact wpAny_bind (wpAny_loadPart (k _ _ (X _ _ ho)) (wpAny_pure q))
    · cases hcd
  ne := fun h tp dd its n sl X htp => by
    obtain ⟨cd, hcd⟩ := Option.isSome_iff_exists.mp F'.is
    refine Bool.eq_false_iff.mpr fun q => ?_
    have e : c = tp := Value.ref.inj (beq_iff_eq.mp q)
    subst e
    unfold clsIn at hcd
    split at hcd
    · rename_i c' d' cd' sl' ho
      have z := (X _ _ ho).symm.trans htp
      cases z
    · cases hcd
  ca := fun {_ _ _ _ _ s} X ⟨o, h1, h2⟩ k => by obtain ⟨h, g, d, t, os⟩ := s; exact exc_class_attr X F' h1 h2 k
end Mine

set_option autoImplicit false
set_option linter.unusedVariables false
set_option maxRecDepth 100000
namespace Mine
open PySem PyProof.Rows PySem.Calls PySem.W

inductive Ty where
  | none | bool | int | str | tup | list | dict
  | exc (c : Addr)
noncomputable def Ty.val : Ty → Value
  | .none => .type "NoneType"
  | .bool => .type "bool"
  | .int => .type "int"
  | .str => .type "str"
  | .tup => .type "tuple"
  | .list => .type "list"
  | .dict => .type "dict"
  | .exc c => .ref c
noncomputable def tyOf (σ : Sto) : PV → Option Ty
  | .none => some .none
  | .bool _ => some .bool
  | .int _ => some .int
  | .str _ => some .str
  | .tup _ => some .tup
  | .lst _ _ => some .list
  | .exc _ c => some (.exc c)
  | .rng _ _ => Option.none
  | .ref a => match σ a with
    | some (.list _) => some .list
    | some (.raw ⟨.type "dict", _, _, _⟩) => some .dict
    | _ => Option.none
noncomputable def tIsinst (te : TE) (ok : Ty → Option Bool) : TE := fun ρ σ Q X => te ρ σ (fun p σ' => ∃ ty b, tyOf σ' p = some ty ∧ ok ty = some b ∧ Q (.bool b) σ') X

theorem isinst_any {g : Gx} {A : Around} {fr : List Env} {σ : Sto} {s : Shared} {v cv : Value} {p : PV} {ty : Ty} {b : Bool} {Q : Value → Shared → Prop} {E : Value → Shared → Prop} (H : Hp g.base fr σ s.heap) (r : Rep g.base s.heap v p) (ht : tyOf σ p = some ty)
    (hk : kitOne g.K ty.val cv = some b) (hE : ∀ c, ty = .exc c → ExcK g.K c) (h : ∀ tk, Q (.bool b) { s with toks := tk }) : wpAny g.M A (call (.builtin "isinstance") [v, cv]) Q E s := by
  have X : Frag.In g.K s.heap := fun a o z => H.stays a o (g.inK a o z)
  cases p with
  | none => cases ht; obtain rfl := inv_none r; exact kia_one kitx_none X trivial hk (by simp) h
  | bool b => cases ht; obtain rfl := inv_bool r; exact kia_one kitx_bool X trivial hk (by simp) h
  | int i => cases ht; obtain ⟨t, rfl⟩ := inv_int r; exact kia_one kitx_int X trivial hk (by simp) h
  | str x => cases ht; obtain ⟨t, rfl⟩ := inv_str r; exact kia_one kitx_str X trivial hk (by simp) h
  | tup xs => cases ht; obtain ⟨a, o, vs, n, rfl, ho, hc, hd, rs⟩ := inv_tup r; exact kia_one kitx_tuple X ⟨_, ho, hc⟩ hk (by simp) h
  | lst a ns => cases ht; obtain ⟨rfl, vs, ⟨o, h3, h4, h5⟩, _⟩ := inv_lst r; exact kia_one kitx_list X ⟨o, H.stays _ _ h3, h4⟩ hk (by simp) h
  | exc a c => cases ht; obtain ⟨o, rfl, ho, hc⟩ := inv_exc r; exact kia_one (kitx_exc (hE _ rfl)) X ⟨_, ho, hc⟩ hk (by simp) h
  | rng lo hi => cases ht
  | ref a =>
    obtain rfl := inv_ref r
    unfold tyOf at ht
    dsimp only at ht
    split at ht
    · rename_i xs e
      cases ht
      obtain ⟨vs, ⟨m, h1⟩, _⟩ := H.sim a _ e
      exact kia_one kitx_list X ⟨_, h1, rfl⟩ hk (by simp) h
    · rename_i d da sl e
      cases ht
      have := H.sim a _ e
      exact kia_one kitx_dict X ⟨_, this.1, rfl⟩ hk (by simp) h
    · cases ht

section
variable {g : Gx} {n : Nat} {q : Bool} {sc : Scope}
theorem sound_isinst {e : Expr} {te : TE} {ok : Ty → Option Bool} {cn : Str} {cv : Value} {np cp pos : Pos} (he : SoundE g n q sc e te) (hx : sc.names.lookup ("isinstance" : Str) = some .globalImplicit) (hg : GlobAt g "isinstance" (.builtin "isinstance"))
    (hc : sc.names.lookup cn = some .globalImplicit) (hcd : (cn == ("__debug__" : Str)) = false) (hcg : GlobAt g cn cv) (hok : ∀ ty b, ok ty = some b → kitOne g.K ty.val cv = some b) (hE : ∀ c b, ok (.exc c) = some b → ExcK g.K c)
    (hns : ∀ env : Env, starEach [e, .Name cn cp] env = [(false, eval e env), (false, eval (.Name cn cp) env)]) : SoundE g n q sc (.Call (.Name "isinstance" np) [e, .Name cn cp] [] pos) (tIsinst te ok) := by
  intro A fr env C hsc s ρ σ Q X H ht
  refine wpAny_Call_ofName (name_glob C H (by rw [hsc]; exact hx) (by decide) hg ?_)
  refine callWith_builtin (by rw [hns]; rfl) ?_
  rw [hns]
  show wpAny _ _ (evalArgs _ true ((false, eval e env) :: (false, eval (.Name cn cp) env) :: []) []) _ _ _
  refine Calls.evalArgs_plain (spliced_cons (bindE (he A fr env C hsc s ρ σ _ X H ht) fun v h₁ tk p σ₁ S1 Sm1 r hq => ?_))
  have H1 := H.step S1 Sm1
  refine spliced_cons (name_glob (s := { s with heap := h₁, toks := tk }) C H1 (by rw [hsc]; exact hc) hcd hcg (spliced_nil ?_))
  obtain ⟨ty, b, h1, h2, h3⟩ := hq
  refine isinst_any (s := { s with heap := h₁, toks := tk }) H1.hp r h1 (hok ty b h2) (fun c e => by subst e; exact hE c b h2) fun tk' => ?_
  exact ⟨h₁, tk', _, σ₁, rfl, S1, Sm1, .bool b, h3⟩

noncomputable def okInt : Ty → Option Bool
  | .exc _ => Option.none
  | .int => some true
  | .bool => some true
  | _ => some false
noncomputable def okBool : Ty → Option Bool
  | .exc _ => Option.none
  | .bool => some true
  | _ => some false
noncomputable def okList : Ty → Option Bool
  | .exc _ => Option.none
  | .list => some true
  | _ => some false
theorem okInt_ok {K : Frag} : ∀ ty b, okInt ty = some b → kitOne K ty.val (.type "int") = some b := by
  intro ty b e
  cases ty <;> cases e <;> rfl
theorem okBool_ok {K : Frag} : ∀ ty b, okBool ty = some b → kitOne K ty.val (.type "bool") = some b := by
  intro ty b e
  cases ty <;> cases e <;> rfl
theorem okList_ok {K : Frag} : ∀ ty b, okList ty = some b → kitOne K ty.val (.type "list") = some b := by
  intro ty b e
  cases ty <;> cases e <;> rfl
end
end Mine

set_option autoImplicit false
set_option linter.unusedVariables false
set_option maxRecDepth 100000
namespace Mine
open PySem PyProof.Rows PySem.Calls PySem.W

/-! slices -/
noncomputable abbrev TP := Env' → Sto → (Option Int → Sto → Prop) → (Addr → Sto → Prop) → Prop
noncomputable def SoundP (g : Gx) (n : Nat) (q : Bool) (sc : Scope) (e : Option Expr) (t : TP) : Prop :=
  ∀ (A : Around) (fr : List Env) (env : Env), Cx g n q A fr env → env.scope = sc → ∀ (s : Shared) (ρ : Env') (σ : Sto) (Q : Option Int → Sto → Prop) (X : Addr → Sto → Prop),
    St g fr env ρ σ s.heap → t ρ σ Q X → wpAny g.M A (evalPart e env) (fun v s' => ∃ h' tk i σ', s' = { s with heap := h', toks := tk } ∧ Step fr nobody σ s.heap σ' h' ∧ Sim g.base h' σ' ∧ IsPart v i ∧ Q i σ') (PostX g fr σ s X) s
noncomputable def tPnone : TP := fun _ σ Q _ => Q none σ
noncomputable def tPsome (t : TE) : TP := fun ρ σ Q X => t ρ σ (fun p σ' => ∃ i, p = .int i ∧ Q (some i) σ') X
noncomputable def cutL (xs : List PV) (lo hi : Option Int) : List PV := (xs.take (hi.elim xs.length Int.toNat)).drop (lo.elim 0 Int.toNat)
noncomputable def partOk : Option Int → Prop
  | none => True
  | some i => 0 ≤ i
noncomputable def tSlice (te : TE) (tl tu : TP) : TE := fun ρ σ Q X => te ρ σ (fun p σ₁ => tl ρ σ₁ (fun lo σ₂ => tu ρ σ₂ (fun hi σ₃ => ∃ xs, partOk lo ∧ partOk hi ∧ LR p ∧ itemsOf σ₃ p = some xs ∧ xs.length ≤ sizeLine ∧
  ∀ a, σ₃ a = none → Q (.ref a) (upd σ₃ a (.list (cutL xs lo hi)))) X) X) X

theorem cut_same {α : Type} (items : List α) (a b : Nat) : (items.drop (min a items.length)).take (min b items.length - min a items.length) = (items.take b).drop a := by
  rw [List.drop_take]
  by_cases h : a ≤ items.length
  · rw [Nat.min_eq_left h, List.take_eq_take_min (i := b - a), List.length_drop, Nat.sub_min_sub_right]
  · have h' : items.length ≤ a := Nat.le_of_not_le h
    rw [Nat.min_eq_right h', List.drop_of_length_le (Nat.le_refl _), List.drop_of_length_le h', List.take_nil, List.take_nil]
theorem clip_same {n : Nat} {d : Nat} (hd : min d n = d) {o : Option Int} (h : partOk o) : o.elim d (clipAt n) = min (o.elim d Int.toNat) n := by
  cases o with
  | none => exact hd.symm
  | some i => have := clipAt_nat n i.toNat; rw [Int.toNat_of_nonneg h] at this; exact this
theorem slice_vals {α : Type} (items : List α) (lo hi : Option Int) (h1 : partOk lo) (h2 : partOk hi) :
    (items.drop (lo.elim 0 (clipAt items.length))).take (hi.elim items.length (clipAt items.length) - lo.elim 0 (clipAt items.length)) = (items.take (hi.elim items.length Int.toNat)).drop (lo.elim 0 Int.toNat) := by
  rw [clip_same (Nat.zero_min _) h1, clip_same (Nat.min_self _) h2]
  exact cut_same _ _ _

section
variable {g : Gx} {n : Nat} {q : Bool} {sc : Scope}
theorem part_none : SoundP g n q sc none tPnone := by
  intro A fr env C hsc s ρ σ Q X H ht
  rw [evalPart_none]
  exact wpAny_pure ⟨s.heap, s.toks, none, σ, rfl, Step.refl, H.hp.sim, .none, ht⟩
theorem part_some {e : Expr} {t : TE} (he : SoundE g n q sc e t) : SoundP g n q sc (some e) (tPsome t) := by
  intro A fr env C hsc s ρ σ Q X H ht
  refine wpAny_mono (he A fr env C hsc s ρ σ _ X H ht) (fun v s' hp => ?_) fun _ _ x => x
  obtain ⟨h', tk, p, σ', rfl, S1, Sm1, r, i, rfl, hq⟩ := hp
  obtain ⟨t, rfl⟩ := inv_int r
  exact ⟨h', tk, some i, σ', rfl, S1, Sm1, .int i t, hq⟩

theorem sound_slice {e : Expr} {lower upper : Option Expr} {p pos : Pos} {te : TE} {tl tu : TP} (he : SoundE g n q sc e te) (hl : SoundP g n q sc lower tl) (hu : SoundP g n q sc upper tu) (htmp : ∀ o r, letTemporaryGo e o r = pure ()) :
    SoundE g n q sc (.Subscript e (.Slice lower upper none p) pos) (tSlice te tl tu) := by
  intro A fr env C hsc s ρ σ Q X H ht
  refine wpAny_Subscript_list_slice (bindE (he A fr env C hsc s ρ σ _ X H ht) fun o h₁ tk₁ po σ₁ S1 Sm1 r hq => ?_) htmp
  have H1 := H.step S1 Sm1
  refine wpAny_mono (hl A fr env C hsc { s with heap := h₁, toks := tk₁ } ρ σ₁ _ X H1 hq) (fun vl s₂ hp => ?_) fun _ _ x => x.up S1
  obtain ⟨h₂, tk₂, lo, σ₂, rfl, S2, Sm2, pl, hq⟩ := hp
  have H2 := H1.step S2 Sm2
  refine wpAny_mono (hu A fr env C hsc { s with heap := h₂, toks := tk₂ } ρ σ₂ _ X H2 hq) (fun vu s₃ hp => ?_) fun _ _ x => x.up (S1.trans S2)
  obtain ⟨h₃, tk₃, hi, σ₃, rfl, S3, Sm3, pu, hq⟩ := hp
  have H3 := H2.step S3 Sm3
  have r3 := S3.rep H2.hp (S2.rep H1.hp r)
  obtain ⟨xs, k1, k2, kp, hxs, hle, hQ⟩ := hq
  obtain ⟨l, rfl, vs, hl, rs⟩ := list_of H3.hp r3 hxs kp
  refine ⟨l, vs.toArray, lo, hi, rfl, hl, by rw [List.size_toArray, rs.length]; exact hle, pl, pu, ?_⟩
  rw [slicePick_plain]
  simp only [List.size_toArray]
  rw [slice_vals vs lo hi k1 k2]
  have rs' : Reps g.base h₃ ((vs.take (hi.elim vs.length Int.toNat)).drop (lo.elim 0 Int.toNat)) (cutL xs lo hi) := by unfold cutL; rw [← rs.length]; exact (rs.take _).drop _
  generalize (vs.take (hi.elim vs.length Int.toNat)).drop (lo.elim 0 Int.toNat) = ws at rs' ⊢
  have kp : ∀ b o, h₃.get? b = some o → ((h₃.push { cls := .type "slice", data := .fields #[vl, vu, .none] }).push { cls := .type "list", data := .seq ws.toArray }).get? b = some o := fun b o e => Heap.get?_push_of_some _ (Heap.get?_push_of_some _ e)
  have hl' := Heap.get?_push_size (h₃.push { cls := .type "slice", data := .fields #[vl, vu, .none] }) (o := { cls := .type "list", data := .seq ws.toArray }) rfl
  rw [Heap.size_push] at hl'
  obtain ⟨z1, z2, z3⟩ := addList (fr := fr) (own := nobody) (xs := cutL xs lo hi) Sm3 kp (fresh_size (b := h₃.objs.size + 1) (Nat.le_succ _)) ⟨_, hl'⟩ (rs'.keeps kp)
  exact ⟨_, tk₃, _, _, rfl, S1.trans (S2.trans (S3.trans z2)), z3, .ref _, hQ _ z1⟩

/-! unpacking -/
noncomputable def tUnpack (xs : List Str) (te : TE) : TS := fun ρ σ Q X => te ρ σ (fun p σ' => ∃ ps, p = .tup ps ∧ ps.length = xs.length ∧ Q .next (bindP xs ps ρ) σ') (fun c σ' => X c ρ σ')

theorem assign_names {A : Around} {outer : List Env} {env : Env} {E : Value → Shared → Prop} (C : Cx g n q A (env :: outer) env) : ∀ (nps : List (Str × Pos)) (vals : List Value) (ps : List PV) (s : Shared) (ρ : Env') (σ : Sto) (Q : Unit → Shared → Prop),
    (∀ x ∈ nps, env.kindOf x.1 = some .local ∨ env.kindOf x.1 = some .cell) → St g (env :: outer) env ρ σ s.heap → Reps g.base s.heap vals ps → ps.length = nps.length →
    (∀ h' tk, Step (env :: outer) (owned env) σ s.heap σ h' → St g (env :: outer) env (bindP (nps.map (·.1)) ps ρ) σ h' → Q () { s with heap := h', toks := tk }) →
    wpAny g.M A (assignInOrder ((assignEach (nps.map fun x => Expr.Name x.1 x.2) env).map (·.2)) vals) Q E s
  | [], vals, ps, s, ρ, σ, Q, hk, H, R, hl, k => by
    cases R with
    | nil => exact wpAny_pure (k s.heap s.toks Step.refl H)
    | cons a r => simp at hl
  | (x, px) :: nps, vals, ps, s, ρ, σ, Q, hk, H, R, hl, k => by
    cases R with
    | nil => simp at hl
    | cons a r =>
      rename_i v vs p ps
      show wpAny _ _ (do holding vs (assign (.Name x px) env v); assignInOrder ((assignEach (nps.map fun x => Expr.Name x.1 x.2) env).map (·.2)) vs) _ _ _
      refine wpAny_bind (wpAny_holding (wpAny_assign_Name (store C H (hk (x, px) (.head _)) a fun h₁ tk₁ S1 H1 => ?_)))
      have r1 : Reps g.base h₁ vs ps := r.mono fun b o e f => S1.other b o e (H.hp.firm e f).1 (fun z => by
          rcases z with rfl | ⟨y, z1, z2⟩
          · obtain ⟨m, ⟨o', es, ep, q1, q2, _⟩, _⟩ := H.loc.ns
            rw [e] at q1; cases q1
            exact notFirm_dict q2 f
          · obtain ⟨c', ov, q1, ⟨o', q2, q3⟩, _⟩ := H.loc.cell y z1
            rw [q1] at z2; cases z2
            rw [e] at q2; cases q2
            exact notFirm_cell q3 f) (H.hp.firm e f).2
      refine assign_names C nps vs ps { s with heap := h₁, toks := tk₁ } (setL ρ x p) σ Q (fun y hy => hk y (.tail _ hy)) H1 r1 (by simpa using hl) fun h' tk S2 H2 => ?_
      exact k h' tk (S1.trans S2) H2

theorem assignEach_names (env : Env) : ∀ nps : List (Str × Pos), (assignEach (nps.map fun x => Expr.Name x.1 x.2) env).length = nps.length ∧ (assignEach (nps.map fun x => Expr.Name x.1 x.2) env).findIdx? (·.1) = none
  | [] => ⟨rfl, rfl⟩
  | (x, p) :: r => by
    have ih := assignEach_names env r
    show ((false, assign (.Name x p) env) :: assignEach (r.map fun x => Expr.Name x.1 x.2) env).length = _ ∧ ((false, assign (.Name x p) env) :: assignEach (r.map fun x => Expr.Name x.1 x.2) env).findIdx? (·.1) = none
    refine ⟨by simp [ih.1], ?_⟩
    rw [List.findIdx?_cons]
    simp [ih.2]

theorem sound_unpack {nps : List (Str × Pos)} {k : Nat} {tpos pos : Pos} {e : Expr} {te : TE} (he : SoundE g n true sc e te) (hk : ∀ x ∈ nps, sc.names.lookup x.1 = some .local ∨ sc.names.lookup x.1 = some .cell)
    (hs : ∀ env : Env, env.scope = sc → swapsWithSole [.Tuple (nps.map fun x => Expr.Name x.1 x.2) k tpos] e pos.line env = pure false) (hw : ∀ env : Env, env.scope = sc → swappedStores [.Tuple (nps.map fun x => Expr.Name x.1 x.2) k tpos] e env = pure none) :
    SoundS g n true sc (.Assign [.Tuple (nps.map fun x => Expr.Name x.1 x.2) k tpos] e pos) (tUnpack (nps.map (·.1)) te) := by
  intro A outer env C hsc hf s ρ σ Q X H ht
  refine Assign_Tuple (stmtE H hf (he A _ env C hsc s ρ σ _ _ H ht) fun v h₁ tk p σ₁ S1 H1 r hq => ?_) (hs env hsc) (hw env hsc)
  obtain ⟨ps, rfl, hl, hq⟩ := hq
  · obtain ⟨a, o, vs, nn, rfl, ho, hc, hd, rs⟩ := inv_tup r
    have hl' : ps.length = nps.length := by simpa using hl
    refine wpAny_assign_Tuple (s := { s with heap := h₁, toks := tk }) (C.quiet rfl) ⟨o, ho, hc, nn, hd⟩ (by rw [(assignEach_names env nps).1, List.size_toArray, rs.length, hl']) (assignEach_names env nps).2 fun h₂ hx₂ => ?_
    have kp : ∀ b o, h₁.get? b = some o → h₂.get? b = some o := fun b o e => hx₂ b o (Nat.ne_of_lt (Heap.lt_size e)) e
    refine assign_names C nps _ ps { s with heap := h₂, toks := tk } ρ σ₁ _ (fun x hx => by subst hsc; exact hk x hx) (H1.keeps kp) (by simpa using rs.keeps kp) hl' fun h₃ tk₃ S3 H3 => ?_
    exact ⟨h₃, tk₃, .next, _, σ₁, rfl, (noOwn S1).trans ((Step.keeps kp).trans S3), H3, .next, hq⟩

/-! an empty dict -/
end
end Mine

set_option autoImplicit false
set_option linter.unusedVariables false
set_option maxRecDepth 100000
namespace Mine
open PySem PyProof.Rows PySem.Calls PySem.W

/-- a definition of the program, as the top has left it -/
noncomputable def DefAt (g : Gx) (d : DefRec) : Prop := ∃ f o pm code doc, g.mg d.name = some (.ref f) ∧ g.base.get? f = some o ∧ o.data = .func (docDef d.name d.params d.body d.scope pm code doc) ∧ g.base.CodeRec code d.name
noncomputable def HasF (g : Gx) (n : Nat) (q : Bool) (x : Str) (T : TF) : Prop := ∃ f o fd, g.mg x = some (.ref f) ∧ g.base.get? f = some o ∧ o.data = .func fd ∧ SoundF g n q f T

theorem has_def {g : Gx} {n : Nat} {q : Bool} {d : DefRec} {x : Str} {names : List Str} {tb : TS} (D : DefAt g d) (hn : d.name = x)
    (hbind : ∀ (pm code doc : Value) (vals : List Value), vals.length = names.length → bindArgs (docDef d.name d.params d.body d.scope pm code doc) ⟨vals, []⟩ = pure (names.zip vals))
    (hk1 : ∀ y ∈ names, d.scope.names.lookup y = some .local ∨ d.scope.names.lookup y = some .cell) (hco : d.scope.isCoroutine = false) (hgen : d.scope.isGenerator = false) (hk : d.scope.kind = .function)
    (hbody : SoundSs g n q d.scope d.body tb) : HasF g (n + 1) q x (tFun names tb) := by
  obtain ⟨f, o, pm, code, doc, h1, h2, h3, h4⟩ := D
  refine ⟨f, o, _, hn ▸ h1, h2, h3, ?_⟩
  exact sound_fun (fd := docDef d.name d.params d.body d.scope pm code doc) h2 h3 rfl rfl h4 rfl rfl (hbind pm code doc) hk1 (fun L y e => cellsFrom_some _ _ _ (.inl e)) hco hgen hk hbody

section
variable {g : Gx} {n : Nat} {q : Bool} {sc : Scope}
theorem sound_callF {m : Nat} {x : Str} {np pos : Pos} {es : List Expr} {ts : TEs} {T : TF} (hT : HasF g m q x T) (hes : SoundEs g n q sc es ts) (hx : sc.names.lookup x = some .globalImplicit) (hd : (x == ("__debug__" : Str)) = false) (hm : m ≤ n) :
    SoundE g n q sc (.Call (.Name x np) es [] pos) (tCall ts T) := by
  obtain ⟨f, o, fd, h1, h2, h3, h4⟩ := hT
  exact sound_call hx hd (.inl h1) h2 h3 hes h4 hm
end

theorem len1 {vals : List Value} (h : vals.length = 1) : ∃ a, vals = [a] := List.length_eq_one_iff.mp h
theorem len_s {vals : List Value} {n : Nat} (h : vals.length = n + 1) : ∃ a r, vals = a :: r ∧ r.length = n := by
  cases vals with
  | nil => cases h
  | cons a r => exact ⟨a, r, rfl, Nat.succ.inj h⟩
theorem len2 {vals : List Value} (h : vals.length = 2) : ∃ a b, vals = [a, b] := by obtain ⟨a, r, rfl, h1⟩ := len_s h; obtain ⟨b, rfl⟩ := len1 h1; exact ⟨a, b, rfl⟩
theorem len3 {vals : List Value} (h : vals.length = 3) : ∃ a b c, vals = [a, b, c] := by obtain ⟨a, r, rfl, h1⟩ := len_s h; obtain ⟨b, c, rfl⟩ := len2 h1; exact ⟨a, b, c, rfl⟩
theorem len4 {vals : List Value} (h : vals.length = 4) : ∃ a b c d, vals = [a, b, c, d] := by obtain ⟨a, r, rfl, h1⟩ := len_s h; obtain ⟨b, c, d, rfl⟩ := len3 h1; exact ⟨a, b, c, d, rfl⟩
/-- a world with nothing in the store -/
noncomputable def noSto : Sto := fun _ => none
theorem hp_start (base : Heap) : Hp base [] noSto base := by
  refine ⟨fun _ _ e => e, trivial, fun a ao e => ?_, fun a e => absurd rfl e, fun b m => ?_⟩
  · cases e
  · cases m

theorem glob_free {p : Program} {loose : List Str} {mean : ExcName → Option Value} {g : Gx} (T : Top p loose mean g.mg g.mb g.base) {x : Str} {v : Value}
    (h : (startupNames.contains x || loose.contains x || ((recsOf p).map (·.name)).contains x || ((litsOf p).map (·.1)).contains x || ((clssOf p loose).map (·.name)).contains x) = false) (hn : (x == ("__name__" : Str)) = false) (hb : bootBuiltins x = some v) : GlobAt g x v := by
  simp only [Bool.or_eq_false_iff, List.contains_eq_mem, decide_eq_false_iff_not] at h
  obtain ⟨⟨⟨⟨h1, h2⟩, h3⟩, h4⟩, h5⟩ := h
  refine .inr ⟨T.free x h1 h2 h3 h4 h5, ?_⟩
  rw [T.builtins x (by intro e; rw [e] at hn; simp at hn)]
  exact hb
theorem def_at {p : Program} {loose : List Str} {mean : ExcName → Option Value} {g : Gx} (T : Top p loose mean g.mg g.mb g.base) {d : DefRec} (h : d ∈ recsOf p) : DefAt g d := by
  obtain ⟨a, o, pm, code, doc, h1, h2, h3, h4⟩ := T.fn d h
  exact ⟨a, o, pm, code, doc, h1, h2, h3, h4⟩
theorem cls_at {g : Gx} {x : Str} {v : Value} (h : nsIn g.K mainGlobals x = some (some v)) : g.mg x = some v := mg_of (K := g.K) g.inK g.hg h
theorem own_at {p : Program} {loose : List Str} {mean : ExcName → Option Value} {g : Gx} (T : Top p loose mean g.mg g.mb g.base) {x : Str} {c : Addr} {bm : List Value} {newId : String} (h : nsIn g.K mainGlobals x = some (some (.ref c))) (q : excIn g.K c bm newId = true) : OwnCls x c bm newId g.mg g.base :=
  own_of_in (K := g.K) g.inK (topRead_of T) h q
end Mine

set_option autoImplicit false
set_option linter.unusedVariables false
set_option maxRecDepth 100000
namespace Mine
open PySem PyProof.Rows PySem.Calls PySem.W

noncomputable def envFor (sc : Scope) : Env := { scope := sc, locals := 0, globals := 0, cells := [], qual := "", func := none, code := .none, frame := none, builtins := 0 }
theorem relabel_eq {scope : Scope} {env env' : Env} (h : env.scope = env'.scope) : relabel scope env = relabel scope env' := by
  unfold relabel Env.kindOf
  rw [h]
theorem compOk {sc scope : Scope} {x : Str} {cs : List Str} (h1 : scope.kind = .function) (h2 : ∀ y ∈ scope.names, y.2 ≠ .cell) (h3 : ∀ y ∈ scope.names, y.2 = .free → sc.names.lookup y.1 = some .cell)
    (h4 : ∀ y ∈ scope.names, y.2 = .local → scope.names.lookup y.1 = some .local) (h5 : scope.names.lookup x = some .local) (h6 : ∀ y ∈ cs, (relabel scope (envFor sc)).names.lookup y ≠ some .local) : CompOk sc (relabel scope (envFor sc)) scope x cs :=
  ⟨fun env h => relabel_eq h, h1, h2, h3, h4, h5, h6⟩

theorem slot_append : Slot "list" "append" "list.append" := PySem.F.slot_list_append
theorem slot_insert : Slot "list" "insert" "list.insert" := PySem.F.slot_list_insert
theorem ty_append : typeOf (.builtin "list.append") = pure (.type "method_descriptor") := by show builtinType _ = _; rw [builtinType_eq_fast]; kernel_rfl
theorem ty_insert : typeOf (.builtin "list.insert") = pure (.type "method_descriptor") := by show builtinType _ = _; rw [builtinType_eq_fast]; kernel_rfl
end Mine
namespace Mine
open PySem PyProof.Rows PySem.Calls PySem.W
theorem swapsTrue {elt : Expr} {gs : List Comprehension} {scope sc : Scope} {pos py : Pos} {y : Str} {line : Nat}
    (h : ((envFor sc).blockKind == .function && (envFor sc).kindOf y == some .local && py.line == pos.line && !(scope.names.any fun (n, k) => n == y && (k == .local || k == .cell))) = true) :
    ∀ env : Env, env.scope = sc → swapsWith (.ListComp elt gs scope pos) (some (.Name y py)) line env = pure true := by
  intro env hs
  have e1 : env.blockKind = (envFor sc).blockKind := by unfold Env.blockKind; rw [hs]; rfl
  have e2 : env.kindOf y = (envFor sc).kindOf y := by unfold Env.kindOf; rw [hs]; rfl
  show (pure (env.blockKind == .function && env.kindOf y == some .local && py.line == pos.line && !(scope.names.any fun (n, k) => n == y && (k == .local || k == .cell))) : Sem Bool) = pure true
  rw [e1, e2, h]
end Mine

set_option autoImplicit false
set_option linter.unusedVariables false
namespace Mine
open PySem PyProof.Rows PySem.Calls

/-! the plain side: transformers, step by step -/
theorem setL_same {ρ : Env'} {x : Str} {p : PV} : setL ρ x p x = some p := by unfold setL; rw [if_pos rfl]
theorem setL_other {ρ : Env'} {x y : Str} {p : PV} {r : Option PV} (h : (y == x) = false) (e : ρ y = r) : setL ρ x p y = r := by
  unfold setL
  rw [if_neg (by intro z; subst z; simp at h)]
  exact e
theorem compR_same {cs : List Str} {ρ : Env'} {x : Str} {p : PV} : compR cs ρ x p x = some p := by unfold compR; rw [if_pos rfl]
theorem compR_other {cs : List Str} {ρ : Env'} {x y : Str} {p : PV} {r : Option PV} (h : (y == x) = false) (hc : cs.contains y = true) (e : ρ y = r) : compR cs ρ x p y = r := by
  unfold compR
  rw [if_neg (by intro z; subst z; simp at h), if_pos (by simpa using hc)]
  exact e
theorem upd_same {σ : Sto} {a : Addr} {o : AO} : upd σ a o a = some o := by unfold upd; rw [if_pos rfl]
theorem upd_other {σ : Sto} {a b : Addr} {o : AO} {r : Option AO} (h : b ≠ a) (e : σ b = r) : upd σ a o b = r := by unfold upd; rw [if_neg h]; exact e
theorem upd_upd {σ : Sto} {a : Addr} {o o' : AO} : upd (upd σ a o) a o' = upd σ a o' := by
  funext b
  unfold upd
  split <;> rfl

section
variable {ρ : Env'} {σ : Sto} {Q : PV → Sto → Prop} {X : Addr → Sto → Prop} {QS : Fl → Env' → Sto → Prop} {XS : Addr → Env' → Sto → Prop} {QB : Bool → Sto → Prop} {QL : List PV → Sto → Prop}
theorem i_seq {a b : TS} (h : a ρ σ (fun f ρ' σ' => match f with | .next => b ρ' σ' QS XS | f => QS f ρ' σ') XS) : tSeq a b ρ σ QS XS := h
theorem i_nil (h : QS .next ρ σ) : tNil ρ σ QS XS := h
theorem i_set {x : Str} {e : TE} (h : e ρ σ (fun p σ' => QS .next (setL ρ x p) σ') (fun c σ' => XS c ρ σ')) : tSet x e ρ σ QS XS := h
theorem i_if {b : TB} {t e : TS} (h : b ρ σ (fun r σ' => if r = true then t ρ σ' QS XS else e ρ σ' QS XS) (fun c σ' => XS c ρ σ')) : tIf b t e ρ σ QS XS := h
theorem i_ret {e : TE} (h : e ρ σ (fun p σ' => QS (.ret p) ρ σ') (fun c σ' => XS c ρ σ')) : tRet e ρ σ QS XS := h
theorem i_expr {e : TE} (h : e ρ σ (fun _ σ' => QS .next ρ σ') (fun c σ' => XS c ρ σ')) : tExpr e ρ σ QS XS := h
theorem i_raise {c : Addr} {ts : TEs} (h : ts ρ σ (fun ps σ' => ps.length ≤ sizeLine ∧ XS c ρ σ') (fun c' σ' => XS c' ρ σ')) : tRaise c ts ρ σ QS XS := h
theorem i_name {x : Str} {p : PV} (h : ρ x = some p) (hq : Q p σ) : tName x ρ σ Q X := by unfold tName; rw [h]; exact hq
theorem i_const {p : PV} (hq : Q p σ) : tConst p ρ σ Q X := hq
theorem i_bin {op : Operator} {l r : TE} (h : l ρ σ (fun a σ₁ => r ρ σ₁ (fun b σ₂ => opP op a b σ₂ Q) X) X) : tBin op l r ρ σ Q X := h
theorem i_add {x y : Int} (h : Q (.int (x + y)) σ) : opP .Add (.int x) (.int y) σ Q := .inl ⟨x, y, rfl, rfl, h⟩
theorem i_sub {x y : Int} (h : Q (.int (x - y)) σ) : opP .Sub (.int x) (.int y) σ Q := ⟨x, y, rfl, rfl, h⟩
theorem i_mul {x y : Int} (hb : (-(2 ^ 64) < x ∧ x < 2 ^ 64) ∨ (-(2 ^ 64) < y ∧ y < 2 ^ 64)) (h : Q (.int (x * y)) σ) : opP .Mult (.int x) (.int y) σ Q := ⟨x, y, rfl, rfl, hb, h⟩
theorem i_div {x y : Int} (h0 : y ≠ 0) (h1 : y.natAbs < 1073741824) (h : Q (.int (x.fdiv y)) σ) : opP .FloorDiv (.int x) (.int y) σ Q := ⟨x, y, rfl, rfl, h0, h1, h⟩
theorem i_mod {x y : Int} (h0 : y ≠ 0) (h : Q (.int (x.fmod y)) σ) : opP .Mod (.int x) (.int y) σ Q := ⟨x, y, rfl, rfl, h0, h⟩
theorem i_divp {x y : Int} (h0 : 0 < y) (h1 : y < 1073741824) (h : Q (.int (x / y)) σ) : opP .FloorDiv (.int x) (.int y) σ Q := i_div (by omega) (by omega) (by rw [Int.fdiv_eq_ediv_of_nonneg x (by omega)]; exact h)
theorem i_modp {x y : Int} (h0 : 0 < y) (h : Q (.int (x % y)) σ) : opP .Mod (.int x) (.int y) σ Q := i_mod (by omega) (by rw [Int.fmod_eq_emod_of_nonneg x (by omega)]; exact h)
theorem i_cat {x y : Addr} {xs ys : List PV} (h1 : σ x = some (.list xs)) (h2 : σ y = some (.list ys)) (h3 : (xs ++ ys).length ≤ 1000000) (h : ∀ c, σ c = none → Q (.ref c) (upd σ c (.list (xs ++ ys)))) : opP .Add (.ref x) (.ref y) σ Q := .inr ⟨x, y, xs, ys, rfl, rfl, h1, h2, h3, h⟩
theorem i_neg {e : TE} (h : e ρ σ (fun a σ₁ => match a with | .int x => Q (.int (-x)) σ₁ | _ => False) X) : tNeg e ρ σ Q X := h
theorem i_cmp {op : CmpOp} {l r : TE} (h : l ρ σ (fun a σ₁ => r ρ σ₁ (fun b σ₂ => cmpP op σ₂ a b fun c => Q (.bool c) σ₂) X) X) : tCmp op l r ρ σ Q X := h
theorem i_cmpB {op : CmpOp} {l r : TE} (h : l ρ σ (fun a σ₁ => r ρ σ₁ (fun b σ₂ => cmpP op σ₂ a b fun c => QB c σ₂) X) X) : tCmpB op l r ρ σ QB X := h
theorem i_chainB {op op' : CmpOp} {l m r : TE} (h : l ρ σ (fun a σ₁ => m ρ σ₁ (fun b σ₂ => cmpP op σ₂ a b fun c => if c = true then r ρ σ₂ (fun d σ₃ => cmpP op' σ₃ b d fun e => QB e σ₃) X else QB false σ₂) X) X) : tChainB op op' l m r ρ σ QB X := h
variable {k : Bool → Prop}
theorem i_lt {x y : Int} (h : k (decide (x < y))) : cmpP .Lt σ (.int x) (.int y) k := ⟨x, y, rfl, rfl, h⟩
theorem i_le {x y : Int} (h : k (decide (x ≤ y))) : cmpP .LtE σ (.int x) (.int y) k := ⟨x, y, rfl, rfl, h⟩
theorem i_gt {x y : Int} (h : k (decide (x > y))) : cmpP .Gt σ (.int x) (.int y) k := ⟨x, y, rfl, rfl, h⟩
theorem i_eqi {x y : Int} (h : k (decide (x = y))) : cmpP .Eq σ (.int x) (.int y) k := .inl ⟨x, y, rfl, rfl, h⟩
theorem i_nei {x y : Int} (h : k (!decide (x = y))) : cmpP .NotEq σ (.int x) (.int y) k := .inl ⟨x, y, rfl, rfl, h⟩
theorem i_eqs {x y : Str} (h : k (decide (x = y))) : cmpP .Eq σ (.str x) (.str y) k := .inr (.inl ⟨x, y, rfl, rfl, h⟩)
theorem i_not {b : TB} (h : b ρ σ (fun r σ' => QB (!r) σ') X) : tNot b ρ σ QB X := h
theorem i_and {b c : TB} (h : b ρ σ (fun r σ' => if r = true then c ρ σ' QB X else QB false σ') X) : tAnd b c ρ σ QB X := h
theorem i_or {b c : TB} (h : b ρ σ (fun r σ' => if r = true then QB true σ' else c ρ σ' QB X) X) : tOr b c ρ σ QB X := h
theorem i_true (h : QB true σ) : tTrue ρ σ QB X := h
theorem i_false (h : QB false σ) : tFalse ρ σ QB X := h
theorem i_test {e : TE} (h : e ρ σ (fun p σ' => match p with | .bool b => QB b σ' | _ => False) X) : tTest e ρ σ QB X := h
theorem i_andE {a b : TE} (h : a ρ σ (fun p σ' => match p with | .bool true => b ρ σ' Q X | .bool false => Q (.bool false) σ' | _ => False) X) : tAndE a b ρ σ Q X := h
theorem i_tup {ts : TEs} (h : ts ρ σ (fun ps σ' => ps.length ≤ 1000000 ∧ Q (.tup ps) σ') X) : tTup ts ρ σ Q X := h
theorem i_list {ts : TEs} (h : ts ρ σ (fun ps σ' => ps.length ≤ 1000000 ∧ ∀ c, σ' c = none → Q (.ref c) (upd σ' c (.list ps))) X) : tList ts ρ σ Q X := h
theorem i_enil (h : QL [] σ) : tEnil ρ σ QL X := h
theorem i_econs {e : TE} {es : TEs} (h : e ρ σ (fun p σ₁ => es ρ σ₁ (fun ps σ₂ => QL (p :: ps) σ₂) X) X) : tEcons e es ρ σ QL X := h
theorem i_call {ts : TEs} {T : TF} (h : ts ρ σ (fun ps σ₁ => T ps σ₁ Q X) X) : tCall ts T ρ σ Q X := h
theorem i_item {a i : TE} (h : a ρ σ (fun p σ₁ => i ρ σ₁ (fun j σ₂ => getP σ₂ p j fun x => Q x σ₂) X) X) : tItem a i ρ σ Q X := h
theorem i_isinst {te : TE} {ok : Ty → Option Bool} (h : te ρ σ (fun p σ' => ∃ ty b, tyOf σ' p = some ty ∧ ok ty = some b ∧ Q (.bool b) σ') X) : tIsinst te ok ρ σ Q X := h
theorem i_len {p : PV} {xs : List PV} (h0 : NR p) (h1 : itemsOf σ p = some xs) (h2 : xs.length < 2 ^ 62) (h : Q (.int xs.length) σ) : lenF [p] σ Q X := ⟨p, xs, rfl, h0, h1, h2, h⟩
theorem i_range {n : Int} (h : Q (.rng 0 n) σ) : rangeF [.int n] σ Q X := ⟨n, rfl, h⟩
theorem i_listF {a : Addr} {xs : List PV} (h1 : σ a = some (.list xs)) (h2 : xs.length ≤ 1000000) (h : ∀ c, σ c = none → Q (.ref c) (upd σ c (.list xs))) : listF [.ref a] σ Q X := .inl ⟨a, xs, rfl, h1, h2, h⟩
theorem i_tupleF {a : Addr} {xs : List PV} (h1 : σ a = some (.list xs)) (h2 : xs.length ≤ 1000000) (h : Q (.tup xs) σ) : tupleF [.ref a] σ Q X := ⟨a, xs, rfl, h1, h2, h⟩
theorem i_get {a x : PV} {i : Int} {xs : List PV} {kk : PV → Prop} (h0 : 0 ≤ i) (h1 : i < 2 ^ 62) (h2 : itemsOf σ a = some xs) (h3 : NR a) (h4 : xs[i.toNat]? = some x) (h : kk x) : getP σ a (.int i) kk :=
  ⟨i, rfl, by omega, h1, xs, h2, h3, .inl ⟨h0, x, h4, h⟩⟩
theorem i_meth {T : Addr → TF} {o : TE} {ts : TEs} (h : o ρ σ (fun p σ₁ => match p with | .ref a => (∃ xs, σ₁ a = some (.list xs)) ∧ ts ρ σ₁ (fun ps σ₂ => T a ps σ₂ Q X) X | _ => False) X) : tMeth T o ts ρ σ Q X := h
theorem i_append {a : Addr} {v : PV} {xs : List PV} (h1 : σ a = some (.list xs)) (h2 : xs.length ≤ 1000000) (h : Q .none (upd σ a (.list (xs ++ [v])))) : appendF a [v] σ Q X := ⟨v, xs, rfl, h1, h2, h⟩
theorem i_insert {a : Addr} {i : Int} {v : PV} {xs : List PV} (h0 : 0 ≤ i) (h3 : i < 2 ^ 62) (h1 : σ a = some (.list xs)) (h2 : xs.length ≤ 1000000) (h : Q .none (upd σ a (.list (xs.take i.toNat ++ v :: xs.drop i.toNat)))) : insertF a [.int i, v] σ Q X := ⟨i, v, xs, rfl, h0, h3, h1, h2, h⟩
theorem i_store {o i v : TE} (h : v ρ σ (fun p σ₁ => o ρ σ₁ (fun a σ₂ => i ρ σ₂ (fun j σ₃ => setP σ₃ a j p fun σ₄ => QS .next ρ σ₄) (fun c σ' => XS c ρ σ')) (fun c σ' => XS c ρ σ')) (fun c σ' => XS c ρ σ')) : tStore o i v ρ σ QS XS := h
theorem i_setP {a : Addr} {i : Int} {v : PV} {xs : List PV} {kk : Sto → Prop} (h0 : 0 ≤ i) (h1 : σ a = some (.list xs)) (h2 : i < xs.length) (h3 : xs.length ≤ 1000000) (h : kk (upd σ a (.list (xs.set i.toNat v)))) : setP σ (.ref a) (.int i) v kk := ⟨a, i, xs, rfl, rfl, h0, h1, h2, h3, h⟩
theorem i_unpack {xs : List Str} {te : TE} (h : te ρ σ (fun p σ' => ∃ ps, p = .tup ps ∧ ps.length = xs.length ∧ QS .next (bindP xs ps ρ) σ') (fun c σ' => XS c ρ σ')) : tUnpack xs te ρ σ QS XS := h
theorem i_slice {te : TE} {tl tu : TP} (h : te ρ σ (fun p σ₁ => tl ρ σ₁ (fun lo σ₂ => tu ρ σ₂ (fun hi σ₃ => ∃ xs, partOk lo ∧ partOk hi ∧ LR p ∧ itemsOf σ₃ p = some xs ∧ xs.length ≤ sizeLine ∧
  ∀ a, σ₃ a = none → Q (.ref a) (upd σ₃ a (.list (cutL xs lo hi)))) X) X) X) : tSlice te tl tu ρ σ Q X := h
theorem i_pnone {QP : Option Int → Sto → Prop} (h : QP none σ) : tPnone ρ σ QP X := h
theorem i_psome {QP : Option Int → Sto → Prop} {t : TE} (h : t ρ σ (fun p σ' => ∃ i, p = .int i ∧ QP (some i) σ') X) : tPsome t ρ σ QP X := h
theorem i_fun {names : List Str} {tb : TS} {ps : List PV} (h0 : ps.length = names.length) (h : tb (bindP names ps fun _ => none) σ (fun fl _ σ' => match fl with | .ret p => Q p σ' | .next => Q .none σ' | _ => False) (fun c _ σ' => X c σ')) : tFun names tb ps σ Q X := ⟨h0, h⟩
theorem i_try {n : Str} {cls : List Addr} {tb th : TS} (h : tb ρ σ QS (fun c ρ' σ' => c ∈ cls ∧ ∀ a, σ' a = none → th (setL ρ' n (.exc a c)) σ' (fun fl ρ'' σ'' => QS fl (unL ρ'' n) σ'') (fun _ _ _ => False))) : tTry n cls tb th ρ σ QS XS := h
theorem i_for {x : Str} {ti : TE} {tb : TS} (h : ti ρ σ (fun p σ₁ => ∃ xs, itemsOf σ₁ p = some xs ∧ iterOk p ∧ forL x tb (fun σ' => itemsOf σ' p = some xs) xs ρ σ₁ QS XS) (fun c σ' => XS c ρ σ')) : tFor x ti tb ρ σ QS XS := h
theorem i_comp {x : Str} {cs : List Str} {ti : TE} {tt : TB} {te : TE} (h : ti ρ σ (fun p σ₁ => ∃ xs, itemsOf σ₁ p = some xs ∧ iterOk p ∧ xs.length ≤ sizeLine ∧
  compL x cs tt te (fun σ' => itemsOf σ' p = some xs) ρ xs [] σ₁ (fun ys σ₂ => ∀ a, σ₂ a = none → Q (.ref a) (upd σ₂ a (.list ys)))) X) : tComp x cs ti tt te ρ σ Q X := h
end
theorem ite_t {A B : Prop} (h : A) : if true = true then A else B := by rw [if_pos rfl]; exact h
theorem ite_f {A B : Prop} (h : B) : if false = true then A else B := by rw [if_neg (by decide)]; exact h
theorem ite_d {p A B : Prop} [Decidable p] (h1 : p → A) (h2 : ¬ p → B) : if decide p = true then A else B := by
  by_cases h : p
  · rw [if_pos (by simpa using h)]; exact h1 h
  · rw [if_neg (by simpa using h)]; exact h2 h
theorem ite_nd {p A B : Prop} [Decidable p] (h1 : ¬ p → A) (h2 : p → B) : if (!decide p) = true then A else B := by
  by_cases h : p
  · rw [if_neg (by simpa using h)]; exact h2 h
  · rw [if_pos (by simpa using h)]; exact h1 h
end Mine
namespace Mine
open PySem PyProof.Rows PySem.Calls
section
variable {ρ : Env'} {σ : Sto} {Q : PV → Sto → Prop} {X : Addr → Sto → Prop} {QS : Fl → Env' → Sto → Prop} {XS : Addr → Env' → Sto → Prop}
noncomputable abbrev env0 : Env' := fun _ => none
noncomputable abbrev funQ (Q : PV → Sto → Prop) : Fl → Env' → Sto → Prop := fun fl _ σ' => match fl with | .ret p => Q p σ' | .next => Q .none σ' | _ => False
noncomputable abbrev funX (X : Addr → Sto → Prop) : Addr → Env' → Sto → Prop := fun c _ σ' => X c σ'
theorem i_fun1 {x1 : Str} {tb : TS} {p1 : PV} (h : tb (setL env0 x1 p1) σ (funQ Q) (funX X)) : tFun [x1] tb [p1] σ Q X := ⟨rfl, h⟩
theorem i_fun2 {x1 x2 : Str} {tb : TS} {p1 p2 : PV} (h : tb (setL (setL env0 x1 p1) x2 p2) σ (funQ Q) (funX X)) : tFun [x1, x2] tb [p1, p2] σ Q X := ⟨rfl, h⟩
theorem i_fun3 {x1 x2 x3 : Str} {tb : TS} {p1 p2 p3 : PV} (h : tb (setL (setL (setL env0 x1 p1) x2 p2) x3 p3) σ (funQ Q) (funX X)) : tFun [x1, x2, x3] tb [p1, p2, p3] σ Q X := ⟨rfl, h⟩
theorem i_fun4 {x1 x2 x3 x4 : Str} {tb : TS} {p1 p2 p3 p4 : PV} (h : tb (setL (setL (setL (setL env0 x1 p1) x2 p2) x3 p3) x4 p4) σ (funQ Q) (funX X)) : tFun [x1, x2, x3, x4] tb [p1, p2, p3, p4] σ Q X := ⟨rfl, h⟩
end
end Mine
namespace Mine
open PySem PyProof.Rows PySem.Calls
noncomputable def Ext (σ σ' : Sto) : Prop := ∀ a o, σ a = some o → σ' a = some o
theorem Ext.trans {σ σ₁ σ₂ : Sto} (x : Ext σ σ₁) (y : Ext σ₁ σ₂) : Ext σ σ₂ := fun a o e => y a o (x a o e)
theorem Ext.upd {σ : Sto} {a : Addr} {o : AO} (h : σ a = none) : Ext σ (upd σ a o) := fun b o' e => by
  refine upd_other ?_ e
  rintro rfl
  rw [h] at e; cases e
theorem Ext.upd' {σ σ' : Sto} {a : Addr} {o : AO} (x : Ext σ σ') (h : σ a = none) : Ext σ (Mine.upd σ' a o) := fun b o' e => by
  refine upd_other ?_ (x b o' e)
  rintro rfl
  rw [h] at e; cases e
theorem Ext.ty {σ σ' : Sto} (x : Ext σ σ') {p : PV} {t : Ty} (h : tyOf σ p = some t) : tyOf σ' p = some t := by
  cases p with
  | ref a =>
    unfold tyOf at h ⊢
    dsimp only at h ⊢
    split at h
    · rename_i e; rw [x a _ e]; exact h
    · rename_i e; rw [x a _ e]; exact h
    · cases h
  | _ => exact h
theorem forL_step {x : Str} {tb : TS} {ok : Sto → Prop} {Q : Fl → Env' → Sto → Prop} {X : Addr → Env' → Sto → Prop} (I : List PV → Env' → Sto → Prop) (J : PV → Env' → Sto → Prop)
    (step : ∀ p ps ρ σ (Qb : Fl → Env' → Sto → Prop), I (p :: ps) ρ σ → (∀ ρ' σ', ok σ' → I ps ρ' σ' → Qb .next ρ' σ') → (∀ v ρ' σ', J v ρ' σ' → Qb (.ret v) ρ' σ') → tb (setL ρ x p) σ Qb X)
    (fin : ∀ ρ σ, I [] ρ σ → Q .next ρ σ) (ret : ∀ v ρ σ, J v ρ σ → Q (.ret v) ρ σ) : ∀ xs ρ σ, I xs ρ σ → forL x tb ok xs ρ σ Q X
  | [], ρ, σ, h => fin ρ σ h
  | p :: ps, ρ, σ, h => by
    unfold forL
    exact step p ps ρ σ _ h (fun ρ' σ' h1 h2 => ⟨h1, forL_step I J step fin ret ps ρ' σ' h2⟩) fun v ρ' σ' h1 => ret v ρ' σ' h1
theorem compL_all {x : Str} {cs : List Str} {te : TE} {ok : Sto → Prop} {ρ : Env'} {σ : Sto} {Q : List PV → Sto → Prop} (P : PV → PV → Prop) (hok : ok σ) : ∀ (xs acc : List PV),
    (∀ p ∈ xs, ∀ Q' : PV → Sto → Prop, (∀ y, P p y → Q' y σ) → te (compR cs ρ x p) σ Q' nope) →
    (∀ ys, Paired P xs ys → Q (acc ++ ys) σ) → compL x cs tTrue te ok ρ xs acc σ Q
  | [], acc, _, hq => by
    have := hq [] .nil
    rw [List.append_nil] at this
    exact this
  | p :: ps, acc, h, hq => by
    show (if true = true then te (compR cs ρ x p) σ (fun y σ₂ => ok σ₂ ∧ compL x cs tTrue te ok ρ ps (acc ++ [y]) σ₂ Q) nope else ok σ ∧ compL x cs tTrue te ok ρ ps acc σ Q)
    refine ite_t (h p (.head _) _ fun y hy => ⟨hok, ?_⟩)
    refine compL_all P hok ps (acc ++ [y]) (fun p' hp' => h p' (.tail _ hp')) fun ys hys => ?_
    have := hq (y :: ys) (.cons hy hys)
    rwa [List.append_assoc]
end Mine
namespace Mine
open PySem PyProof.Rows PySem.Calls
section
variable {σ : Sto} {Q : PV → Sto → Prop} {X : Addr → Sto → Prop} {kk : PV → Prop}
theorem ite_nt {A B : Prop} (h : A) : if (!false) = true then A else B := ite_t h
theorem ite_nf {A B : Prop} (h : B) : if (!true) = true then A else B := ite_f h
theorem i_g0 {a : PV} {xs : List PV} (h : kk a) : getP σ (.tup (a :: xs)) (.int 0) kk := i_get (by decide) (by decide) rfl trivial rfl h
theorem i_g1 {a b : PV} {xs : List PV} (h : kk b) : getP σ (.tup (a :: b :: xs)) (.int 1) kk := i_get (by decide) (by decide) rfl trivial rfl h
theorem i_g2 {a b c : PV} {xs : List PV} (h : kk c) : getP σ (.tup (a :: b :: c :: xs)) (.int 2) kk := i_get (by decide) (by decide) rfl trivial rfl h
end
end Mine
namespace Mine
theorem al {σ σ1 : Sto} {w : PySem.Addr} {o : AO} (h : upd σ w o = σ1) (hw : σ w = none) : Ext σ σ1 ∧ σ1 w = some o := by subst h; exact ⟨Ext.upd hw, upd_same⟩
end Mine

set_option autoImplicit false
set_option linter.unusedVariables false
namespace Mine
open PySem
/-- a value that reads as data of no great depth -/
noncomputable def Flat (k : Nat) (σ : Sto) (p : PV) : Prop := ∃ d, DataOf σ p d ∧ d.canLay0 = true ∧ d.depth ≤ k
theorem flat_int {k : Nat} {σ : Sto} {i : Int} : Flat k σ (.int i) := ⟨_, .int i, rfl, Nat.zero_le _⟩
theorem flats {k : Nat} {σ : Sto} : ∀ {xs : List PV}, (∀ x ∈ xs, Flat k σ x) → ∃ ds, DatasOf σ xs ds ∧ PyData.canLayAll0 ds = true ∧ PyData.depthAll ds ≤ k
  | [], _ => ⟨[], .nil, rfl, Nat.zero_le _⟩
  | x :: xs, h => by
    obtain ⟨d, h1, h2, h3⟩ := h x (.head _)
    obtain ⟨ds, h4, h5, h6⟩ := flats fun y hy => h y (.tail _ hy)
    exact ⟨d :: ds, .cons h1 h4, by simp [PyData.canLayAll0, h2, h5], by simp [PyData.depthAll]; omega⟩
theorem flat_tup {k : Nat} {σ : Sto} {xs : List PV} (h : ∀ x ∈ xs, Flat k σ x) : Flat (k + 1) σ (.tup xs) := by
  obtain ⟨ds, h1, h2, h3⟩ := flats h
  exact ⟨.tuple ds, .tup h1, by simpa [PyData.canLay0] using h2, by simp [PyData.depth]; omega⟩
theorem flat_tup3 {k : Nat} {σ : Sto} {a b c : PV} (h1 : Flat k σ a) (h2 : Flat k σ b) (h3 : Flat k σ c) : Flat (k + 1) σ (.tup [a, b, c]) := flat_tup fun x hx => by
  simp only [List.mem_cons, List.not_mem_nil, or_false] at hx
  rcases hx with rfl | rfl | rfl <;> assumption
end Mine
namespace Mine
open PySem
theorem i_eqss {σ : Sto} {x : Str} {k : Bool → Prop} (h : k true) : cmpP .Eq σ (.str x) (.str x) k := by
  refine i_eqs ?_
  rw [show decide (x = x) = true from by simp]
  exact h
end Mine

set_option autoImplicit false
set_option linter.unusedVariables false
set_option maxRecDepth 100000
namespace Mine
open PySem PyProof.Rows PySem.Calls PySem.W
/-! all, sorted, len(set(..)), exchanged stores -/
section
variable {g : Gx} {n : Nat} {q : Bool} {sc : Scope}
end
end Mine

set_option autoImplicit false
set_option linter.unusedVariables false
namespace Mine
open PySem
section
variable {ρ : Env'} {σ : Sto} {Q : PV → Sto → Prop} {X : Addr → Sto → Prop} {QS : Fl → Env' → Sto → Prop} {XS : Addr → Env' → Sto → Prop}
end
end Mine

set_option autoImplicit false
set_option linter.unusedVariables false
namespace Mine
open PySem PyProof.Rows PySem.Calls
noncomputable def maxF : TF := fun ps σ Q _ => ∃ a b, ps = [.int a, .int b] ∧ Q (.int (max a b)) σ
noncomputable def minF : TF := fun ps σ Q _ => ∃ a b, ps = [.int a, .int b] ∧ Q (.int (min a b)) σ
section
variable {g : Gx} {n : Nat} {q : Bool}
theorem bi_max (hqt : q = true) : SoundBI g n q (.builtin "max") maxF := by
  intro A fr s vals ps σ Q X hfr hroom hq H R ht
  obtain ⟨a, b, rfl, ht⟩ := ht
  obtain ⟨u, v, rfl, ra, rb⟩ := reps_two R
  obtain ⟨t, rfl⟩ := inv_int ra
  obtain ⟨t', rfl⟩ := inv_int rb
  refine max_two_ints (hq hqt) fun h' tk kp => ⟨h', tk, _, σ, rfl, Step.keeps kp, H.sim.keeps kp, ?_, ht⟩
  by_cases h : b > a
  · rw [if_pos h, Int.max_eq_right (Int.le_of_lt h)]; exact .int _ _
  · rw [if_neg h, Int.max_eq_left (Int.not_lt.mp h)]; exact .int _ _
theorem bi_min (hqt : q = true) : SoundBI g n q (.builtin "min") minF := by
  intro A fr s vals ps σ Q X hfr hroom hq H R ht
  obtain ⟨a, b, rfl, ht⟩ := ht
  obtain ⟨u, v, rfl, ra, rb⟩ := reps_two R
  obtain ⟨t, rfl⟩ := inv_int ra
  obtain ⟨t', rfl⟩ := inv_int rb
  refine min_two_ints (hq hqt) fun h' tk kp => ⟨h', tk, _, σ, rfl, Step.keeps kp, H.sim.keeps kp, ?_, ht⟩
  by_cases h : b < a
  · rw [if_pos h, Int.min_eq_right (Int.le_of_lt h)]; exact .int _ _
  · rw [if_neg h, Int.min_eq_left (Int.not_lt.mp h)]; exact .int _ _
theorem i_max {a b : Int} {σ : Sto} {Q : PV → Sto → Prop} {X : Addr → Sto → Prop} (h : Q (.int (max a b)) σ) : maxF [.int a, .int b] σ Q X := ⟨a, b, rfl, h⟩
theorem i_min {a b : Int} {σ : Sto} {Q : PV → Sto → Prop} {X : Addr → Sto → Prop} (h : Q (.int (min a b)) σ) : minF [.int a, .int b] σ Q X := ⟨a, b, rfl, h⟩
theorem i_pow {x y : Int} {σ : Sto} {Q : PV → Sto → Prop} (h0 : 0 ≤ y) (h1 : y ≤ 1000) (h2 : x.natAbs < 2 ^ 64) (h : Q (.int (x ^ y.toNat)) σ) : opP .Pow (.int x) (.int y) σ Q := ⟨x, y, rfl, rfl, h0, h1, h2, h⟩
end
end Mine

set_option autoImplicit false
namespace Mine
end Mine

set_option autoImplicit false
namespace Mine
open PySem PyProof.Rows PySem.Calls PySem.W
section
variable {p : Program} {w : World} {m n b : Nat} {a : Option Value} {s : Shared} {st : SharedT} {t : Thread}
theorem q_go {s' : Shared} {c : Code} {q : Pos} {B : List Frame} (h : PySem.W.Fast.tw15667345088766844465 PySem.W.Fast.tw14364793385576792824 p w m a n s t = some (s', ⟨PySem.W.Fast.tw11892475500146522536 PySem.W.Fast.tw14364793385576792824 c, c, q, B⟩)) : topGo treeTable p w m a n s t = some (s', ⟨denote treeTable c, c, q, B⟩) := by
  rw [PySem.W.Fast.te15667345088766844465, PySem.W.Fast.te14364793385576792824, PySem.W.Fast.te11892475500146522536]; exact h
theorem q_run {r : Option (Flow × Shared × Code × Pos)} (h : PySem.W.Fast.tw14374325043358763698 PySem.W.Fast.tw14364793385576792824 p w m a b n s t = r) : segRun treeTable p w m a b n s t = r := by
  rw [PySem.W.Fast.te14374325043358763698, PySem.W.Fast.te14364793385576792824]; exact h
theorem q_seg {r : Option (Flow × SharedT × Code × Pos)} (h : PySem.W.Fast.tw10110043849684766642 PySem.W.Fast.tw14364793385576792824 p w m a b n st t = r) : segRunT treeTable p w m a b n st t = r := by
  rw [PySem.W.Fast.te10110043849684766642, PySem.W.Fast.te14364793385576792824]; exact h
theorem q_top {r : Option Shared} (h : PySem.W.Fast.tw14082659384304107361 PySem.W.Fast.tw14364793385576792824 p w m a n s t = r) : topRun treeTable p w m a n s t = r := by
  rw [PySem.W.Fast.te14082659384304107361, PySem.W.Fast.te14364793385576792824]; exact h
end
theorem rest_eq {tb : String → Option Builtin} {p : Program} {w : World} {m n : Nat} {a : Option Value} {s r : Shared} {l l' : List Stmt} {env : Env} {c : Code} {q : Pos} {B : List Frame} (e : l = l') (k : topRun tb p w m a n s (restOf l' env c q B) = some r) : topRun tb p w m a n s (restOf l env c q B) = some r := by rw [e]; exact k
theorem seen_eq {q : Program} {loose mods : List Str} {Xt : Shared → Bool} {s : Shared} (h1 : seen ((recsOf q).map (·.name)) (ownsOf q) [] { s with gens := #[] } = expectedOf q) (h2 : s.heap.bltView = bltViewBooted)
    (h3 : (s.heap.keysOk (looseW q loose) ((recsOf q).map (·.name)) ((litsOf q).map (·.1)) ((clssOf q (looseW q loose)).map (·.name)) && s.heap.accountedOkI mods && s.heap.isNs mainGlobals && s.heap.isNs builtinsNs && tablesOk q s.heap && Xt s && (if true then s.gens.size == 0 else !leftWithCleanup s.gens)) = true)
    (h4 : tabsOk q s = true) (h5 : pinSeenD q (drecsOf q) s = pinGoodD (drecsOf q)) (h6 : plainSeenE q (looseW q loose) s = plainGoodE q (looseW q loose)) (h7 : plainSeenD q loose s = plainGoodD q loose) (h8 : wideSeen q s = wideGood q) (h9 : clsSeenW q loose s = clsGoodW q loose) :
    openSeen q loose mods Xt true s = openGood q loose := by
  unfold openSeen openGood
  exact looks_pair h1 (looks_pair h2 (looks_pair h3 (looks_pair h4 (looks_pair h5 (looks_pair h6 (looks_pair h7 (looks_pair h8 h9)))))))
theorem left_of {p q : Program} {loose : List Str} {Xt : Shared → Bool} {α : Type} {Yf : Shared → α} {Ya : World → α} {N : Nat} {H₀ H₁ : Params → Heap} {gs₀ gs₁ : Array GenState} {d₀ d₁ : Drawn} {k₀ k₁ : Nat} {m₀ : Nat} {ann : Option Value} {M : Nat}
    (open_ : ∀ w : World, (fencedOpening treeTable p w N).map (fun s => (s.heap, s.gens, s.drawn, s.toks)) = some (H₀ w.params, gs₀, d₀, k₀))
    (size : ∀ w : World, ((H₀ w.params).isNs mainGlobals && gs₀.size == 0, (H₀ w.params).objs.size, (H₀ w.params).nsMap mainGlobals "__annotations__") = (true, m₀, ann))
    (run : ∀ (w : World) (os : OsState), topRun treeTable p w m₀ ann M ⟨H₀ w.params, gs₀, d₀, k₀, os⟩ (topStub p) = some ⟨H₁ w.params, gs₁, d₁, k₁, os⟩) (le : Nat.ble M N = true)
    (l0 : ∀ (w : World) (os : OsState), (staticsOk (importedModules p.main.body) (H₀ w.params) (H₁ w.params) && namesBound p (H₁ w.params) && gensDone ⟨H₁ w.params, gs₁, d₁, k₁, os⟩ && laidKept (H₀ w.params) (H₁ w.params)) = true)
    (l1 : ∀ (w : World) (os : OsState), openSeen q loose (importedModules p.main.body) Xt true ⟨H₁ w.params, gs₁, d₁, k₁, os⟩ = openGood q loose) (l2 : ∀ (w : World) (os : OsState), Yf ⟨H₁ w.params, gs₁, d₁, k₁, os⟩ = Ya w) : LeftO p q loose Xt Yf Ya N true :=
  LeftO.of_pieces open_ size run le fun w => funext fun os => looks_pair (l0 w os) (looks_pair (l1 w os) (l2 w os))
set_option maxRecDepth 100000
noncomputable def fnS (i : Nat) : Stmt := (PySem.Challenge.pw_uf030027_05.main.body[i]?).getD (.Pass ⟨0, 0, 0, 0⟩)
noncomputable def fnA : Stmt → Arguments | .FunctionDef _ a _ _ _ _ _ _ _ _ => a | _ => ⟨[], [], Option.none, [], [], Option.none, []⟩
noncomputable def fnB : Stmt → List Stmt | .FunctionDef _ _ b _ _ _ _ _ _ _ => b | _ => []
noncomputable def fnC : Stmt → Scope | .FunctionDef _ _ _ _ _ _ s _ _ _ => s | _ => ⟨.function, [], false, false, []⟩
noncomputable def o0 (_ : Params) : Obj := ⟨(.type "tuple"), Option.none, (.seq #[] 0), #[]⟩
noncomputable def o1 (_ : Params) : Obj := ⟨.none, Option.none, (.fields #[]), #[]⟩
noncomputable def o2 (_ : Params) : Obj := ⟨(.type "code"), Option.none, (.fields #[(.str "<module>" 182), (.str "<module>" 183), (.str "/claim/cut.py" 184), (.int 1 0), (.int 0 0), (.int 0 0), (.int 0 0), (.int 0 0), (.ref 11), (.bool false), (.int 181 0), (.ref 12), .none, .none, .none, .none, (.int 185 0), (.int 1 0), (.str "/claim/cut.py" 186)]), #[]⟩
noncomputable def o3 (_ : Params) : Obj := ⟨(.type "frame"), Option.none, .plain, #[(Option.some (.ref 13)), (Option.some (.ref 3)), (Option.some (.ref 3)), Option.none, (Option.some (.str "__main__" 164)), Option.none, (Option.some (.ref 0))]⟩
noncomputable def hpA (P : Params) : Heap := ⟨#[boot_o_0 P, boot_o_1 P, boot_o_2 P, boot_o_3 P, boot_o_4 P, boot_o_5 P, boot_o_6 P, boot_o_7 P, boot_o_8 P, boot_o_9 P, boot_o_10 P, o0 P, o1 P, o2 P, o3 P], ⟨[], [], [], 0, [], [], false, #[], [], 0, false, false, false, 0, [2000, 10, 10], false, 0, true, [], [], 0, false⟩⟩
noncomputable def tr0 (P : Params) : BT := (.node (boot_o_0 P) (.node (boot_o_1 P) (.node (boot_o_3 P) (.node (boot_o_7 P) .nil .nil) (.node (o0 P) .nil .nil)) (.node (boot_o_5 P) (.node (boot_o_9 P) .nil .nil) (.node (o2 P) .nil .nil))) (.node (boot_o_2 P) (.node (boot_o_4 P) (.node (boot_o_8 P) .nil .nil) (.node (o1 P) .nil .nil)) (.node (boot_o_6 P) (.node (boot_o_10 P) .nil .nil) (.node (o3 P) .nil .nil))))
noncomputable def S0 (w : World) (os : OsState) : SharedT := ⟨tr0 w.params, 15, ⟨[], [], [], 0, [], [], false, #[], [], 0, false, false, false, 0, [2000, 10, 10], false, 0, true, [], [], 0, false⟩, #[], ⟨0, 0, 0, 0⟩, 187, os⟩
noncomputable def enQ : Env := { scope := PySem.Challenge.pw_uf030027_05.main.scope, locals := mainNs, globals := mainNs, cells := [], code := (.ref 13), frame := some 14 }
noncomputable abbrev bdQ : List Stmt := behindTheImports PySem.Challenge.pw_uf030027_05
noncomputable abbrev cdQ : Code := .body bdQ enQ
noncomputable abbrev ps0 : Pos := ⟨0, 0, 0, 0⟩
noncomputable abbrev an0 : Option Value := (Option.some (.ref 6))
noncomputable def o4 (P : Params) : Obj := ⟨(.type "dict"), Option.none, (.dict #[⟨(PyData.keyHash P "__name__"), (.str "__name__" 165), (.str "clearday.errors" 187)⟩, ⟨(PyData.keyHash P "__doc__"), (.str "__doc__" 166), .none⟩, ⟨(PyData.keyHash P "__package__"), (.str "__package__" 167), .none⟩, ⟨(PyData.keyHash P "__loader__"), (.str "__loader__" 168), (.builtin "__main__.__loader__#opaque")⟩, ⟨(PyData.keyHash P "__spec__"), (.str "__spec__" 169), .none⟩, ⟨(PyData.keyHash P "__annotations__"), (.str "__annotations__" 170), (.ref 6)⟩, ⟨(PyData.keyHash P "__builtins__"), (.str "__builtins__" 171), (.ref 4)⟩, ⟨(PyData.keyHash P "__file__"), (.str "__file__" 173), (.str "/claim/cut.py" 172)⟩, ⟨(PyData.keyHash P "__cached__"), (.str "__cached__" 174), .none⟩, ⟨(PyData.keyHash P "DebtError"), (.str "DebtError" 206), (.ref 24)⟩] 10), #[]⟩
noncomputable def o5 (_ : Params) : Obj := ⟨.none, Option.none, (.fields #[(.int 2 0), (.int 0 0), (.ref 20)]), #[]⟩
noncomputable def o6 (_ : Params) : Obj := ⟨(.type "tuple"), Option.none, (.seq #[(.type "ValueError")] 0), #[]⟩
noncomputable def o7 (_ : Params) : Obj := ⟨(.type "builtin_function_or_method"), Option.none, (.fields #[(.builtin "type.__prepare__"), (.type "type")]), #[]⟩
noncomputable def o8 (P : Params) : Obj := ⟨(.type "dict"), Option.none, (.dict #[⟨(PyData.keyHash P "__module__"), (.str "__module__" 196), (.str "clearday.errors" 187)⟩, ⟨(PyData.keyHash P "__qualname__"), (.str "__qualname__" 198), (.str "DebtError" 197)⟩, ⟨(PyData.keyHash P "__firstlineno__"), (.str "__firstlineno__" 200), (.int 2 199)⟩, ⟨(PyData.keyHash P "__static_attributes__"), (.str "__static_attributes__" 201), (.ref 22)⟩] 4), #[]⟩
noncomputable def o9 (_ : Params) : Obj := ⟨(.type "tuple"), Option.none, (.seq #[] 0), #[]⟩
noncomputable def o10 (_ : Params) : Obj := ⟨.none, Option.none, (.fields #[]), #[]⟩
noncomputable def o11 (_ : Params) : Obj := ⟨(.type "code"), Option.none, (.fields #[(.str "DebtError" 191), (.str "DebtError" 192), (.str "/claim/cut.py" 193), (.int 2 0), (.int 0 0), (.int 0 0), (.int 0 0), (.int 0 0), (.ref 18), (.bool false), (.int 181 0), (.ref 19), .none, .none, .none, .none, (.int 194 0), (.int 2 0), (.str "/claim/cut.py" 195)]), #[]⟩
noncomputable def o12 (_ : Params) : Obj := ⟨(.type "frame"), Option.none, .plain, #[(Option.some (.ref 20)), (Option.some (.ref 3)), (Option.some (.ref 17)), Option.none, (Option.some (.str "clearday.errors" 187)), Option.none, (Option.some (.ref 0))]⟩
noncomputable def o13 (_ : Params) : Obj := ⟨(.type "tuple"), Option.none, (.seq #[] 0), #[]⟩
noncomputable def o14 (P : Params) : Obj := ⟨(.type "dict"), Option.none, (.dict #[⟨(PyData.keyHash P "__module__"), (.str "__module__" 196), (.str "clearday.errors" 187)⟩, ⟨(PyData.keyHash P "__firstlineno__"), (.str "__firstlineno__" 200), (.int 2 199)⟩, ⟨(PyData.keyHash P "__static_attributes__"), (.str "__static_attributes__" 201), (.ref 22)⟩, ⟨(PyData.keyHash P "__weakref__"), (.str "__weakref__" 203), (.ref 25)⟩, ⟨(PyData.keyHash P "__doc__"), (.str "__doc__" 204), .none⟩] 3), #[]⟩
noncomputable def o15 (_ : Params) : Obj := ⟨(.type "type"), Option.none, (.cls ⟨"DebtError", [(.type "ValueError")], [(.ref 24), (.type "ValueError"), (.type "Exception"), (.type "BaseException"), (.type "object")], 23, "DebtError", true, [], [], false, Option.none, false⟩), #[(Option.some (.ref 15)), Option.none, (Option.some (.str "DebtError" 189)), (Option.some (.str "DebtError" 197)), (Option.some (.builtin "ValueError.__new__")), (Option.some (.bool true))]⟩
noncomputable def o16 (_ : Params) : Obj := ⟨(.type "getset_descriptor"), Option.none, (.fields #[(.str "__weakref__" 202), (.ref 24), (.builtin "ExceptionGroup.__weakref__"), .none]), #[]⟩
noncomputable def o17 (_ : Params) : Obj := ⟨(.type "super"), Option.none, (.fields #[(.ref 24), (.ref 24), (.ref 24)]), #[]⟩
noncomputable def o18 (_ : Params) : Obj := ⟨(.type "builtin_function_or_method"), Option.none, (.fields #[(.builtin "object.__init_subclass__"), (.ref 24)]), #[]⟩
noncomputable def tr1 (P : Params) : BT := (.node (boot_o_0 P) (.node (boot_o_1 P) (.node (o4 P) (.node (boot_o_7 P) (.node (o6 P) .nil .nil) (.node (o14 P) .nil .nil)) (.node (o0 P) (.node (o10 P) .nil .nil) (.node (o18 P) .nil .nil))) (.node (boot_o_5 P) (.node (boot_o_9 P) (.node (o8 P) .nil .nil) (.node (o16 P) .nil .nil)) (.node (o2 P) (.node (o12 P) .nil .nil) .nil))) (.node (boot_o_2 P) (.node (boot_o_4 P) (.node (boot_o_8 P) (.node (o7 P) .nil .nil) (.node (o15 P) .nil .nil)) (.node (o5 P) (.node (o11 P) .nil .nil) .nil)) (.node (boot_o_6 P) (.node (boot_o_10 P) (.node (o9 P) .nil .nil) (.node (o17 P) .nil .nil)) (.node (o3 P) (.node (o13 P) .nil .nil) .nil))))
noncomputable def S1 (w : World) (os : OsState) : SharedT := ⟨tr1 w.params, 28, ⟨[], [], [], 0, [], [], false, #[], [], 0, false, false, false, 0, [2000, 10, 10], false, 0, true, [], [], 0, false⟩, #[], ⟨0, 0, 0, 0⟩, 207, os⟩
noncomputable def ss0 : List Stmt := (bdQ.drop 0).take 2
noncomputable def o19 (P : Params) : Obj := ⟨(.type "dict"), Option.none, (.dict #[⟨(PyData.keyHash P "__name__"), (.str "__name__" 165), (.str "clearday.errors" 187)⟩, ⟨(PyData.keyHash P "__doc__"), (.str "__doc__" 166), .none⟩, ⟨(PyData.keyHash P "__package__"), (.str "__package__" 167), .none⟩, ⟨(PyData.keyHash P "__loader__"), (.str "__loader__" 168), (.builtin "__main__.__loader__#opaque")⟩, ⟨(PyData.keyHash P "__spec__"), (.str "__spec__" 169), .none⟩, ⟨(PyData.keyHash P "__annotations__"), (.str "__annotations__" 170), (.ref 6)⟩, ⟨(PyData.keyHash P "__builtins__"), (.str "__builtins__" 171), (.ref 4)⟩, ⟨(PyData.keyHash P "__file__"), (.str "__file__" 173), (.str "/claim/cut.py" 172)⟩, ⟨(PyData.keyHash P "__cached__"), (.str "__cached__" 174), .none⟩, ⟨(PyData.keyHash P "DebtError"), (.str "DebtError" 206), (.ref 24)⟩, ⟨(PyData.keyHash P "BadCount"), (.str "BadCount" 222), (.ref 37)⟩] 11), #[]⟩
noncomputable def o20 (_ : Params) : Obj := ⟨.none, Option.none, (.fields #[(.int 2 0), (.int 0 0), (.ref 20), (.int 4 0), (.int 0 0), (.ref 33)]), #[]⟩
noncomputable def o21 (_ : Params) : Obj := ⟨(.type "type"), Option.none, (.cls ⟨"DebtError", [(.type "ValueError")], [(.ref 24), (.type "ValueError"), (.type "Exception"), (.type "BaseException"), (.type "object")], 23, "DebtError", true, [], [(.ref 37)], false, Option.none, false⟩), #[(Option.some (.ref 15)), Option.none, (Option.some (.str "DebtError" 189)), (Option.some (.str "DebtError" 197)), (Option.some (.builtin "ValueError.__new__")), (Option.some (.bool true))]⟩
noncomputable def o22 (_ : Params) : Obj := ⟨(.type "tuple"), Option.none, (.seq #[(.ref 24)] 0), #[]⟩
noncomputable def o23 (_ : Params) : Obj := ⟨(.type "builtin_function_or_method"), Option.none, (.fields #[(.builtin "type.__prepare__"), (.type "type")]), #[]⟩
noncomputable def o24 (P : Params) : Obj := ⟨(.type "dict"), Option.none, (.dict #[⟨(PyData.keyHash P "__module__"), (.str "__module__" 214), (.str "clearday.errors" 187)⟩, ⟨(PyData.keyHash P "__qualname__"), (.str "__qualname__" 216), (.str "BadCount" 215)⟩, ⟨(PyData.keyHash P "__firstlineno__"), (.str "__firstlineno__" 218), (.int 4 217)⟩, ⟨(PyData.keyHash P "__static_attributes__"), (.str "__static_attributes__" 219), (.ref 35)⟩] 4), #[]⟩
noncomputable def o25 (_ : Params) : Obj := ⟨(.type "tuple"), Option.none, (.seq #[] 0), #[]⟩
noncomputable def o26 (_ : Params) : Obj := ⟨.none, Option.none, (.fields #[]), #[]⟩
noncomputable def o27 (_ : Params) : Obj := ⟨(.type "code"), Option.none, (.fields #[(.str "BadCount" 209), (.str "BadCount" 210), (.str "/claim/cut.py" 211), (.int 4 0), (.int 0 0), (.int 0 0), (.int 0 0), (.int 0 0), (.ref 31), (.bool false), (.int 181 0), (.ref 32), .none, .none, .none, .none, (.int 212 0), (.int 4 0), (.str "/claim/cut.py" 213)]), #[]⟩
noncomputable def o28 (_ : Params) : Obj := ⟨(.type "frame"), Option.none, .plain, #[(Option.some (.ref 33)), (Option.some (.ref 3)), (Option.some (.ref 30)), Option.none, (Option.some (.str "clearday.errors" 187)), Option.none, (Option.some (.ref 0))]⟩
noncomputable def o29 (_ : Params) : Obj := ⟨(.type "tuple"), Option.none, (.seq #[] 0), #[]⟩
noncomputable def o30 (P : Params) : Obj := ⟨(.type "dict"), Option.none, (.dict #[⟨(PyData.keyHash P "__module__"), (.str "__module__" 214), (.str "clearday.errors" 187)⟩, ⟨(PyData.keyHash P "__firstlineno__"), (.str "__firstlineno__" 218), (.int 4 217)⟩, ⟨(PyData.keyHash P "__static_attributes__"), (.str "__static_attributes__" 219), (.ref 35)⟩, ⟨(PyData.keyHash P "__doc__"), (.str "__doc__" 220), .none⟩] 2), #[]⟩
noncomputable def o31 (_ : Params) : Obj := ⟨(.type "type"), Option.none, (.cls ⟨"BadCount", [(.ref 24)], [(.ref 37), (.ref 24), (.type "ValueError"), (.type "Exception"), (.type "BaseException"), (.type "object")], 36, "BadCount", true, [], [], false, Option.none, false⟩), #[(Option.some (.ref 28)), Option.none, (Option.some (.str "BadCount" 207)), (Option.some (.str "BadCount" 215)), (Option.some (.builtin "ValueError.__new__")), (Option.some (.bool true))]⟩
noncomputable def o32 (_ : Params) : Obj := ⟨(.type "super"), Option.none, (.fields #[(.ref 37), (.ref 37), (.ref 37)]), #[]⟩
noncomputable def o33 (_ : Params) : Obj := ⟨(.type "builtin_function_or_method"), Option.none, (.fields #[(.builtin "object.__init_subclass__"), (.ref 37)]), #[]⟩
noncomputable def tr2 (P : Params) : BT := (.node (boot_o_0 P) (.node (boot_o_1 P) (.node (o19 P) (.node (boot_o_7 P) (.node (o6 P) (.node (o25 P) .nil .nil) .nil) (.node (o14 P) (.node (o33 P) .nil .nil) .nil)) (.node (o0 P) (.node (o10 P) (.node (o29 P) .nil .nil) .nil) (.node (o18 P) .nil .nil))) (.node (boot_o_5 P) (.node (boot_o_9 P) (.node (o8 P) (.node (o27 P) .nil .nil) .nil) (.node (o16 P) .nil .nil)) (.node (o2 P) (.node (o12 P) (.node (o31 P) .nil .nil) .nil) (.node (o23 P) .nil .nil)))) (.node (boot_o_2 P) (.node (boot_o_4 P) (.node (boot_o_8 P) (.node (o7 P) (.node (o26 P) .nil .nil) .nil) (.node (o21 P) .nil .nil)) (.node (o20 P) (.node (o11 P) (.node (o30 P) .nil .nil) .nil) (.node (o22 P) .nil .nil))) (.node (boot_o_6 P) (.node (boot_o_10 P) (.node (o9 P) (.node (o28 P) .nil .nil) .nil) (.node (o17 P) .nil .nil)) (.node (o3 P) (.node (o13 P) (.node (o32 P) .nil .nil) .nil) (.node (o24 P) .nil .nil)))))
noncomputable def S2 (w : World) (os : OsState) : SharedT := ⟨tr2 w.params, 40, ⟨[], [], [], 0, [], [], false, #[], [], 0, false, false, false, 0, [2000, 10, 10], false, 0, true, [], [], 0, false⟩, #[], ⟨0, 0, 0, 0⟩, 223, os⟩
noncomputable def ss1 : List Stmt := (bdQ.drop 2).take 1
noncomputable def o34 (P : Params) : Obj := ⟨(.type "dict"), Option.none, (.dict #[⟨(PyData.keyHash P "__name__"), (.str "__name__" 165), (.str "clearday.errors" 187)⟩, ⟨(PyData.keyHash P "__doc__"), (.str "__doc__" 166), .none⟩, ⟨(PyData.keyHash P "__package__"), (.str "__package__" 167), .none⟩, ⟨(PyData.keyHash P "__loader__"), (.str "__loader__" 168), (.builtin "__main__.__loader__#opaque")⟩, ⟨(PyData.keyHash P "__spec__"), (.str "__spec__" 169), .none⟩, ⟨(PyData.keyHash P "__annotations__"), (.str "__annotations__" 170), (.ref 6)⟩, ⟨(PyData.keyHash P "__builtins__"), (.str "__builtins__" 171), (.ref 4)⟩, ⟨(PyData.keyHash P "__file__"), (.str "__file__" 173), (.str "/claim/cut.py" 172)⟩, ⟨(PyData.keyHash P "__cached__"), (.str "__cached__" 174), .none⟩, ⟨(PyData.keyHash P "DebtError"), (.str "DebtError" 206), (.ref 24)⟩, ⟨(PyData.keyHash P "BadCount"), (.str "BadCount" 222), (.ref 37)⟩, ⟨(PyData.keyHash P "BadDebt"), (.str "BadDebt" 238), (.ref 49)⟩] 12), #[]⟩
noncomputable def o35 (_ : Params) : Obj := ⟨.none, Option.none, (.fields #[(.int 2 0), (.int 0 0), (.ref 20), (.int 4 0), (.int 0 0), (.ref 33), (.int 6 0), (.int 0 0), (.ref 45)]), #[]⟩
noncomputable def o36 (_ : Params) : Obj := ⟨(.type "type"), Option.none, (.cls ⟨"DebtError", [(.type "ValueError")], [(.ref 24), (.type "ValueError"), (.type "Exception"), (.type "BaseException"), (.type "object")], 23, "DebtError", true, [], [(.ref 37), (.ref 49)], false, Option.none, false⟩), #[(Option.some (.ref 15)), Option.none, (Option.some (.str "DebtError" 189)), (Option.some (.str "DebtError" 197)), (Option.some (.builtin "ValueError.__new__")), (Option.some (.bool true))]⟩
noncomputable def o37 (_ : Params) : Obj := ⟨(.type "tuple"), Option.none, (.seq #[(.ref 24)] 0), #[]⟩
noncomputable def o38 (_ : Params) : Obj := ⟨(.type "builtin_function_or_method"), Option.none, (.fields #[(.builtin "type.__prepare__"), (.type "type")]), #[]⟩
noncomputable def o39 (P : Params) : Obj := ⟨(.type "dict"), Option.none, (.dict #[⟨(PyData.keyHash P "__module__"), (.str "__module__" 230), (.str "clearday.errors" 187)⟩, ⟨(PyData.keyHash P "__qualname__"), (.str "__qualname__" 232), (.str "BadDebt" 231)⟩, ⟨(PyData.keyHash P "__firstlineno__"), (.str "__firstlineno__" 234), (.int 6 233)⟩, ⟨(PyData.keyHash P "__static_attributes__"), (.str "__static_attributes__" 235), (.ref 47)⟩] 4), #[]⟩
noncomputable def o40 (_ : Params) : Obj := ⟨(.type "tuple"), Option.none, (.seq #[] 0), #[]⟩
noncomputable def o41 (_ : Params) : Obj := ⟨.none, Option.none, (.fields #[]), #[]⟩
noncomputable def o42 (_ : Params) : Obj := ⟨(.type "code"), Option.none, (.fields #[(.str "BadDebt" 225), (.str "BadDebt" 226), (.str "/claim/cut.py" 227), (.int 6 0), (.int 0 0), (.int 0 0), (.int 0 0), (.int 0 0), (.ref 43), (.bool false), (.int 181 0), (.ref 44), .none, .none, .none, .none, (.int 228 0), (.int 6 0), (.str "/claim/cut.py" 229)]), #[]⟩
noncomputable def o43 (_ : Params) : Obj := ⟨(.type "frame"), Option.none, .plain, #[(Option.some (.ref 45)), (Option.some (.ref 3)), (Option.some (.ref 42)), Option.none, (Option.some (.str "clearday.errors" 187)), Option.none, (Option.some (.ref 0))]⟩
noncomputable def o44 (_ : Params) : Obj := ⟨(.type "tuple"), Option.none, (.seq #[] 0), #[]⟩
noncomputable def o45 (P : Params) : Obj := ⟨(.type "dict"), Option.none, (.dict #[⟨(PyData.keyHash P "__module__"), (.str "__module__" 230), (.str "clearday.errors" 187)⟩, ⟨(PyData.keyHash P "__firstlineno__"), (.str "__firstlineno__" 234), (.int 6 233)⟩, ⟨(PyData.keyHash P "__static_attributes__"), (.str "__static_attributes__" 235), (.ref 47)⟩, ⟨(PyData.keyHash P "__doc__"), (.str "__doc__" 236), .none⟩] 2), #[]⟩
noncomputable def o46 (_ : Params) : Obj := ⟨(.type "type"), Option.none, (.cls ⟨"BadDebt", [(.ref 24)], [(.ref 49), (.ref 24), (.type "ValueError"), (.type "Exception"), (.type "BaseException"), (.type "object")], 48, "BadDebt", true, [], [], false, Option.none, false⟩), #[(Option.some (.ref 40)), Option.none, (Option.some (.str "BadDebt" 223)), (Option.some (.str "BadDebt" 231)), (Option.some (.builtin "ValueError.__new__")), (Option.some (.bool true))]⟩
noncomputable def o47 (_ : Params) : Obj := ⟨(.type "super"), Option.none, (.fields #[(.ref 49), (.ref 49), (.ref 49)]), #[]⟩
noncomputable def o48 (_ : Params) : Obj := ⟨(.type "builtin_function_or_method"), Option.none, (.fields #[(.builtin "object.__init_subclass__"), (.ref 49)]), #[]⟩
noncomputable def tr3 (P : Params) : BT := (.node (boot_o_0 P) (.node (boot_o_1 P) (.node (o34 P) (.node (boot_o_7 P) (.node (o6 P) (.node (o25 P) .nil .nil) (.node (o44 P) .nil .nil)) (.node (o14 P) (.node (o33 P) .nil .nil) .nil)) (.node (o0 P) (.node (o10 P) (.node (o29 P) .nil .nil) (.node (o48 P) .nil .nil)) (.node (o18 P) (.node (o40 P) .nil .nil) .nil))) (.node (boot_o_5 P) (.node (boot_o_9 P) (.node (o8 P) (.node (o27 P) .nil .nil) (.node (o46 P) .nil .nil)) (.node (o16 P) (.node (o38 P) .nil .nil) .nil)) (.node (o2 P) (.node (o12 P) (.node (o31 P) .nil .nil) .nil) (.node (o23 P) (.node (o42 P) .nil .nil) .nil)))) (.node (boot_o_2 P) (.node (boot_o_4 P) (.node (boot_o_8 P) (.node (o7 P) (.node (o26 P) .nil .nil) (.node (o45 P) .nil .nil)) (.node (o36 P) (.node (o37 P) .nil .nil) .nil)) (.node (o35 P) (.node (o11 P) (.node (o30 P) .nil .nil) .nil) (.node (o22 P) (.node (o41 P) .nil .nil) .nil))) (.node (boot_o_6 P) (.node (boot_o_10 P) (.node (o9 P) (.node (o28 P) .nil .nil) (.node (o47 P) .nil .nil)) (.node (o17 P) (.node (o39 P) .nil .nil) .nil)) (.node (o3 P) (.node (o13 P) (.node (o32 P) .nil .nil) .nil) (.node (o24 P) (.node (o43 P) .nil .nil) .nil)))))
noncomputable def S3 (w : World) (os : OsState) : SharedT := ⟨tr3 w.params, 52, ⟨[], [], [], 0, [], [], false, #[], [], 0, false, false, false, 0, [2000, 10, 10], false, 0, true, [], [], 0, false⟩, #[], ⟨0, 0, 0, 0⟩, 239, os⟩
noncomputable def ss2 : List Stmt := (bdQ.drop 3).take 1
noncomputable def o49 (P : Params) : Obj := ⟨(.type "dict"), Option.none, (.dict #[⟨(PyData.keyHash P "__name__"), (.str "__name__" 165), (.str "clearday.errors" 187)⟩, ⟨(PyData.keyHash P "__doc__"), (.str "__doc__" 166), .none⟩, ⟨(PyData.keyHash P "__package__"), (.str "__package__" 167), .none⟩, ⟨(PyData.keyHash P "__loader__"), (.str "__loader__" 168), (.builtin "__main__.__loader__#opaque")⟩, ⟨(PyData.keyHash P "__spec__"), (.str "__spec__" 169), .none⟩, ⟨(PyData.keyHash P "__annotations__"), (.str "__annotations__" 170), (.ref 6)⟩, ⟨(PyData.keyHash P "__builtins__"), (.str "__builtins__" 171), (.ref 4)⟩, ⟨(PyData.keyHash P "__file__"), (.str "__file__" 173), (.str "/claim/cut.py" 172)⟩, ⟨(PyData.keyHash P "__cached__"), (.str "__cached__" 174), .none⟩, ⟨(PyData.keyHash P "DebtError"), (.str "DebtError" 206), (.ref 24)⟩, ⟨(PyData.keyHash P "BadCount"), (.str "BadCount" 222), (.ref 37)⟩, ⟨(PyData.keyHash P "BadDebt"), (.str "BadDebt" 238), (.ref 49)⟩, ⟨(PyData.keyHash P "BadCut"), (.str "BadCut" 254), (.ref 61)⟩] 13), #[]⟩
noncomputable def o50 (_ : Params) : Obj := ⟨.none, Option.none, (.fields #[(.int 2 0), (.int 0 0), (.ref 20), (.int 4 0), (.int 0 0), (.ref 33), (.int 6 0), (.int 0 0), (.ref 45), (.int 8 0), (.int 0 0), (.ref 57)]), #[]⟩
noncomputable def o51 (_ : Params) : Obj := ⟨(.type "type"), Option.none, (.cls ⟨"DebtError", [(.type "ValueError")], [(.ref 24), (.type "ValueError"), (.type "Exception"), (.type "BaseException"), (.type "object")], 23, "DebtError", true, [], [(.ref 37), (.ref 49), (.ref 61)], false, Option.none, false⟩), #[(Option.some (.ref 15)), Option.none, (Option.some (.str "DebtError" 189)), (Option.some (.str "DebtError" 197)), (Option.some (.builtin "ValueError.__new__")), (Option.some (.bool true))]⟩
noncomputable def o52 (_ : Params) : Obj := ⟨(.type "tuple"), Option.none, (.seq #[(.ref 24)] 0), #[]⟩
noncomputable def o53 (_ : Params) : Obj := ⟨(.type "builtin_function_or_method"), Option.none, (.fields #[(.builtin "type.__prepare__"), (.type "type")]), #[]⟩
noncomputable def o54 (P : Params) : Obj := ⟨(.type "dict"), Option.none, (.dict #[⟨(PyData.keyHash P "__module__"), (.str "__module__" 246), (.str "clearday.errors" 187)⟩, ⟨(PyData.keyHash P "__qualname__"), (.str "__qualname__" 248), (.str "BadCut" 247)⟩, ⟨(PyData.keyHash P "__firstlineno__"), (.str "__firstlineno__" 250), (.int 8 249)⟩, ⟨(PyData.keyHash P "__static_attributes__"), (.str "__static_attributes__" 251), (.ref 59)⟩] 4), #[]⟩
noncomputable def o55 (_ : Params) : Obj := ⟨(.type "tuple"), Option.none, (.seq #[] 0), #[]⟩
noncomputable def o56 (_ : Params) : Obj := ⟨.none, Option.none, (.fields #[]), #[]⟩
noncomputable def o57 (_ : Params) : Obj := ⟨(.type "code"), Option.none, (.fields #[(.str "BadCut" 241), (.str "BadCut" 242), (.str "/claim/cut.py" 243), (.int 8 0), (.int 0 0), (.int 0 0), (.int 0 0), (.int 0 0), (.ref 55), (.bool false), (.int 181 0), (.ref 56), .none, .none, .none, .none, (.int 244 0), (.int 8 0), (.str "/claim/cut.py" 245)]), #[]⟩
noncomputable def o58 (_ : Params) : Obj := ⟨(.type "frame"), Option.none, .plain, #[(Option.some (.ref 57)), (Option.some (.ref 3)), (Option.some (.ref 54)), Option.none, (Option.some (.str "clearday.errors" 187)), Option.none, (Option.some (.ref 0))]⟩
noncomputable def o59 (_ : Params) : Obj := ⟨(.type "tuple"), Option.none, (.seq #[] 0), #[]⟩
noncomputable def o60 (P : Params) : Obj := ⟨(.type "dict"), Option.none, (.dict #[⟨(PyData.keyHash P "__module__"), (.str "__module__" 246), (.str "clearday.errors" 187)⟩, ⟨(PyData.keyHash P "__firstlineno__"), (.str "__firstlineno__" 250), (.int 8 249)⟩, ⟨(PyData.keyHash P "__static_attributes__"), (.str "__static_attributes__" 251), (.ref 59)⟩, ⟨(PyData.keyHash P "__doc__"), (.str "__doc__" 252), .none⟩] 2), #[]⟩
noncomputable def o61 (_ : Params) : Obj := ⟨(.type "type"), Option.none, (.cls ⟨"BadCut", [(.ref 24)], [(.ref 61), (.ref 24), (.type "ValueError"), (.type "Exception"), (.type "BaseException"), (.type "object")], 60, "BadCut", true, [], [], false, Option.none, false⟩), #[(Option.some (.ref 52)), Option.none, (Option.some (.str "BadCut" 239)), (Option.some (.str "BadCut" 247)), (Option.some (.builtin "ValueError.__new__")), (Option.some (.bool true))]⟩
noncomputable def o62 (_ : Params) : Obj := ⟨(.type "super"), Option.none, (.fields #[(.ref 61), (.ref 61), (.ref 61)]), #[]⟩
noncomputable def o63 (_ : Params) : Obj := ⟨(.type "builtin_function_or_method"), Option.none, (.fields #[(.builtin "object.__init_subclass__"), (.ref 61)]), #[]⟩
noncomputable def tr4 (P : Params) : BT := (.node (boot_o_0 P) (.node (boot_o_1 P) (.node (o49 P) (.node (boot_o_7 P) (.node (o6 P) (.node (o25 P) (.node (o63 P) .nil .nil) .nil) (.node (o44 P) .nil .nil)) (.node (o14 P) (.node (o33 P) .nil .nil) (.node (o55 P) .nil .nil))) (.node (o0 P) (.node (o10 P) (.node (o29 P) .nil .nil) (.node (o48 P) .nil .nil)) (.node (o18 P) (.node (o40 P) .nil .nil) (.node (o59 P) .nil .nil)))) (.node (boot_o_5 P) (.node (boot_o_9 P) (.node (o8 P) (.node (o27 P) .nil .nil) (.node (o46 P) .nil .nil)) (.node (o16 P) (.node (o38 P) .nil .nil) (.node (o57 P) .nil .nil))) (.node (o2 P) (.node (o12 P) (.node (o31 P) .nil .nil) (.node (o53 P) .nil .nil)) (.node (o23 P) (.node (o42 P) .nil .nil) (.node (o61 P) .nil .nil))))) (.node (boot_o_2 P) (.node (boot_o_4 P) (.node (boot_o_8 P) (.node (o7 P) (.node (o26 P) .nil .nil) (.node (o45 P) .nil .nil)) (.node (o51 P) (.node (o37 P) .nil .nil) (.node (o56 P) .nil .nil))) (.node (o50 P) (.node (o11 P) (.node (o30 P) .nil .nil) (.node (o52 P) .nil .nil)) (.node (o22 P) (.node (o41 P) .nil .nil) (.node (o60 P) .nil .nil)))) (.node (boot_o_6 P) (.node (boot_o_10 P) (.node (o9 P) (.node (o28 P) .nil .nil) (.node (o47 P) .nil .nil)) (.node (o17 P) (.node (o39 P) .nil .nil) (.node (o58 P) .nil .nil))) (.node (o3 P) (.node (o13 P) (.node (o32 P) .nil .nil) (.node (o54 P) .nil .nil)) (.node (o24 P) (.node (o43 P) .nil .nil) (.node (o62 P) .nil .nil))))))
noncomputable def S4 (w : World) (os : OsState) : SharedT := ⟨tr4 w.params, 64, ⟨[], [], [], 0, [], [], false, #[], [], 0, false, false, false, 0, [2000, 10, 10], false, 0, true, [], [], 0, false⟩, #[], ⟨0, 0, 0, 0⟩, 255, os⟩
noncomputable def ss3 : List Stmt := (bdQ.drop 4).take 1
noncomputable def o64 (P : Params) : Obj := ⟨(.type "dict"), Option.none, (.dict #[⟨(PyData.keyHash P "__name__"), (.str "__name__" 165), (.str "clearday.errors" 187)⟩, ⟨(PyData.keyHash P "__doc__"), (.str "__doc__" 166), .none⟩, ⟨(PyData.keyHash P "__package__"), (.str "__package__" 167), .none⟩, ⟨(PyData.keyHash P "__loader__"), (.str "__loader__" 168), (.builtin "__main__.__loader__#opaque")⟩, ⟨(PyData.keyHash P "__spec__"), (.str "__spec__" 169), .none⟩, ⟨(PyData.keyHash P "__annotations__"), (.str "__annotations__" 170), (.ref 6)⟩, ⟨(PyData.keyHash P "__builtins__"), (.str "__builtins__" 171), (.ref 4)⟩, ⟨(PyData.keyHash P "__file__"), (.str "__file__" 173), (.str "/claim/cut.py" 172)⟩, ⟨(PyData.keyHash P "__cached__"), (.str "__cached__" 174), .none⟩, ⟨(PyData.keyHash P "DebtError"), (.str "DebtError" 206), (.ref 24)⟩, ⟨(PyData.keyHash P "BadCount"), (.str "BadCount" 222), (.ref 37)⟩, ⟨(PyData.keyHash P "BadDebt"), (.str "BadDebt" 238), (.ref 49)⟩, ⟨(PyData.keyHash P "BadCut"), (.str "BadCut" 254), (.ref 61)⟩, ⟨(PyData.keyHash P "Uneven"), (.str "Uneven" 270), (.ref 73)⟩] 14), #[]⟩
noncomputable def o65 (_ : Params) : Obj := ⟨.none, Option.none, (.fields #[(.int 2 0), (.int 0 0), (.ref 20), (.int 4 0), (.int 0 0), (.ref 33), (.int 6 0), (.int 0 0), (.ref 45), (.int 8 0), (.int 0 0), (.ref 57), (.int 10 0), (.int 0 0), (.ref 69)]), #[]⟩
noncomputable def o66 (_ : Params) : Obj := ⟨(.type "type"), Option.none, (.cls ⟨"DebtError", [(.type "ValueError")], [(.ref 24), (.type "ValueError"), (.type "Exception"), (.type "BaseException"), (.type "object")], 23, "DebtError", true, [], [(.ref 37), (.ref 49), (.ref 61), (.ref 73)], false, Option.none, false⟩), #[(Option.some (.ref 15)), Option.none, (Option.some (.str "DebtError" 189)), (Option.some (.str "DebtError" 197)), (Option.some (.builtin "ValueError.__new__")), (Option.some (.bool true))]⟩
noncomputable def o67 (_ : Params) : Obj := ⟨(.type "tuple"), Option.none, (.seq #[(.ref 24)] 0), #[]⟩
noncomputable def o68 (_ : Params) : Obj := ⟨(.type "builtin_function_or_method"), Option.none, (.fields #[(.builtin "type.__prepare__"), (.type "type")]), #[]⟩
noncomputable def o69 (P : Params) : Obj := ⟨(.type "dict"), Option.none, (.dict #[⟨(PyData.keyHash P "__module__"), (.str "__module__" 262), (.str "clearday.errors" 187)⟩, ⟨(PyData.keyHash P "__qualname__"), (.str "__qualname__" 264), (.str "Uneven" 263)⟩, ⟨(PyData.keyHash P "__firstlineno__"), (.str "__firstlineno__" 266), (.int 10 265)⟩, ⟨(PyData.keyHash P "__static_attributes__"), (.str "__static_attributes__" 267), (.ref 71)⟩] 4), #[]⟩
noncomputable def o70 (_ : Params) : Obj := ⟨(.type "tuple"), Option.none, (.seq #[] 0), #[]⟩
noncomputable def o71 (_ : Params) : Obj := ⟨.none, Option.none, (.fields #[]), #[]⟩
noncomputable def o72 (_ : Params) : Obj := ⟨(.type "code"), Option.none, (.fields #[(.str "Uneven" 257), (.str "Uneven" 258), (.str "/claim/cut.py" 259), (.int 10 0), (.int 0 0), (.int 0 0), (.int 0 0), (.int 0 0), (.ref 67), (.bool false), (.int 181 0), (.ref 68), .none, .none, .none, .none, (.int 260 0), (.int 10 0), (.str "/claim/cut.py" 261)]), #[]⟩
noncomputable def o73 (_ : Params) : Obj := ⟨(.type "frame"), Option.none, .plain, #[(Option.some (.ref 69)), (Option.some (.ref 3)), (Option.some (.ref 66)), Option.none, (Option.some (.str "clearday.errors" 187)), Option.none, (Option.some (.ref 0))]⟩
noncomputable def o74 (_ : Params) : Obj := ⟨(.type "tuple"), Option.none, (.seq #[] 0), #[]⟩
noncomputable def o75 (P : Params) : Obj := ⟨(.type "dict"), Option.none, (.dict #[⟨(PyData.keyHash P "__module__"), (.str "__module__" 262), (.str "clearday.errors" 187)⟩, ⟨(PyData.keyHash P "__firstlineno__"), (.str "__firstlineno__" 266), (.int 10 265)⟩, ⟨(PyData.keyHash P "__static_attributes__"), (.str "__static_attributes__" 267), (.ref 71)⟩, ⟨(PyData.keyHash P "__doc__"), (.str "__doc__" 268), .none⟩] 2), #[]⟩
noncomputable def o76 (_ : Params) : Obj := ⟨(.type "type"), Option.none, (.cls ⟨"Uneven", [(.ref 24)], [(.ref 73), (.ref 24), (.type "ValueError"), (.type "Exception"), (.type "BaseException"), (.type "object")], 72, "Uneven", true, [], [], false, Option.none, false⟩), #[(Option.some (.ref 64)), Option.none, (Option.some (.str "Uneven" 255)), (Option.some (.str "Uneven" 263)), (Option.some (.builtin "ValueError.__new__")), (Option.some (.bool true))]⟩
noncomputable def o77 (_ : Params) : Obj := ⟨(.type "super"), Option.none, (.fields #[(.ref 73), (.ref 73), (.ref 73)]), #[]⟩
noncomputable def o78 (_ : Params) : Obj := ⟨(.type "builtin_function_or_method"), Option.none, (.fields #[(.builtin "object.__init_subclass__"), (.ref 73)]), #[]⟩
noncomputable def tr5 (P : Params) : BT := (.node (boot_o_0 P) (.node (boot_o_1 P) (.node (o64 P) (.node (boot_o_7 P) (.node (o6 P) (.node (o25 P) (.node (o63 P) .nil .nil) .nil) (.node (o44 P) .nil .nil)) (.node (o14 P) (.node (o33 P) (.node (o74 P) .nil .nil) .nil) (.node (o55 P) .nil .nil))) (.node (o0 P) (.node (o10 P) (.node (o29 P) (.node (o70 P) .nil .nil) .nil) (.node (o48 P) .nil .nil)) (.node (o18 P) (.node (o40 P) (.node (o78 P) .nil .nil) .nil) (.node (o59 P) .nil .nil)))) (.node (boot_o_5 P) (.node (boot_o_9 P) (.node (o8 P) (.node (o27 P) (.node (o68 P) .nil .nil) .nil) (.node (o46 P) .nil .nil)) (.node (o16 P) (.node (o38 P) (.node (o76 P) .nil .nil) .nil) (.node (o57 P) .nil .nil))) (.node (o2 P) (.node (o12 P) (.node (o31 P) (.node (o72 P) .nil .nil) .nil) (.node (o53 P) .nil .nil)) (.node (o23 P) (.node (o42 P) .nil .nil) (.node (o61 P) .nil .nil))))) (.node (boot_o_2 P) (.node (boot_o_4 P) (.node (boot_o_8 P) (.node (o7 P) (.node (o26 P) (.node (o67 P) .nil .nil) .nil) (.node (o45 P) .nil .nil)) (.node (o66 P) (.node (o37 P) (.node (o75 P) .nil .nil) .nil) (.node (o56 P) .nil .nil))) (.node (o65 P) (.node (o11 P) (.node (o30 P) (.node (o71 P) .nil .nil) .nil) (.node (o52 P) .nil .nil)) (.node (o22 P) (.node (o41 P) .nil .nil) (.node (o60 P) .nil .nil)))) (.node (boot_o_6 P) (.node (boot_o_10 P) (.node (o9 P) (.node (o28 P) (.node (o69 P) .nil .nil) .nil) (.node (o47 P) .nil .nil)) (.node (o17 P) (.node (o39 P) (.node (o77 P) .nil .nil) .nil) (.node (o58 P) .nil .nil))) (.node (o3 P) (.node (o13 P) (.node (o32 P) (.node (o73 P) .nil .nil) .nil) (.node (o54 P) .nil .nil)) (.node (o24 P) (.node (o43 P) .nil .nil) (.node (o62 P) .nil .nil))))))
noncomputable def S5 (w : World) (os : OsState) : SharedT := ⟨tr5 w.params, 76, ⟨[], [], [], 0, [], [], false, #[], [], 0, false, false, false, 0, [2000, 10, 10], false, 0, true, [], [], 0, false⟩, #[], ⟨0, 0, 0, 0⟩, 271, os⟩
noncomputable def ss4 : List Stmt := (bdQ.drop 5).take 1
noncomputable def o79 (P : Params) : Obj := ⟨(.type "dict"), Option.none, (.dict #[⟨(PyData.keyHash P "__name__"), (.str "__name__" 165), (.str "clearday.errors" 187)⟩, ⟨(PyData.keyHash P "__doc__"), (.str "__doc__" 166), .none⟩, ⟨(PyData.keyHash P "__package__"), (.str "__package__" 167), .none⟩, ⟨(PyData.keyHash P "__loader__"), (.str "__loader__" 168), (.builtin "__main__.__loader__#opaque")⟩, ⟨(PyData.keyHash P "__spec__"), (.str "__spec__" 169), .none⟩, ⟨(PyData.keyHash P "__annotations__"), (.str "__annotations__" 170), (.ref 6)⟩, ⟨(PyData.keyHash P "__builtins__"), (.str "__builtins__" 171), (.ref 4)⟩, ⟨(PyData.keyHash P "__file__"), (.str "__file__" 173), (.str "/claim/cut.py" 172)⟩, ⟨(PyData.keyHash P "__cached__"), (.str "__cached__" 174), .none⟩, ⟨(PyData.keyHash P "DebtError"), (.str "DebtError" 206), (.ref 24)⟩, ⟨(PyData.keyHash P "BadCount"), (.str "BadCount" 222), (.ref 37)⟩, ⟨(PyData.keyHash P "BadDebt"), (.str "BadDebt" 238), (.ref 49)⟩, ⟨(PyData.keyHash P "BadCut"), (.str "BadCut" 254), (.ref 61)⟩, ⟨(PyData.keyHash P "Uneven"), (.str "Uneven" 270), (.ref 73)⟩, ⟨(PyData.keyHash P "BadPrices"), (.str "BadPrices" 286), (.ref 85)⟩] 15), #[]⟩
noncomputable def o80 (_ : Params) : Obj := ⟨.none, Option.none, (.fields #[(.int 2 0), (.int 0 0), (.ref 20), (.int 4 0), (.int 0 0), (.ref 33), (.int 6 0), (.int 0 0), (.ref 45), (.int 8 0), (.int 0 0), (.ref 57), (.int 10 0), (.int 0 0), (.ref 69), (.int 12 0), (.int 0 0), (.ref 81)]), #[]⟩
noncomputable def o81 (_ : Params) : Obj := ⟨(.type "type"), Option.none, (.cls ⟨"DebtError", [(.type "ValueError")], [(.ref 24), (.type "ValueError"), (.type "Exception"), (.type "BaseException"), (.type "object")], 23, "DebtError", true, [], [(.ref 37), (.ref 49), (.ref 61), (.ref 73), (.ref 85)], false, Option.none, false⟩), #[(Option.some (.ref 15)), Option.none, (Option.some (.str "DebtError" 189)), (Option.some (.str "DebtError" 197)), (Option.some (.builtin "ValueError.__new__")), (Option.some (.bool true))]⟩
noncomputable def o82 (_ : Params) : Obj := ⟨(.type "tuple"), Option.none, (.seq #[(.ref 24)] 0), #[]⟩
noncomputable def o83 (_ : Params) : Obj := ⟨(.type "builtin_function_or_method"), Option.none, (.fields #[(.builtin "type.__prepare__"), (.type "type")]), #[]⟩
noncomputable def o84 (P : Params) : Obj := ⟨(.type "dict"), Option.none, (.dict #[⟨(PyData.keyHash P "__module__"), (.str "__module__" 278), (.str "clearday.errors" 187)⟩, ⟨(PyData.keyHash P "__qualname__"), (.str "__qualname__" 280), (.str "BadPrices" 279)⟩, ⟨(PyData.keyHash P "__firstlineno__"), (.str "__firstlineno__" 282), (.int 12 281)⟩, ⟨(PyData.keyHash P "__static_attributes__"), (.str "__static_attributes__" 283), (.ref 83)⟩] 4), #[]⟩
noncomputable def o85 (_ : Params) : Obj := ⟨(.type "tuple"), Option.none, (.seq #[] 0), #[]⟩
noncomputable def o86 (_ : Params) : Obj := ⟨.none, Option.none, (.fields #[]), #[]⟩
noncomputable def o87 (_ : Params) : Obj := ⟨(.type "code"), Option.none, (.fields #[(.str "BadPrices" 273), (.str "BadPrices" 274), (.str "/claim/cut.py" 275), (.int 12 0), (.int 0 0), (.int 0 0), (.int 0 0), (.int 0 0), (.ref 79), (.bool false), (.int 181 0), (.ref 80), .none, .none, .none, .none, (.int 276 0), (.int 12 0), (.str "/claim/cut.py" 277)]), #[]⟩
noncomputable def o88 (_ : Params) : Obj := ⟨(.type "frame"), Option.none, .plain, #[(Option.some (.ref 81)), (Option.some (.ref 3)), (Option.some (.ref 78)), Option.none, (Option.some (.str "clearday.errors" 187)), Option.none, (Option.some (.ref 0))]⟩
noncomputable def o89 (_ : Params) : Obj := ⟨(.type "tuple"), Option.none, (.seq #[] 0), #[]⟩
noncomputable def o90 (P : Params) : Obj := ⟨(.type "dict"), Option.none, (.dict #[⟨(PyData.keyHash P "__module__"), (.str "__module__" 278), (.str "clearday.errors" 187)⟩, ⟨(PyData.keyHash P "__firstlineno__"), (.str "__firstlineno__" 282), (.int 12 281)⟩, ⟨(PyData.keyHash P "__static_attributes__"), (.str "__static_attributes__" 283), (.ref 83)⟩, ⟨(PyData.keyHash P "__doc__"), (.str "__doc__" 284), .none⟩] 2), #[]⟩
noncomputable def o91 (_ : Params) : Obj := ⟨(.type "type"), Option.none, (.cls ⟨"BadPrices", [(.ref 24)], [(.ref 85), (.ref 24), (.type "ValueError"), (.type "Exception"), (.type "BaseException"), (.type "object")], 84, "BadPrices", true, [], [], false, Option.none, false⟩), #[(Option.some (.ref 76)), Option.none, (Option.some (.str "BadPrices" 271)), (Option.some (.str "BadPrices" 279)), (Option.some (.builtin "ValueError.__new__")), (Option.some (.bool true))]⟩
noncomputable def o92 (_ : Params) : Obj := ⟨(.type "super"), Option.none, (.fields #[(.ref 85), (.ref 85), (.ref 85)]), #[]⟩
noncomputable def o93 (_ : Params) : Obj := ⟨(.type "builtin_function_or_method"), Option.none, (.fields #[(.builtin "object.__init_subclass__"), (.ref 85)]), #[]⟩
noncomputable def tr6 (P : Params) : BT := (.node (boot_o_0 P) (.node (boot_o_1 P) (.node (o79 P) (.node (boot_o_7 P) (.node (o6 P) (.node (o25 P) (.node (o63 P) .nil .nil) .nil) (.node (o44 P) (.node (o85 P) .nil .nil) .nil)) (.node (o14 P) (.node (o33 P) (.node (o74 P) .nil .nil) .nil) (.node (o55 P) (.node (o93 P) .nil .nil) .nil))) (.node (o0 P) (.node (o10 P) (.node (o29 P) (.node (o70 P) .nil .nil) .nil) (.node (o48 P) (.node (o89 P) .nil .nil) .nil)) (.node (o18 P) (.node (o40 P) (.node (o78 P) .nil .nil) .nil) (.node (o59 P) .nil .nil)))) (.node (boot_o_5 P) (.node (boot_o_9 P) (.node (o8 P) (.node (o27 P) (.node (o68 P) .nil .nil) .nil) (.node (o46 P) (.node (o87 P) .nil .nil) .nil)) (.node (o16 P) (.node (o38 P) (.node (o76 P) .nil .nil) .nil) (.node (o57 P) .nil .nil))) (.node (o2 P) (.node (o12 P) (.node (o31 P) (.node (o72 P) .nil .nil) .nil) (.node (o53 P) (.node (o91 P) .nil .nil) .nil)) (.node (o23 P) (.node (o42 P) (.node (o83 P) .nil .nil) .nil) (.node (o61 P) .nil .nil))))) (.node (boot_o_2 P) (.node (boot_o_4 P) (.node (boot_o_8 P) (.node (o7 P) (.node (o26 P) (.node (o67 P) .nil .nil) .nil) (.node (o45 P) (.node (o86 P) .nil .nil) .nil)) (.node (o81 P) (.node (o37 P) (.node (o75 P) .nil .nil) .nil) (.node (o56 P) .nil .nil))) (.node (o80 P) (.node (o11 P) (.node (o30 P) (.node (o71 P) .nil .nil) .nil) (.node (o52 P) (.node (o90 P) .nil .nil) .nil)) (.node (o22 P) (.node (o41 P) (.node (o82 P) .nil .nil) .nil) (.node (o60 P) .nil .nil)))) (.node (boot_o_6 P) (.node (boot_o_10 P) (.node (o9 P) (.node (o28 P) (.node (o69 P) .nil .nil) .nil) (.node (o47 P) (.node (o88 P) .nil .nil) .nil)) (.node (o17 P) (.node (o39 P) (.node (o77 P) .nil .nil) .nil) (.node (o58 P) .nil .nil))) (.node (o3 P) (.node (o13 P) (.node (o32 P) (.node (o73 P) .nil .nil) .nil) (.node (o54 P) (.node (o92 P) .nil .nil) .nil)) (.node (o24 P) (.node (o43 P) (.node (o84 P) .nil .nil) .nil) (.node (o62 P) .nil .nil))))))
noncomputable def S6 (w : World) (os : OsState) : SharedT := ⟨tr6 w.params, 88, ⟨[], [], [], 0, [], [], false, #[], [], 0, false, false, false, 0, [2000, 10, 10], false, 0, true, [], [], 0, false⟩, #[], ⟨0, 0, 0, 0⟩, 287, os⟩
noncomputable def ss5 : List Stmt := (bdQ.drop 6).take 1
noncomputable def o94 (P : Params) : Obj := ⟨(.type "dict"), Option.none, (.dict #[⟨(PyData.keyHash P "__name__"), (.str "__name__" 165), (.str "clearday.errors" 187)⟩, ⟨(PyData.keyHash P "__doc__"), (.str "__doc__" 166), .none⟩, ⟨(PyData.keyHash P "__package__"), (.str "__package__" 167), .none⟩, ⟨(PyData.keyHash P "__loader__"), (.str "__loader__" 168), (.builtin "__main__.__loader__#opaque")⟩, ⟨(PyData.keyHash P "__spec__"), (.str "__spec__" 169), .none⟩, ⟨(PyData.keyHash P "__annotations__"), (.str "__annotations__" 170), (.ref 6)⟩, ⟨(PyData.keyHash P "__builtins__"), (.str "__builtins__" 171), (.ref 4)⟩, ⟨(PyData.keyHash P "__file__"), (.str "__file__" 173), (.str "/claim/cut.py" 172)⟩, ⟨(PyData.keyHash P "__cached__"), (.str "__cached__" 174), .none⟩, ⟨(PyData.keyHash P "DebtError"), (.str "DebtError" 206), (.ref 24)⟩, ⟨(PyData.keyHash P "BadCount"), (.str "BadCount" 222), (.ref 37)⟩, ⟨(PyData.keyHash P "BadDebt"), (.str "BadDebt" 238), (.ref 49)⟩, ⟨(PyData.keyHash P "BadCut"), (.str "BadCut" 254), (.ref 61)⟩, ⟨(PyData.keyHash P "Uneven"), (.str "Uneven" 270), (.ref 73)⟩, ⟨(PyData.keyHash P "BadPrices"), (.str "BadPrices" 286), (.ref 85)⟩, ⟨(PyData.keyHash P "NotBest"), (.str "NotBest" 302), (.ref 97)⟩] 16), #[]⟩
noncomputable def o95 (_ : Params) : Obj := ⟨.none, Option.none, (.fields #[(.int 2 0), (.int 0 0), (.ref 20), (.int 4 0), (.int 0 0), (.ref 33), (.int 6 0), (.int 0 0), (.ref 45), (.int 8 0), (.int 0 0), (.ref 57), (.int 10 0), (.int 0 0), (.ref 69), (.int 12 0), (.int 0 0), (.ref 81), (.int 14 0), (.int 0 0), (.ref 93)]), #[]⟩
noncomputable def o96 (_ : Params) : Obj := ⟨(.type "type"), Option.none, (.cls ⟨"DebtError", [(.type "ValueError")], [(.ref 24), (.type "ValueError"), (.type "Exception"), (.type "BaseException"), (.type "object")], 23, "DebtError", true, [], [(.ref 37), (.ref 49), (.ref 61), (.ref 73), (.ref 85), (.ref 97)], false, Option.none, false⟩), #[(Option.some (.ref 15)), Option.none, (Option.some (.str "DebtError" 189)), (Option.some (.str "DebtError" 197)), (Option.some (.builtin "ValueError.__new__")), (Option.some (.bool true))]⟩
noncomputable def o97 (_ : Params) : Obj := ⟨(.type "tuple"), Option.none, (.seq #[(.ref 24)] 0), #[]⟩
noncomputable def o98 (_ : Params) : Obj := ⟨(.type "builtin_function_or_method"), Option.none, (.fields #[(.builtin "type.__prepare__"), (.type "type")]), #[]⟩
noncomputable def o99 (P : Params) : Obj := ⟨(.type "dict"), Option.none, (.dict #[⟨(PyData.keyHash P "__module__"), (.str "__module__" 294), (.str "clearday.errors" 187)⟩, ⟨(PyData.keyHash P "__qualname__"), (.str "__qualname__" 296), (.str "NotBest" 295)⟩, ⟨(PyData.keyHash P "__firstlineno__"), (.str "__firstlineno__" 298), (.int 14 297)⟩, ⟨(PyData.keyHash P "__static_attributes__"), (.str "__static_attributes__" 299), (.ref 95)⟩] 4), #[]⟩
noncomputable def o100 (_ : Params) : Obj := ⟨(.type "tuple"), Option.none, (.seq #[] 0), #[]⟩
noncomputable def o101 (_ : Params) : Obj := ⟨.none, Option.none, (.fields #[]), #[]⟩
noncomputable def o102 (_ : Params) : Obj := ⟨(.type "code"), Option.none, (.fields #[(.str "NotBest" 289), (.str "NotBest" 290), (.str "/claim/cut.py" 291), (.int 14 0), (.int 0 0), (.int 0 0), (.int 0 0), (.int 0 0), (.ref 91), (.bool false), (.int 181 0), (.ref 92), .none, .none, .none, .none, (.int 292 0), (.int 14 0), (.str "/claim/cut.py" 293)]), #[]⟩
noncomputable def o103 (_ : Params) : Obj := ⟨(.type "frame"), Option.none, .plain, #[(Option.some (.ref 93)), (Option.some (.ref 3)), (Option.some (.ref 90)), Option.none, (Option.some (.str "clearday.errors" 187)), Option.none, (Option.some (.ref 0))]⟩
noncomputable def o104 (_ : Params) : Obj := ⟨(.type "tuple"), Option.none, (.seq #[] 0), #[]⟩
noncomputable def o105 (P : Params) : Obj := ⟨(.type "dict"), Option.none, (.dict #[⟨(PyData.keyHash P "__module__"), (.str "__module__" 294), (.str "clearday.errors" 187)⟩, ⟨(PyData.keyHash P "__firstlineno__"), (.str "__firstlineno__" 298), (.int 14 297)⟩, ⟨(PyData.keyHash P "__static_attributes__"), (.str "__static_attributes__" 299), (.ref 95)⟩, ⟨(PyData.keyHash P "__doc__"), (.str "__doc__" 300), .none⟩] 2), #[]⟩
noncomputable def o106 (_ : Params) : Obj := ⟨(.type "type"), Option.none, (.cls ⟨"NotBest", [(.ref 24)], [(.ref 97), (.ref 24), (.type "ValueError"), (.type "Exception"), (.type "BaseException"), (.type "object")], 96, "NotBest", true, [], [], false, Option.none, false⟩), #[(Option.some (.ref 88)), Option.none, (Option.some (.str "NotBest" 287)), (Option.some (.str "NotBest" 295)), (Option.some (.builtin "ValueError.__new__")), (Option.some (.bool true))]⟩
noncomputable def o107 (_ : Params) : Obj := ⟨(.type "super"), Option.none, (.fields #[(.ref 97), (.ref 97), (.ref 97)]), #[]⟩
noncomputable def o108 (_ : Params) : Obj := ⟨(.type "builtin_function_or_method"), Option.none, (.fields #[(.builtin "object.__init_subclass__"), (.ref 97)]), #[]⟩
noncomputable def tr7 (P : Params) : BT := (.node (boot_o_0 P) (.node (boot_o_1 P) (.node (o94 P) (.node (boot_o_7 P) (.node (o6 P) (.node (o25 P) (.node (o63 P) .nil .nil) (.node (o104 P) .nil .nil)) (.node (o44 P) (.node (o85 P) .nil .nil) .nil)) (.node (o14 P) (.node (o33 P) (.node (o74 P) .nil .nil) .nil) (.node (o55 P) (.node (o93 P) .nil .nil) .nil))) (.node (o0 P) (.node (o10 P) (.node (o29 P) (.node (o70 P) .nil .nil) (.node (o108 P) .nil .nil)) (.node (o48 P) (.node (o89 P) .nil .nil) .nil)) (.node (o18 P) (.node (o40 P) (.node (o78 P) .nil .nil) .nil) (.node (o59 P) (.node (o100 P) .nil .nil) .nil)))) (.node (boot_o_5 P) (.node (boot_o_9 P) (.node (o8 P) (.node (o27 P) (.node (o68 P) .nil .nil) (.node (o106 P) .nil .nil)) (.node (o46 P) (.node (o87 P) .nil .nil) .nil)) (.node (o16 P) (.node (o38 P) (.node (o76 P) .nil .nil) .nil) (.node (o57 P) (.node (o98 P) .nil .nil) .nil))) (.node (o2 P) (.node (o12 P) (.node (o31 P) (.node (o72 P) .nil .nil) .nil) (.node (o53 P) (.node (o91 P) .nil .nil) .nil)) (.node (o23 P) (.node (o42 P) (.node (o83 P) .nil .nil) .nil) (.node (o61 P) (.node (o102 P) .nil .nil) .nil))))) (.node (boot_o_2 P) (.node (boot_o_4 P) (.node (boot_o_8 P) (.node (o7 P) (.node (o26 P) (.node (o67 P) .nil .nil) (.node (o105 P) .nil .nil)) (.node (o45 P) (.node (o86 P) .nil .nil) .nil)) (.node (o96 P) (.node (o37 P) (.node (o75 P) .nil .nil) .nil) (.node (o56 P) (.node (o97 P) .nil .nil) .nil))) (.node (o95 P) (.node (o11 P) (.node (o30 P) (.node (o71 P) .nil .nil) .nil) (.node (o52 P) (.node (o90 P) .nil .nil) .nil)) (.node (o22 P) (.node (o41 P) (.node (o82 P) .nil .nil) .nil) (.node (o60 P) (.node (o101 P) .nil .nil) .nil)))) (.node (boot_o_6 P) (.node (boot_o_10 P) (.node (o9 P) (.node (o28 P) (.node (o69 P) .nil .nil) (.node (o107 P) .nil .nil)) (.node (o47 P) (.node (o88 P) .nil .nil) .nil)) (.node (o17 P) (.node (o39 P) (.node (o77 P) .nil .nil) .nil) (.node (o58 P) (.node (o99 P) .nil .nil) .nil))) (.node (o3 P) (.node (o13 P) (.node (o32 P) (.node (o73 P) .nil .nil) .nil) (.node (o54 P) (.node (o92 P) .nil .nil) .nil)) (.node (o24 P) (.node (o43 P) (.node (o84 P) .nil .nil) .nil) (.node (o62 P) (.node (o103 P) .nil .nil) .nil))))))
noncomputable def S7 (w : World) (os : OsState) : SharedT := ⟨tr7 w.params, 100, ⟨[], [], [], 0, [], [], false, #[], [], 0, false, false, false, 0, [2000, 10, 10], false, 0, true, [], [], 0, false⟩, #[], ⟨0, 0, 0, 0⟩, 303, os⟩
noncomputable def ss6 : List Stmt := (bdQ.drop 7).take 1
noncomputable def o109 (P : Params) : Obj := ⟨(.type "dict"), Option.none, (.dict #[⟨(PyData.keyHash P "__name__"), (.str "__name__" 165), (.str "clearday.errors" 187)⟩, ⟨(PyData.keyHash P "__doc__"), (.str "__doc__" 166), .none⟩, ⟨(PyData.keyHash P "__package__"), (.str "__package__" 167), .none⟩, ⟨(PyData.keyHash P "__loader__"), (.str "__loader__" 168), (.builtin "__main__.__loader__#opaque")⟩, ⟨(PyData.keyHash P "__spec__"), (.str "__spec__" 169), .none⟩, ⟨(PyData.keyHash P "__annotations__"), (.str "__annotations__" 170), (.ref 6)⟩, ⟨(PyData.keyHash P "__builtins__"), (.str "__builtins__" 171), (.ref 4)⟩, ⟨(PyData.keyHash P "__file__"), (.str "__file__" 173), (.str "/claim/cut.py" 172)⟩, ⟨(PyData.keyHash P "__cached__"), (.str "__cached__" 174), .none⟩, ⟨(PyData.keyHash P "DebtError"), (.str "DebtError" 206), (.ref 24)⟩, ⟨(PyData.keyHash P "BadCount"), (.str "BadCount" 222), (.ref 37)⟩, ⟨(PyData.keyHash P "BadDebt"), (.str "BadDebt" 238), (.ref 49)⟩, ⟨(PyData.keyHash P "BadCut"), (.str "BadCut" 254), (.ref 61)⟩, ⟨(PyData.keyHash P "Uneven"), (.str "Uneven" 270), (.ref 73)⟩, ⟨(PyData.keyHash P "BadPrices"), (.str "BadPrices" 286), (.ref 85)⟩, ⟨(PyData.keyHash P "NotBest"), (.str "NotBest" 302), (.ref 97)⟩, ⟨(PyData.keyHash P "NoDebt"), (.str "NoDebt" 318), (.ref 109)⟩] 17), #[]⟩
noncomputable def o110 (_ : Params) : Obj := ⟨.none, Option.none, (.fields #[(.int 2 0), (.int 0 0), (.ref 20), (.int 4 0), (.int 0 0), (.ref 33), (.int 6 0), (.int 0 0), (.ref 45), (.int 8 0), (.int 0 0), (.ref 57), (.int 10 0), (.int 0 0), (.ref 69), (.int 12 0), (.int 0 0), (.ref 81), (.int 14 0), (.int 0 0), (.ref 93), (.int 16 0), (.int 0 0), (.ref 105)]), #[]⟩
noncomputable def o111 (_ : Params) : Obj := ⟨(.type "type"), Option.none, (.cls ⟨"DebtError", [(.type "ValueError")], [(.ref 24), (.type "ValueError"), (.type "Exception"), (.type "BaseException"), (.type "object")], 23, "DebtError", true, [], [(.ref 37), (.ref 49), (.ref 61), (.ref 73), (.ref 85), (.ref 97), (.ref 109)], false, Option.none, false⟩), #[(Option.some (.ref 15)), Option.none, (Option.some (.str "DebtError" 189)), (Option.some (.str "DebtError" 197)), (Option.some (.builtin "ValueError.__new__")), (Option.some (.bool true))]⟩
noncomputable def o112 (_ : Params) : Obj := ⟨(.type "tuple"), Option.none, (.seq #[(.ref 24)] 0), #[]⟩
noncomputable def o113 (_ : Params) : Obj := ⟨(.type "builtin_function_or_method"), Option.none, (.fields #[(.builtin "type.__prepare__"), (.type "type")]), #[]⟩
noncomputable def o114 (P : Params) : Obj := ⟨(.type "dict"), Option.none, (.dict #[⟨(PyData.keyHash P "__module__"), (.str "__module__" 310), (.str "clearday.errors" 187)⟩, ⟨(PyData.keyHash P "__qualname__"), (.str "__qualname__" 312), (.str "NoDebt" 311)⟩, ⟨(PyData.keyHash P "__firstlineno__"), (.str "__firstlineno__" 314), (.int 16 313)⟩, ⟨(PyData.keyHash P "__static_attributes__"), (.str "__static_attributes__" 315), (.ref 107)⟩] 4), #[]⟩
noncomputable def o115 (_ : Params) : Obj := ⟨(.type "tuple"), Option.none, (.seq #[] 0), #[]⟩
noncomputable def o116 (_ : Params) : Obj := ⟨.none, Option.none, (.fields #[]), #[]⟩
noncomputable def o117 (_ : Params) : Obj := ⟨(.type "code"), Option.none, (.fields #[(.str "NoDebt" 305), (.str "NoDebt" 306), (.str "/claim/cut.py" 307), (.int 16 0), (.int 0 0), (.int 0 0), (.int 0 0), (.int 0 0), (.ref 103), (.bool false), (.int 181 0), (.ref 104), .none, .none, .none, .none, (.int 308 0), (.int 16 0), (.str "/claim/cut.py" 309)]), #[]⟩
noncomputable def o118 (_ : Params) : Obj := ⟨(.type "frame"), Option.none, .plain, #[(Option.some (.ref 105)), (Option.some (.ref 3)), (Option.some (.ref 102)), Option.none, (Option.some (.str "clearday.errors" 187)), Option.none, (Option.some (.ref 0))]⟩
noncomputable def o119 (_ : Params) : Obj := ⟨(.type "tuple"), Option.none, (.seq #[] 0), #[]⟩
noncomputable def o120 (P : Params) : Obj := ⟨(.type "dict"), Option.none, (.dict #[⟨(PyData.keyHash P "__module__"), (.str "__module__" 310), (.str "clearday.errors" 187)⟩, ⟨(PyData.keyHash P "__firstlineno__"), (.str "__firstlineno__" 314), (.int 16 313)⟩, ⟨(PyData.keyHash P "__static_attributes__"), (.str "__static_attributes__" 315), (.ref 107)⟩, ⟨(PyData.keyHash P "__doc__"), (.str "__doc__" 316), .none⟩] 2), #[]⟩
noncomputable def o121 (_ : Params) : Obj := ⟨(.type "type"), Option.none, (.cls ⟨"NoDebt", [(.ref 24)], [(.ref 109), (.ref 24), (.type "ValueError"), (.type "Exception"), (.type "BaseException"), (.type "object")], 108, "NoDebt", true, [], [], false, Option.none, false⟩), #[(Option.some (.ref 100)), Option.none, (Option.some (.str "NoDebt" 303)), (Option.some (.str "NoDebt" 311)), (Option.some (.builtin "ValueError.__new__")), (Option.some (.bool true))]⟩
noncomputable def o122 (_ : Params) : Obj := ⟨(.type "super"), Option.none, (.fields #[(.ref 109), (.ref 109), (.ref 109)]), #[]⟩
noncomputable def o123 (_ : Params) : Obj := ⟨(.type "builtin_function_or_method"), Option.none, (.fields #[(.builtin "object.__init_subclass__"), (.ref 109)]), #[]⟩
noncomputable def tr8 (P : Params) : BT := (.node (boot_o_0 P) (.node (boot_o_1 P) (.node (o109 P) (.node (boot_o_7 P) (.node (o6 P) (.node (o25 P) (.node (o63 P) .nil .nil) (.node (o104 P) .nil .nil)) (.node (o44 P) (.node (o85 P) .nil .nil) (.node (o123 P) .nil .nil))) (.node (o14 P) (.node (o33 P) (.node (o74 P) .nil .nil) (.node (o115 P) .nil .nil)) (.node (o55 P) (.node (o93 P) .nil .nil) .nil))) (.node (o0 P) (.node (o10 P) (.node (o29 P) (.node (o70 P) .nil .nil) (.node (o108 P) .nil .nil)) (.node (o48 P) (.node (o89 P) .nil .nil) .nil)) (.node (o18 P) (.node (o40 P) (.node (o78 P) .nil .nil) (.node (o119 P) .nil .nil)) (.node (o59 P) (.node (o100 P) .nil .nil) .nil)))) (.node (boot_o_5 P) (.node (boot_o_9 P) (.node (o8 P) (.node (o27 P) (.node (o68 P) .nil .nil) (.node (o106 P) .nil .nil)) (.node (o46 P) (.node (o87 P) .nil .nil) .nil)) (.node (o16 P) (.node (o38 P) (.node (o76 P) .nil .nil) (.node (o117 P) .nil .nil)) (.node (o57 P) (.node (o98 P) .nil .nil) .nil))) (.node (o2 P) (.node (o12 P) (.node (o31 P) (.node (o72 P) .nil .nil) (.node (o113 P) .nil .nil)) (.node (o53 P) (.node (o91 P) .nil .nil) .nil)) (.node (o23 P) (.node (o42 P) (.node (o83 P) .nil .nil) (.node (o121 P) .nil .nil)) (.node (o61 P) (.node (o102 P) .nil .nil) .nil))))) (.node (boot_o_2 P) (.node (boot_o_4 P) (.node (boot_o_8 P) (.node (o7 P) (.node (o26 P) (.node (o67 P) .nil .nil) (.node (o105 P) .nil .nil)) (.node (o45 P) (.node (o86 P) .nil .nil) .nil)) (.node (o111 P) (.node (o37 P) (.node (o75 P) .nil .nil) (.node (o116 P) .nil .nil)) (.node (o56 P) (.node (o97 P) .nil .nil) .nil))) (.node (o110 P) (.node (o11 P) (.node (o30 P) (.node (o71 P) .nil .nil) (.node (o112 P) .nil .nil)) (.node (o52 P) (.node (o90 P) .nil .nil) .nil)) (.node (o22 P) (.node (o41 P) (.node (o82 P) .nil .nil) (.node (o120 P) .nil .nil)) (.node (o60 P) (.node (o101 P) .nil .nil) .nil)))) (.node (boot_o_6 P) (.node (boot_o_10 P) (.node (o9 P) (.node (o28 P) (.node (o69 P) .nil .nil) (.node (o107 P) .nil .nil)) (.node (o47 P) (.node (o88 P) .nil .nil) .nil)) (.node (o17 P) (.node (o39 P) (.node (o77 P) .nil .nil) (.node (o118 P) .nil .nil)) (.node (o58 P) (.node (o99 P) .nil .nil) .nil))) (.node (o3 P) (.node (o13 P) (.node (o32 P) (.node (o73 P) .nil .nil) (.node (o114 P) .nil .nil)) (.node (o54 P) (.node (o92 P) .nil .nil) .nil)) (.node (o24 P) (.node (o43 P) (.node (o84 P) .nil .nil) (.node (o122 P) .nil .nil)) (.node (o62 P) (.node (o103 P) .nil .nil) .nil))))))
noncomputable def S8 (w : World) (os : OsState) : SharedT := ⟨tr8 w.params, 112, ⟨[], [], [], 0, [], [], false, #[], [], 0, false, false, false, 0, [2000, 10, 10], false, 0, true, [], [], 0, false⟩, #[], ⟨0, 0, 0, 0⟩, 319, os⟩
noncomputable def ss7 : List Stmt := (bdQ.drop 8).take 1
noncomputable def o124 (P : Params) : Obj := ⟨(.type "dict"), Option.none, (.dict #[⟨(PyData.keyHash P "__name__"), (.str "__name__" 165), (.str "clearday.errors" 187)⟩, ⟨(PyData.keyHash P "__doc__"), (.str "__doc__" 166), .none⟩, ⟨(PyData.keyHash P "__package__"), (.str "__package__" 167), .none⟩, ⟨(PyData.keyHash P "__loader__"), (.str "__loader__" 168), (.builtin "__main__.__loader__#opaque")⟩, ⟨(PyData.keyHash P "__spec__"), (.str "__spec__" 169), .none⟩, ⟨(PyData.keyHash P "__annotations__"), (.str "__annotations__" 170), (.ref 6)⟩, ⟨(PyData.keyHash P "__builtins__"), (.str "__builtins__" 171), (.ref 4)⟩, ⟨(PyData.keyHash P "__file__"), (.str "__file__" 173), (.str "/claim/cut.py" 172)⟩, ⟨(PyData.keyHash P "__cached__"), (.str "__cached__" 174), .none⟩, ⟨(PyData.keyHash P "DebtError"), (.str "DebtError" 206), (.ref 24)⟩, ⟨(PyData.keyHash P "BadCount"), (.str "BadCount" 222), (.ref 37)⟩, ⟨(PyData.keyHash P "BadDebt"), (.str "BadDebt" 238), (.ref 49)⟩, ⟨(PyData.keyHash P "BadCut"), (.str "BadCut" 254), (.ref 61)⟩, ⟨(PyData.keyHash P "Uneven"), (.str "Uneven" 270), (.ref 73)⟩, ⟨(PyData.keyHash P "BadPrices"), (.str "BadPrices" 286), (.ref 85)⟩, ⟨(PyData.keyHash P "NotBest"), (.str "NotBest" 302), (.ref 97)⟩, ⟨(PyData.keyHash P "NoDebt"), (.str "NoDebt" 318), (.ref 109)⟩, ⟨(PyData.keyHash P "NoHouse"), (.str "NoHouse" 334), (.ref 121)⟩] 18), #[]⟩
noncomputable def o125 (_ : Params) : Obj := ⟨.none, Option.none, (.fields #[(.int 2 0), (.int 0 0), (.ref 20), (.int 4 0), (.int 0 0), (.ref 33), (.int 6 0), (.int 0 0), (.ref 45), (.int 8 0), (.int 0 0), (.ref 57), (.int 10 0), (.int 0 0), (.ref 69), (.int 12 0), (.int 0 0), (.ref 81), (.int 14 0), (.int 0 0), (.ref 93), (.int 16 0), (.int 0 0), (.ref 105), (.int 18 0), (.int 0 0), (.ref 117)]), #[]⟩
noncomputable def o126 (_ : Params) : Obj := ⟨(.type "type"), Option.none, (.cls ⟨"DebtError", [(.type "ValueError")], [(.ref 24), (.type "ValueError"), (.type "Exception"), (.type "BaseException"), (.type "object")], 23, "DebtError", true, [], [(.ref 37), (.ref 49), (.ref 61), (.ref 73), (.ref 85), (.ref 97), (.ref 109), (.ref 121)], false, Option.none, false⟩), #[(Option.some (.ref 15)), Option.none, (Option.some (.str "DebtError" 189)), (Option.some (.str "DebtError" 197)), (Option.some (.builtin "ValueError.__new__")), (Option.some (.bool true))]⟩
noncomputable def o127 (_ : Params) : Obj := ⟨(.type "tuple"), Option.none, (.seq #[(.ref 24)] 0), #[]⟩
noncomputable def o128 (_ : Params) : Obj := ⟨(.type "builtin_function_or_method"), Option.none, (.fields #[(.builtin "type.__prepare__"), (.type "type")]), #[]⟩
noncomputable def o129 (P : Params) : Obj := ⟨(.type "dict"), Option.none, (.dict #[⟨(PyData.keyHash P "__module__"), (.str "__module__" 326), (.str "clearday.errors" 187)⟩, ⟨(PyData.keyHash P "__qualname__"), (.str "__qualname__" 328), (.str "NoHouse" 327)⟩, ⟨(PyData.keyHash P "__firstlineno__"), (.str "__firstlineno__" 330), (.int 18 329)⟩, ⟨(PyData.keyHash P "__static_attributes__"), (.str "__static_attributes__" 331), (.ref 119)⟩] 4), #[]⟩
noncomputable def o130 (_ : Params) : Obj := ⟨(.type "tuple"), Option.none, (.seq #[] 0), #[]⟩
noncomputable def o131 (_ : Params) : Obj := ⟨.none, Option.none, (.fields #[]), #[]⟩
noncomputable def o132 (_ : Params) : Obj := ⟨(.type "code"), Option.none, (.fields #[(.str "NoHouse" 321), (.str "NoHouse" 322), (.str "/claim/cut.py" 323), (.int 18 0), (.int 0 0), (.int 0 0), (.int 0 0), (.int 0 0), (.ref 115), (.bool false), (.int 181 0), (.ref 116), .none, .none, .none, .none, (.int 324 0), (.int 18 0), (.str "/claim/cut.py" 325)]), #[]⟩
noncomputable def o133 (_ : Params) : Obj := ⟨(.type "frame"), Option.none, .plain, #[(Option.some (.ref 117)), (Option.some (.ref 3)), (Option.some (.ref 114)), Option.none, (Option.some (.str "clearday.errors" 187)), Option.none, (Option.some (.ref 0))]⟩
noncomputable def o134 (_ : Params) : Obj := ⟨(.type "tuple"), Option.none, (.seq #[] 0), #[]⟩
noncomputable def o135 (P : Params) : Obj := ⟨(.type "dict"), Option.none, (.dict #[⟨(PyData.keyHash P "__module__"), (.str "__module__" 326), (.str "clearday.errors" 187)⟩, ⟨(PyData.keyHash P "__firstlineno__"), (.str "__firstlineno__" 330), (.int 18 329)⟩, ⟨(PyData.keyHash P "__static_attributes__"), (.str "__static_attributes__" 331), (.ref 119)⟩, ⟨(PyData.keyHash P "__doc__"), (.str "__doc__" 332), .none⟩] 2), #[]⟩
noncomputable def o136 (_ : Params) : Obj := ⟨(.type "type"), Option.none, (.cls ⟨"NoHouse", [(.ref 24)], [(.ref 121), (.ref 24), (.type "ValueError"), (.type "Exception"), (.type "BaseException"), (.type "object")], 120, "NoHouse", true, [], [], false, Option.none, false⟩), #[(Option.some (.ref 112)), Option.none, (Option.some (.str "NoHouse" 319)), (Option.some (.str "NoHouse" 327)), (Option.some (.builtin "ValueError.__new__")), (Option.some (.bool true))]⟩
noncomputable def o137 (_ : Params) : Obj := ⟨(.type "super"), Option.none, (.fields #[(.ref 121), (.ref 121), (.ref 121)]), #[]⟩
noncomputable def o138 (_ : Params) : Obj := ⟨(.type "builtin_function_or_method"), Option.none, (.fields #[(.builtin "object.__init_subclass__"), (.ref 121)]), #[]⟩
noncomputable def tr9 (P : Params) : BT := (.node (boot_o_0 P) (.node (boot_o_1 P) (.node (o124 P) (.node (boot_o_7 P) (.node (o6 P) (.node (o25 P) (.node (o63 P) .nil .nil) (.node (o104 P) .nil .nil)) (.node (o44 P) (.node (o85 P) .nil .nil) (.node (o123 P) .nil .nil))) (.node (o14 P) (.node (o33 P) (.node (o74 P) .nil .nil) (.node (o115 P) .nil .nil)) (.node (o55 P) (.node (o93 P) .nil .nil) (.node (o134 P) .nil .nil)))) (.node (o0 P) (.node (o10 P) (.node (o29 P) (.node (o70 P) .nil .nil) (.node (o108 P) .nil .nil)) (.node (o48 P) (.node (o89 P) .nil .nil) (.node (o130 P) .nil .nil))) (.node (o18 P) (.node (o40 P) (.node (o78 P) .nil .nil) (.node (o119 P) .nil .nil)) (.node (o59 P) (.node (o100 P) .nil .nil) (.node (o138 P) .nil .nil))))) (.node (boot_o_5 P) (.node (boot_o_9 P) (.node (o8 P) (.node (o27 P) (.node (o68 P) .nil .nil) (.node (o106 P) .nil .nil)) (.node (o46 P) (.node (o87 P) .nil .nil) (.node (o128 P) .nil .nil))) (.node (o16 P) (.node (o38 P) (.node (o76 P) .nil .nil) (.node (o117 P) .nil .nil)) (.node (o57 P) (.node (o98 P) .nil .nil) (.node (o136 P) .nil .nil)))) (.node (o2 P) (.node (o12 P) (.node (o31 P) (.node (o72 P) .nil .nil) (.node (o113 P) .nil .nil)) (.node (o53 P) (.node (o91 P) .nil .nil) (.node (o132 P) .nil .nil))) (.node (o23 P) (.node (o42 P) (.node (o83 P) .nil .nil) (.node (o121 P) .nil .nil)) (.node (o61 P) (.node (o102 P) .nil .nil) .nil))))) (.node (boot_o_2 P) (.node (boot_o_4 P) (.node (boot_o_8 P) (.node (o7 P) (.node (o26 P) (.node (o67 P) .nil .nil) (.node (o105 P) .nil .nil)) (.node (o45 P) (.node (o86 P) .nil .nil) (.node (o127 P) .nil .nil))) (.node (o126 P) (.node (o37 P) (.node (o75 P) .nil .nil) (.node (o116 P) .nil .nil)) (.node (o56 P) (.node (o97 P) .nil .nil) (.node (o135 P) .nil .nil)))) (.node (o125 P) (.node (o11 P) (.node (o30 P) (.node (o71 P) .nil .nil) (.node (o112 P) .nil .nil)) (.node (o52 P) (.node (o90 P) .nil .nil) (.node (o131 P) .nil .nil))) (.node (o22 P) (.node (o41 P) (.node (o82 P) .nil .nil) (.node (o120 P) .nil .nil)) (.node (o60 P) (.node (o101 P) .nil .nil) .nil)))) (.node (boot_o_6 P) (.node (boot_o_10 P) (.node (o9 P) (.node (o28 P) (.node (o69 P) .nil .nil) (.node (o107 P) .nil .nil)) (.node (o47 P) (.node (o88 P) .nil .nil) (.node (o129 P) .nil .nil))) (.node (o17 P) (.node (o39 P) (.node (o77 P) .nil .nil) (.node (o118 P) .nil .nil)) (.node (o58 P) (.node (o99 P) .nil .nil) (.node (o137 P) .nil .nil)))) (.node (o3 P) (.node (o13 P) (.node (o32 P) (.node (o73 P) .nil .nil) (.node (o114 P) .nil .nil)) (.node (o54 P) (.node (o92 P) .nil .nil) (.node (o133 P) .nil .nil))) (.node (o24 P) (.node (o43 P) (.node (o84 P) .nil .nil) (.node (o122 P) .nil .nil)) (.node (o62 P) (.node (o103 P) .nil .nil) .nil))))))
noncomputable def S9 (w : World) (os : OsState) : SharedT := ⟨tr9 w.params, 124, ⟨[], [], [], 0, [], [], false, #[], [], 0, false, false, false, 0, [2000, 10, 10], false, 0, true, [], [], 0, false⟩, #[], ⟨0, 0, 0, 0⟩, 335, os⟩
noncomputable def ss8 : List Stmt := (bdQ.drop 9).take 1
noncomputable def o139 (P : Params) : Obj := ⟨(.type "dict"), Option.none, (.dict #[⟨(PyData.keyHash P "__name__"), (.str "__name__" 165), (.str "law_uf030027_05" 387)⟩, ⟨(PyData.keyHash P "__doc__"), (.str "__doc__" 166), .none⟩, ⟨(PyData.keyHash P "__package__"), (.str "__package__" 167), .none⟩, ⟨(PyData.keyHash P "__loader__"), (.str "__loader__" 168), (.builtin "__main__.__loader__#opaque")⟩, ⟨(PyData.keyHash P "__spec__"), (.str "__spec__" 169), .none⟩, ⟨(PyData.keyHash P "__annotations__"), (.str "__annotations__" 170), (.ref 6)⟩, ⟨(PyData.keyHash P "__builtins__"), (.str "__builtins__" 171), (.ref 4)⟩, ⟨(PyData.keyHash P "__file__"), (.str "__file__" 173), (.str "/claim/cut.py" 172)⟩, ⟨(PyData.keyHash P "__cached__"), (.str "__cached__" 174), .none⟩, ⟨(PyData.keyHash P "DebtError"), (.str "DebtError" 206), (.ref 24)⟩, ⟨(PyData.keyHash P "BadCount"), (.str "BadCount" 222), (.ref 37)⟩, ⟨(PyData.keyHash P "BadDebt"), (.str "BadDebt" 238), (.ref 49)⟩, ⟨(PyData.keyHash P "BadCut"), (.str "BadCut" 254), (.ref 61)⟩, ⟨(PyData.keyHash P "Uneven"), (.str "Uneven" 270), (.ref 73)⟩, ⟨(PyData.keyHash P "BadPrices"), (.str "BadPrices" 286), (.ref 85)⟩, ⟨(PyData.keyHash P "NotBest"), (.str "NotBest" 302), (.ref 97)⟩, ⟨(PyData.keyHash P "NoDebt"), (.str "NoDebt" 318), (.ref 109)⟩, ⟨(PyData.keyHash P "NoHouse"), (.str "NoHouse" 334), (.ref 121)⟩, ⟨(PyData.keyHash P "BadAmount"), (.str "BadAmount" 350), (.ref 133)⟩, ⟨(PyData.keyHash P "is_number"), (.str "is_number" 359), (.ref 142)⟩, ⟨(PyData.keyHash P "need_cut"), (.str "need_cut" 370), (.ref 149)⟩, ⟨(PyData.keyHash P "shown"), (.str "shown" 386), (.ref 156)⟩, ⟨(PyData.keyHash P "_law_cell_at"), (.str "_law_cell_at" 396), (.ref 163)⟩] 23), #[]⟩
noncomputable def o140 (_ : Params) : Obj := ⟨.none, Option.none, (.fields #[(.int 2 0), (.int 0 0), (.ref 20), (.int 4 0), (.int 0 0), (.ref 33), (.int 6 0), (.int 0 0), (.ref 45), (.int 8 0), (.int 0 0), (.ref 57), (.int 10 0), (.int 0 0), (.ref 69), (.int 12 0), (.int 0 0), (.ref 81), (.int 14 0), (.int 0 0), (.ref 93), (.int 16 0), (.int 0 0), (.ref 105), (.int 18 0), (.int 0 0), (.ref 117), (.int 20 0), (.int 0 0), (.ref 129), (.int 23 0), (.int 0 0), (.ref 141), (.int 26 0), (.int 0 0), (.ref 148), (.int 33 0), (.int 0 0), (.ref 155), (.int 49 0), (.int 0 0), (.ref 162)]), #[]⟩
noncomputable def o141 (_ : Params) : Obj := ⟨(.type "type"), Option.none, (.cls ⟨"DebtError", [(.type "ValueError")], [(.ref 24), (.type "ValueError"), (.type "Exception"), (.type "BaseException"), (.type "object")], 23, "DebtError", true, [], [(.ref 37), (.ref 49), (.ref 61), (.ref 73), (.ref 85), (.ref 97), (.ref 109), (.ref 121), (.ref 133)], false, Option.none, false⟩), #[(Option.some (.ref 15)), Option.none, (Option.some (.str "DebtError" 189)), (Option.some (.str "DebtError" 197)), (Option.some (.builtin "ValueError.__new__")), (Option.some (.bool true))]⟩
noncomputable def o142 (_ : Params) : Obj := ⟨(.type "tuple"), Option.none, (.seq #[(.ref 24)] 0), #[]⟩
noncomputable def o143 (_ : Params) : Obj := ⟨(.type "builtin_function_or_method"), Option.none, (.fields #[(.builtin "type.__prepare__"), (.type "type")]), #[]⟩
noncomputable def o144 (P : Params) : Obj := ⟨(.type "dict"), Option.none, (.dict #[⟨(PyData.keyHash P "__module__"), (.str "__module__" 342), (.str "clearday.errors" 187)⟩, ⟨(PyData.keyHash P "__qualname__"), (.str "__qualname__" 344), (.str "BadAmount" 343)⟩, ⟨(PyData.keyHash P "__firstlineno__"), (.str "__firstlineno__" 346), (.int 20 345)⟩, ⟨(PyData.keyHash P "__static_attributes__"), (.str "__static_attributes__" 347), (.ref 131)⟩] 4), #[]⟩
noncomputable def o145 (_ : Params) : Obj := ⟨(.type "tuple"), Option.none, (.seq #[] 0), #[]⟩
noncomputable def o146 (_ : Params) : Obj := ⟨.none, Option.none, (.fields #[]), #[]⟩
noncomputable def o147 (_ : Params) : Obj := ⟨(.type "code"), Option.none, (.fields #[(.str "BadAmount" 337), (.str "BadAmount" 338), (.str "/claim/cut.py" 339), (.int 20 0), (.int 0 0), (.int 0 0), (.int 0 0), (.int 0 0), (.ref 127), (.bool false), (.int 181 0), (.ref 128), .none, .none, .none, .none, (.int 340 0), (.int 20 0), (.str "/claim/cut.py" 341)]), #[]⟩
noncomputable def o148 (_ : Params) : Obj := ⟨(.type "frame"), Option.none, .plain, #[(Option.some (.ref 129)), (Option.some (.ref 3)), (Option.some (.ref 126)), Option.none, (Option.some (.str "clearday.errors" 187)), Option.none, (Option.some (.ref 0))]⟩
noncomputable def o149 (_ : Params) : Obj := ⟨(.type "tuple"), Option.none, (.seq #[] 0), #[]⟩
noncomputable def o150 (P : Params) : Obj := ⟨(.type "dict"), Option.none, (.dict #[⟨(PyData.keyHash P "__module__"), (.str "__module__" 342), (.str "clearday.errors" 187)⟩, ⟨(PyData.keyHash P "__firstlineno__"), (.str "__firstlineno__" 346), (.int 20 345)⟩, ⟨(PyData.keyHash P "__static_attributes__"), (.str "__static_attributes__" 347), (.ref 131)⟩, ⟨(PyData.keyHash P "__doc__"), (.str "__doc__" 348), .none⟩] 2), #[]⟩
noncomputable def o151 (_ : Params) : Obj := ⟨(.type "type"), Option.none, (.cls ⟨"BadAmount", [(.ref 24)], [(.ref 133), (.ref 24), (.type "ValueError"), (.type "Exception"), (.type "BaseException"), (.type "object")], 132, "BadAmount", true, [], [], false, Option.none, false⟩), #[(Option.some (.ref 124)), Option.none, (Option.some (.str "BadAmount" 335)), (Option.some (.str "BadAmount" 343)), (Option.some (.builtin "ValueError.__new__")), (Option.some (.bool true))]⟩
noncomputable def o152 (_ : Params) : Obj := ⟨(.type "super"), Option.none, (.fields #[(.ref 133), (.ref 133), (.ref 133)]), #[]⟩
noncomputable def o153 (_ : Params) : Obj := ⟨(.type "builtin_function_or_method"), Option.none, (.fields #[(.builtin "object.__init_subclass__"), (.ref 133)]), #[]⟩
noncomputable def o154 (_ : Params) : Obj := ⟨(.type "tuple"), Option.none, (.seq #[] 0), #[]⟩
noncomputable def o155 (_ : Params) : Obj := ⟨.none, Option.none, (.fields #[]), #[]⟩
noncomputable def o156 (_ : Params) : Obj := ⟨(.type "tuple"), Option.none, (.seq #[(.str "value" 356)] 0), #[]⟩
noncomputable def o157 (_ : Params) : Obj := ⟨(.type "tuple"), Option.none, (.seq #[] 0), #[]⟩
noncomputable def o158 (_ : Params) : Obj := ⟨.none, Option.none, (.func ⟨"is_number", "is_number", (fnA (fnS 12)), (.stmts (fnB (fnS 12))), (fnC (fnS 12)), 0, [], .none, .none, .none, .none, Option.none, .none, .none, 0⟩), #[]⟩
noncomputable def o159 (_ : Params) : Obj := ⟨(.type "code"), Option.none, (.fields #[(.str "is_number" 353), (.str "is_number" 354), (.str "/claim/cut.py" 355), (.int 23 0), (.int 1 0), (.int 0 0), (.int 0 0), (.int 3 0), (.ref 136), (.bool true), (.int 181 0), (.ref 137), .none, (.ref 138), (.ref 139), (.ref 140), (.int 357 0), (.int 23 0), (.str "/claim/cut.py" 358)]), #[]⟩
noncomputable def o160 (_ : Params) : Obj := ⟨(.type "function"), Option.none, (.func ⟨"is_number", "is_number", (fnA (fnS 12)), (.stmts (fnB (fnS 12))), (fnC (fnS 12)), 3, [], .none, .none, .none, (.str "clearday.books" 351), Option.none, (.ref 141), .none, 0⟩), #[]⟩
noncomputable def o161 (_ : Params) : Obj := ⟨(.type "tuple"), Option.none, (.seq #[] 0), #[]⟩
noncomputable def o162 (_ : Params) : Obj := ⟨.none, Option.none, (.fields #[]), #[]⟩
noncomputable def o163 (_ : Params) : Obj := ⟨(.type "tuple"), Option.none, (.seq #[(.str "debts" 365), (.str "cut" 366), (.str "number" 367)] 0), #[]⟩
noncomputable def o164 (_ : Params) : Obj := ⟨(.type "tuple"), Option.none, (.seq #[] 0), #[]⟩
noncomputable def o165 (_ : Params) : Obj := ⟨.none, Option.none, (.func ⟨"need_cut", "need_cut", (fnA (fnS 14)), (.stmts (fnB (fnS 14))), (fnC (fnS 14)), 0, [], .none, .none, .none, .none, Option.none, .none, .none, 0⟩), #[]⟩
noncomputable def o166 (_ : Params) : Obj := ⟨(.type "code"), Option.none, (.fields #[(.str "need_cut" 362), (.str "need_cut" 363), (.str "/claim/cut.py" 364), (.int 26 0), (.int 2 0), (.int 0 0), (.int 0 0), (.int 3 0), (.ref 143), (.bool true), (.int 181 0), (.ref 144), .none, (.ref 145), (.ref 146), (.ref 147), (.int 368 0), (.int 26 0), (.str "/claim/cut.py" 369)]), #[]⟩
noncomputable def o167 (_ : Params) : Obj := ⟨(.type "function"), Option.none, (.func ⟨"need_cut", "need_cut", (fnA (fnS 14)), (.stmts (fnB (fnS 14))), (fnC (fnS 14)), 3, [], .none, .none, .none, (.str "clearday.cuts" 360), Option.none, (.ref 148), .none, 0⟩), #[]⟩
noncomputable def o168 (_ : Params) : Obj := ⟨(.type "tuple"), Option.none, (.seq #[] 0), #[]⟩
noncomputable def o169 (_ : Params) : Obj := ⟨.none, Option.none, (.fields #[]), #[]⟩
noncomputable def o170 (_ : Params) : Obj := ⟨(.type "tuple"), Option.none, (.seq #[(.str "count" 376), (.str "debts" 377), (.str "cut" 378), (.str "tags" 379), (.str "price" 380), (.str "number" 381), (.str "debt" 382), (.str "lure" 383)] 0), #[]⟩
noncomputable def o171 (_ : Params) : Obj := ⟨(.type "tuple"), Option.none, (.seq #[] 0), #[]⟩
noncomputable def o172 (_ : Params) : Obj := ⟨.none, Option.none, (.func ⟨"shown", "shown", (fnA (fnS 16)), (.stmts (fnB (fnS 16))), (fnC (fnS 16)), 0, [], .none, .none, .none, .none, Option.none, .none, .none, 0⟩), #[]⟩
noncomputable def o173 (_ : Params) : Obj := ⟨(.type "code"), Option.none, (.fields #[(.str "shown" 373), (.str "shown" 374), (.str "/claim/cut.py" 375), (.int 33 0), (.int 4 0), (.int 0 0), (.int 0 0), (.int 3 0), (.ref 150), (.bool true), (.int 181 0), (.ref 151), .none, (.ref 152), (.ref 153), (.ref 154), (.int 384 0), (.int 33 0), (.str "/claim/cut.py" 385)]), #[]⟩
noncomputable def o174 (_ : Params) : Obj := ⟨(.type "function"), Option.none, (.func ⟨"shown", "shown", (fnA (fnS 16)), (.stmts (fnB (fnS 16))), (fnC (fnS 16)), 3, [], .none, .none, .none, (.str "clearday.best" 371), Option.none, (.ref 155), .none, 0⟩), #[]⟩
noncomputable def o175 (_ : Params) : Obj := ⟨(.type "tuple"), Option.none, (.seq #[] 0), #[]⟩
noncomputable def o176 (_ : Params) : Obj := ⟨.none, Option.none, (.fields #[]), #[]⟩
noncomputable def o177 (_ : Params) : Obj := ⟨(.type "tuple"), Option.none, (.seq #[(.str "_law_script" 392), (.str "_law_k" 393)] 0), #[]⟩
noncomputable def o178 (_ : Params) : Obj := ⟨(.type "tuple"), Option.none, (.seq #[] 0), #[]⟩
noncomputable def o179 (_ : Params) : Obj := ⟨.none, Option.none, (.func ⟨"_law_cell_at", "_law_cell_at", (fnA (fnS 18)), (.stmts (fnB (fnS 18))), (fnC (fnS 18)), 0, [], .none, .none, .none, .none, Option.none, .none, .none, 0⟩), #[]⟩
noncomputable def o180 (_ : Params) : Obj := ⟨(.type "code"), Option.none, (.fields #[(.str "_law_cell_at" 389), (.str "_law_cell_at" 390), (.str "/claim/cut.py" 391), (.int 49 0), (.int 2 0), (.int 0 0), (.int 0 0), (.int 3 0), (.ref 157), (.bool true), (.int 181 0), (.ref 158), .none, (.ref 159), (.ref 160), (.ref 161), (.int 394 0), (.int 49 0), (.str "/claim/cut.py" 395)]), #[]⟩
noncomputable def o181 (_ : Params) : Obj := ⟨(.type "function"), Option.none, (.func ⟨"_law_cell_at", "_law_cell_at", (fnA (fnS 18)), (.stmts (fnB (fnS 18))), (fnC (fnS 18)), 3, [], .none, .none, .none, (.str "law_uf030027_05" 387), Option.none, (.ref 162), .none, 0⟩), #[]⟩
noncomputable def tr10 (P : Params) : BT := (.node (boot_o_0 P) (.node (boot_o_1 P) (.node (o139 P) (.node (boot_o_7 P) (.node (o6 P) (.node (o25 P) (.node (o63 P) (.node (o145 P) .nil .nil) .nil) (.node (o104 P) (.node (o177 P) .nil .nil) .nil)) (.node (o44 P) (.node (o85 P) (.node (o161 P) .nil .nil) .nil) (.node (o123 P) .nil .nil))) (.node (o14 P) (.node (o33 P) (.node (o74 P) (.node (o153 P) .nil .nil) .nil) (.node (o115 P) .nil .nil)) (.node (o55 P) (.node (o93 P) (.node (o169 P) .nil .nil) .nil) (.node (o134 P) .nil .nil)))) (.node (o0 P) (.node (o10 P) (.node (o29 P) (.node (o70 P) (.node (o149 P) .nil .nil) .nil) (.node (o108 P) (.node (o181 P) .nil .nil) .nil)) (.node (o48 P) (.node (o89 P) (.node (o165 P) .nil .nil) .nil) (.node (o130 P) .nil .nil))) (.node (o18 P) (.node (o40 P) (.node (o78 P) (.node (o157 P) .nil .nil) .nil) (.node (o119 P) .nil .nil)) (.node (o59 P) (.node (o100 P) (.node (o173 P) .nil .nil) .nil) (.node (o138 P) .nil .nil))))) (.node (boot_o_5 P) (.node (boot_o_9 P) (.node (o8 P) (.node (o27 P) (.node (o68 P) (.node (o147 P) .nil .nil) .nil) (.node (o106 P) (.node (o179 P) .nil .nil) .nil)) (.node (o46 P) (.node (o87 P) (.node (o163 P) .nil .nil) .nil) (.node (o128 P) .nil .nil))) (.node (o16 P) (.node (o38 P) (.node (o76 P) (.node (o155 P) .nil .nil) .nil) (.node (o117 P) .nil .nil)) (.node (o57 P) (.node (o98 P) (.node (o171 P) .nil .nil) .nil) (.node (o136 P) .nil .nil)))) (.node (o2 P) (.node (o12 P) (.node (o31 P) (.node (o72 P) (.node (o151 P) .nil .nil) .nil) (.node (o113 P) .nil .nil)) (.node (o53 P) (.node (o91 P) (.node (o167 P) .nil .nil) .nil) (.node (o132 P) .nil .nil))) (.node (o23 P) (.node (o42 P) (.node (o83 P) (.node (o159 P) .nil .nil) .nil) (.node (o121 P) .nil .nil)) (.node (o61 P) (.node (o102 P) (.node (o175 P) .nil .nil) .nil) (.node (o143 P) .nil .nil)))))) (.node (boot_o_2 P) (.node (boot_o_4 P) (.node (boot_o_8 P) (.node (o7 P) (.node (o26 P) (.node (o67 P) (.node (o146 P) .nil .nil) .nil) (.node (o105 P) (.node (o178 P) .nil .nil) .nil)) (.node (o45 P) (.node (o86 P) (.node (o162 P) .nil .nil) .nil) (.node (o127 P) .nil .nil))) (.node (o141 P) (.node (o37 P) (.node (o75 P) (.node (o154 P) .nil .nil) .nil) (.node (o116 P) .nil .nil)) (.node (o56 P) (.node (o97 P) (.node (o170 P) .nil .nil) .nil) (.node (o135 P) .nil .nil)))) (.node (o140 P) (.node (o11 P) (.node (o30 P) (.node (o71 P) (.node (o150 P) .nil .nil) .nil) (.node (o112 P) .nil .nil)) (.node (o52 P) (.node (o90 P) (.node (o166 P) .nil .nil) .nil) (.node (o131 P) .nil .nil))) (.node (o22 P) (.node (o41 P) (.node (o82 P) (.node (o158 P) .nil .nil) .nil) (.node (o120 P) .nil .nil)) (.node (o60 P) (.node (o101 P) (.node (o174 P) .nil .nil) .nil) (.node (o142 P) .nil .nil))))) (.node (boot_o_6 P) (.node (boot_o_10 P) (.node (o9 P) (.node (o28 P) (.node (o69 P) (.node (o148 P) .nil .nil) .nil) (.node (o107 P) (.node (o180 P) .nil .nil) .nil)) (.node (o47 P) (.node (o88 P) (.node (o164 P) .nil .nil) .nil) (.node (o129 P) .nil .nil))) (.node (o17 P) (.node (o39 P) (.node (o77 P) (.node (o156 P) .nil .nil) .nil) (.node (o118 P) .nil .nil)) (.node (o58 P) (.node (o99 P) (.node (o172 P) .nil .nil) .nil) (.node (o137 P) .nil .nil)))) (.node (o3 P) (.node (o13 P) (.node (o32 P) (.node (o73 P) (.node (o152 P) .nil .nil) .nil) (.node (o114 P) .nil .nil)) (.node (o54 P) (.node (o92 P) (.node (o168 P) .nil .nil) .nil) (.node (o133 P) .nil .nil))) (.node (o24 P) (.node (o43 P) (.node (o84 P) (.node (o160 P) .nil .nil) .nil) (.node (o122 P) .nil .nil)) (.node (o62 P) (.node (o103 P) (.node (o176 P) .nil .nil) .nil) (.node (o144 P) .nil .nil)))))))
noncomputable def S10 (w : World) (os : OsState) : SharedT := ⟨tr10 w.params, 164, ⟨[], [], [], 0, [], [], false, #[], [], 0, false, false, false, 0, [2000, 10, 10], false, 0, true, [], [], 0, false⟩, #[], ⟨0, 0, 0, 0⟩, 397, os⟩
noncomputable def ss9 : List Stmt := (bdQ.drop 10).take 9
noncomputable def o182 (P : Params) : Obj := ⟨(.type "dict"), Option.none, (.dict #[⟨(PyData.keyHash P "__name__"), (.str "__name__" 165), (.str "law_uf030027_05" 387)⟩, ⟨(PyData.keyHash P "__doc__"), (.str "__doc__" 166), .none⟩, ⟨(PyData.keyHash P "__package__"), (.str "__package__" 167), .none⟩, ⟨(PyData.keyHash P "__loader__"), (.str "__loader__" 168), (.builtin "__main__.__loader__#opaque")⟩, ⟨(PyData.keyHash P "__spec__"), (.str "__spec__" 169), .none⟩, ⟨(PyData.keyHash P "__annotations__"), (.str "__annotations__" 170), (.ref 6)⟩, ⟨(PyData.keyHash P "__builtins__"), (.str "__builtins__" 171), (.ref 4)⟩, ⟨(PyData.keyHash P "__file__"), (.str "__file__" 173), (.str "/claim/cut.py" 172)⟩, ⟨(PyData.keyHash P "__cached__"), (.str "__cached__" 174), .none⟩, ⟨(PyData.keyHash P "DebtError"), (.str "DebtError" 206), (.ref 24)⟩, ⟨(PyData.keyHash P "BadCount"), (.str "BadCount" 222), (.ref 37)⟩, ⟨(PyData.keyHash P "BadDebt"), (.str "BadDebt" 238), (.ref 49)⟩, ⟨(PyData.keyHash P "BadCut"), (.str "BadCut" 254), (.ref 61)⟩, ⟨(PyData.keyHash P "Uneven"), (.str "Uneven" 270), (.ref 73)⟩, ⟨(PyData.keyHash P "BadPrices"), (.str "BadPrices" 286), (.ref 85)⟩, ⟨(PyData.keyHash P "NotBest"), (.str "NotBest" 302), (.ref 97)⟩, ⟨(PyData.keyHash P "NoDebt"), (.str "NoDebt" 318), (.ref 109)⟩, ⟨(PyData.keyHash P "NoHouse"), (.str "NoHouse" 334), (.ref 121)⟩, ⟨(PyData.keyHash P "BadAmount"), (.str "BadAmount" 350), (.ref 133)⟩, ⟨(PyData.keyHash P "is_number"), (.str "is_number" 359), (.ref 142)⟩, ⟨(PyData.keyHash P "need_cut"), (.str "need_cut" 370), (.ref 149)⟩, ⟨(PyData.keyHash P "shown"), (.str "shown" 386), (.ref 156)⟩, ⟨(PyData.keyHash P "_law_cell_at"), (.str "_law_cell_at" 396), (.ref 163)⟩, ⟨(PyData.keyHash P "_law_truth"), (.str "_law_truth" 404), (.ref 170)⟩, ⟨(PyData.keyHash P "_law_debt"), (.str "_law_debt" 418), (.ref 177)⟩, ⟨(PyData.keyHash P "_law_count"), (.str "_law_count" 426), (.ref 184)⟩, ⟨(PyData.keyHash P "_law_debts"), (.str "_law_debts" 432), (.ref 189)⟩, ⟨(PyData.keyHash P "_law_bad_cut"), (.str "_law_bad_cut" 444), (.ref 196)⟩, ⟨(PyData.keyHash P "_law_shows"), (.str "_law_shows" 458), (.ref 203)⟩, ⟨(PyData.keyHash P "_law_kind"), (.str "_law_kind" 466), (.ref 210)⟩, ⟨(PyData.keyHash P "_law_tags"), (.str "_law_tags" 479), (.ref 217)⟩, ⟨(PyData.keyHash P "_law_cut_for"), (.str "_law_cut_for" 494), (.ref 224)⟩, ⟨(PyData.keyHash P "_law_refused"), (.str "_law_refused" 505), (.ref 231)⟩, ⟨(PyData.keyHash P "_law_bad_tags"), (.str "_law_bad_tags" 515), (.ref 238)⟩, ⟨(PyData.keyHash P "law"), (.str "law" 530), (.ref 245)⟩] 35), #[]⟩
noncomputable def o183 (_ : Params) : Obj := ⟨.none, Option.none, (.fields #[(.int 2 0), (.int 0 0), (.ref 20), (.int 4 0), (.int 0 0), (.ref 33), (.int 6 0), (.int 0 0), (.ref 45), (.int 8 0), (.int 0 0), (.ref 57), (.int 10 0), (.int 0 0), (.ref 69), (.int 12 0), (.int 0 0), (.ref 81), (.int 14 0), (.int 0 0), (.ref 93), (.int 16 0), (.int 0 0), (.ref 105), (.int 18 0), (.int 0 0), (.ref 117), (.int 20 0), (.int 0 0), (.ref 129), (.int 23 0), (.int 0 0), (.ref 141), (.int 26 0), (.int 0 0), (.ref 148), (.int 33 0), (.int 0 0), (.ref 155), (.int 49 0), (.int 0 0), (.ref 162), (.int 53 0), (.int 0 0), (.ref 169), (.int 55 0), (.int 0 0), (.ref 176), (.int 68 0), (.int 0 0), (.ref 183), (.int 75 0), (.int 0 0), (.ref 188), (.int 89 0), (.int 0 0), (.ref 195), (.int 100 0), (.int 0 0), (.ref 202), (.int 109 0), (.int 0 0), (.ref 209), (.int 132 0), (.int 0 0), (.ref 216), (.int 144 0), (.int 0 0), (.ref 223), (.int 159 0), (.int 0 0), (.ref 230), (.int 165 0), (.int 0 0), (.ref 237), (.int 171 0), (.int 0 0), (.ref 244)]), #[]⟩
noncomputable def o184 (_ : Params) : Obj := ⟨(.type "tuple"), Option.none, (.seq #[] 0), #[]⟩
noncomputable def o185 (_ : Params) : Obj := ⟨.none, Option.none, (.fields #[]), #[]⟩
noncomputable def o186 (_ : Params) : Obj := ⟨(.type "tuple"), Option.none, (.seq #[(.str "_law_found" 400), (.str "_law_due" 401)] 0), #[]⟩
noncomputable def o187 (_ : Params) : Obj := ⟨(.type "tuple"), Option.none, (.seq #[] 0), #[]⟩
noncomputable def o188 (_ : Params) : Obj := ⟨.none, Option.none, (.func ⟨"_law_truth", "_law_truth", (fnA (fnS 19)), (.stmts (fnB (fnS 19))), (fnC (fnS 19)), 0, [], .none, .none, .none, .none, Option.none, .none, .none, 0⟩), #[]⟩
noncomputable def o189 (_ : Params) : Obj := ⟨(.type "code"), Option.none, (.fields #[(.str "_law_truth" 397), (.str "_law_truth" 398), (.str "/claim/cut.py" 399), (.int 53 0), (.int 2 0), (.int 0 0), (.int 0 0), (.int 3 0), (.ref 164), (.bool true), (.int 181 0), (.ref 165), .none, (.ref 166), (.ref 167), (.ref 168), (.int 402 0), (.int 53 0), (.str "/claim/cut.py" 403)]), #[]⟩
noncomputable def o190 (_ : Params) : Obj := ⟨(.type "function"), Option.none, (.func ⟨"_law_truth", "_law_truth", (fnA (fnS 19)), (.stmts (fnB (fnS 19))), (fnC (fnS 19)), 3, [], .none, .none, .none, (.str "law_uf030027_05" 387), Option.none, (.ref 169), .none, 0⟩), #[]⟩
noncomputable def o191 (_ : Params) : Obj := ⟨(.type "tuple"), Option.none, (.seq #[] 0), #[]⟩
noncomputable def o192 (_ : Params) : Obj := ⟨.none, Option.none, (.fields #[]), #[]⟩
noncomputable def o193 (_ : Params) : Obj := ⟨(.type "tuple"), Option.none, (.seq #[(.str "_law_cell" 408), (.str "_law_k" 409), (.str "_law_count_here" 410), (.str "_law_mixed" 411), (.str "_law_debtor" 412), (.str "_law_creditor" 413), (.str "_law_kind_here" 414), (.str "_law_amount" 415)] 0), #[]⟩
noncomputable def o194 (_ : Params) : Obj := ⟨(.type "tuple"), Option.none, (.seq #[] 0), #[]⟩
noncomputable def o195 (_ : Params) : Obj := ⟨.none, Option.none, (.func ⟨"_law_debt", "_law_debt", (fnA (fnS 20)), (.stmts (fnB (fnS 20))), (fnC (fnS 20)), 0, [], .none, .none, .none, .none, Option.none, .none, .none, 0⟩), #[]⟩
noncomputable def o196 (_ : Params) : Obj := ⟨(.type "code"), Option.none, (.fields #[(.str "_law_debt" 405), (.str "_law_debt" 406), (.str "/claim/cut.py" 407), (.int 55 0), (.int 3 0), (.int 0 0), (.int 0 0), (.int 3 0), (.ref 171), (.bool true), (.int 181 0), (.ref 172), .none, (.ref 173), (.ref 174), (.ref 175), (.int 416 0), (.int 55 0), (.str "/claim/cut.py" 417)]), #[]⟩
noncomputable def o197 (_ : Params) : Obj := ⟨(.type "function"), Option.none, (.func ⟨"_law_debt", "_law_debt", (fnA (fnS 20)), (.stmts (fnB (fnS 20))), (fnC (fnS 20)), 3, [], .none, .none, .none, (.str "law_uf030027_05" 387), Option.none, (.ref 176), .none, 0⟩), #[]⟩
noncomputable def o198 (_ : Params) : Obj := ⟨(.type "tuple"), Option.none, (.seq #[] 0), #[]⟩
noncomputable def o199 (_ : Params) : Obj := ⟨.none, Option.none, (.fields #[]), #[]⟩
noncomputable def o200 (_ : Params) : Obj := ⟨(.type "tuple"), Option.none, (.seq #[(.str "_law_script" 422), (.str "_law_cell" 423)] 0), #[]⟩
noncomputable def o201 (_ : Params) : Obj := ⟨(.type "tuple"), Option.none, (.seq #[] 0), #[]⟩
noncomputable def o202 (_ : Params) : Obj := ⟨.none, Option.none, (.func ⟨"_law_count", "_law_count", (fnA (fnS 21)), (.stmts (fnB (fnS 21))), (fnC (fnS 21)), 0, [], .none, .none, .none, .none, Option.none, .none, .none, 0⟩), #[]⟩
noncomputable def o203 (_ : Params) : Obj := ⟨(.type "code"), Option.none, (.fields #[(.str "_law_count" 419), (.str "_law_count" 420), (.str "/claim/cut.py" 421), (.int 68 0), (.int 1 0), (.int 0 0), (.int 0 0), (.int 3 0), (.ref 178), (.bool true), (.int 181 0), (.ref 179), .none, (.ref 180), (.ref 181), (.ref 182), (.int 424 0), (.int 68 0), (.str "/claim/cut.py" 425)]), #[]⟩
noncomputable def o204 (_ : Params) : Obj := ⟨(.type "function"), Option.none, (.func ⟨"_law_count", "_law_count", (fnA (fnS 21)), (.stmts (fnB (fnS 21))), (fnC (fnS 21)), 3, [], .none, .none, .none, (.str "law_uf030027_05" 387), Option.none, (.ref 183), .none, 0⟩), #[]⟩
noncomputable def o205 (_ : Params) : Obj := ⟨(.type "tuple"), Option.none, (.seq #[] 0), #[]⟩
noncomputable def o206 (_ : Params) : Obj := ⟨.none, Option.none, (.fields #[]), #[]⟩
noncomputable def o207 (_ : Params) : Obj := ⟨.none, Option.none, (.func ⟨"_law_debts", "_law_debts", (fnA (fnS 22)), (.stmts (fnB (fnS 22))), (fnC (fnS 22)), 0, [], .none, .none, .none, .none, Option.none, .none, .none, 0⟩), #[]⟩
noncomputable def o208 (_ : Params) : Obj := ⟨(.type "code"), Option.none, (.fields #[(.str "_law_debts" 427), (.str "_law_debts" 428), (.str "/claim/cut.py" 429), (.int 75 0), (.int 3 0), (.int 0 0), (.int 0 0), (.int 3 0), (.ref 185), (.bool true), (.int 181 0), (.ref 186), .none, .none, .none, (.ref 187), (.int 430 0), (.int 75 0), (.str "/claim/cut.py" 431)]), #[]⟩
noncomputable def o209 (_ : Params) : Obj := ⟨(.type "function"), Option.none, (.func ⟨"_law_debts", "_law_debts", (fnA (fnS 22)), (.stmts (fnB (fnS 22))), (fnC (fnS 22)), 3, [], .none, .none, .none, (.str "law_uf030027_05" 387), Option.none, (.ref 188), .none, 0⟩), #[]⟩
noncomputable def o210 (_ : Params) : Obj := ⟨(.type "tuple"), Option.none, (.seq #[] 0), #[]⟩
noncomputable def o211 (_ : Params) : Obj := ⟨.none, Option.none, (.fields #[]), #[]⟩
noncomputable def o212 (_ : Params) : Obj := ⟨(.type "tuple"), Option.none, (.seq #[(.str "_law_debts_here" 436), (.str "_law_cut" 437), (.str "_law_cell" 438), (.str "_law_at" 439), (.str "_law_amount" 440), (.str "_law_odd" 441)] 0), #[]⟩
noncomputable def o213 (_ : Params) : Obj := ⟨(.type "tuple"), Option.none, (.seq #[] 0), #[]⟩
noncomputable def o214 (_ : Params) : Obj := ⟨.none, Option.none, (.func ⟨"_law_bad_cut", "_law_bad_cut", (fnA (fnS 23)), (.stmts (fnB (fnS 23))), (fnC (fnS 23)), 0, [], .none, .none, .none, .none, Option.none, .none, .none, 0⟩), #[]⟩
noncomputable def o215 (_ : Params) : Obj := ⟨(.type "code"), Option.none, (.fields #[(.str "_law_bad_cut" 433), (.str "_law_bad_cut" 434), (.str "/claim/cut.py" 435), (.int 89 0), (.int 3 0), (.int 0 0), (.int 0 0), (.int 3 0), (.ref 190), (.bool true), (.int 181 0), (.ref 191), .none, (.ref 192), (.ref 193), (.ref 194), (.int 442 0), (.int 89 0), (.str "/claim/cut.py" 443)]), #[]⟩
noncomputable def o216 (_ : Params) : Obj := ⟨(.type "function"), Option.none, (.func ⟨"_law_bad_cut", "_law_bad_cut", (fnA (fnS 23)), (.stmts (fnB (fnS 23))), (fnC (fnS 23)), 3, [], .none, .none, .none, (.str "law_uf030027_05" 387), Option.none, (.ref 195), .none, 0⟩), #[]⟩
noncomputable def o217 (_ : Params) : Obj := ⟨(.type "tuple"), Option.none, (.seq #[] 0), #[]⟩
noncomputable def o218 (_ : Params) : Obj := ⟨.none, Option.none, (.fields #[]), #[]⟩
noncomputable def o219 (_ : Params) : Obj := ⟨(.type "tuple"), Option.none, (.seq #[(.str "_law_debts_here" 448), (.str "_law_cut" 449), (.str "_law_tags_here" 450), (.str "_law_number" 451), (.str "_law_debtor" 452), (.str "_law_creditor" 453), (.str "_law_amount" 454), (.str "_law_lure" 455)] 0), #[]⟩
noncomputable def o220 (_ : Params) : Obj := ⟨(.type "tuple"), Option.none, (.seq #[] 0), #[]⟩
noncomputable def o221 (_ : Params) : Obj := ⟨.none, Option.none, (.func ⟨"_law_shows", "_law_shows", (fnA (fnS 24)), (.stmts (fnB (fnS 24))), (fnC (fnS 24)), 0, [], .none, .none, .none, .none, Option.none, .none, .none, 0⟩), #[]⟩
noncomputable def o222 (_ : Params) : Obj := ⟨(.type "code"), Option.none, (.fields #[(.str "_law_shows" 445), (.str "_law_shows" 446), (.str "/claim/cut.py" 447), (.int 100 0), (.int 3 0), (.int 0 0), (.int 0 0), (.int 3 0), (.ref 197), (.bool true), (.int 181 0), (.ref 198), .none, (.ref 199), (.ref 200), (.ref 201), (.int 456 0), (.int 100 0), (.str "/claim/cut.py" 457)]), #[]⟩
noncomputable def o223 (_ : Params) : Obj := ⟨(.type "function"), Option.none, (.func ⟨"_law_shows", "_law_shows", (fnA (fnS 24)), (.stmts (fnB (fnS 24))), (fnC (fnS 24)), 3, [], .none, .none, .none, (.str "law_uf030027_05" 387), Option.none, (.ref 202), .none, 0⟩), #[]⟩
noncomputable def o224 (_ : Params) : Obj := ⟨(.type "tuple"), Option.none, (.seq #[] 0), #[]⟩
noncomputable def o225 (_ : Params) : Obj := ⟨.none, Option.none, (.fields #[]), #[]⟩
noncomputable def o226 (_ : Params) : Obj := ⟨(.type "tuple"), Option.none, (.seq #[(.str "_law_error" 462), (.str "_law_words" 463)] 0), #[]⟩
noncomputable def o227 (_ : Params) : Obj := ⟨(.type "tuple"), Option.none, (.seq #[] 0), #[]⟩
noncomputable def o228 (_ : Params) : Obj := ⟨.none, Option.none, (.func ⟨"_law_kind", "_law_kind", (fnA (fnS 25)), (.stmts (fnB (fnS 25))), (fnC (fnS 25)), 0, [], .none, .none, .none, .none, Option.none, .none, .none, 0⟩), #[]⟩
noncomputable def o229 (_ : Params) : Obj := ⟨(.type "code"), Option.none, (.fields #[(.str "_law_kind" 459), (.str "_law_kind" 460), (.str "/claim/cut.py" 461), (.int 109 0), (.int 1 0), (.int 0 0), (.int 0 0), (.int 3 0), (.ref 204), (.bool true), (.int 181 0), (.ref 205), .none, (.ref 206), (.ref 207), (.ref 208), (.int 464 0), (.int 109 0), (.str "/claim/cut.py" 465)]), #[]⟩
noncomputable def o230 (_ : Params) : Obj := ⟨(.type "function"), Option.none, (.func ⟨"_law_kind", "_law_kind", (fnA (fnS 25)), (.stmts (fnB (fnS 25))), (fnC (fnS 25)), 3, [], .none, .none, .none, (.str "law_uf030027_05" 387), Option.none, (.ref 209), .none, 0⟩), #[]⟩
noncomputable def o231 (_ : Params) : Obj := ⟨(.type "tuple"), Option.none, (.seq #[] 0), #[]⟩
noncomputable def o232 (_ : Params) : Obj := ⟨.none, Option.none, (.fields #[]), #[]⟩
noncomputable def o233 (_ : Params) : Obj := ⟨(.type "tuple"), Option.none, (.seq #[(.str "_law_script" 470), (.str "_law_count_here" 471), (.str "_law_far" 472), (.str "_law_tags_here" 473), (.str "_law_house" 474), (.str "_law_mixed" 475), (.str "_law_tag" 476)] 0), #[]⟩
noncomputable def o234 (_ : Params) : Obj := ⟨(.type "tuple"), Option.none, (.seq #[] 0), #[]⟩
noncomputable def o235 (_ : Params) : Obj := ⟨.none, Option.none, (.func ⟨"_law_tags", "_law_tags", (fnA (fnS 26)), (.stmts (fnB (fnS 26))), (fnC (fnS 26)), 0, [], .none, .none, .none, .none, Option.none, .none, .none, 0⟩), #[]⟩
noncomputable def o236 (_ : Params) : Obj := ⟨(.type "code"), Option.none, (.fields #[(.str "_law_tags" 467), (.str "_law_tags" 468), (.str "/claim/cut.py" 469), (.int 132 0), (.int 2 0), (.int 0 0), (.int 0 0), (.int 3 0), (.ref 211), (.bool true), (.int 181 0), (.ref 212), .none, (.ref 213), (.ref 214), (.ref 215), (.int 477 0), (.int 132 0), (.str "/claim/cut.py" 478)]), #[]⟩
noncomputable def o237 (_ : Params) : Obj := ⟨(.type "function"), Option.none, (.func ⟨"_law_tags", "_law_tags", (fnA (fnS 26)), (.stmts (fnB (fnS 26))), (fnC (fnS 26)), 3, [], .none, .none, .none, (.str "law_uf030027_05" 387), Option.none, (.ref 216), .none, 0⟩), #[]⟩
noncomputable def o238 (_ : Params) : Obj := ⟨(.type "tuple"), Option.none, (.seq #[] 0), #[]⟩
noncomputable def o239 (_ : Params) : Obj := ⟨.none, Option.none, (.fields #[]), #[]⟩
noncomputable def o240 (_ : Params) : Obj := ⟨(.type "tuple"), Option.none, (.seq #[(.str "_law_debts_here" 483), (.str "_law_tags_here" 484), (.str "_law_cell" 485), (.str "_law_cut" 486), (.str "_law_k" 487), (.str "_law_lure" 488), (.str "_law_many" 489), (.str "_law_mixed" 490), (.str "_law_at" 491)] 0), #[]⟩
noncomputable def o241 (_ : Params) : Obj := ⟨(.type "tuple"), Option.none, (.seq #[] 0), #[]⟩
noncomputable def o242 (_ : Params) : Obj := ⟨.none, Option.none, (.func ⟨"_law_cut_for", "_law_cut_for", (fnA (fnS 27)), (.stmts (fnB (fnS 27))), (fnC (fnS 27)), 0, [], .none, .none, .none, .none, Option.none, .none, .none, 0⟩), #[]⟩
noncomputable def o243 (_ : Params) : Obj := ⟨(.type "code"), Option.none, (.fields #[(.str "_law_cut_for" 480), (.str "_law_cut_for" 481), (.str "/claim/cut.py" 482), (.int 144 0), (.int 3 0), (.int 0 0), (.int 0 0), (.int 3 0), (.ref 218), (.bool true), (.int 181 0), (.ref 219), .none, (.ref 220), (.ref 221), (.ref 222), (.int 492 0), (.int 144 0), (.str "/claim/cut.py" 493)]), #[]⟩
noncomputable def o244 (_ : Params) : Obj := ⟨(.type "function"), Option.none, (.func ⟨"_law_cut_for", "_law_cut_for", (fnA (fnS 27)), (.stmts (fnB (fnS 27))), (fnC (fnS 27)), 3, [], .none, .none, .none, (.str "law_uf030027_05" 387), Option.none, (.ref 223), .none, 0⟩), #[]⟩
noncomputable def o245 (_ : Params) : Obj := ⟨(.type "tuple"), Option.none, (.seq #[] 0), #[]⟩
noncomputable def o246 (_ : Params) : Obj := ⟨.none, Option.none, (.fields #[]), #[]⟩
noncomputable def o247 (_ : Params) : Obj := ⟨(.type "tuple"), Option.none, (.seq #[(.str "_law_count_here" 498), (.str "_law_debts_here" 499), (.str "_law_cut" 500), (.str "_law_tags_here" 501), (.str "_law_error" 502)] 0), #[]⟩
noncomputable def o248 (_ : Params) : Obj := ⟨(.type "tuple"), Option.none, (.seq #[] 0), #[]⟩
noncomputable def o249 (_ : Params) : Obj := ⟨.none, Option.none, (.func ⟨"_law_refused", "_law_refused", (fnA (fnS 28)), (.stmts (fnB (fnS 28))), (fnC (fnS 28)), 0, [], .none, .none, .none, .none, Option.none, .none, .none, 0⟩), #[]⟩
noncomputable def o250 (_ : Params) : Obj := ⟨(.type "code"), Option.none, (.fields #[(.str "_law_refused" 495), (.str "_law_refused" 496), (.str "/claim/cut.py" 497), (.int 159 0), (.int 4 0), (.int 0 0), (.int 0 0), (.int 3 0), (.ref 225), (.bool true), (.int 181 0), (.ref 226), .none, (.ref 227), (.ref 228), (.ref 229), (.int 503 0), (.int 159 0), (.str "/claim/cut.py" 504)]), #[]⟩
noncomputable def o251 (_ : Params) : Obj := ⟨(.type "function"), Option.none, (.func ⟨"_law_refused", "_law_refused", (fnA (fnS 28)), (.stmts (fnB (fnS 28))), (fnC (fnS 28)), 3, [], .none, .none, .none, (.str "law_uf030027_05" 387), Option.none, (.ref 230), .none, 0⟩), #[]⟩
noncomputable def o252 (_ : Params) : Obj := ⟨(.type "tuple"), Option.none, (.seq #[] 0), #[]⟩
noncomputable def o253 (_ : Params) : Obj := ⟨.none, Option.none, (.fields #[]), #[]⟩
noncomputable def o254 (_ : Params) : Obj := ⟨(.type "tuple"), Option.none, (.seq #[(.str "_law_tags_here" 509), (.str "_law_cell" 510), (.str "_law_at" 511), (.str "_law_odd" 512)] 0), #[]⟩
noncomputable def o255 (_ : Params) : Obj := ⟨(.type "tuple"), Option.none, (.seq #[] 0), #[]⟩
noncomputable def o256 (_ : Params) : Obj := ⟨.none, Option.none, (.func ⟨"_law_bad_tags", "_law_bad_tags", (fnA (fnS 29)), (.stmts (fnB (fnS 29))), (fnC (fnS 29)), 0, [], .none, .none, .none, .none, Option.none, .none, .none, 0⟩), #[]⟩
noncomputable def o257 (_ : Params) : Obj := ⟨(.type "code"), Option.none, (.fields #[(.str "_law_bad_tags" 506), (.str "_law_bad_tags" 507), (.str "/claim/cut.py" 508), (.int 165 0), (.int 2 0), (.int 0 0), (.int 0 0), (.int 3 0), (.ref 232), (.bool true), (.int 181 0), (.ref 233), .none, (.ref 234), (.ref 235), (.ref 236), (.int 513 0), (.int 165 0), (.str "/claim/cut.py" 514)]), #[]⟩
noncomputable def o258 (_ : Params) : Obj := ⟨(.type "function"), Option.none, (.func ⟨"_law_bad_tags", "_law_bad_tags", (fnA (fnS 29)), (.stmts (fnB (fnS 29))), (fnC (fnS 29)), 3, [], .none, .none, .none, (.str "law_uf030027_05" 387), Option.none, (.ref 237), .none, 0⟩), #[]⟩
noncomputable def o259 (_ : Params) : Obj := ⟨(.type "tuple"), Option.none, (.seq #[] 0), #[]⟩
noncomputable def o260 (_ : Params) : Obj := ⟨.none, Option.none, (.fields #[]), #[]⟩
noncomputable def o261 (_ : Params) : Obj := ⟨(.type "tuple"), Option.none, (.seq #[(.str "_law_script" 519), (.str "_law_count_here" 520), (.str "_law_debts_here" 521), (.str "_law_tags_here" 522), (.str "_law_cut" 523), (.str "_law_way" 524), (.str "_law_due" 525), (.str "_law_handed" 526), (.str "_law_found" 527)] 0), #[]⟩
noncomputable def o262 (_ : Params) : Obj := ⟨(.type "tuple"), Option.none, (.seq #[] 0), #[]⟩
noncomputable def o263 (_ : Params) : Obj := ⟨.none, Option.none, (.func ⟨"law", "law", (fnA (fnS 30)), (.stmts (fnB (fnS 30))), (fnC (fnS 30)), 0, [], .none, .none, .none, .none, Option.none, .none, .none, 0⟩), #[]⟩
noncomputable def o264 (_ : Params) : Obj := ⟨(.type "code"), Option.none, (.fields #[(.str "law" 516), (.str "law" 517), (.str "/claim/cut.py" 518), (.int 171 0), (.int 1 0), (.int 0 0), (.int 0 0), (.int 3 0), (.ref 239), (.bool true), (.int 181 0), (.ref 240), .none, (.ref 241), (.ref 242), (.ref 243), (.int 528 0), (.int 171 0), (.str "/claim/cut.py" 529)]), #[]⟩
noncomputable def o265 (_ : Params) : Obj := ⟨(.type "function"), Option.none, (.func ⟨"law", "law", (fnA (fnS 30)), (.stmts (fnB (fnS 30))), (fnC (fnS 30)), 3, [], .none, .none, .none, (.str "law_uf030027_05" 387), Option.none, (.ref 244), .none, 0⟩), #[]⟩
noncomputable def tr11 (P : Params) : BT := (.node (boot_o_0 P) (.node (boot_o_1 P) (.node (o182 P) (.node (boot_o_7 P) (.node (o6 P) (.node (o25 P) (.node (o63 P) (.node (o145 P) .nil .nil) (.node (o211 P) .nil .nil)) (.node (o104 P) (.node (o177 P) .nil .nil) (.node (o243 P) .nil .nil))) (.node (o44 P) (.node (o85 P) (.node (o161 P) .nil .nil) (.node (o227 P) .nil .nil)) (.node (o123 P) (.node (o195 P) .nil .nil) (.node (o259 P) .nil .nil)))) (.node (o14 P) (.node (o33 P) (.node (o74 P) (.node (o153 P) .nil .nil) (.node (o219 P) .nil .nil)) (.node (o115 P) (.node (o187 P) .nil .nil) (.node (o251 P) .nil .nil))) (.node (o55 P) (.node (o93 P) (.node (o169 P) .nil .nil) (.node (o235 P) .nil .nil)) (.node (o134 P) (.node (o203 P) .nil .nil) .nil)))) (.node (o0 P) (.node (o10 P) (.node (o29 P) (.node (o70 P) (.node (o149 P) .nil .nil) (.node (o215 P) .nil .nil)) (.node (o108 P) (.node (o181 P) .nil .nil) (.node (o247 P) .nil .nil))) (.node (o48 P) (.node (o89 P) (.node (o165 P) .nil .nil) (.node (o231 P) .nil .nil)) (.node (o130 P) (.node (o199 P) .nil .nil) (.node (o263 P) .nil .nil)))) (.node (o18 P) (.node (o40 P) (.node (o78 P) (.node (o157 P) .nil .nil) (.node (o223 P) .nil .nil)) (.node (o119 P) (.node (o191 P) .nil .nil) (.node (o255 P) .nil .nil))) (.node (o59 P) (.node (o100 P) (.node (o173 P) .nil .nil) (.node (o239 P) .nil .nil)) (.node (o138 P) (.node (o207 P) .nil .nil) .nil))))) (.node (boot_o_5 P) (.node (boot_o_9 P) (.node (o8 P) (.node (o27 P) (.node (o68 P) (.node (o147 P) .nil .nil) (.node (o213 P) .nil .nil)) (.node (o106 P) (.node (o179 P) .nil .nil) (.node (o245 P) .nil .nil))) (.node (o46 P) (.node (o87 P) (.node (o163 P) .nil .nil) (.node (o229 P) .nil .nil)) (.node (o128 P) (.node (o197 P) .nil .nil) (.node (o261 P) .nil .nil)))) (.node (o16 P) (.node (o38 P) (.node (o76 P) (.node (o155 P) .nil .nil) (.node (o221 P) .nil .nil)) (.node (o117 P) (.node (o189 P) .nil .nil) (.node (o253 P) .nil .nil))) (.node (o57 P) (.node (o98 P) (.node (o171 P) .nil .nil) (.node (o237 P) .nil .nil)) (.node (o136 P) (.node (o205 P) .nil .nil) .nil)))) (.node (o2 P) (.node (o12 P) (.node (o31 P) (.node (o72 P) (.node (o151 P) .nil .nil) (.node (o217 P) .nil .nil)) (.node (o113 P) (.node (o185 P) .nil .nil) (.node (o249 P) .nil .nil))) (.node (o53 P) (.node (o91 P) (.node (o167 P) .nil .nil) (.node (o233 P) .nil .nil)) (.node (o132 P) (.node (o201 P) .nil .nil) (.node (o265 P) .nil .nil)))) (.node (o23 P) (.node (o42 P) (.node (o83 P) (.node (o159 P) .nil .nil) (.node (o225 P) .nil .nil)) (.node (o121 P) (.node (o193 P) .nil .nil) (.node (o257 P) .nil .nil))) (.node (o61 P) (.node (o102 P) (.node (o175 P) .nil .nil) (.node (o241 P) .nil .nil)) (.node (o143 P) (.node (o209 P) .nil .nil) .nil)))))) (.node (boot_o_2 P) (.node (boot_o_4 P) (.node (boot_o_8 P) (.node (o7 P) (.node (o26 P) (.node (o67 P) (.node (o146 P) .nil .nil) (.node (o212 P) .nil .nil)) (.node (o105 P) (.node (o178 P) .nil .nil) (.node (o244 P) .nil .nil))) (.node (o45 P) (.node (o86 P) (.node (o162 P) .nil .nil) (.node (o228 P) .nil .nil)) (.node (o127 P) (.node (o196 P) .nil .nil) (.node (o260 P) .nil .nil)))) (.node (o141 P) (.node (o37 P) (.node (o75 P) (.node (o154 P) .nil .nil) (.node (o220 P) .nil .nil)) (.node (o116 P) (.node (o188 P) .nil .nil) (.node (o252 P) .nil .nil))) (.node (o56 P) (.node (o97 P) (.node (o170 P) .nil .nil) (.node (o236 P) .nil .nil)) (.node (o135 P) (.node (o204 P) .nil .nil) .nil)))) (.node (o183 P) (.node (o11 P) (.node (o30 P) (.node (o71 P) (.node (o150 P) .nil .nil) (.node (o216 P) .nil .nil)) (.node (o112 P) (.node (o184 P) .nil .nil) (.node (o248 P) .nil .nil))) (.node (o52 P) (.node (o90 P) (.node (o166 P) .nil .nil) (.node (o232 P) .nil .nil)) (.node (o131 P) (.node (o200 P) .nil .nil) (.node (o264 P) .nil .nil)))) (.node (o22 P) (.node (o41 P) (.node (o82 P) (.node (o158 P) .nil .nil) (.node (o224 P) .nil .nil)) (.node (o120 P) (.node (o192 P) .nil .nil) (.node (o256 P) .nil .nil))) (.node (o60 P) (.node (o101 P) (.node (o174 P) .nil .nil) (.node (o240 P) .nil .nil)) (.node (o142 P) (.node (o208 P) .nil .nil) .nil))))) (.node (boot_o_6 P) (.node (boot_o_10 P) (.node (o9 P) (.node (o28 P) (.node (o69 P) (.node (o148 P) .nil .nil) (.node (o214 P) .nil .nil)) (.node (o107 P) (.node (o180 P) .nil .nil) (.node (o246 P) .nil .nil))) (.node (o47 P) (.node (o88 P) (.node (o164 P) .nil .nil) (.node (o230 P) .nil .nil)) (.node (o129 P) (.node (o198 P) .nil .nil) (.node (o262 P) .nil .nil)))) (.node (o17 P) (.node (o39 P) (.node (o77 P) (.node (o156 P) .nil .nil) (.node (o222 P) .nil .nil)) (.node (o118 P) (.node (o190 P) .nil .nil) (.node (o254 P) .nil .nil))) (.node (o58 P) (.node (o99 P) (.node (o172 P) .nil .nil) (.node (o238 P) .nil .nil)) (.node (o137 P) (.node (o206 P) .nil .nil) .nil)))) (.node (o3 P) (.node (o13 P) (.node (o32 P) (.node (o73 P) (.node (o152 P) .nil .nil) (.node (o218 P) .nil .nil)) (.node (o114 P) (.node (o186 P) .nil .nil) (.node (o250 P) .nil .nil))) (.node (o54 P) (.node (o92 P) (.node (o168 P) .nil .nil) (.node (o234 P) .nil .nil)) (.node (o133 P) (.node (o202 P) .nil .nil) .nil))) (.node (o24 P) (.node (o43 P) (.node (o84 P) (.node (o160 P) .nil .nil) (.node (o226 P) .nil .nil)) (.node (o122 P) (.node (o194 P) .nil .nil) (.node (o258 P) .nil .nil))) (.node (o62 P) (.node (o103 P) (.node (o176 P) .nil .nil) (.node (o242 P) .nil .nil)) (.node (o144 P) (.node (o210 P) .nil .nil) .nil)))))))
noncomputable def S11 (w : World) (os : OsState) : SharedT := ⟨tr11 w.params, 246, ⟨[], [], [], 0, [], [], false, #[], [], 0, false, false, false, 0, [2000, 10, 10], false, 0, true, [], [], 0, false⟩, #[], ⟨0, 0, 0, 0⟩, 531, os⟩
noncomputable def ss10 : List Stmt := (bdQ.drop 19).take 12
noncomputable def hpZ (P : Params) : Heap := ⟨#[boot_o_0 P, boot_o_1 P, boot_o_2 P, o182 P, boot_o_4 P, boot_o_5 P, boot_o_6 P, boot_o_7 P, boot_o_8 P, boot_o_9 P, boot_o_10 P, o0 P, o183 P, o2 P, o3 P, o6 P, o7 P, o8 P, o9 P, o10 P, o11 P, o12 P, o13 P, o14 P, o141 P, o16 P, o17 P, o18 P, o22 P, o23 P, o24 P, o25 P, o26 P, o27 P, o28 P, o29 P, o30 P, o31 P, o32 P, o33 P, o37 P, o38 P, o39 P, o40 P, o41 P, o42 P, o43 P, o44 P, o45 P, o46 P, o47 P, o48 P, o52 P, o53 P, o54 P, o55 P, o56 P, o57 P, o58 P, o59 P, o60 P, o61 P, o62 P, o63 P, o67 P, o68 P, o69 P, o70 P, o71 P, o72 P, o73 P, o74 P, o75 P, o76 P, o77 P, o78 P, o82 P, o83 P, o84 P, o85 P, o86 P, o87 P, o88 P, o89 P, o90 P, o91 P, o92 P, o93 P, o97 P, o98 P, o99 P, o100 P, o101 P, o102 P, o103 P, o104 P, o105 P, o106 P, o107 P, o108 P, o112 P, o113 P, o114 P, o115 P, o116 P, o117 P, o118 P, o119 P, o120 P, o121 P, o122 P, o123 P, o127 P, o128 P, o129 P, o130 P, o131 P, o132 P, o133 P, o134 P, o135 P, o136 P, o137 P, o138 P, o142 P, o143 P, o144 P, o145 P, o146 P, o147 P, o148 P, o149 P, o150 P, o151 P, o152 P, o153 P, o154 P, o155 P, o156 P, o157 P, o158 P, o159 P, o160 P, o161 P, o162 P, o163 P, o164 P, o165 P, o166 P, o167 P, o168 P, o169 P, o170 P, o171 P, o172 P, o173 P, o174 P, o175 P, o176 P, o177 P, o178 P, o179 P, o180 P, o181 P, o184 P, o185 P, o186 P, o187 P, o188 P, o189 P, o190 P, o191 P, o192 P, o193 P, o194 P, o195 P, o196 P, o197 P, o198 P, o199 P, o200 P, o201 P, o202 P, o203 P, o204 P, o205 P, o206 P, o207 P, o208 P, o209 P, o210 P, o211 P, o212 P, o213 P, o214 P, o215 P, o216 P, o217 P, o218 P, o219 P, o220 P, o221 P, o222 P, o223 P, o224 P, o225 P, o226 P, o227 P, o228 P, o229 P, o230 P, o231 P, o232 P, o233 P, o234 P, o235 P, o236 P, o237 P, o238 P, o239 P, o240 P, o241 P, o242 P, o243 P, o244 P, o245 P, o246 P, o247 P, o248 P, o249 P, o250 P, o251 P, o252 P, o253 P, o254 P, o255 P, o256 P, o257 P, o258 P, o259 P, o260 P, o261 P, o262 P, o263 P, o264 P, o265 P], ⟨[], [], [], 0, [], [], false, #[], [], 0, false, false, false, 0, [2000, 10, 10], false, 0, true, [], [], 0, false⟩⟩
noncomputable def K05 (P : Params) : Frag := [(3, o182 P), (23, o14 P), (24, o141 P), (36, o30 P), (37, o31 P), (48, o45 P), (49, o46 P), (60, o60 P), (61, o61 P), (72, o75 P), (73, o76 P), (84, o90 P), (85, o91 P), (96, o105 P), (97, o106 P), (108, o120 P), (109, o121 P), (120, o135 P), (121, o136 P), (132, o150 P), (133, o151 P)]
noncomputable def as05 : List Addr := [3, 23, 24, 36, 37, 48, 49, 60, 61, 72, 73, 84, 85, 96, 97, 108, 109, 120, 121, 132, 133]
theorem pcA (w : World) (os : OsState) : topGo treeTable PySem.Challenge.pw_uf030027_05 w 11 an0 12 ⟨boot_heap w.params, Array.mk [], boot_drawn, boot_toks, os⟩ (topStub PySem.Challenge.pw_uf030027_05) = some (⟨hpA w.params, #[], ⟨0, 0, 0, 0⟩, 187, os⟩, ⟨denote treeTable cdQ, cdQ, ⟨0, 0, 0, 0⟩, [topFrame ps0]⟩) := q_go (by kernel_rfl)
theorem pcB (w : World) (os : OsState) : segRun treeTable PySem.Challenge.pw_uf030027_05 w 11 an0 1 1 ⟨hpA w.params, #[], ⟨0, 0, 0, 0⟩, 187, os⟩ (blockOf bdQ enQ cdQ ⟨0, 0, 0, 0⟩ [topFrame ps0]) = some (Flow.next, (S0 w os).abs, cdQ, ⟨0, 0, 0, 0⟩) := q_run (by kernel_rfl)
theorem pc0 (w : World) (os : OsState) : segRunT treeTable PySem.Challenge.pw_uf030027_05 w 11 an0 1 196 (S0 w os) (piecesOf ss0 enQ cdQ ⟨0, 0, 0, 0⟩ [topFrame ps0]) = some (Flow.next, S1 w os, cdQ, ⟨2, 0, 3, 8⟩) := q_seg (by kernel_rfl)
theorem pc1 (w : World) (os : OsState) : segRunT treeTable PySem.Challenge.pw_uf030027_05 w 11 an0 1 214 (S1 w os) (piecesOf ss1 enQ cdQ ⟨2, 0, 3, 8⟩ [topFrame ps0]) = some (Flow.next, S2 w os, cdQ, ⟨4, 0, 5, 8⟩) := q_seg (by kernel_rfl)
theorem pc2 (w : World) (os : OsState) : segRunT treeTable PySem.Challenge.pw_uf030027_05 w 11 an0 1 214 (S2 w os) (piecesOf ss2 enQ cdQ ⟨4, 0, 5, 8⟩ [topFrame ps0]) = some (Flow.next, S3 w os, cdQ, ⟨6, 0, 7, 8⟩) := q_seg (by kernel_rfl)
theorem pc3 (w : World) (os : OsState) : segRunT treeTable PySem.Challenge.pw_uf030027_05 w 11 an0 1 214 (S3 w os) (piecesOf ss3 enQ cdQ ⟨6, 0, 7, 8⟩ [topFrame ps0]) = some (Flow.next, S4 w os, cdQ, ⟨8, 0, 9, 8⟩) := q_seg (by kernel_rfl)
theorem pc4 (w : World) (os : OsState) : segRunT treeTable PySem.Challenge.pw_uf030027_05 w 11 an0 1 214 (S4 w os) (piecesOf ss4 enQ cdQ ⟨8, 0, 9, 8⟩ [topFrame ps0]) = some (Flow.next, S5 w os, cdQ, ⟨10, 0, 11, 8⟩) := q_seg (by kernel_rfl)
theorem pc5 (w : World) (os : OsState) : segRunT treeTable PySem.Challenge.pw_uf030027_05 w 11 an0 1 214 (S5 w os) (piecesOf ss5 enQ cdQ ⟨10, 0, 11, 8⟩ [topFrame ps0]) = some (Flow.next, S6 w os, cdQ, ⟨12, 0, 13, 8⟩) := q_seg (by kernel_rfl)
theorem pc6 (w : World) (os : OsState) : segRunT treeTable PySem.Challenge.pw_uf030027_05 w 11 an0 1 214 (S6 w os) (piecesOf ss6 enQ cdQ ⟨12, 0, 13, 8⟩ [topFrame ps0]) = some (Flow.next, S7 w os, cdQ, ⟨14, 0, 15, 8⟩) := q_seg (by kernel_rfl)
theorem pc7 (w : World) (os : OsState) : segRunT treeTable PySem.Challenge.pw_uf030027_05 w 11 an0 1 214 (S7 w os) (piecesOf ss7 enQ cdQ ⟨14, 0, 15, 8⟩ [topFrame ps0]) = some (Flow.next, S8 w os, cdQ, ⟨16, 0, 17, 8⟩) := q_seg (by kernel_rfl)
theorem pc8 (w : World) (os : OsState) : segRunT treeTable PySem.Challenge.pw_uf030027_05 w 11 an0 1 214 (S8 w os) (piecesOf ss8 enQ cdQ ⟨16, 0, 17, 8⟩ [topFrame ps0]) = some (Flow.next, S9 w os, cdQ, ⟨18, 0, 19, 8⟩) := q_seg (by kernel_rfl)
theorem pc9 (w : World) (os : OsState) : segRunT treeTable PySem.Challenge.pw_uf030027_05 w 11 an0 1 376 (S9 w os) (piecesOf ss9 enQ cdQ ⟨18, 0, 19, 8⟩ [topFrame ps0]) = some (Flow.next, S10 w os, cdQ, ⟨49, 0, 52, 12⟩) := q_seg (by kernel_rfl)
theorem pc10 (w : World) (os : OsState) : segRunT treeTable PySem.Challenge.pw_uf030027_05 w 11 an0 1 397 (S10 w os) (piecesOf ss10 enQ cdQ ⟨49, 0, 52, 12⟩ [topFrame ps0]) = some (Flow.next, S11 w os, cdQ, ⟨171, 0, 187, 151⟩) := q_seg (by kernel_rfl)
theorem pcZ (w : World) (os : OsState) : topRun treeTable PySem.Challenge.pw_uf030027_05 w 11 an0 2 (S11 w os).abs ⟨doneF .next, cdQ, ⟨171, 0, 187, 151⟩, [topFrame ps0]⟩ = some ⟨hpZ w.params, #[], ⟨0, 0, 0, 0⟩, 531, os⟩ := q_top (by kernel_rfl)
theorem bdE : bdQ = ss0 ++ (ss1 ++ (ss2 ++ (ss3 ++ (ss4 ++ (ss5 ++ (ss6 ++ (ss7 ++ (ss8 ++ (ss9 ++ (ss10 ++ ([]))))))))))) := by kernel_rfl
theorem rnQ (w : World) (os : OsState) : topRun treeTable PySem.Challenge.pw_uf030027_05 w 11 an0 (12 + (1 + (196 + (214 + (214 + (214 + (214 + (214 + (214 + (214 + (214 + (376 + (397 + 2))))))))))))) ⟨boot_heap w.params, Array.mk [], boot_drawn, boot_toks, os⟩ (topStub PySem.Challenge.pw_uf030027_05) = some ⟨hpZ w.params, #[], ⟨0, 0, 0, 0⟩, 531, os⟩ := go_top (pcA w os) (piece_block (pcB w os) (rest_eq bdE (piece_app (segRun_of (pc0 w os)) (piece_app (segRun_of (pc1 w os)) (piece_app (segRun_of (pc2 w os)) (piece_app (segRun_of (pc3 w os)) (piece_app (segRun_of (pc4 w os)) (piece_app (segRun_of (pc5 w os)) (piece_app (segRun_of (pc6 w os)) (piece_app (segRun_of (pc7 w os)) (piece_app (segRun_of (pc8 w os)) (piece_app (segRun_of (pc9 w os)) (piece_app (segRun_of (pc10 w os)) (piece_nil (pcZ w os)))))))))))))))
noncomputable abbrev kp05 : List Nat := [1, 2, 3, 4, 5, 6, 7, 8, 9, 10, 12, 14, 16, 18, 19, 20, 21, 22, 23, 24, 25, 26, 27, 28, 29, 30]
noncomputable abbrev lo05 : List Str := []
noncomputable abbrev V05 : Program := view PySem.Challenge.pw_uf030027_05 kp05
noncomputable abbrev sZ (w : World) (os : OsState) : Shared := ⟨hpZ w.params, #[], ⟨0, 0, 0, 0⟩, 531, os⟩
noncomputable abbrev hk05 : Hook := kHook K05 as05 (fun _ => by kernel_rfl)
noncomputable abbrev xt05 (q : Program) (s : Shared) : Bool := xlAt q [] s && recOk [] s
theorem szQ (w : World) : ((boot_heap w.params).isNs mainGlobals && (Array.mk [] : Array GenState).size == 0, (boot_heap w.params).objs.size, (boot_heap w.params).nsMap mainGlobals "__annotations__") = (true, 11, an0) := by kernel_rfl
theorem lk0 (w : World) (os : OsState) : (staticsOk (importedModules PySem.Challenge.pw_uf030027_05.main.body) (boot_heap w.params) (hpZ w.params) && namesBound PySem.Challenge.pw_uf030027_05 (hpZ w.params) && gensDone (sZ w os) && laidKept (boot_heap w.params) (hpZ w.params)) = true := by kernel_rfl
theorem lk1 (w : World) (os : OsState) : seen ((recsOf V05).map (·.name)) (ownsOf V05) [] { sZ w os with gens := #[] } = expectedOf V05 := by kernel_rfl
theorem lk2 (w : World) (os : OsState) : (sZ w os).heap.bltView = bltViewBooted := by kernel_rfl
theorem lk3 (w : World) (os : OsState) : ((sZ w os).heap.keysOk (looseW V05 lo05) ((recsOf V05).map (·.name)) ((litsOf V05).map (·.1)) ((clssOf V05 (looseW V05 lo05)).map (·.name)) && (sZ w os).heap.accountedOkI (importedModules PySem.Challenge.pw_uf030027_05.main.body) && (sZ w os).heap.isNs mainGlobals && (sZ w os).heap.isNs builtinsNs && tablesOk V05 (sZ w os).heap && xt05 V05 (sZ w os) && (if true then (sZ w os).gens.size == 0 else !leftWithCleanup (sZ w os).gens)) = true := by kernel_rfl
theorem lk4 (w : World) (os : OsState) : tabsOk V05 (sZ w os) = true := by kernel_rfl
theorem lk5 (w : World) (os : OsState) : pinSeenD V05 (drecsOf V05) (sZ w os) = pinGoodD (drecsOf V05) := by kernel_rfl
theorem lk6 (w : World) (os : OsState) : plainSeenE V05 (looseW V05 lo05) (sZ w os) = plainGoodE V05 (looseW V05 lo05) := by kernel_rfl
theorem lk7 (w : World) (os : OsState) : plainSeenD V05 lo05 (sZ w os) = plainGoodD V05 lo05 := by kernel_rfl
theorem lk8 (w : World) (os : OsState) : wideSeen V05 (sZ w os) = wideGood V05 := by kernel_rfl
theorem lk9 (w : World) (os : OsState) : clsSeenW V05 lo05 (sZ w os) = clsGoodW V05 lo05 := by kernel_rfl
theorem lkY (w : World) (os : OsState) : hk05.obs (sZ w os) = hk05.val w := by kernel_rfl
theorem opQ : opening PySem.Challenge.pw_uf030027_05 = plainProg PySem.Challenge.pw_uf030027_05.main.scope.names := by kernel_rfl
theorem fnQ (s : Shared) : fenceModules? PySem.Challenge.pw_uf030027_05 s = some s := by kernel_rfl
theorem leQ : Nat.ble (12 + (1 + (196 + (214 + (214 + (214 + (214 + (214 + (214 + (214 + (214 + (376 + (397 + 2))))))))))))) 5466 = true := by kernel_rfl
theorem lf05 : LeftO PySem.Challenge.pw_uf030027_05 V05 lo05 (xt05 V05) hk05.obs hk05.val 5466 :=
  left_of (H₀ := boot_heap) (H₁ := hpZ) (boot_open opQ (by kernel_rfl) fnQ) szQ rnQ leQ lk0 (fun w os => seen_eq (lk1 w os) (lk2 w os) (lk3 w os) (lk4 w os) (lk5 w os) (lk6 w os) (lk7 w os) (lk8 w os) (lk9 w os)) lkY
theorem saQ : OpenLaw.wellSaid PySem.Challenge.rw_uf030027_05 = true := by
  rw [PySem.W.Fast.te9446332074065402090]
  kernel_rfl
theorem dsQ : (defOf V05 (PySem.Str.ofString "law")).isSome = true := by kernel_rfl
theorem dpQ : PySem.Challenge.pw_uf030027_05.theDef (PySem.Str.ofString "law") = (defOf V05 (PySem.Str.ofString "law")).map fun x => (x.1.params, x.1.body, x.1.scope) := by kernel_rfl
theorem dkQ : (defOf V05 (PySem.Str.ofString "law")).bind (fun x => kwWritten? x.1.params.kwonlyargs x.1.params.kw_defaults) = (defOf V05 (PySem.Str.ofString "law")).map (·.2) := by kernel_rfl
theorem okQ : (chainsOk V05 && opensWell PySem.Challenge.pw_uf030027_05 && (frees PySem.Challenge.rw_uf030027_05.row.toRowW && PySem.Challenge.rw_uf030027_05.row.within.isEmpty)) = true := by kernel_rfl
theorem prQ : PySem.Challenge.rw_uf030027_05.row.toRowW.promised := by w_witness2
theorem hd05 (hc : ∀ d kwd, defOf V05 (PySem.Str.ofString "law") = some (d, kwd) → WalkO V05 lo05 (XL V05 []) hk05.says PySem.Challenge.rw_uf030027_05.row.toRowW d kwd fun f vs => PySem.call f vs) : PySem.Challenge.rw_uf030027_05.Holds := by
  obtain ⟨⟨d, kwd⟩, hdef⟩ := Option.isSome_iff_exists.mp dsQ
  have hp := dpQ
  have hk := dkQ
  rw [hdef] at hp hk
  refine holds_law saQ fun k1 => ?_
  exact holds_open (r := PySem.Challenge.rw_uf030027_05.row) (q := V05) (loose := lo05) (Xt := xt05 V05) (XP := XL V05 []) (Yf := hk05.obs) (Ya := hk05.val) (YP := hk05.says) (N := 5466) lf05 hk05.of hk05.keeps
    (fun s e => xl_of s (Bool.and_eq_true_iff.mp e).1) XL.keeps hdef hp hk (fun s e => recFacts_of (Bool.and_eq_true_iff.mp e).2) rfl k1 okQ ⟨rfl, rfl, rfl, rfl, rfl, by decide +kernel⟩ prQ (hc d kwd hdef)
noncomputable abbrev H05 : Params → Frag := K05
end Mine

namespace Mine
open PySem PyProof.Rows PySem.Calls PySem.W
set_option maxRecDepth 100000

set_option maxRecDepth 100000

noncomputable def fnR : Stmt → DefRec | .FunctionDef n a b _ _ _ s _ _ p => ⟨n, a, b, s, p⟩ | _ => ⟨"", default, [], default, default⟩
noncomputable def recs05 : List DefRec := List.map (fun k => fnR (fnS k)) [12, 14, 16, 18, 19, 20, 21, 22, 23, 24, 25, 26, 27, 28, 29, 30]
theorem recs05_eq : recsOf V05 = recs05 := by kernel_rfl
noncomputable def d05 (i : Nat) : DefRec := (recs05[i]?).getD ⟨"", default, [], default, default⟩
noncomputable abbrev c_DebtError_05 : Addr := 24
noncomputable abbrev c_BadCount_05 : Addr := 37
noncomputable abbrev c_BadDebt_05 : Addr := 49
noncomputable abbrev c_BadCut_05 : Addr := 61
noncomputable abbrev c_Uneven_05 : Addr := 73
noncomputable abbrev c_BadPrices_05 : Addr := 85
noncomputable abbrev c_NotBest_05 : Addr := 97
noncomputable abbrev c_NoDebt_05 : Addr := 109
noncomputable abbrev c_NoHouse_05 : Addr := 121
noncomputable abbrev c_BadAmount_05 : Addr := 133
noncomputable abbrev exCls : List Addr := [c_BadCount_05, c_BadDebt_05, c_BadCut_05, c_Uneven_05, c_BadPrices_05, c_NotBest_05, c_NoDebt_05, c_NoHouse_05, c_BadAmount_05]
noncomputable def okOwn (c0 : Addr) : Ty → Option Bool
  | .exc c => if c ∈ exCls then some (decide (c = c0)) else Option.none
  | _ => Option.none
noncomputable def okVal : Ty → Option Bool
  | .exc c => if c ∈ exCls then some true else Option.none
  | _ => Option.none
theorem okOwn_ok {K : Frag} {c0 : Addr} (h : ∀ c ∈ exCls, kitOne K (.ref c) (.ref c0) = some (decide (c = c0))) : ∀ ty b, okOwn c0 ty = some b → kitOne K ty.val (.ref c0) = some b := by
  intro ty b e
  cases ty with
  | exc c =>
    unfold okOwn at e
    dsimp only at e
    split at e
    · rename_i hc; cases e; exact h c hc
    · cases e
  | _ => cases e
theorem okVal_ok {K : Frag} {cv : Value} (h : ∀ c ∈ exCls, kitOne K (.ref c) cv = some true) : ∀ ty b, okVal ty = some b → kitOne K ty.val cv = some b := by
  intro ty b e
  cases ty with
  | exc c =>
    unfold okVal at e
    dsimp only at e
    split at e
    · rename_i hc; cases e; exact h c hc
    · cases e
  | _ => cases e
theorem okOwn_x {K : Frag} {c0 : Addr} (h : ∀ c ∈ exCls, ExcK K c) : ∀ c b, okOwn c0 (.exc c) = some b → ExcK K c := by
  intro c b e
  unfold okOwn at e
  dsimp only at e
  split at e
  · rename_i hc; exact h c hc
  · cases e
theorem okVal_x {K : Frag} (h : ∀ c ∈ exCls, ExcK K c) : ∀ c b, okVal (.exc c) = some b → ExcK K c := by
  intro c b e
  unfold okVal at e
  dsimp only at e
  split at e
  · rename_i hc; exact h c hc
  · cases e
structure Fx05 (g : Gx) : Prop where
  d : ∀ i, i < 16 → DefAt g (d05 i)
  b_isinstance : GlobAt g "isinstance" (.builtin "isinstance")
  b_len : GlobAt g "len" (.builtin "len")
  b_max : GlobAt g "max" (.builtin "max")
  b_min : GlobAt g "min" (.builtin "min")
  c_BadAmount : GlobAt g "BadAmount" (.ref c_BadAmount_05)
  c_BadCount : GlobAt g "BadCount" (.ref c_BadCount_05)
  c_BadCut : GlobAt g "BadCut" (.ref c_BadCut_05)
  c_BadDebt : GlobAt g "BadDebt" (.ref c_BadDebt_05)
  c_BadPrices : GlobAt g "BadPrices" (.ref c_BadPrices_05)
  c_DebtError : GlobAt g "DebtError" (.ref c_DebtError_05)
  c_NoDebt : GlobAt g "NoDebt" (.ref c_NoDebt_05)
  c_NoHouse : GlobAt g "NoHouse" (.ref c_NoHouse_05)
  c_NotBest : GlobAt g "NotBest" (.ref c_NotBest_05)
  c_Uneven : GlobAt g "Uneven" (.ref c_Uneven_05)
  c_ValueError : GlobAt g "ValueError" (.type "ValueError")
  c_bool : GlobAt g "bool" (.type "bool")
  c_int : GlobAt g "int" (.type "int")
  c_list : GlobAt g "list" (.type "list")
  c_range : GlobAt g "range" (.type "range")
  c_tuple : GlobAt g "tuple" (.type "tuple")
  o_BadCut : OwnCls "BadCut" c_BadCut_05 [.type "ValueError", .type "Exception", .type "BaseException", .type "object"] "ValueError.__new__" g.mg g.base
  o_BadPrices : OwnCls "BadPrices" c_BadPrices_05 [.type "ValueError", .type "Exception", .type "BaseException", .type "object"] "ValueError.__new__" g.mg g.base
  i_BadAmount : ∀ c ∈ exCls, kitOne g.K (.ref c) (.ref c_BadAmount_05) = some (decide (c = c_BadAmount_05))
  i_BadCount : ∀ c ∈ exCls, kitOne g.K (.ref c) (.ref c_BadCount_05) = some (decide (c = c_BadCount_05))
  i_BadCut : ∀ c ∈ exCls, kitOne g.K (.ref c) (.ref c_BadCut_05) = some (decide (c = c_BadCut_05))
  i_BadDebt : ∀ c ∈ exCls, kitOne g.K (.ref c) (.ref c_BadDebt_05) = some (decide (c = c_BadDebt_05))
  i_BadPrices : ∀ c ∈ exCls, kitOne g.K (.ref c) (.ref c_BadPrices_05) = some (decide (c = c_BadPrices_05))
  i_NoDebt : ∀ c ∈ exCls, kitOne g.K (.ref c) (.ref c_NoDebt_05) = some (decide (c = c_NoDebt_05))
  i_NoHouse : ∀ c ∈ exCls, kitOne g.K (.ref c) (.ref c_NoHouse_05) = some (decide (c = c_NoHouse_05))
  i_NotBest : ∀ c ∈ exCls, kitOne g.K (.ref c) (.ref c_NotBest_05) = some (decide (c = c_NotBest_05))
  i_Uneven : ∀ c ∈ exCls, kitOne g.K (.ref c) (.ref c_Uneven_05) = some (decide (c = c_Uneven_05))
  i_ValueError : ∀ c ∈ exCls, kitOne g.K (.ref c) (.type "ValueError") = some true
  m : ∀ c ∈ exCls, exmOne g.K (.ref c) (.ref c_DebtError_05) = some true
  x : ∀ c ∈ exCls, ExcK g.K c
theorem all_cls {P : Addr → Prop} (h0 : P c_BadCount_05) (h1 : P c_BadDebt_05) (h2 : P c_BadCut_05) (h3 : P c_Uneven_05) (h4 : P c_BadPrices_05) (h5 : P c_NotBest_05) (h6 : P c_NoDebt_05) (h7 : P c_NoHouse_05) (h8 : P c_BadAmount_05) : ∀ c ∈ exCls, P c := by
  intro c hc
  simp only [exCls, List.mem_cons, List.not_mem_nil, or_false] at hc
  rcases hc with rfl | rfl | rfl | rfl | rfl | rfl | rfl | rfl | rfl
  · exact h0
  · exact h1
  · exact h2
  · exact h3
  · exact h4
  · exact h5
  · exact h6
  · exact h7
  · exact h8
theorem d05_mem (i : Nat) (h : i < 16) : d05 i ∈ recsOf V05 := by
  have e : recs05.length = 16 := by kernel_rfl
  rw [← e] at h
  rw [recs05_eq]
  unfold d05
  rw [List.getElem?_eq_getElem h]
  exact List.getElem_mem h
theorem fx05 {loose : List Str} {mean : ExcName → Option Value} {g : Gx} {ps : Params} (T : Top V05 (looseW V05 []) mean g.mg g.mb g.base) (hK : g.K = H05 ps) : Fx05 g where
  d := fun i h => def_at T (d05_mem i h)
  b_isinstance := glob_free T (by kernel_rfl) (by decide +kernel) (by kernel_rfl)
  b_len := glob_free T (by kernel_rfl) (by decide +kernel) (by kernel_rfl)
  b_max := glob_free T (by kernel_rfl) (by decide +kernel) (by kernel_rfl)
  b_min := glob_free T (by kernel_rfl) (by decide +kernel) (by kernel_rfl)
  c_BadAmount := .inl (cls_at (hK ▸ (by kernel_rfl)))
  c_BadCount := .inl (cls_at (hK ▸ (by kernel_rfl)))
  c_BadCut := .inl (cls_at (hK ▸ (by kernel_rfl)))
  c_BadDebt := .inl (cls_at (hK ▸ (by kernel_rfl)))
  c_BadPrices := .inl (cls_at (hK ▸ (by kernel_rfl)))
  c_DebtError := .inl (cls_at (hK ▸ (by kernel_rfl)))
  c_NoDebt := .inl (cls_at (hK ▸ (by kernel_rfl)))
  c_NoHouse := .inl (cls_at (hK ▸ (by kernel_rfl)))
  c_NotBest := .inl (cls_at (hK ▸ (by kernel_rfl)))
  c_Uneven := .inl (cls_at (hK ▸ (by kernel_rfl)))
  c_ValueError := glob_free T (by kernel_rfl) (by decide +kernel) (by kernel_rfl)
  c_bool := glob_free T (by kernel_rfl) (by decide +kernel) (by kernel_rfl)
  c_int := glob_free T (by kernel_rfl) (by decide +kernel) (by kernel_rfl)
  c_list := glob_free T (by kernel_rfl) (by decide +kernel) (by kernel_rfl)
  c_range := glob_free T (by kernel_rfl) (by decide +kernel) (by kernel_rfl)
  c_tuple := glob_free T (by kernel_rfl) (by decide +kernel) (by kernel_rfl)
  o_BadCut := own_at T (hK ▸ (by kernel_rfl)) (hK ▸ (by kernel_rfl))
  o_BadPrices := own_at T (hK ▸ (by kernel_rfl)) (hK ▸ (by kernel_rfl))
  i_BadAmount := by rw [hK]; exact all_cls (by kernel_rfl) (by kernel_rfl) (by kernel_rfl) (by kernel_rfl) (by kernel_rfl) (by kernel_rfl) (by kernel_rfl) (by kernel_rfl) (by kernel_rfl)
  i_BadCount := by rw [hK]; exact all_cls (by kernel_rfl) (by kernel_rfl) (by kernel_rfl) (by kernel_rfl) (by kernel_rfl) (by kernel_rfl) (by kernel_rfl) (by kernel_rfl) (by kernel_rfl)
  i_BadCut := by rw [hK]; exact all_cls (by kernel_rfl) (by kernel_rfl) (by kernel_rfl) (by kernel_rfl) (by kernel_rfl) (by kernel_rfl) (by kernel_rfl) (by kernel_rfl) (by kernel_rfl)
  i_BadDebt := by rw [hK]; exact all_cls (by kernel_rfl) (by kernel_rfl) (by kernel_rfl) (by kernel_rfl) (by kernel_rfl) (by kernel_rfl) (by kernel_rfl) (by kernel_rfl) (by kernel_rfl)
  i_BadPrices := by rw [hK]; exact all_cls (by kernel_rfl) (by kernel_rfl) (by kernel_rfl) (by kernel_rfl) (by kernel_rfl) (by kernel_rfl) (by kernel_rfl) (by kernel_rfl) (by kernel_rfl)
  i_NoDebt := by rw [hK]; exact all_cls (by kernel_rfl) (by kernel_rfl) (by kernel_rfl) (by kernel_rfl) (by kernel_rfl) (by kernel_rfl) (by kernel_rfl) (by kernel_rfl) (by kernel_rfl)
  i_NoHouse := by rw [hK]; exact all_cls (by kernel_rfl) (by kernel_rfl) (by kernel_rfl) (by kernel_rfl) (by kernel_rfl) (by kernel_rfl) (by kernel_rfl) (by kernel_rfl) (by kernel_rfl)
  i_NotBest := by rw [hK]; exact all_cls (by kernel_rfl) (by kernel_rfl) (by kernel_rfl) (by kernel_rfl) (by kernel_rfl) (by kernel_rfl) (by kernel_rfl) (by kernel_rfl) (by kernel_rfl)
  i_Uneven := by rw [hK]; exact all_cls (by kernel_rfl) (by kernel_rfl) (by kernel_rfl) (by kernel_rfl) (by kernel_rfl) (by kernel_rfl) (by kernel_rfl) (by kernel_rfl) (by kernel_rfl)
  i_ValueError := by rw [hK]; exact all_cls (by kernel_rfl) (by kernel_rfl) (by kernel_rfl) (by kernel_rfl) (by kernel_rfl) (by kernel_rfl) (by kernel_rfl) (by kernel_rfl) (by kernel_rfl)
  m := by rw [hK]; exact all_cls (by kernel_rfl) (by kernel_rfl) (by kernel_rfl) (by kernel_rfl) (by kernel_rfl) (by kernel_rfl) (by kernel_rfl) (by kernel_rfl) (by kernel_rfl)
  x := by rw [hK]; exact all_cls ⟨by kernel_rfl, by kernel_rfl, by kernel_rfl, by kernel_rfl, by kernel_rfl, by kernel_rfl⟩ ⟨by kernel_rfl, by kernel_rfl, by kernel_rfl, by kernel_rfl, by kernel_rfl, by kernel_rfl⟩ ⟨by kernel_rfl, by kernel_rfl, by kernel_rfl, by kernel_rfl, by kernel_rfl, by kernel_rfl⟩ ⟨by kernel_rfl, by kernel_rfl, by kernel_rfl, by kernel_rfl, by kernel_rfl, by kernel_rfl⟩ ⟨by kernel_rfl, by kernel_rfl, by kernel_rfl, by kernel_rfl, by kernel_rfl, by kernel_rfl⟩ ⟨by kernel_rfl, by kernel_rfl, by kernel_rfl, by kernel_rfl, by kernel_rfl, by kernel_rfl⟩ ⟨by kernel_rfl, by kernel_rfl, by kernel_rfl, by kernel_rfl, by kernel_rfl, by kernel_rfl⟩ ⟨by kernel_rfl, by kernel_rfl, by kernel_rfl, by kernel_rfl, by kernel_rfl, by kernel_rfl⟩ ⟨by kernel_rfl, by kernel_rfl, by kernel_rfl, by kernel_rfl, by kernel_rfl, by kernel_rfl⟩
noncomputable abbrev tb_is_number_1 : TS := tSeq (tRet (tAndE (tIsinst (tName "value") okInt) (tNotE (tIsinst (tName "value") okBool)))) (tNil)
noncomputable def tb_is_number : TS := tb_is_number_1
noncomputable def T_is_number : TF := tFun ["value"] tb_is_number
set_option maxRecDepth 100000 in
set_option maxHeartbeats 4000000 in
theorem s_is_number {g : Gx} (F : Fx05 g) {q : Bool} : HasF g 1 q "is_number" T_is_number :=
  has_def (F.d 0 (by decide)) rfl (fun _ _ _ vals h => by obtain ⟨a, rfl⟩ := len1 h; rfl) (by decide +kernel) rfl rfl rfl (show SoundSs g 0 _ _ _ tb_is_number from (sound_cons (sound_ret (sound_and (sound_isinst (sound_local (by decide +kernel) (by decide +kernel)) (by decide +kernel) F.b_isinstance (by decide +kernel) (by decide +kernel) F.c_int okInt_ok (fun _ _ e => by cases e) (fun _ => rfl)) (sound_one (sound_not (sound_isinst (sound_local (by decide +kernel) (by decide +kernel)) (by decide +kernel) F.b_isinstance (by decide +kernel) (by decide +kernel) F.c_bool okBool_ok (fun _ _ e => by cases e) (fun _ => rfl)))))) (sound_nil)))
noncomputable abbrev tb_need_cut_1 : TS := tSeq (tRaise c_BadCut_05 (tEcons (tConst (.str "from nought to the amount")) (tEnil))) (tNil)
noncomputable abbrev tb_need_cut_2 : TS := tSeq (tIf (tOr (tNot (tTest (tCall (tEcons (tItem (tName "cut") (tName "number")) (tEnil)) T_is_number))) (tOr (tNot (tChainB .LtE .LtE (tConst (.int 0)) (tItem (tName "cut") (tName "number")) (tItem (tItem (tName "debts") (tName "number")) (tConst (.int 2))))) (tFalse))) (tb_need_cut_1) (tNil)) (tNil)
noncomputable abbrev tb_need_cut_3 : TS := tSeq (tFor "number" (tCall (tEcons (tCall (tEcons (tName "debts") (tEnil)) lenF) (tEnil)) rangeF) (tb_need_cut_2)) (tNil)
noncomputable abbrev tb_need_cut_4 : TS := tSeq (tRaise c_BadCut_05 (tEcons (tConst (.str "a number for each debt")) (tEnil))) (tNil)
noncomputable abbrev tb_need_cut_5 : TS := tSeq (tIf (tOr (tNot (tTest (tIsinst (tName "cut") okList))) (tOr (tCmpB .NotEq (tCall (tEcons (tName "cut") (tEnil)) lenF) (tCall (tEcons (tName "debts") (tEnil)) lenF)) (tFalse))) (tb_need_cut_4) (tNil)) (tb_need_cut_3)
noncomputable def tb_need_cut : TS := tb_need_cut_5
noncomputable def T_need_cut : TF := tFun ["debts", "cut"] tb_need_cut
set_option maxRecDepth 100000 in
set_option maxHeartbeats 4000000 in
theorem s_need_cut {g : Gx} (F : Fx05 g) : HasF g 2 true "need_cut" T_need_cut :=
  has_def (F.d 1 (by decide)) rfl (fun _ _ _ vals h => by obtain ⟨a, b, rfl⟩ := len2 h; rfl) (by decide +kernel) rfl rfl rfl (show SoundSs g 1 _ _ _ tb_need_cut from (sound_cons (sound_if (soundB_or (soundB_not (soundB_plain (sound_isinst (sound_local (by decide +kernel) (by decide +kernel)) (by decide +kernel) F.b_isinstance (by decide +kernel) (by decide +kernel) F.c_list okList_ok (fun _ _ e => by cases e) (fun _ => rfl)) (fun _ _ => rfl))) (soundB_or (soundB_cmp (sound_callB (by decide +kernel) (by decide +kernel) F.b_len (sound_econs (sound_local (by decide +kernel) (by decide +kernel)) (sound_enil) (fun _ => rfl)) bi_len) (sound_callB (by decide +kernel) (by decide +kernel) F.b_len (sound_econs (sound_local (by decide +kernel) (by decide +kernel)) (sound_enil) (fun _ => rfl)) bi_len) rfl) (soundB_orNil))) (sound_cons (sound_raise F.o_BadCut PySem.F.excBase_ValueError (sound_econs (sound_str) (sound_enil) (fun _ => rfl)) (by decide +kernel) (by decide +kernel)) (sound_nil)) (sound_nil)) (sound_cons (sound_for (sound_callT (by decide +kernel) (by decide +kernel) F.c_range (sound_econs (sound_callB (by decide +kernel) (by decide +kernel) F.b_len (sound_econs (sound_local (by decide +kernel) (by decide +kernel)) (sound_enil) (fun _ => rfl)) bi_len) (sound_enil) (fun _ => rfl)) bi_range) (sound_cons (sound_if (soundB_or (soundB_not (soundB_plain (sound_callF (s_is_number F) (sound_econs (sound_item (sound_local (by decide +kernel) (by decide +kernel)) (sound_local (by decide +kernel) (by decide +kernel)) (fun _ _ _ => rfl)) (sound_enil) (fun _ => rfl)) (by decide +kernel) (by decide +kernel) (by decide)) (fun _ _ => rfl))) (soundB_or (soundB_not (soundB_chain (sound_int) (sound_item (sound_local (by decide +kernel) (by decide +kernel)) (sound_local (by decide +kernel) (by decide +kernel)) (fun _ _ _ => rfl)) (sound_item (sound_item (sound_local (by decide +kernel) (by decide +kernel)) (sound_local (by decide +kernel) (by decide +kernel)) (fun _ _ _ => rfl)) (sound_int) (fun _ _ _ => rfl)) rfl)) (soundB_orNil))) (sound_cons (sound_raise F.o_BadCut PySem.F.excBase_ValueError (sound_econs (sound_str) (sound_enil) (fun _ => rfl)) (by decide +kernel) (by decide +kernel)) (sound_nil)) (sound_nil)) (sound_nil)) (.inl (by decide +kernel)) (fun _ _ => rfl)) (sound_nil))))
noncomputable abbrev tb_shown_1 : TS := tSeq (tRet (tConst (.bool true))) (tNil)
noncomputable abbrev tb_shown_2 : TS := tSeq (tRet (tConst (.bool false))) (tNil)
noncomputable abbrev tb_shown_3 : TS := tSeq (tIf (tAnd (tCmpB .Gt (tName "lure") (tConst (.int 0))) (tAnd (tCmpB .Lt (tItem (tName "cut") (tName "number")) (tItem (tName "debt") (tConst (.int 2)))) (tTrue))) (tb_shown_2) (tNil)) (tNil)
noncomputable abbrev tb_shown_4 : TS := tSeq (tRet (tConst (.bool false))) (tNil)
noncomputable abbrev tb_shown_5 : TS := tSeq (tIf (tAnd (tCmpB .Lt (tName "lure") (tConst (.int 0))) (tAnd (tCmpB .Gt (tItem (tName "cut") (tName "number")) (tConst (.int 0))) (tTrue))) (tb_shown_4) (tNil)) (tb_shown_3)
noncomputable abbrev tb_shown_6 : TS := tSeq (tSet "lure" (tBin .Sub (tBin .Add (tConst (.int 1)) (tItem (tName "tags") (tItem (tName "debt") (tConst (.int 0))))) (tItem (tName "tags") (tItem (tName "debt") (tConst (.int 1)))))) (tb_shown_5)
noncomputable abbrev tb_shown_7 : TS := tSeq (tSet "debt" (tItem (tName "debts") (tName "number"))) (tb_shown_6)
noncomputable abbrev tb_shown_8 : TS := tSeq (tFor "number" (tCall (tEcons (tCall (tEcons (tName "debts") (tEnil)) lenF) (tEnil)) rangeF) (tb_shown_7)) (tb_shown_1)
noncomputable abbrev tb_shown_9 : TS := tSeq (tRaise c_BadPrices_05 (tEcons (tConst (.str "a price is a whole number")) (tEnil))) (tNil)
noncomputable abbrev tb_shown_10 : TS := tSeq (tIf (tNot (tTest (tCall (tEcons (tName "price") (tEnil)) T_is_number))) (tb_shown_9) (tNil)) (tNil)
noncomputable abbrev tb_shown_11 : TS := tSeq (tFor "price" (tName "tags") (tb_shown_10)) (tb_shown_8)
noncomputable abbrev tb_shown_12 : TS := tSeq (tRaise c_BadPrices_05 (tEcons (tConst (.str "a price for each house")) (tEnil))) (tNil)
noncomputable abbrev tb_shown_13 : TS := tSeq (tIf (tOr (tNot (tTest (tIsinst (tName "tags") okList))) (tOr (tCmpB .NotEq (tCall (tEcons (tName "tags") (tEnil)) lenF) (tName "count")) (tFalse))) (tb_shown_12) (tNil)) (tb_shown_11)
noncomputable abbrev tb_shown_14 : TS := tSeq (tExpr (tCall (tEcons (tName "debts") (tEcons (tName "cut") (tEnil))) T_need_cut)) (tb_shown_13)
noncomputable def tb_shown : TS := tb_shown_14
noncomputable def T_shown : TF := tFun ["count", "debts", "cut", "tags"] tb_shown
set_option maxRecDepth 100000 in
set_option maxHeartbeats 4000000 in
theorem s_shown {g : Gx} (F : Fx05 g) : HasF g 3 true "shown" T_shown :=
  has_def (F.d 2 (by decide)) rfl (fun _ _ _ vals h => by obtain ⟨a, b, c, d, rfl⟩ := len4 h; rfl) (by decide +kernel) rfl rfl rfl (show SoundSs g 2 _ _ _ tb_shown from (sound_cons (sound_expr (sound_callF (s_need_cut F) (sound_econs (sound_local (by decide +kernel) (by decide +kernel)) (sound_econs (sound_local (by decide +kernel) (by decide +kernel)) (sound_enil) (fun _ => rfl)) (fun _ => rfl)) (by decide +kernel) (by decide +kernel) (by decide)) (fun _ _ => rfl)) (sound_cons (sound_if (soundB_or (soundB_not (soundB_plain (sound_isinst (sound_local (by decide +kernel) (by decide +kernel)) (by decide +kernel) F.b_isinstance (by decide +kernel) (by decide +kernel) F.c_list okList_ok (fun _ _ e => by cases e) (fun _ => rfl)) (fun _ _ => rfl))) (soundB_or (soundB_cmp (sound_callB (by decide +kernel) (by decide +kernel) F.b_len (sound_econs (sound_local (by decide +kernel) (by decide +kernel)) (sound_enil) (fun _ => rfl)) bi_len) (sound_local (by decide +kernel) (by decide +kernel)) rfl) (soundB_orNil))) (sound_cons (sound_raise F.o_BadPrices PySem.F.excBase_ValueError (sound_econs (sound_str) (sound_enil) (fun _ => rfl)) (by decide +kernel) (by decide +kernel)) (sound_nil)) (sound_nil)) (sound_cons (sound_for (sound_local (by decide +kernel) (by decide +kernel)) (sound_cons (sound_if (soundB_not (soundB_plain (sound_callF (s_is_number F) (sound_econs (sound_local (by decide +kernel) (by decide +kernel)) (sound_enil) (fun _ => rfl)) (by decide +kernel) (by decide +kernel) (by decide)) (fun _ _ => rfl))) (sound_cons (sound_raise F.o_BadPrices PySem.F.excBase_ValueError (sound_econs (sound_str) (sound_enil) (fun _ => rfl)) (by decide +kernel) (by decide +kernel)) (sound_nil)) (sound_nil)) (sound_nil)) (.inl (by decide +kernel)) (fun _ _ => rfl)) (sound_cons (sound_for (sound_callT (by decide +kernel) (by decide +kernel) F.c_range (sound_econs (sound_callB (by decide +kernel) (by decide +kernel) F.b_len (sound_econs (sound_local (by decide +kernel) (by decide +kernel)) (sound_enil) (fun _ => rfl)) bi_len) (sound_enil) (fun _ => rfl)) bi_range) (sound_cons (sound_set (sound_item (sound_local (by decide +kernel) (by decide +kernel)) (sound_local (by decide +kernel) (by decide +kernel)) (fun _ _ _ => rfl)) (.inl (by decide +kernel)) (fun _ _ => rfl)) (sound_cons (sound_set (sound_bin (sound_bin (sound_int) (sound_item (sound_local (by decide +kernel) (by decide +kernel)) (sound_item (sound_local (by decide +kernel) (by decide +kernel)) (sound_int) (fun _ _ _ => rfl)) (fun _ _ _ => rfl))) (sound_item (sound_local (by decide +kernel) (by decide +kernel)) (sound_item (sound_local (by decide +kernel) (by decide +kernel)) (sound_int) (fun _ _ _ => rfl)) (fun _ _ _ => rfl))) (.inl (by decide +kernel)) (fun _ _ => rfl)) (sound_cons (sound_if (soundB_and (soundB_cmp (sound_local (by decide +kernel) (by decide +kernel)) (sound_int) rfl) (soundB_and (soundB_cmp (sound_item (sound_local (by decide +kernel) (by decide +kernel)) (sound_local (by decide +kernel) (by decide +kernel)) (fun _ _ _ => rfl)) (sound_int) rfl) (soundB_andNil))) (sound_cons (sound_ret (sound_bool)) (sound_nil)) (sound_nil)) (sound_cons (sound_if (soundB_and (soundB_cmp (sound_local (by decide +kernel) (by decide +kernel)) (sound_int) rfl) (soundB_and (soundB_cmp (sound_item (sound_local (by decide +kernel) (by decide +kernel)) (sound_local (by decide +kernel) (by decide +kernel)) (fun _ _ _ => rfl)) (sound_item (sound_local (by decide +kernel) (by decide +kernel)) (sound_int) (fun _ _ _ => rfl)) rfl) (soundB_andNil))) (sound_cons (sound_ret (sound_bool)) (sound_nil)) (sound_nil)) (sound_nil))))) (.inl (by decide +kernel)) (fun _ _ => rfl)) (sound_cons (sound_ret (sound_bool)) (sound_nil)))))))
noncomputable abbrev tb_law_cell_at_1 : TS := tSeq (tRet (tConst (.int 0))) (tNil)
noncomputable abbrev tb_law_cell_at_2 : TS := tSeq (tRet (tItem (tName "_law_script") (tName "_law_k"))) (tNil)
noncomputable abbrev tb_law_cell_at_3 : TS := tSeq (tIf (tCmpB .Lt (tName "_law_k") (tCall (tEcons (tName "_law_script") (tEnil)) lenF)) (tb_law_cell_at_2) (tNil)) (tb_law_cell_at_1)
noncomputable def tb_law_cell_at : TS := tb_law_cell_at_3
noncomputable def T_law_cell_at : TF := tFun ["_law_script", "_law_k"] tb_law_cell_at
set_option maxRecDepth 100000 in
set_option maxHeartbeats 4000000 in
theorem s_law_cell_at {g : Gx} (F : Fx05 g) {q : Bool} : HasF g 1 q "_law_cell_at" T_law_cell_at :=
  has_def (F.d 3 (by decide)) rfl (fun _ _ _ vals h => by obtain ⟨a, b, rfl⟩ := len2 h; rfl) (by decide +kernel) rfl rfl rfl (show SoundSs g 0 _ _ _ tb_law_cell_at from (sound_cons (sound_if (soundB_cmp (sound_local (by decide +kernel) (by decide +kernel)) (sound_callB (by decide +kernel) (by decide +kernel) F.b_len (sound_econs (sound_local (by decide +kernel) (by decide +kernel)) (sound_enil) (fun _ => rfl)) bi_len) rfl) (sound_cons (sound_ret (sound_item (sound_local (by decide +kernel) (by decide +kernel)) (sound_local (by decide +kernel) (by decide +kernel)) (fun _ _ _ => rfl))) (sound_nil)) (sound_nil)) (sound_cons (sound_ret (sound_int)) (sound_nil))))
noncomputable abbrev tb_law_truth_1 : TS := tSeq (tRet (tAndE (tIsinst (tName "_law_found") okBool) (tCmp .Eq (tName "_law_found") (tName "_law_due")))) (tNil)
noncomputable def tb_law_truth : TS := tb_law_truth_1
noncomputable def T_law_truth : TF := tFun ["_law_found", "_law_due"] tb_law_truth
set_option maxRecDepth 100000 in
set_option maxHeartbeats 4000000 in
theorem s_law_truth {g : Gx} (F : Fx05 g) {q : Bool} : HasF g 1 q "_law_truth" T_law_truth :=
  has_def (F.d 4 (by decide)) rfl (fun _ _ _ vals h => by obtain ⟨a, b, rfl⟩ := len2 h; rfl) (by decide +kernel) rfl rfl rfl (show SoundSs g 0 _ _ _ tb_law_truth from (sound_cons (sound_ret (sound_and (sound_isinst (sound_local (by decide +kernel) (by decide +kernel)) (by decide +kernel) F.b_isinstance (by decide +kernel) (by decide +kernel) F.c_bool okBool_ok (fun _ _ e => by cases e) (fun _ => rfl)) (sound_one (sound_cmp (sound_local (by decide +kernel) (by decide +kernel)) (sound_local (by decide +kernel) (by decide +kernel)) rfl)))) (sound_nil)))
noncomputable abbrev tb_law_debt_1 : TS := tSeq (tRet (tTup (tEcons (tName "_law_debtor") (tEcons (tName "_law_creditor") (tEcons (tName "_law_amount") (tEnil)))))) (tNil)
noncomputable abbrev tb_law_debt_2 : TS := tSeq (tSet "_law_amount" (tBin .Sub (tConst (.int 1000000000)) (tBin .Mod (tBin .FloorDiv (tName "_law_mixed") (tConst (.int 2000))) (tConst (.int 3))))) (tNil)
noncomputable abbrev tb_law_debt_3 : TS := tSeq (tIf (tCmpB .Eq (tName "_law_kind_here") (tConst (.int 3))) (tb_law_debt_2) (tNil)) (tb_law_debt_1)
noncomputable abbrev tb_law_debt_4 : TS := tSeq (tSet "_law_amount" (tBin .Add (tConst (.int 1)) (tBin .Mod (tName "_law_cell") (tConst (.int 1000000000))))) (tNil)
noncomputable abbrev tb_law_debt_5 : TS := tSeq (tIf (tCmpB .Eq (tName "_law_kind_here") (tConst (.int 2))) (tb_law_debt_4) (tNil)) (tb_law_debt_3)
noncomputable abbrev tb_law_debt_6 : TS := tSeq (tSet "_law_amount" (tBin .Add (tConst (.int 1)) (tBin .Mod (tBin .FloorDiv (tName "_law_mixed") (tConst (.int 2000))) (tConst (.int 40))))) (tNil)
noncomputable abbrev tb_law_debt_7 : TS := tSeq (tIf (tCmpB .Eq (tName "_law_kind_here") (tConst (.int 1))) (tb_law_debt_6) (tNil)) (tb_law_debt_5)
noncomputable abbrev tb_law_debt_8 : TS := tSeq (tSet "_law_amount" (tBin .Add (tConst (.int 1)) (tBin .Mod (tBin .FloorDiv (tName "_law_mixed") (tConst (.int 2000))) (tConst (.int 3))))) (tb_law_debt_7)
noncomputable abbrev tb_law_debt_9 : TS := tSeq (tSet "_law_kind_here" (tBin .Mod (tBin .FloorDiv (tName "_law_mixed") (tConst (.int 400))) (tConst (.int 5)))) (tb_law_debt_8)
noncomputable abbrev tb_law_debt_10 : TS := tSeq (tSet "_law_creditor" (tBin .Mod (tBin .Add (tBin .Add (tName "_law_debtor") (tConst (.int 1))) (tBin .Mod (tBin .FloorDiv (tName "_law_mixed") (tName "_law_count_here")) (tBin .Sub (tName "_law_count_here") (tConst (.int 1))))) (tName "_law_count_here"))) (tb_law_debt_9)
noncomputable abbrev tb_law_debt_11 : TS := tSeq (tSet "_law_debtor" (tBin .Mod (tName "_law_mixed") (tName "_law_count_here"))) (tb_law_debt_10)
noncomputable abbrev tb_law_debt_12 : TS := tSeq (tSet "_law_mixed" (tBin .Mod (tBin .Mult (tBin .Add (tBin .Add (tBin .Mod (tName "_law_cell") (tConst (.int 1000000007))) (tBin .Mult (tConst (.int 7919)) (tName "_law_k"))) (tConst (.int 11))) (tConst (.int 48271))) (tConst (.int 2147483647)))) (tb_law_debt_11)
noncomputable def tb_law_debt : TS := tb_law_debt_12
noncomputable def T_law_debt : TF := tFun ["_law_cell", "_law_k", "_law_count_here"] tb_law_debt
set_option maxRecDepth 100000 in
set_option maxHeartbeats 4000000 in
theorem s_law_debt {g : Gx} (F : Fx05 g) {q : Bool} : HasF g 1 q "_law_debt" T_law_debt :=
  has_def (F.d 5 (by decide)) rfl (fun _ _ _ vals h => by obtain ⟨a, b, c, rfl⟩ := len3 h; rfl) (by decide +kernel) rfl rfl rfl (show SoundSs g 0 _ _ _ tb_law_debt from (sound_cons (sound_set (sound_bin (sound_bin (sound_bin (sound_bin (sound_bin (sound_local (by decide +kernel) (by decide +kernel)) (sound_int)) (sound_bin (sound_int) (sound_local (by decide +kernel) (by decide +kernel)))) (sound_int)) (sound_int)) (sound_int)) (.inl (by decide +kernel)) (fun _ _ => rfl)) (sound_cons (sound_set (sound_bin (sound_local (by decide +kernel) (by decide +kernel)) (sound_local (by decide +kernel) (by decide +kernel))) (.inl (by decide +kernel)) (fun _ _ => rfl)) (sound_cons (sound_set (sound_bin (sound_bin (sound_bin (sound_local (by decide +kernel) (by decide +kernel)) (sound_int)) (sound_bin (sound_bin (sound_local (by decide +kernel) (by decide +kernel)) (sound_local (by decide +kernel) (by decide +kernel))) (sound_bin (sound_local (by decide +kernel) (by decide +kernel)) (sound_int)))) (sound_local (by decide +kernel) (by decide +kernel))) (.inl (by decide +kernel)) (fun _ _ => rfl)) (sound_cons (sound_set (sound_bin (sound_bin (sound_local (by decide +kernel) (by decide +kernel)) (sound_int)) (sound_int)) (.inl (by decide +kernel)) (fun _ _ => rfl)) (sound_cons (sound_set (sound_bin (sound_int) (sound_bin (sound_bin (sound_local (by decide +kernel) (by decide +kernel)) (sound_int)) (sound_int))) (.inl (by decide +kernel)) (fun _ _ => rfl)) (sound_cons (sound_if (soundB_cmp (sound_local (by decide +kernel) (by decide +kernel)) (sound_int) rfl) (sound_cons (sound_set (sound_bin (sound_int) (sound_bin (sound_bin (sound_local (by decide +kernel) (by decide +kernel)) (sound_int)) (sound_int))) (.inl (by decide +kernel)) (fun _ _ => rfl)) (sound_nil)) (sound_nil)) (sound_cons (sound_if (soundB_cmp (sound_local (by decide +kernel) (by decide +kernel)) (sound_int) rfl) (sound_cons (sound_set (sound_bin (sound_int) (sound_bin (sound_local (by decide +kernel) (by decide +kernel)) (sound_int))) (.inl (by decide +kernel)) (fun _ _ => rfl)) (sound_nil)) (sound_nil)) (sound_cons (sound_if (soundB_cmp (sound_local (by decide +kernel) (by decide +kernel)) (sound_int) rfl) (sound_cons (sound_set (sound_bin (sound_int) (sound_bin (sound_bin (sound_local (by decide +kernel) (by decide +kernel)) (sound_int)) (sound_int))) (.inl (by decide +kernel)) (fun _ _ => rfl)) (sound_nil)) (sound_nil)) (sound_cons (sound_ret (sound_tuple (sound_econs (sound_local (by decide +kernel) (by decide +kernel)) (sound_econs (sound_local (by decide +kernel) (by decide +kernel)) (sound_econs (sound_local (by decide +kernel) (by decide +kernel)) (sound_enil) (fun _ => rfl)) (fun _ => rfl)) (fun _ => rfl)))) (sound_nil)))))))))))
noncomputable abbrev tb_law_count_1 : TS := tSeq (tRet (tBin .Add (tConst (.int 2)) (tBin .Mod (tName "_law_cell") (tConst (.int 5))))) (tNil)
noncomputable abbrev tb_law_count_2 : TS := tSeq (tRet (tBin .Add (tConst (.int 10)) (tBin .Mod (tBin .FloorDiv (tName "_law_cell") (tConst (.int 60))) (tConst (.int 11))))) (tNil)
noncomputable abbrev tb_law_count_3 : TS := tSeq (tIf (tCmpB .Eq (tBin .Mod (tBin .FloorDiv (tName "_law_cell") (tConst (.int 5))) (tConst (.int 12))) (tConst (.int 2))) (tb_law_count_2) (tNil)) (tb_law_count_1)
noncomputable abbrev tb_law_count_4 : TS := tSeq (tRet (tBin .Add (tConst (.int 2)) (tBin .Mod (tBin .FloorDiv (tName "_law_cell") (tConst (.int 30))) (tConst (.int 8))))) (tNil)
noncomputable abbrev tb_law_count_5 : TS := tSeq (tIf (tCmpB .Eq (tBin .Mod (tBin .FloorDiv (tName "_law_cell") (tConst (.int 5))) (tConst (.int 6))) (tConst (.int 1))) (tb_law_count_4) (tNil)) (tb_law_count_3)
noncomputable abbrev tb_law_count_6 : TS := tSeq (tSet "_law_cell" (tCall (tEcons (tName "_law_script") (tEcons (tConst (.int 0)) (tEnil))) T_law_cell_at)) (tb_law_count_5)
noncomputable def tb_law_count : TS := tb_law_count_6
noncomputable def T_law_count : TF := tFun ["_law_script"] tb_law_count
set_option maxRecDepth 100000 in
set_option maxHeartbeats 4000000 in
theorem s_law_count {g : Gx} (F : Fx05 g) {q : Bool} : HasF g 2 q "_law_count" T_law_count :=
  has_def (F.d 6 (by decide)) rfl (fun _ _ _ vals h => by obtain ⟨a, rfl⟩ := len1 h; rfl) (by decide +kernel) rfl rfl rfl (show SoundSs g 1 _ _ _ tb_law_count from (sound_cons (sound_set (sound_callF (s_law_cell_at F) (sound_econs (sound_local (by decide +kernel) (by decide +kernel)) (sound_econs (sound_int) (sound_enil) (fun _ => rfl)) (fun _ => rfl)) (by decide +kernel) (by decide +kernel) (by decide)) (.inl (by decide +kernel)) (fun _ _ => rfl)) (sound_cons (sound_if (soundB_cmp (sound_bin (sound_bin (sound_local (by decide +kernel) (by decide +kernel)) (sound_int)) (sound_int)) (sound_int) rfl) (sound_cons (sound_ret (sound_bin (sound_int) (sound_bin (sound_bin (sound_local (by decide +kernel) (by decide +kernel)) (sound_int)) (sound_int)))) (sound_nil)) (sound_nil)) (sound_cons (sound_if (soundB_cmp (sound_bin (sound_bin (sound_local (by decide +kernel) (by decide +kernel)) (sound_int)) (sound_int)) (sound_int) rfl) (sound_cons (sound_ret (sound_bin (sound_int) (sound_bin (sound_bin (sound_local (by decide +kernel) (by decide +kernel)) (sound_int)) (sound_int)))) (sound_nil)) (sound_nil)) (sound_cons (sound_ret (sound_bin (sound_int) (sound_bin (sound_local (by decide +kernel) (by decide +kernel)) (sound_int)))) (sound_nil))))))
noncomputable abbrev tb_law_debts_1 : TS := tSeq (tRet (tName "_law_found")) (tNil)
noncomputable abbrev tb_law_debts_2 : TS := tSeq (tExpr (tMeth insertF (tName "_law_found") (tEcons (tBin .Mod (tBin .FloorDiv (tName "_law_cell") (tConst (.int 54))) (tBin .Add (tCall (tEcons (tName "_law_found") (tEnil)) lenF) (tConst (.int 1)))) (tEcons (tTup (tEcons (tName "_law_house") (tEcons (tBin .Mod (tBin .Add (tName "_law_house") (tConst (.int 1))) (tName "_law_count_here")) (tEcons (tName "_law_amount") (tEnil))))) (tEnil))))) (tNil)
noncomputable abbrev tb_law_debts_3 : TS := tSeq (tSet "_law_house" (tBin .Sub (tBin .Sub (tName "_law_count_here") (tConst (.int 1))) (tName "_law_house"))) (tNil)
noncomputable abbrev tb_law_debts_4 : TS := tSeq (tIf (tCmpB .Eq (tBin .Mod (tBin .FloorDiv (tName "_law_cell") (tConst (.int 9))) (tConst (.int 6))) (tConst (.int 4))) (tb_law_debts_3) (tNil)) (tb_law_debts_2)
noncomputable abbrev tb_law_debts_5 : TS := tSeq (tSet "_law_amount" (tItem (tCall (tEcons (tName "_law_cell") (tEcons (tName "_law_k") (tEcons (tName "_law_count_here") (tEnil)))) T_law_debt) (tConst (.int 2)))) (tb_law_debts_4)
noncomputable abbrev tb_law_debts_6 : TS := tSeq (tSet "_law_house" (tBin .Mod (tBin .Add (tBin .FloorDiv (tName "_law_cell") (tConst (.int 54))) (tName "_law_k")) (tName "_law_count_here"))) (tb_law_debts_5)
noncomputable abbrev tb_law_debts_7 : TS := tSeq (tFor "_law_k" (tCall (tEcons (tName "_law_count_here") (tEnil)) rangeF) (tb_law_debts_6)) (tNil)
noncomputable abbrev tb_law_debts_8 : TS := tSeq (tIf (tCmpB .Gt (tBin .Mod (tBin .FloorDiv (tName "_law_cell") (tConst (.int 9))) (tConst (.int 6))) (tConst (.int 3))) (tb_law_debts_7) (tNil)) (tb_law_debts_1)
noncomputable abbrev tb_law_debts_9 : TS := tSeq (tSet "_law_found" (tComp "_law_k" ["_law_count_here", "_law_first", "_law_script"] (tCall (tEcons (tName "_law_many") (tEnil)) rangeF) (tTrue) (tCall (tEcons (tCall (tEcons (tName "_law_script") (tEcons (tBin .Add (tName "_law_first") (tName "_law_k")) (tEnil))) T_law_cell_at) (tEcons (tName "_law_k") (tEcons (tName "_law_count_here") (tEnil)))) T_law_debt))) (tb_law_debts_8)
noncomputable abbrev tb_law_debts_10 : TS := tSeq (tSet "_law_many" (tBin .Add (tConst (.int 9)) (tBin .Mod (tBin .FloorDiv (tName "_law_cell") (tConst (.int 54))) (tConst (.int 9))))) (tNil)
noncomputable abbrev tb_law_debts_11 : TS := tSeq (tIf (tCmpB .Eq (tBin .Mod (tBin .FloorDiv (tName "_law_cell") (tConst (.int 9))) (tConst (.int 6))) (tConst (.int 1))) (tb_law_debts_10) (tNil)) (tb_law_debts_9)
noncomputable abbrev tb_law_debts_12 : TS := tSeq (tSet "_law_many" (tBin .Mod (tName "_law_cell") (tConst (.int 9)))) (tb_law_debts_11)
noncomputable abbrev tb_law_debts_13 : TS := tSeq (tSet "_law_cell" (tCall (tEcons (tName "_law_script") (tEcons (tConst (.int 1)) (tEnil))) T_law_cell_at)) (tb_law_debts_12)
noncomputable def tb_law_debts : TS := tb_law_debts_13
noncomputable def T_law_debts : TF := tFun ["_law_script", "_law_first", "_law_count_here"] tb_law_debts
set_option maxRecDepth 100000 in
set_option maxHeartbeats 4000000 in
theorem s_law_debts {g : Gx} (F : Fx05 g) : HasF g 2 true "_law_debts" T_law_debts :=
  has_def (F.d 7 (by decide)) rfl (fun _ _ _ vals h => by obtain ⟨a, b, c, rfl⟩ := len3 h; rfl) (by decide +kernel) rfl rfl rfl (show SoundSs g 1 _ _ _ tb_law_debts from (sound_cons (sound_set (sound_callF (s_law_cell_at F) (sound_econs (sound_cell (by decide +kernel) (by decide +kernel)) (sound_econs (sound_int) (sound_enil) (fun _ => rfl)) (fun _ => rfl)) (by decide +kernel) (by decide +kernel) (by decide)) (.inl (by decide +kernel)) (fun _ _ => rfl)) (sound_cons (sound_set (sound_bin (sound_local (by decide +kernel) (by decide +kernel)) (sound_int)) (.inl (by decide +kernel)) (fun _ _ => rfl)) (sound_cons (sound_if (soundB_cmp (sound_bin (sound_bin (sound_local (by decide +kernel) (by decide +kernel)) (sound_int)) (sound_int)) (sound_int) rfl) (sound_cons (sound_set (sound_bin (sound_int) (sound_bin (sound_bin (sound_local (by decide +kernel) (by decide +kernel)) (sound_int)) (sound_int))) (.inl (by decide +kernel)) (fun _ _ => rfl)) (sound_nil)) (sound_nil)) (sound_cons (sound_setcomp (compOk (by decide +kernel) (by decide +kernel) (by decide +kernel) (by decide +kernel) (by decide +kernel) (by decide +kernel)) (sound_callT (by decide +kernel) (by decide +kernel) F.c_range (sound_econs (sound_local (by decide +kernel) (by decide +kernel)) (sound_enil) (fun _ => rfl)) bi_range) (ifs_nil) (sound_callF (s_law_debt F) (sound_econs (sound_callF (s_law_cell_at F) (sound_econs (sound_cell (by decide +kernel) (by decide +kernel)) (sound_econs (sound_bin (sound_cell (by decide +kernel) (by decide +kernel)) (sound_local (by decide +kernel) (by decide +kernel))) (sound_enil) (fun _ => rfl)) (fun _ => rfl)) (by decide +kernel) (by decide +kernel) (by decide)) (sound_econs (sound_local (by decide +kernel) (by decide +kernel)) (sound_econs (sound_cell (by decide +kernel) (by decide +kernel)) (sound_enil) (fun _ => rfl)) (fun _ => rfl)) (fun _ => rfl)) (by decide +kernel) (by decide +kernel) (by decide)) (fun _ _ => rfl) (.inl (by decide +kernel)) (swapsTrue (by decide +kernel))) (sound_cons (sound_if (soundB_cmp (sound_bin (sound_bin (sound_local (by decide +kernel) (by decide +kernel)) (sound_int)) (sound_int)) (sound_int) rfl) (sound_cons (sound_for (sound_callT (by decide +kernel) (by decide +kernel) F.c_range (sound_econs (sound_cell (by decide +kernel) (by decide +kernel)) (sound_enil) (fun _ => rfl)) bi_range) (sound_cons (sound_set (sound_bin (sound_bin (sound_bin (sound_local (by decide +kernel) (by decide +kernel)) (sound_int)) (sound_local (by decide +kernel) (by decide +kernel))) (sound_cell (by decide +kernel) (by decide +kernel))) (.inl (by decide +kernel)) (fun _ _ => rfl)) (sound_cons (sound_set (sound_item (sound_callF (s_law_debt F) (sound_econs (sound_local (by decide +kernel) (by decide +kernel)) (sound_econs (sound_local (by decide +kernel) (by decide +kernel)) (sound_econs (sound_cell (by decide +kernel) (by decide +kernel)) (sound_enil) (fun _ => rfl)) (fun _ => rfl)) (fun _ => rfl)) (by decide +kernel) (by decide +kernel) (by decide)) (sound_int) (fun _ _ _ => rfl)) (.inl (by decide +kernel)) (fun _ _ => rfl)) (sound_cons (sound_if (soundB_cmp (sound_bin (sound_bin (sound_local (by decide +kernel) (by decide +kernel)) (sound_int)) (sound_int)) (sound_int) rfl) (sound_cons (sound_set (sound_bin (sound_bin (sound_cell (by decide +kernel) (by decide +kernel)) (sound_int)) (sound_local (by decide +kernel) (by decide +kernel))) (.inl (by decide +kernel)) (fun _ _ => rfl)) (sound_nil)) (sound_nil)) (sound_cons (sound_expr (sound_meth (sound_local (by decide +kernel) (by decide +kernel)) (sound_econs (sound_bin (sound_bin (sound_local (by decide +kernel) (by decide +kernel)) (sound_int)) (sound_bin (sound_callB (by decide +kernel) (by decide +kernel) F.b_len (sound_econs (sound_local (by decide +kernel) (by decide +kernel)) (sound_enil) (fun _ => rfl)) bi_len) (sound_int))) (sound_econs (sound_tuple (sound_econs (sound_local (by decide +kernel) (by decide +kernel)) (sound_econs (sound_bin (sound_bin (sound_local (by decide +kernel) (by decide +kernel)) (sound_int)) (sound_cell (by decide +kernel) (by decide +kernel))) (sound_econs (sound_local (by decide +kernel) (by decide +kernel)) (sound_enil) (fun _ => rfl)) (fun _ => rfl)) (fun _ => rfl))) (sound_enil) (fun _ => rfl)) (fun _ => rfl)) me_insert (fun _ _ => rfl) (by decide) rfl slot_insert ty_insert) (fun _ _ => rfl)) (sound_nil))))) (.inl (by decide +kernel)) (fun _ _ => rfl)) (sound_nil)) (sound_nil)) (sound_cons (sound_ret (sound_local (by decide +kernel) (by decide +kernel))) (sound_nil))))))))
noncomputable abbrev tb_law_bad_cut_1 : TS := tSeq (tRet (tBin .Add (tBin .Add (tSlice (tName "_law_cut") (tPnone) (tPsome (tName "_law_at"))) (tList (tEcons (tItem (tName "_law_odd") (tBin .Mod (tBin .FloorDiv (tName "_law_cell") (tConst (.int 240))) (tConst (.int 9)))) (tEnil)))) (tSlice (tName "_law_cut") (tPsome (tBin .Add (tName "_law_at") (tConst (.int 1)))) (tPnone)))) (tNil)
noncomputable abbrev tb_law_bad_cut_2 : TS := tSeq (tSet "_law_odd" (tList (tEcons (tNeg (tConst (.int 1))) (tEcons (tBin .Add (tName "_law_amount") (tConst (.int 1))) (tEcons (tConst (.bool true)) (tEcons (tConst .none) (tEcons (tConst (.str "0")) (tEcons (tBin .Sub (tNeg (tName "_law_amount")) (tConst (.int 1))) (tEcons (tBin .Add (tBin .Mult (tName "_law_amount") (tConst (.int 2))) (tConst (.int 1))) (tEcons (tList (tEcons (tConst (.int 0)) (tEnil))) (tEcons (tConst (.bool false)) (tEnil)))))))))))) (tb_law_bad_cut_1)
noncomputable abbrev tb_law_bad_cut_3 : TS := tSeq (tSet "_law_amount" (tItem (tItem (tName "_law_debts_here") (tName "_law_at")) (tConst (.int 2)))) (tb_law_bad_cut_2)
noncomputable abbrev tb_law_bad_cut_4 : TS := tSeq (tSet "_law_at" (tBin .Mod (tBin .FloorDiv (tName "_law_cell") (tConst (.int 4))) (tCall (tEcons (tName "_law_debts_here") (tEnil)) lenF))) (tb_law_bad_cut_3)
noncomputable abbrev tb_law_bad_cut_5 : TS := tSeq (tRet (tSlice (tName "_law_cut") (tPsome (tConst (.int 1))) (tPnone))) (tNil)
noncomputable abbrev tb_law_bad_cut_6 : TS := tSeq (tIf (tCmpB .Eq (tBin .Mod (tName "_law_cell") (tConst (.int 4))) (tConst (.int 1))) (tb_law_bad_cut_5) (tNil)) (tb_law_bad_cut_4)
noncomputable abbrev tb_law_bad_cut_7 : TS := tSeq (tRet (tBin .Add (tName "_law_cut") (tList (tEcons (tConst (.int 0)) (tEnil))))) (tNil)
noncomputable abbrev tb_law_bad_cut_8 : TS := tSeq (tIf (tOr (tCmpB .Eq (tCall (tEcons (tName "_law_debts_here") (tEnil)) lenF) (tConst (.int 0))) (tOr (tCmpB .Eq (tBin .Mod (tName "_law_cell") (tConst (.int 4))) (tConst (.int 0))) (tFalse))) (tb_law_bad_cut_7) (tNil)) (tb_law_bad_cut_6)
noncomputable abbrev tb_law_bad_cut_9 : TS := tSeq (tRet (tItem (tList (tEcons (tCall (tEcons (tName "_law_cut") (tEnil)) tupleF) (tEcons (tConst .none) (tEnil)))) (tBin .Sub (tBin .Mod (tName "_law_cell") (tConst (.int 9))) (tConst (.int 7))))) (tNil)
noncomputable abbrev tb_law_bad_cut_10 : TS := tSeq (tIf (tCmpB .Gt (tBin .Mod (tName "_law_cell") (tConst (.int 9))) (tConst (.int 6))) (tb_law_bad_cut_9) (tNil)) (tb_law_bad_cut_8)
noncomputable def tb_law_bad_cut : TS := tb_law_bad_cut_10
noncomputable def T_law_bad_cut : TF := tFun ["_law_debts_here", "_law_cut", "_law_cell"] tb_law_bad_cut
set_option maxRecDepth 100000 in
set_option maxHeartbeats 4000000 in
theorem s_law_bad_cut {g : Gx} (F : Fx05 g) {q : Bool} : HasF g 1 q "_law_bad_cut" T_law_bad_cut :=
  has_def (F.d 8 (by decide)) rfl (fun _ _ _ vals h => by obtain ⟨a, b, c, rfl⟩ := len3 h; rfl) (by decide +kernel) rfl rfl rfl (show SoundSs g 0 _ _ _ tb_law_bad_cut from (sound_cons (sound_if (soundB_cmp (sound_bin (sound_local (by decide +kernel) (by decide +kernel)) (sound_int)) (sound_int) rfl) (sound_cons (sound_ret (sound_item (sound_list (sound_econs (sound_callT (by decide +kernel) (by decide +kernel) F.c_tuple (sound_econs (sound_local (by decide +kernel) (by decide +kernel)) (sound_enil) (fun _ => rfl)) bi_tuple) (sound_econs (sound_none) (sound_enil) (fun _ => rfl)) (fun _ => rfl))) (sound_bin (sound_bin (sound_local (by decide +kernel) (by decide +kernel)) (sound_int)) (sound_int)) (fun _ _ _ => rfl))) (sound_nil)) (sound_nil)) (sound_cons (sound_if (soundB_or (soundB_cmp (sound_callB (by decide +kernel) (by decide +kernel) F.b_len (sound_econs (sound_local (by decide +kernel) (by decide +kernel)) (sound_enil) (fun _ => rfl)) bi_len) (sound_int) rfl) (soundB_or (soundB_cmp (sound_bin (sound_local (by decide +kernel) (by decide +kernel)) (sound_int)) (sound_int) rfl) (soundB_orNil))) (sound_cons (sound_ret (sound_bin (sound_local (by decide +kernel) (by decide +kernel)) (sound_list (sound_econs (sound_int) (sound_enil) (fun _ => rfl))))) (sound_nil)) (sound_nil)) (sound_cons (sound_if (soundB_cmp (sound_bin (sound_local (by decide +kernel) (by decide +kernel)) (sound_int)) (sound_int) rfl) (sound_cons (sound_ret (sound_slice (sound_local (by decide +kernel) (by decide +kernel)) (part_some (sound_int)) (part_none) (fun _ _ => rfl))) (sound_nil)) (sound_nil)) (sound_cons (sound_set (sound_bin (sound_bin (sound_local (by decide +kernel) (by decide +kernel)) (sound_int)) (sound_callB (by decide +kernel) (by decide +kernel) F.b_len (sound_econs (sound_local (by decide +kernel) (by decide +kernel)) (sound_enil) (fun _ => rfl)) bi_len)) (.inl (by decide +kernel)) (fun _ _ => rfl)) (sound_cons (sound_set (sound_item (sound_item (sound_local (by decide +kernel) (by decide +kernel)) (sound_local (by decide +kernel) (by decide +kernel)) (fun _ _ _ => rfl)) (sound_int) (fun _ _ _ => rfl)) (.inl (by decide +kernel)) (fun _ _ => rfl)) (sound_cons (sound_set (sound_list (sound_econs (sound_neg (sound_int)) (sound_econs (sound_bin (sound_local (by decide +kernel) (by decide +kernel)) (sound_int)) (sound_econs (sound_bool) (sound_econs (sound_none) (sound_econs (sound_str) (sound_econs (sound_bin (sound_neg (sound_local (by decide +kernel) (by decide +kernel))) (sound_int)) (sound_econs (sound_bin (sound_bin (sound_local (by decide +kernel) (by decide +kernel)) (sound_int)) (sound_int)) (sound_econs (sound_list (sound_econs (sound_int) (sound_enil) (fun _ => rfl))) (sound_econs (sound_bool) (sound_enil) (fun _ => rfl)) (fun _ => rfl)) (fun _ => rfl)) (fun _ => rfl)) (fun _ => rfl)) (fun _ => rfl)) (fun _ => rfl)) (fun _ => rfl)) (fun _ => rfl))) (.inl (by decide +kernel)) (fun _ _ => rfl)) (sound_cons (sound_ret (sound_bin (sound_bin (sound_slice (sound_local (by decide +kernel) (by decide +kernel)) (part_none) (part_some (sound_local (by decide +kernel) (by decide +kernel))) (fun _ _ => rfl)) (sound_list (sound_econs (sound_item (sound_local (by decide +kernel) (by decide +kernel)) (sound_bin (sound_bin (sound_local (by decide +kernel) (by decide +kernel)) (sound_int)) (sound_int)) (fun _ _ _ => rfl)) (sound_enil) (fun _ => rfl)))) (sound_slice (sound_local (by decide +kernel) (by decide +kernel)) (part_some (sound_bin (sound_local (by decide +kernel) (by decide +kernel)) (sound_int))) (part_none) (fun _ _ => rfl)))) (sound_nil)))))))))
noncomputable abbrev tb_law_shows_1 : TS := tSeq (tRet (tConst (.bool true))) (tNil)
noncomputable abbrev tb_law_shows_2 : TS := tSeq (tRet (tConst (.bool false))) (tNil)
noncomputable abbrev tb_law_shows_3 : TS := tSeq (tIf (tAnd (tCmpB .Gt (tName "_law_lure") (tConst (.int 0))) (tAnd (tCmpB .Lt (tItem (tName "_law_cut") (tName "_law_number")) (tName "_law_amount")) (tTrue))) (tb_law_shows_2) (tNil)) (tNil)
noncomputable abbrev tb_law_shows_4 : TS := tSeq (tRet (tConst (.bool false))) (tNil)
noncomputable abbrev tb_law_shows_5 : TS := tSeq (tIf (tAnd (tCmpB .Lt (tName "_law_lure") (tConst (.int 0))) (tAnd (tCmpB .Gt (tItem (tName "_law_cut") (tName "_law_number")) (tConst (.int 0))) (tTrue))) (tb_law_shows_4) (tNil)) (tb_law_shows_3)
noncomputable abbrev tb_law_shows_6 : TS := tSeq (tSet "_law_lure" (tBin .Sub (tBin .Add (tConst (.int 1)) (tItem (tName "_law_tags_here") (tName "_law_debtor"))) (tItem (tName "_law_tags_here") (tName "_law_creditor")))) (tb_law_shows_5)
noncomputable abbrev tb_law_shows_7 : TS := tSeq (tUnpack ["_law_debtor", "_law_creditor", "_law_amount"] (tItem (tName "_law_debts_here") (tName "_law_number"))) (tb_law_shows_6)
noncomputable abbrev tb_law_shows_8 : TS := tSeq (tFor "_law_number" (tCall (tEcons (tCall (tEcons (tName "_law_debts_here") (tEnil)) lenF) (tEnil)) rangeF) (tb_law_shows_7)) (tb_law_shows_1)
noncomputable def tb_law_shows : TS := tb_law_shows_8
noncomputable def T_law_shows : TF := tFun ["_law_debts_here", "_law_cut", "_law_tags_here"] tb_law_shows
set_option maxRecDepth 100000 in
set_option maxHeartbeats 4000000 in
theorem s_law_shows {g : Gx} (F : Fx05 g) : HasF g 1 true "_law_shows" T_law_shows :=
  has_def (F.d 9 (by decide)) rfl (fun _ _ _ vals h => by obtain ⟨a, b, c, rfl⟩ := len3 h; rfl) (by decide +kernel) rfl rfl rfl (show SoundSs g 0 _ _ _ tb_law_shows from (sound_cons (sound_for (sound_callT (by decide +kernel) (by decide +kernel) F.c_range (sound_econs (sound_callB (by decide +kernel) (by decide +kernel) F.b_len (sound_econs (sound_local (by decide +kernel) (by decide +kernel)) (sound_enil) (fun _ => rfl)) bi_len) (sound_enil) (fun _ => rfl)) bi_range) (sound_cons (sound_unpack (nps := [("_law_debtor", ⟨102, 8, 102, 19⟩), ("_law_creditor", ⟨102, 21, 102, 34⟩), ("_law_amount", ⟨102, 36, 102, 47⟩)]) (sound_item (sound_local (by decide +kernel) (by decide +kernel)) (sound_local (by decide +kernel) (by decide +kernel)) (fun _ _ _ => rfl)) (by decide +kernel) (fun _ _ => rfl) (fun _ _ => rfl)) (sound_cons (sound_set (sound_bin (sound_bin (sound_int) (sound_item (sound_local (by decide +kernel) (by decide +kernel)) (sound_local (by decide +kernel) (by decide +kernel)) (fun _ _ _ => rfl))) (sound_item (sound_local (by decide +kernel) (by decide +kernel)) (sound_local (by decide +kernel) (by decide +kernel)) (fun _ _ _ => rfl))) (.inl (by decide +kernel)) (fun _ _ => rfl)) (sound_cons (sound_if (soundB_and (soundB_cmp (sound_local (by decide +kernel) (by decide +kernel)) (sound_int) rfl) (soundB_and (soundB_cmp (sound_item (sound_local (by decide +kernel) (by decide +kernel)) (sound_local (by decide +kernel) (by decide +kernel)) (fun _ _ _ => rfl)) (sound_int) rfl) (soundB_andNil))) (sound_cons (sound_ret (sound_bool)) (sound_nil)) (sound_nil)) (sound_cons (sound_if (soundB_and (soundB_cmp (sound_local (by decide +kernel) (by decide +kernel)) (sound_int) rfl) (soundB_and (soundB_cmp (sound_item (sound_local (by decide +kernel) (by decide +kernel)) (sound_local (by decide +kernel) (by decide +kernel)) (fun _ _ _ => rfl)) (sound_local (by decide +kernel) (by decide +kernel)) rfl) (soundB_andNil))) (sound_cons (sound_ret (sound_bool)) (sound_nil)) (sound_nil)) (sound_nil))))) (.inl (by decide +kernel)) (fun _ _ => rfl)) (sound_cons (sound_ret (sound_bool)) (sound_nil))))
noncomputable abbrev tb_law_kind_1 : TS := tSeq (tRet (tItem (tName "_law_words") (tConst (.int 0)))) (tNil)
noncomputable abbrev tb_law_kind_2 : TS := tSeq (tRet (tConst (.str "other"))) (tNil)
noncomputable abbrev tb_law_kind_3 : TS := tSeq (tIf (tOr (tCmpB .NotEq (tCall (tEcons (tName "_law_words") (tEnil)) lenF) (tConst (.int 1))) (tOr (tNot (tTest (tIsinst (tName "_law_error") okVal))) (tFalse))) (tb_law_kind_2) (tNil)) (tb_law_kind_1)
noncomputable abbrev tb_law_kind_4 : TS := tSeq (tExpr (tMeth appendF (tName "_law_words") (tEcons (tConst (.str "amount")) (tEnil)))) (tNil)
noncomputable abbrev tb_law_kind_5 : TS := tSeq (tIf (tTest (tIsinst (tName "_law_error") (okOwn c_BadAmount_05))) (tb_law_kind_4) (tNil)) (tb_law_kind_3)
noncomputable abbrev tb_law_kind_6 : TS := tSeq (tExpr (tMeth appendF (tName "_law_words") (tEcons (tConst (.str "house")) (tEnil)))) (tNil)
noncomputable abbrev tb_law_kind_7 : TS := tSeq (tIf (tTest (tIsinst (tName "_law_error") (okOwn c_NoHouse_05))) (tb_law_kind_6) (tNil)) (tb_law_kind_5)
noncomputable abbrev tb_law_kind_8 : TS := tSeq (tExpr (tMeth appendF (tName "_law_words") (tEcons (tConst (.str "number")) (tEnil)))) (tNil)
noncomputable abbrev tb_law_kind_9 : TS := tSeq (tIf (tTest (tIsinst (tName "_law_error") (okOwn c_NoDebt_05))) (tb_law_kind_8) (tNil)) (tb_law_kind_7)
noncomputable abbrev tb_law_kind_10 : TS := tSeq (tExpr (tMeth appendF (tName "_law_words") (tEcons (tConst (.str "not best")) (tEnil)))) (tNil)
noncomputable abbrev tb_law_kind_11 : TS := tSeq (tIf (tTest (tIsinst (tName "_law_error") (okOwn c_NotBest_05))) (tb_law_kind_10) (tNil)) (tb_law_kind_9)
noncomputable abbrev tb_law_kind_12 : TS := tSeq (tExpr (tMeth appendF (tName "_law_words") (tEcons (tConst (.str "prices")) (tEnil)))) (tNil)
noncomputable abbrev tb_law_kind_13 : TS := tSeq (tIf (tTest (tIsinst (tName "_law_error") (okOwn c_BadPrices_05))) (tb_law_kind_12) (tNil)) (tb_law_kind_11)
noncomputable abbrev tb_law_kind_14 : TS := tSeq (tExpr (tMeth appendF (tName "_law_words") (tEcons (tConst (.str "uneven")) (tEnil)))) (tNil)
noncomputable abbrev tb_law_kind_15 : TS := tSeq (tIf (tTest (tIsinst (tName "_law_error") (okOwn c_Uneven_05))) (tb_law_kind_14) (tNil)) (tb_law_kind_13)
noncomputable abbrev tb_law_kind_16 : TS := tSeq (tExpr (tMeth appendF (tName "_law_words") (tEcons (tConst (.str "cut")) (tEnil)))) (tNil)
noncomputable abbrev tb_law_kind_17 : TS := tSeq (tIf (tTest (tIsinst (tName "_law_error") (okOwn c_BadCut_05))) (tb_law_kind_16) (tNil)) (tb_law_kind_15)
noncomputable abbrev tb_law_kind_18 : TS := tSeq (tExpr (tMeth appendF (tName "_law_words") (tEcons (tConst (.str "debt")) (tEnil)))) (tNil)
noncomputable abbrev tb_law_kind_19 : TS := tSeq (tIf (tTest (tIsinst (tName "_law_error") (okOwn c_BadDebt_05))) (tb_law_kind_18) (tNil)) (tb_law_kind_17)
noncomputable abbrev tb_law_kind_20 : TS := tSeq (tExpr (tMeth appendF (tName "_law_words") (tEcons (tConst (.str "count")) (tEnil)))) (tNil)
noncomputable abbrev tb_law_kind_21 : TS := tSeq (tIf (tTest (tIsinst (tName "_law_error") (okOwn c_BadCount_05))) (tb_law_kind_20) (tNil)) (tb_law_kind_19)
noncomputable abbrev tb_law_kind_22 : TS := tSeq (tSet "_law_words" (tList (tEnil))) (tb_law_kind_21)
noncomputable def tb_law_kind : TS := tb_law_kind_22
noncomputable def T_law_kind : TF := tFun ["_law_error"] tb_law_kind
set_option maxRecDepth 100000 in
set_option maxHeartbeats 4000000 in
theorem s_law_kind {g : Gx} (F : Fx05 g) {q : Bool} : HasF g 1 q "_law_kind" T_law_kind :=
  has_def (F.d 10 (by decide)) rfl (fun _ _ _ vals h => by obtain ⟨a, rfl⟩ := len1 h; rfl) (by decide +kernel) rfl rfl rfl (show SoundSs g 0 _ _ _ tb_law_kind from (sound_cons (sound_set (sound_list (sound_enil)) (.inl (by decide +kernel)) (fun _ _ => rfl)) (sound_cons (sound_if (soundB_plain (sound_isinst (sound_local (by decide +kernel) (by decide +kernel)) (by decide +kernel) F.b_isinstance (by decide +kernel) (by decide +kernel) F.c_BadCount (okOwn_ok F.i_BadCount) (okOwn_x F.x) (fun _ => rfl)) (fun _ _ => rfl)) (sound_cons (sound_expr (sound_meth (sound_local (by decide +kernel) (by decide +kernel)) (sound_econs (sound_str) (sound_enil) (fun _ => rfl)) me_append (fun _ _ => rfl) (by decide) rfl slot_append ty_append) (fun _ _ => rfl)) (sound_nil)) (sound_nil)) (sound_cons (sound_if (soundB_plain (sound_isinst (sound_local (by decide +kernel) (by decide +kernel)) (by decide +kernel) F.b_isinstance (by decide +kernel) (by decide +kernel) F.c_BadDebt (okOwn_ok F.i_BadDebt) (okOwn_x F.x) (fun _ => rfl)) (fun _ _ => rfl)) (sound_cons (sound_expr (sound_meth (sound_local (by decide +kernel) (by decide +kernel)) (sound_econs (sound_str) (sound_enil) (fun _ => rfl)) me_append (fun _ _ => rfl) (by decide) rfl slot_append ty_append) (fun _ _ => rfl)) (sound_nil)) (sound_nil)) (sound_cons (sound_if (soundB_plain (sound_isinst (sound_local (by decide +kernel) (by decide +kernel)) (by decide +kernel) F.b_isinstance (by decide +kernel) (by decide +kernel) F.c_BadCut (okOwn_ok F.i_BadCut) (okOwn_x F.x) (fun _ => rfl)) (fun _ _ => rfl)) (sound_cons (sound_expr (sound_meth (sound_local (by decide +kernel) (by decide +kernel)) (sound_econs (sound_str) (sound_enil) (fun _ => rfl)) me_append (fun _ _ => rfl) (by decide) rfl slot_append ty_append) (fun _ _ => rfl)) (sound_nil)) (sound_nil)) (sound_cons (sound_if (soundB_plain (sound_isinst (sound_local (by decide +kernel) (by decide +kernel)) (by decide +kernel) F.b_isinstance (by decide +kernel) (by decide +kernel) F.c_Uneven (okOwn_ok F.i_Uneven) (okOwn_x F.x) (fun _ => rfl)) (fun _ _ => rfl)) (sound_cons (sound_expr (sound_meth (sound_local (by decide +kernel) (by decide +kernel)) (sound_econs (sound_str) (sound_enil) (fun _ => rfl)) me_append (fun _ _ => rfl) (by decide) rfl slot_append ty_append) (fun _ _ => rfl)) (sound_nil)) (sound_nil)) (sound_cons (sound_if (soundB_plain (sound_isinst (sound_local (by decide +kernel) (by decide +kernel)) (by decide +kernel) F.b_isinstance (by decide +kernel) (by decide +kernel) F.c_BadPrices (okOwn_ok F.i_BadPrices) (okOwn_x F.x) (fun _ => rfl)) (fun _ _ => rfl)) (sound_cons (sound_expr (sound_meth (sound_local (by decide +kernel) (by decide +kernel)) (sound_econs (sound_str) (sound_enil) (fun _ => rfl)) me_append (fun _ _ => rfl) (by decide) rfl slot_append ty_append) (fun _ _ => rfl)) (sound_nil)) (sound_nil)) (sound_cons (sound_if (soundB_plain (sound_isinst (sound_local (by decide +kernel) (by decide +kernel)) (by decide +kernel) F.b_isinstance (by decide +kernel) (by decide +kernel) F.c_NotBest (okOwn_ok F.i_NotBest) (okOwn_x F.x) (fun _ => rfl)) (fun _ _ => rfl)) (sound_cons (sound_expr (sound_meth (sound_local (by decide +kernel) (by decide +kernel)) (sound_econs (sound_str) (sound_enil) (fun _ => rfl)) me_append (fun _ _ => rfl) (by decide) rfl slot_append ty_append) (fun _ _ => rfl)) (sound_nil)) (sound_nil)) (sound_cons (sound_if (soundB_plain (sound_isinst (sound_local (by decide +kernel) (by decide +kernel)) (by decide +kernel) F.b_isinstance (by decide +kernel) (by decide +kernel) F.c_NoDebt (okOwn_ok F.i_NoDebt) (okOwn_x F.x) (fun _ => rfl)) (fun _ _ => rfl)) (sound_cons (sound_expr (sound_meth (sound_local (by decide +kernel) (by decide +kernel)) (sound_econs (sound_str) (sound_enil) (fun _ => rfl)) me_append (fun _ _ => rfl) (by decide) rfl slot_append ty_append) (fun _ _ => rfl)) (sound_nil)) (sound_nil)) (sound_cons (sound_if (soundB_plain (sound_isinst (sound_local (by decide +kernel) (by decide +kernel)) (by decide +kernel) F.b_isinstance (by decide +kernel) (by decide +kernel) F.c_NoHouse (okOwn_ok F.i_NoHouse) (okOwn_x F.x) (fun _ => rfl)) (fun _ _ => rfl)) (sound_cons (sound_expr (sound_meth (sound_local (by decide +kernel) (by decide +kernel)) (sound_econs (sound_str) (sound_enil) (fun _ => rfl)) me_append (fun _ _ => rfl) (by decide) rfl slot_append ty_append) (fun _ _ => rfl)) (sound_nil)) (sound_nil)) (sound_cons (sound_if (soundB_plain (sound_isinst (sound_local (by decide +kernel) (by decide +kernel)) (by decide +kernel) F.b_isinstance (by decide +kernel) (by decide +kernel) F.c_BadAmount (okOwn_ok F.i_BadAmount) (okOwn_x F.x) (fun _ => rfl)) (fun _ _ => rfl)) (sound_cons (sound_expr (sound_meth (sound_local (by decide +kernel) (by decide +kernel)) (sound_econs (sound_str) (sound_enil) (fun _ => rfl)) me_append (fun _ _ => rfl) (by decide) rfl slot_append ty_append) (fun _ _ => rfl)) (sound_nil)) (sound_nil)) (sound_cons (sound_if (soundB_or (soundB_cmp (sound_callB (by decide +kernel) (by decide +kernel) F.b_len (sound_econs (sound_local (by decide +kernel) (by decide +kernel)) (sound_enil) (fun _ => rfl)) bi_len) (sound_int) rfl) (soundB_or (soundB_not (soundB_plain (sound_isinst (sound_local (by decide +kernel) (by decide +kernel)) (by decide +kernel) F.b_isinstance (by decide +kernel) (by decide +kernel) F.c_ValueError (okVal_ok F.i_ValueError) (okVal_x F.x) (fun _ => rfl)) (fun _ _ => rfl))) (soundB_orNil))) (sound_cons (sound_ret (sound_str)) (sound_nil)) (sound_nil)) (sound_cons (sound_ret (sound_item (sound_local (by decide +kernel) (by decide +kernel)) (sound_int) (fun _ _ _ => rfl))) (sound_nil))))))))))))))
noncomputable abbrev tb_law_tags_1 : TS := tSeq (tRet (tName "_law_tags_here")) (tNil)
noncomputable abbrev tb_law_tags_2 : TS := tSeq (tExpr (tMeth appendF (tName "_law_tags_here") (tEcons (tName "_law_tag") (tEnil)))) (tNil)
noncomputable abbrev tb_law_tags_3 : TS := tSeq (tSet "_law_tag" (tBin .Add (tName "_law_far") (tName "_law_mixed"))) (tNil)
noncomputable abbrev tb_law_tags_4 : TS := tSeq (tIf (tAnd (tCmpB .Eq (tBin .Mod (tCall (tEcons (tName "_law_script") (tEcons (tConst (.int 4)) (tEnil))) T_law_cell_at) (tConst (.int 3))) (tConst (.int 2))) (tAnd (tCmpB .Eq (tBin .Mod (tBin .FloorDiv (tName "_law_mixed") (tConst (.int 9))) (tConst (.int 4))) (tConst (.int 1))) (tTrue))) (tb_law_tags_3) (tNil)) (tb_law_tags_2)
noncomputable abbrev tb_law_tags_5 : TS := tSeq (tSet "_law_tag" (tBin .Add (tName "_law_tag") (tName "_law_far"))) (tNil)
noncomputable abbrev tb_law_tags_6 : TS := tSeq (tIf (tCmpB .Eq (tBin .Mod (tCall (tEcons (tName "_law_script") (tEcons (tConst (.int 4)) (tEnil))) T_law_cell_at) (tConst (.int 3))) (tConst (.int 1))) (tb_law_tags_5) (tNil)) (tb_law_tags_4)
noncomputable abbrev tb_law_tags_7 : TS := tSeq (tSet "_law_tag" (tBin .Sub (tBin .Mod (tName "_law_mixed") (tConst (.int 9))) (tConst (.int 4)))) (tb_law_tags_6)
noncomputable abbrev tb_law_tags_8 : TS := tSeq (tSet "_law_mixed" (tBin .Mod (tBin .Mult (tBin .Add (tBin .Add (tBin .Mod (tCall (tEcons (tName "_law_script") (tEcons (tConst (.int 3)) (tEnil))) T_law_cell_at) (tConst (.int 1000000007))) (tBin .Mult (tConst (.int 5003)) (tName "_law_house"))) (tConst (.int 7))) (tConst (.int 48271))) (tConst (.int 2147483647)))) (tb_law_tags_7)
noncomputable abbrev tb_law_tags_9 : TS := tSeq (tFor "_law_house" (tCall (tEcons (tName "_law_count_here") (tEnil)) rangeF) (tb_law_tags_8)) (tb_law_tags_1)
noncomputable abbrev tb_law_tags_10 : TS := tSeq (tSet "_law_tags_here" (tList (tEnil))) (tb_law_tags_9)
noncomputable abbrev tb_law_tags_11 : TS := tSeq (tSet "_law_far" (tBin .Sub (tBin .Mod (tCall (tEcons (tName "_law_script") (tEcons (tConst (.int 2)) (tEnil))) T_law_cell_at) (tBin .Pow (tConst (.int 10)) (tConst (.int 30)))) (tBin .Mult (tConst (.int 5)) (tBin .Pow (tConst (.int 10)) (tConst (.int 29)))))) (tb_law_tags_10)
noncomputable def tb_law_tags : TS := tb_law_tags_11
noncomputable def T_law_tags : TF := tFun ["_law_script", "_law_count_here"] tb_law_tags
set_option maxRecDepth 100000 in
set_option maxHeartbeats 4000000 in
theorem s_law_tags {g : Gx} (F : Fx05 g) : HasF g 2 true "_law_tags" T_law_tags :=
  has_def (F.d 11 (by decide)) rfl (fun _ _ _ vals h => by obtain ⟨a, b, rfl⟩ := len2 h; rfl) (by decide +kernel) rfl rfl rfl (show SoundSs g 1 _ _ _ tb_law_tags from (sound_cons (sound_set (sound_bin (sound_bin (sound_callF (s_law_cell_at F) (sound_econs (sound_local (by decide +kernel) (by decide +kernel)) (sound_econs (sound_int) (sound_enil) (fun _ => rfl)) (fun _ => rfl)) (by decide +kernel) (by decide +kernel) (by decide)) (sound_bin (sound_int) (sound_int))) (sound_bin (sound_int) (sound_bin (sound_int) (sound_int)))) (.inl (by decide +kernel)) (fun _ _ => rfl)) (sound_cons (sound_set (sound_list (sound_enil)) (.inl (by decide +kernel)) (fun _ _ => rfl)) (sound_cons (sound_for (sound_callT (by decide +kernel) (by decide +kernel) F.c_range (sound_econs (sound_local (by decide +kernel) (by decide +kernel)) (sound_enil) (fun _ => rfl)) bi_range) (sound_cons (sound_set (sound_bin (sound_bin (sound_bin (sound_bin (sound_bin (sound_callF (s_law_cell_at F) (sound_econs (sound_local (by decide +kernel) (by decide +kernel)) (sound_econs (sound_int) (sound_enil) (fun _ => rfl)) (fun _ => rfl)) (by decide +kernel) (by decide +kernel) (by decide)) (sound_int)) (sound_bin (sound_int) (sound_local (by decide +kernel) (by decide +kernel)))) (sound_int)) (sound_int)) (sound_int)) (.inl (by decide +kernel)) (fun _ _ => rfl)) (sound_cons (sound_set (sound_bin (sound_bin (sound_local (by decide +kernel) (by decide +kernel)) (sound_int)) (sound_int)) (.inl (by decide +kernel)) (fun _ _ => rfl)) (sound_cons (sound_if (soundB_cmp (sound_bin (sound_callF (s_law_cell_at F) (sound_econs (sound_local (by decide +kernel) (by decide +kernel)) (sound_econs (sound_int) (sound_enil) (fun _ => rfl)) (fun _ => rfl)) (by decide +kernel) (by decide +kernel) (by decide)) (sound_int)) (sound_int) rfl) (sound_cons (sound_set (sound_bin (sound_local (by decide +kernel) (by decide +kernel)) (sound_local (by decide +kernel) (by decide +kernel))) (.inl (by decide +kernel)) (fun _ _ => rfl)) (sound_nil)) (sound_nil)) (sound_cons (sound_if (soundB_and (soundB_cmp (sound_bin (sound_callF (s_law_cell_at F) (sound_econs (sound_local (by decide +kernel) (by decide +kernel)) (sound_econs (sound_int) (sound_enil) (fun _ => rfl)) (fun _ => rfl)) (by decide +kernel) (by decide +kernel) (by decide)) (sound_int)) (sound_int) rfl) (soundB_and (soundB_cmp (sound_bin (sound_bin (sound_local (by decide +kernel) (by decide +kernel)) (sound_int)) (sound_int)) (sound_int) rfl) (soundB_andNil))) (sound_cons (sound_set (sound_bin (sound_local (by decide +kernel) (by decide +kernel)) (sound_local (by decide +kernel) (by decide +kernel))) (.inl (by decide +kernel)) (fun _ _ => rfl)) (sound_nil)) (sound_nil)) (sound_cons (sound_expr (sound_meth (sound_local (by decide +kernel) (by decide +kernel)) (sound_econs (sound_local (by decide +kernel) (by decide +kernel)) (sound_enil) (fun _ => rfl)) me_append (fun _ _ => rfl) (by decide) rfl slot_append ty_append) (fun _ _ => rfl)) (sound_nil)))))) (.inl (by decide +kernel)) (fun _ _ => rfl)) (sound_cons (sound_ret (sound_local (by decide +kernel) (by decide +kernel))) (sound_nil))))))
noncomputable abbrev tb_law_cut_for_1 : TS := tSeq (tRet (tName "_law_cut")) (tNil)
noncomputable abbrev tb_law_cut_for_2 : TS := tSeq (tStore (tName "_law_cut") (tName "_law_at") (tCall (tEcons (tConst (.int 0)) (tEcons (tCall (tEcons (tItem (tItem (tName "_law_debts_here") (tName "_law_at")) (tConst (.int 2))) (tEcons (tBin .Sub (tBin .Add (tItem (tName "_law_cut") (tName "_law_at")) (tConst (.int 1))) (tBin .Mult (tBin .Mod (tBin .FloorDiv (tName "_law_cell") (tConst (.int 40))) (tConst (.int 2))) (tConst (.int 2)))) (tEnil))) minF) (tEnil))) maxF)) (tNil)
noncomputable abbrev tb_law_cut_for_3 : TS := tSeq (tSet "_law_at" (tBin .Mod (tBin .FloorDiv (tName "_law_cell") (tConst (.int 2))) (tCall (tEcons (tName "_law_debts_here") (tEnil)) lenF))) (tb_law_cut_for_2)
noncomputable abbrev tb_law_cut_for_4 : TS := tSeq (tIf (tAnd (tCmpB .Gt (tCall (tEcons (tName "_law_debts_here") (tEnil)) lenF) (tConst (.int 0))) (tAnd (tCmpB .Eq (tBin .Mod (tName "_law_cell") (tConst (.int 2))) (tConst (.int 1))) (tTrue))) (tb_law_cut_for_3) (tNil)) (tb_law_cut_for_1)
noncomputable abbrev tb_law_cut_for_5 : TS := tSeq (tExpr (tMeth appendF (tName "_law_cut") (tEcons (tName "_law_many") (tEnil)))) (tNil)
noncomputable abbrev tb_law_cut_for_6 : TS := tSeq (tSet "_law_many" (tBin .Mod (tName "_law_mixed") (tBin .Add (tItem (tItem (tName "_law_debts_here") (tName "_law_k")) (tConst (.int 2))) (tConst (.int 1))))) (tNil)
noncomputable abbrev tb_law_cut_for_7 : TS := tSeq (tSet "_law_mixed" (tBin .Mod (tBin .Mult (tBin .Add (tBin .Mod (tName "_law_cell") (tConst (.int 1000000007))) (tBin .Mult (tConst (.int 977)) (tName "_law_k"))) (tConst (.int 48271))) (tConst (.int 2147483647)))) (tb_law_cut_for_6)
noncomputable abbrev tb_law_cut_for_8 : TS := tSeq (tIf (tCmpB .Eq (tName "_law_lure") (tConst (.int 0))) (tb_law_cut_for_7) (tNil)) (tb_law_cut_for_5)
noncomputable abbrev tb_law_cut_for_9 : TS := tSeq (tSet "_law_many" (tItem (tItem (tName "_law_debts_here") (tName "_law_k")) (tConst (.int 2)))) (tNil)
noncomputable abbrev tb_law_cut_for_10 : TS := tSeq (tIf (tCmpB .Gt (tName "_law_lure") (tConst (.int 0))) (tb_law_cut_for_9) (tNil)) (tb_law_cut_for_8)
noncomputable abbrev tb_law_cut_for_11 : TS := tSeq (tSet "_law_many" (tConst (.int 0))) (tb_law_cut_for_10)
noncomputable abbrev tb_law_cut_for_12 : TS := tSeq (tSet "_law_lure" (tBin .Sub (tBin .Add (tConst (.int 1)) (tItem (tName "_law_tags_here") (tItem (tItem (tName "_law_debts_here") (tName "_law_k")) (tConst (.int 0))))) (tItem (tName "_law_tags_here") (tItem (tItem (tName "_law_debts_here") (tName "_law_k")) (tConst (.int 1)))))) (tb_law_cut_for_11)
noncomputable abbrev tb_law_cut_for_13 : TS := tSeq (tFor "_law_k" (tCall (tEcons (tCall (tEcons (tName "_law_debts_here") (tEnil)) lenF) (tEnil)) rangeF) (tb_law_cut_for_12)) (tb_law_cut_for_4)
noncomputable abbrev tb_law_cut_for_14 : TS := tSeq (tSet "_law_cut" (tList (tEnil))) (tb_law_cut_for_13)
noncomputable def tb_law_cut_for : TS := tb_law_cut_for_14
noncomputable def T_law_cut_for : TF := tFun ["_law_debts_here", "_law_tags_here", "_law_cell"] tb_law_cut_for
set_option maxRecDepth 100000 in
set_option maxHeartbeats 4000000 in
theorem s_law_cut_for {g : Gx} (F : Fx05 g) : HasF g 1 true "_law_cut_for" T_law_cut_for :=
  has_def (F.d 12 (by decide)) rfl (fun _ _ _ vals h => by obtain ⟨a, b, c, rfl⟩ := len3 h; rfl) (by decide +kernel) rfl rfl rfl (show SoundSs g 0 _ _ _ tb_law_cut_for from (sound_cons (sound_set (sound_list (sound_enil)) (.inl (by decide +kernel)) (fun _ _ => rfl)) (sound_cons (sound_for (sound_callT (by decide +kernel) (by decide +kernel) F.c_range (sound_econs (sound_callB (by decide +kernel) (by decide +kernel) F.b_len (sound_econs (sound_local (by decide +kernel) (by decide +kernel)) (sound_enil) (fun _ => rfl)) bi_len) (sound_enil) (fun _ => rfl)) bi_range) (sound_cons (sound_set (sound_bin (sound_bin (sound_int) (sound_item (sound_local (by decide +kernel) (by decide +kernel)) (sound_item (sound_item (sound_local (by decide +kernel) (by decide +kernel)) (sound_local (by decide +kernel) (by decide +kernel)) (fun _ _ _ => rfl)) (sound_int) (fun _ _ _ => rfl)) (fun _ _ _ => rfl))) (sound_item (sound_local (by decide +kernel) (by decide +kernel)) (sound_item (sound_item (sound_local (by decide +kernel) (by decide +kernel)) (sound_local (by decide +kernel) (by decide +kernel)) (fun _ _ _ => rfl)) (sound_int) (fun _ _ _ => rfl)) (fun _ _ _ => rfl))) (.inl (by decide +kernel)) (fun _ _ => rfl)) (sound_cons (sound_set (sound_int) (.inl (by decide +kernel)) (fun _ _ => rfl)) (sound_cons (sound_if (soundB_cmp (sound_local (by decide +kernel) (by decide +kernel)) (sound_int) rfl) (sound_cons (sound_set (sound_item (sound_item (sound_local (by decide +kernel) (by decide +kernel)) (sound_local (by decide +kernel) (by decide +kernel)) (fun _ _ _ => rfl)) (sound_int) (fun _ _ _ => rfl)) (.inl (by decide +kernel)) (fun _ _ => rfl)) (sound_nil)) (sound_nil)) (sound_cons (sound_if (soundB_cmp (sound_local (by decide +kernel) (by decide +kernel)) (sound_int) rfl) (sound_cons (sound_set (sound_bin (sound_bin (sound_bin (sound_bin (sound_local (by decide +kernel) (by decide +kernel)) (sound_int)) (sound_bin (sound_int) (sound_local (by decide +kernel) (by decide +kernel)))) (sound_int)) (sound_int)) (.inl (by decide +kernel)) (fun _ _ => rfl)) (sound_cons (sound_set (sound_bin (sound_local (by decide +kernel) (by decide +kernel)) (sound_bin (sound_item (sound_item (sound_local (by decide +kernel) (by decide +kernel)) (sound_local (by decide +kernel) (by decide +kernel)) (fun _ _ _ => rfl)) (sound_int) (fun _ _ _ => rfl)) (sound_int))) (.inl (by decide +kernel)) (fun _ _ => rfl)) (sound_nil))) (sound_nil)) (sound_cons (sound_expr (sound_meth (sound_local (by decide +kernel) (by decide +kernel)) (sound_econs (sound_local (by decide +kernel) (by decide +kernel)) (sound_enil) (fun _ => rfl)) me_append (fun _ _ => rfl) (by decide) rfl slot_append ty_append) (fun _ _ => rfl)) (sound_nil)))))) (.inl (by decide +kernel)) (fun _ _ => rfl)) (sound_cons (sound_if (soundB_and (soundB_cmp (sound_callB (by decide +kernel) (by decide +kernel) F.b_len (sound_econs (sound_local (by decide +kernel) (by decide +kernel)) (sound_enil) (fun _ => rfl)) bi_len) (sound_int) rfl) (soundB_and (soundB_cmp (sound_bin (sound_local (by decide +kernel) (by decide +kernel)) (sound_int)) (sound_int) rfl) (soundB_andNil))) (sound_cons (sound_set (sound_bin (sound_bin (sound_local (by decide +kernel) (by decide +kernel)) (sound_int)) (sound_callB (by decide +kernel) (by decide +kernel) F.b_len (sound_econs (sound_local (by decide +kernel) (by decide +kernel)) (sound_enil) (fun _ => rfl)) bi_len)) (.inl (by decide +kernel)) (fun _ _ => rfl)) (sound_cons (sound_store (sound_callB (by decide +kernel) (by decide +kernel) F.b_max (sound_econs (sound_int) (sound_econs (sound_callB (by decide +kernel) (by decide +kernel) F.b_min (sound_econs (sound_item (sound_item (sound_local (by decide +kernel) (by decide +kernel)) (sound_local (by decide +kernel) (by decide +kernel)) (fun _ _ _ => rfl)) (sound_int) (fun _ _ _ => rfl)) (sound_econs (sound_bin (sound_bin (sound_item (sound_local (by decide +kernel) (by decide +kernel)) (sound_local (by decide +kernel) (by decide +kernel)) (fun _ _ _ => rfl)) (sound_int)) (sound_bin (sound_bin (sound_bin (sound_local (by decide +kernel) (by decide +kernel)) (sound_int)) (sound_int)) (sound_int))) (sound_enil) (fun _ => rfl)) (fun _ => rfl)) (bi_min rfl)) (sound_enil) (fun _ => rfl)) (fun _ => rfl)) (bi_max rfl)) (sound_local (by decide +kernel) (by decide +kernel)) (sound_local (by decide +kernel) (by decide +kernel)) (fun _ _ => rfl)) (sound_nil))) (sound_nil)) (sound_cons (sound_ret (sound_local (by decide +kernel) (by decide +kernel))) (sound_nil))))))
noncomputable def tb_law_refused : TS := tSeq (tTry "_law_error" exCls (tSeq (tExpr (tCall (tEcons (tName "_law_count_here") (tEcons (tName "_law_debts_here") (tEcons (tName "_law_cut") (tEcons (tName "_law_tags_here") (tEnil))))) T_shown)) (tNil)) (tSeq (tRet (tCall (tEcons (tName "_law_error") (tEnil)) T_law_kind)) (tNil))) (tSeq (tRet (tConst (.str "none"))) (tNil))
noncomputable def T_law_refused : TF := tFun ["_law_count_here", "_law_debts_here", "_law_cut", "_law_tags_here"] tb_law_refused
set_option maxRecDepth 100000 in
set_option maxHeartbeats 4000000 in
theorem s_law_refused {g : Gx} (F : Fx05 g) : HasF g 4 true "_law_refused" T_law_refused :=
  has_def (F.d 13 (by decide)) rfl (fun _ _ _ vals h => by obtain ⟨a, b, c, d, rfl⟩ := len4 h; rfl) (by decide +kernel) rfl rfl rfl (show SoundSs g 3 _ _ _ tb_law_refused from (sound_cons (sound_try (sound_cons (sound_expr (sound_callF (s_shown F) (sound_econs (sound_local (by decide +kernel) (by decide +kernel)) (sound_econs (sound_local (by decide +kernel) (by decide +kernel)) (sound_econs (sound_local (by decide +kernel) (by decide +kernel)) (sound_econs (sound_local (by decide +kernel) (by decide +kernel)) (sound_enil) (fun _ => rfl)) (fun _ => rfl)) (fun _ => rfl)) (fun _ => rfl)) (by decide +kernel) (by decide +kernel) (by decide)) (fun _ _ => rfl)) (sound_nil)) (sound_cons (sound_ret (sound_callF (s_law_kind F) (sound_econs (sound_local (by decide +kernel) (by decide +kernel)) (sound_enil) (fun _ => rfl)) (by decide +kernel) (by decide +kernel) (by decide))) (sound_nil)) (by decide +kernel) (by decide +kernel) F.c_DebtError (by decide +kernel) F.m) (sound_cons (sound_ret (sound_str)) (sound_nil))))
noncomputable abbrev tb_law_bad_tags_1 : TS := tSeq (tRet (tItem (tName "_law_odd") (tBin .Mod (tName "_law_cell") (tConst (.int 9))))) (tNil)
noncomputable abbrev tb_law_bad_tags_2 : TS := tSeq (tExpr (tMeth appendF (tName "_law_odd") (tEcons (tBin .Add (tBin .Add (tSlice (tName "_law_tags_here") (tPnone) (tPsome (tName "_law_at"))) (tList (tEcons (tConst (.bool false)) (tEnil)))) (tSlice (tName "_law_tags_here") (tPsome (tBin .Add (tName "_law_at") (tConst (.int 1)))) (tPnone))) (tEnil)))) (tb_law_bad_tags_1)
noncomputable abbrev tb_law_bad_tags_3 : TS := tSeq (tSet "_law_odd" (tBin .Add (tName "_law_odd") (tList (tEcons (tBin .Add (tBin .Add (tSlice (tName "_law_tags_here") (tPnone) (tPsome (tName "_law_at"))) (tList (tEcons (tConst (.str "0")) (tEnil)))) (tSlice (tName "_law_tags_here") (tPsome (tBin .Add (tName "_law_at") (tConst (.int 1)))) (tPnone))) (tEcons (tBin .Add (tBin .Add (tSlice (tName "_law_tags_here") (tPnone) (tPsome (tName "_law_at"))) (tList (tEcons (tConst .none) (tEnil)))) (tSlice (tName "_law_tags_here") (tPsome (tBin .Add (tName "_law_at") (tConst (.int 1)))) (tPnone))) (tEnil)))))) (tb_law_bad_tags_2)
noncomputable abbrev tb_law_bad_tags_4 : TS := tSeq (tSet "_law_odd" (tList (tEcons (tBin .Add (tName "_law_tags_here") (tList (tEcons (tConst (.int 0)) (tEnil)))) (tEcons (tSlice (tName "_law_tags_here") (tPsome (tConst (.int 1))) (tPnone)) (tEcons (tCall (tEcons (tName "_law_tags_here") (tEnil)) tupleF) (tEcons (tConst .none) (tEcons (tBin .Add (tBin .Add (tSlice (tName "_law_tags_here") (tPnone) (tPsome (tName "_law_at"))) (tList (tEcons (tConst (.bool true)) (tEnil)))) (tSlice (tName "_law_tags_here") (tPsome (tBin .Add (tName "_law_at") (tConst (.int 1)))) (tPnone))) (tEcons (tList (tEnil)) (tEnil))))))))) (tb_law_bad_tags_3)
noncomputable abbrev tb_law_bad_tags_5 : TS := tSeq (tSet "_law_at" (tBin .Mod (tBin .FloorDiv (tName "_law_cell") (tConst (.int 9))) (tCall (tEcons (tName "_law_tags_here") (tEnil)) lenF))) (tb_law_bad_tags_4)
noncomputable def tb_law_bad_tags : TS := tb_law_bad_tags_5
noncomputable def T_law_bad_tags : TF := tFun ["_law_tags_here", "_law_cell"] tb_law_bad_tags
set_option maxRecDepth 100000 in
set_option maxHeartbeats 4000000 in
theorem s_law_bad_tags {g : Gx} (F : Fx05 g) {q : Bool} : HasF g 1 q "_law_bad_tags" T_law_bad_tags :=
  has_def (F.d 14 (by decide)) rfl (fun _ _ _ vals h => by obtain ⟨a, b, rfl⟩ := len2 h; rfl) (by decide +kernel) rfl rfl rfl (show SoundSs g 0 _ _ _ tb_law_bad_tags from (sound_cons (sound_set (sound_bin (sound_bin (sound_local (by decide +kernel) (by decide +kernel)) (sound_int)) (sound_callB (by decide +kernel) (by decide +kernel) F.b_len (sound_econs (sound_local (by decide +kernel) (by decide +kernel)) (sound_enil) (fun _ => rfl)) bi_len)) (.inl (by decide +kernel)) (fun _ _ => rfl)) (sound_cons (sound_set (sound_list (sound_econs (sound_bin (sound_local (by decide +kernel) (by decide +kernel)) (sound_list (sound_econs (sound_int) (sound_enil) (fun _ => rfl)))) (sound_econs (sound_slice (sound_local (by decide +kernel) (by decide +kernel)) (part_some (sound_int)) (part_none) (fun _ _ => rfl)) (sound_econs (sound_callT (by decide +kernel) (by decide +kernel) F.c_tuple (sound_econs (sound_local (by decide +kernel) (by decide +kernel)) (sound_enil) (fun _ => rfl)) bi_tuple) (sound_econs (sound_none) (sound_econs (sound_bin (sound_bin (sound_slice (sound_local (by decide +kernel) (by decide +kernel)) (part_none) (part_some (sound_local (by decide +kernel) (by decide +kernel))) (fun _ _ => rfl)) (sound_list (sound_econs (sound_bool) (sound_enil) (fun _ => rfl)))) (sound_slice (sound_local (by decide +kernel) (by decide +kernel)) (part_some (sound_bin (sound_local (by decide +kernel) (by decide +kernel)) (sound_int))) (part_none) (fun _ _ => rfl))) (sound_econs (sound_list (sound_enil)) (sound_enil) (fun _ => rfl)) (fun _ => rfl)) (fun _ => rfl)) (fun _ => rfl)) (fun _ => rfl)) (fun _ => rfl))) (.inl (by decide +kernel)) (fun _ _ => rfl)) (sound_cons (sound_set (sound_bin (sound_local (by decide +kernel) (by decide +kernel)) (sound_list (sound_econs (sound_bin (sound_bin (sound_slice (sound_local (by decide +kernel) (by decide +kernel)) (part_none) (part_some (sound_local (by decide +kernel) (by decide +kernel))) (fun _ _ => rfl)) (sound_list (sound_econs (sound_str) (sound_enil) (fun _ => rfl)))) (sound_slice (sound_local (by decide +kernel) (by decide +kernel)) (part_some (sound_bin (sound_local (by decide +kernel) (by decide +kernel)) (sound_int))) (part_none) (fun _ _ => rfl))) (sound_econs (sound_bin (sound_bin (sound_slice (sound_local (by decide +kernel) (by decide +kernel)) (part_none) (part_some (sound_local (by decide +kernel) (by decide +kernel))) (fun _ _ => rfl)) (sound_list (sound_econs (sound_none) (sound_enil) (fun _ => rfl)))) (sound_slice (sound_local (by decide +kernel) (by decide +kernel)) (part_some (sound_bin (sound_local (by decide +kernel) (by decide +kernel)) (sound_int))) (part_none) (fun _ _ => rfl))) (sound_enil) (fun _ => rfl)) (fun _ => rfl)))) (.inl (by decide +kernel)) (fun _ _ => rfl)) (sound_cons (sound_expr (sound_meth (sound_local (by decide +kernel) (by decide +kernel)) (sound_econs (sound_bin (sound_bin (sound_slice (sound_local (by decide +kernel) (by decide +kernel)) (part_none) (part_some (sound_local (by decide +kernel) (by decide +kernel))) (fun _ _ => rfl)) (sound_list (sound_econs (sound_bool) (sound_enil) (fun _ => rfl)))) (sound_slice (sound_local (by decide +kernel) (by decide +kernel)) (part_some (sound_bin (sound_local (by decide +kernel) (by decide +kernel)) (sound_int))) (part_none) (fun _ _ => rfl))) (sound_enil) (fun _ => rfl)) me_append (fun _ _ => rfl) (by decide) rfl slot_append ty_append) (fun _ _ => rfl)) (sound_cons (sound_ret (sound_item (sound_local (by decide +kernel) (by decide +kernel)) (sound_bin (sound_local (by decide +kernel) (by decide +kernel)) (sound_int)) (fun _ _ _ => rfl))) (sound_nil)))))))
noncomputable abbrev tb_law_main_1 : TS := tSeq (tRet (tAndE (tCall (tEcons (tName "_law_found") (tEcons (tCall (tEcons (tName "_law_debts_here") (tEcons (tName "_law_cut") (tEcons (tName "_law_tags_here") (tEnil)))) T_law_shows) (tEnil))) T_law_truth) (tCmp .Eq (tName "_law_handed") (tList (tEcons (tName "_law_debts_here") (tEcons (tName "_law_cut") (tEcons (tName "_law_tags_here") (tEnil)))))))) (tNil)
noncomputable abbrev tb_law_main_2 : TS := tSeq (tSet "_law_found" (tCall (tEcons (tName "_law_count_here") (tEcons (tItem (tName "_law_handed") (tConst (.int 0))) (tEcons (tItem (tName "_law_handed") (tConst (.int 1))) (tEcons (tItem (tName "_law_handed") (tConst (.int 2))) (tEnil))))) T_shown)) (tb_law_main_1)
noncomputable abbrev tb_law_main_3 : TS := tSeq (tSet "_law_handed" (tList (tEcons (tCall (tEcons (tName "_law_debts_here") (tEnil)) listF) (tEcons (tCall (tEcons (tName "_law_cut") (tEnil)) listF) (tEcons (tCall (tEcons (tName "_law_tags_here") (tEnil)) listF) (tEnil)))))) (tb_law_main_2)
noncomputable abbrev tb_law_main_4 : TS := tSeq (tRet (tCmp .Eq (tCall (tEcons (tName "_law_count_here") (tEcons (tCall (tEcons (tName "_law_debts_here") (tEnil)) listF) (tEcons (tName "_law_cut") (tEcons (tName "_law_tags_here") (tEnil))))) T_law_refused) (tName "_law_due"))) (tNil)
noncomputable abbrev tb_law_main_5 : TS := tSeq (tSet "_law_tags_here" (tCall (tEcons (tName "_law_tags_here") (tEcons (tBin .FloorDiv (tCall (tEcons (tName "_law_script") (tEcons (tConst (.int 7)) (tEnil))) T_law_cell_at) (tConst (.int 3))) (tEnil))) T_law_bad_tags)) (tNil)
noncomputable abbrev tb_law_main_6 : TS := tSeq (tIf (tCmpB .Lt (tName "_law_way") (tConst (.int 2))) (tb_law_main_5) (tNil)) (tb_law_main_4)
noncomputable abbrev tb_law_main_7 : TS := tSeq (tSet "_law_due" (tConst (.str "cut"))) (tNil)
noncomputable abbrev tb_law_main_8 : TS := tSeq (tSet "_law_cut" (tCall (tEcons (tName "_law_debts_here") (tEcons (tName "_law_cut") (tEcons (tCall (tEcons (tName "_law_script") (tEcons (tConst (.int 7)) (tEnil))) T_law_cell_at) (tEnil)))) T_law_bad_cut)) (tb_law_main_7)
noncomputable abbrev tb_law_main_9 : TS := tSeq (tIf (tCmpB .Gt (tName "_law_way") (tConst (.int 0))) (tb_law_main_8) (tNil)) (tb_law_main_6)
noncomputable abbrev tb_law_main_10 : TS := tSeq (tSet "_law_due" (tConst (.str "prices"))) (tb_law_main_9)
noncomputable abbrev tb_law_main_11 : TS := tSeq (tIf (tCmpB .Lt (tName "_law_way") (tConst (.int 3))) (tb_law_main_10) (tNil)) (tb_law_main_3)
noncomputable abbrev tb_law_main_12 : TS := tSeq (tSet "_law_way" (tBin .Mod (tCall (tEcons (tName "_law_script") (tEcons (tConst (.int 6)) (tEnil))) T_law_cell_at) (tConst (.int 18)))) (tb_law_main_11)
noncomputable abbrev tb_law_main_13 : TS := tSeq (tSet "_law_cut" (tCall (tEcons (tName "_law_debts_here") (tEcons (tName "_law_tags_here") (tEcons (tCall (tEcons (tName "_law_script") (tEcons (tConst (.int 5)) (tEnil))) T_law_cell_at) (tEnil)))) T_law_cut_for)) (tb_law_main_12)
noncomputable abbrev tb_law_main_14 : TS := tSeq (tSet "_law_tags_here" (tCall (tEcons (tName "_law_script") (tEcons (tName "_law_count_here") (tEnil))) T_law_tags)) (tb_law_main_13)
noncomputable abbrev tb_law_main_15 : TS := tSeq (tSet "_law_debts_here" (tCall (tEcons (tName "_law_script") (tEcons (tConst (.int 8)) (tEcons (tName "_law_count_here") (tEnil)))) T_law_debts)) (tb_law_main_14)
noncomputable abbrev tb_law_main_16 : TS := tSeq (tSet "_law_count_here" (tCall (tEcons (tName "_law_script") (tEnil)) T_law_count)) (tb_law_main_15)
noncomputable def tb_law_main : TS := tb_law_main_16
noncomputable def T_law_main : TF := tFun ["_law_script"] tb_law_main
set_option maxRecDepth 100000 in
set_option maxHeartbeats 4000000 in
theorem s_law_main {g : Gx} (F : Fx05 g) : HasF g 5 true "law" T_law_main :=
  has_def (F.d 15 (by decide)) rfl (fun _ _ _ vals h => by obtain ⟨a, rfl⟩ := len1 h; rfl) (by decide +kernel) rfl rfl rfl (show SoundSs g 4 _ _ _ tb_law_main from (sound_cons (sound_set (sound_callF (s_law_count F) (sound_econs (sound_local (by decide +kernel) (by decide +kernel)) (sound_enil) (fun _ => rfl)) (by decide +kernel) (by decide +kernel) (by decide)) (.inl (by decide +kernel)) (fun _ _ => rfl)) (sound_cons (sound_set (sound_callF (s_law_debts F) (sound_econs (sound_local (by decide +kernel) (by decide +kernel)) (sound_econs (sound_int) (sound_econs (sound_local (by decide +kernel) (by decide +kernel)) (sound_enil) (fun _ => rfl)) (fun _ => rfl)) (fun _ => rfl)) (by decide +kernel) (by decide +kernel) (by decide)) (.inl (by decide +kernel)) (fun _ _ => rfl)) (sound_cons (sound_set (sound_callF (s_law_tags F) (sound_econs (sound_local (by decide +kernel) (by decide +kernel)) (sound_econs (sound_local (by decide +kernel) (by decide +kernel)) (sound_enil) (fun _ => rfl)) (fun _ => rfl)) (by decide +kernel) (by decide +kernel) (by decide)) (.inl (by decide +kernel)) (fun _ _ => rfl)) (sound_cons (sound_set (sound_callF (s_law_cut_for F) (sound_econs (sound_local (by decide +kernel) (by decide +kernel)) (sound_econs (sound_local (by decide +kernel) (by decide +kernel)) (sound_econs (sound_callF (s_law_cell_at F) (sound_econs (sound_local (by decide +kernel) (by decide +kernel)) (sound_econs (sound_int) (sound_enil) (fun _ => rfl)) (fun _ => rfl)) (by decide +kernel) (by decide +kernel) (by decide)) (sound_enil) (fun _ => rfl)) (fun _ => rfl)) (fun _ => rfl)) (by decide +kernel) (by decide +kernel) (by decide)) (.inl (by decide +kernel)) (fun _ _ => rfl)) (sound_cons (sound_set (sound_bin (sound_callF (s_law_cell_at F) (sound_econs (sound_local (by decide +kernel) (by decide +kernel)) (sound_econs (sound_int) (sound_enil) (fun _ => rfl)) (fun _ => rfl)) (by decide +kernel) (by decide +kernel) (by decide)) (sound_int)) (.inl (by decide +kernel)) (fun _ _ => rfl)) (sound_cons (sound_if (soundB_cmp (sound_local (by decide +kernel) (by decide +kernel)) (sound_int) rfl) (sound_cons (sound_set (sound_str) (.inl (by decide +kernel)) (fun _ _ => rfl)) (sound_cons (sound_if (soundB_cmp (sound_local (by decide +kernel) (by decide +kernel)) (sound_int) rfl) (sound_cons (sound_set (sound_callF (s_law_bad_cut F) (sound_econs (sound_local (by decide +kernel) (by decide +kernel)) (sound_econs (sound_local (by decide +kernel) (by decide +kernel)) (sound_econs (sound_callF (s_law_cell_at F) (sound_econs (sound_local (by decide +kernel) (by decide +kernel)) (sound_econs (sound_int) (sound_enil) (fun _ => rfl)) (fun _ => rfl)) (by decide +kernel) (by decide +kernel) (by decide)) (sound_enil) (fun _ => rfl)) (fun _ => rfl)) (fun _ => rfl)) (by decide +kernel) (by decide +kernel) (by decide)) (.inl (by decide +kernel)) (fun _ _ => rfl)) (sound_cons (sound_set (sound_str) (.inl (by decide +kernel)) (fun _ _ => rfl)) (sound_nil))) (sound_nil)) (sound_cons (sound_if (soundB_cmp (sound_local (by decide +kernel) (by decide +kernel)) (sound_int) rfl) (sound_cons (sound_set (sound_callF (s_law_bad_tags F) (sound_econs (sound_local (by decide +kernel) (by decide +kernel)) (sound_econs (sound_bin (sound_callF (s_law_cell_at F) (sound_econs (sound_local (by decide +kernel) (by decide +kernel)) (sound_econs (sound_int) (sound_enil) (fun _ => rfl)) (fun _ => rfl)) (by decide +kernel) (by decide +kernel) (by decide)) (sound_int)) (sound_enil) (fun _ => rfl)) (fun _ => rfl)) (by decide +kernel) (by decide +kernel) (by decide)) (.inl (by decide +kernel)) (fun _ _ => rfl)) (sound_nil)) (sound_nil)) (sound_cons (sound_ret (sound_cmp (sound_callF (s_law_refused F) (sound_econs (sound_local (by decide +kernel) (by decide +kernel)) (sound_econs (sound_callT (by decide +kernel) (by decide +kernel) F.c_list (sound_econs (sound_local (by decide +kernel) (by decide +kernel)) (sound_enil) (fun _ => rfl)) (bi_list rfl)) (sound_econs (sound_local (by decide +kernel) (by decide +kernel)) (sound_econs (sound_local (by decide +kernel) (by decide +kernel)) (sound_enil) (fun _ => rfl)) (fun _ => rfl)) (fun _ => rfl)) (fun _ => rfl)) (by decide +kernel) (by decide +kernel) (by decide)) (sound_local (by decide +kernel) (by decide +kernel)) rfl)) (sound_nil))))) (sound_nil)) (sound_cons (sound_set (sound_list (sound_econs (sound_callT (by decide +kernel) (by decide +kernel) F.c_list (sound_econs (sound_local (by decide +kernel) (by decide +kernel)) (sound_enil) (fun _ => rfl)) (bi_list rfl)) (sound_econs (sound_callT (by decide +kernel) (by decide +kernel) F.c_list (sound_econs (sound_local (by decide +kernel) (by decide +kernel)) (sound_enil) (fun _ => rfl)) (bi_list rfl)) (sound_econs (sound_callT (by decide +kernel) (by decide +kernel) F.c_list (sound_econs (sound_local (by decide +kernel) (by decide +kernel)) (sound_enil) (fun _ => rfl)) (bi_list rfl)) (sound_enil) (fun _ => rfl)) (fun _ => rfl)) (fun _ => rfl))) (.inl (by decide +kernel)) (fun _ _ => rfl)) (sound_cons (sound_set (sound_callF (s_shown F) (sound_econs (sound_local (by decide +kernel) (by decide +kernel)) (sound_econs (sound_item (sound_local (by decide +kernel) (by decide +kernel)) (sound_int) (fun _ _ _ => rfl)) (sound_econs (sound_item (sound_local (by decide +kernel) (by decide +kernel)) (sound_int) (fun _ _ _ => rfl)) (sound_econs (sound_item (sound_local (by decide +kernel) (by decide +kernel)) (sound_int) (fun _ _ _ => rfl)) (sound_enil) (fun _ => rfl)) (fun _ => rfl)) (fun _ => rfl)) (fun _ => rfl)) (by decide +kernel) (by decide +kernel) (by decide)) (.inl (by decide +kernel)) (fun _ _ => rfl)) (sound_cons (sound_ret (sound_and (sound_callF (s_law_truth F) (sound_econs (sound_local (by decide +kernel) (by decide +kernel)) (sound_econs (sound_callF (s_law_shows F) (sound_econs (sound_local (by decide +kernel) (by decide +kernel)) (sound_econs (sound_local (by decide +kernel) (by decide +kernel)) (sound_econs (sound_local (by decide +kernel) (by decide +kernel)) (sound_enil) (fun _ => rfl)) (fun _ => rfl)) (fun _ => rfl)) (by decide +kernel) (by decide +kernel) (by decide)) (sound_enil) (fun _ => rfl)) (fun _ => rfl)) (by decide +kernel) (by decide +kernel) (by decide)) (sound_one (sound_cmp (sound_local (by decide +kernel) (by decide +kernel)) (sound_list (sound_econs (sound_local (by decide +kernel) (by decide +kernel)) (sound_econs (sound_local (by decide +kernel) (by decide +kernel)) (sound_econs (sound_local (by decide +kernel) (by decide +kernel)) (sound_enil) (fun _ => rfl)) (fun _ => rfl)) (fun _ => rfl))) rfl)))) (sound_nil)))))))))))

local macro_rules | `(tactic| walk_at "nm") => `(tactic| first | with_reducible exact setL_same | with_reducible exact compR_same | (with_reducible refine setL_other (by decide +kernel) ?_; walk_at "nm") | (with_reducible refine compR_other (by decide +kernel) (by decide +kernel) ?_; walk_at "nm") | (with_reducible refine unL_other (by decide +kernel) ?_; walk_at "nm") | with_reducible assumption)
local macro_rules | `(tactic| walk_at "sx") => `(tactic| with_reducible first
  | refine i_const ?_ | refine i_bin ?_ | refine i_add ?_ | refine i_sub ?_ | refine i_neg ?_ | refine i_cmp ?_ | refine i_cmpB ?_ | refine i_chain ?_ | refine i_chainB ?_
  | refine i_lt ?_ | refine i_le ?_ | refine i_gt ?_ | refine i_ge ?_ | refine i_eqi ?_ | refine i_nei ?_ | refine i_eqss ?_ | refine i_eqs ?_ | refine i_is ?_ | refine i_isnot ?_ | refine i_not ?_ | refine i_and ?_ | refine i_or ?_ | refine i_true ?_ | refine i_false ?_ | refine i_test ?_
  | refine i_andE ?_ | refine i_orE ?_ | refine i_notE ?_ | refine i_tup ?_ | refine i_list ?_ | refine i_enil ?_ | refine i_econs ?_ | refine i_call ?_ | refine i_item ?_ | refine i_isinst ?_ | refine i_range ?_ | refine i_divp (by decide) (by decide) ?_ | refine i_modp (by decide) ?_ | refine i_mul (.inr (by decide)) ?_ | refine i_mul (.inl (by decide)) ?_ | refine i_meth ?_
  | refine i_g0 ?_ | refine i_g1 ?_ | refine i_g2 ?_ | refine i_len3 ?_ | refine i_len2 ?_ | refine i_len4 ?_
  | refine i_slice ?_ | refine i_pnone ?_ | refine i_psome ?_ | refine i_dict0 ?_ | refine i_comp ?_ | refine i_lenset ?_ | refine i_max ?_ | refine i_min ?_ | refine i_pow (by decide) (by decide) (by decide) ?_
  | (refine i_name (by walk_at "nm") ?_) | refine And.intro (show List.length _ ≤ 1000000 by simp) ?_ | refine And.intro (show List.length [_] ≤ sizeLine by decide) ?_)
local macro_rules | `(tactic| walk_at "ex") => `(tactic| repeat (walk_at "sx"))
local macro_rules | `(tactic| walk_at "st") => `(tactic| first | walk_at "sx" | with_reducible first
  | refine i_seq ?_ | refine i_set ?_ | refine i_if ?_ | refine i_ret ?_ | refine i_expr ?_ | refine i_raise ?_ | refine i_nil ?_
  | refine i_store ?_ | refine i_swap ?_ | refine i_unpack ?_ | refine i_try ?_ | refine i_for ?_ | refine i_forzip ?_ | refine ite_t ?_ | refine ite_f ?_ | refine ite_nt ?_ | refine ite_nf ?_)
local macro_rules | `(tactic| walk_at "ev") => `(tactic| repeat (first | walk_at "st" | dsimp only))

noncomputable def cellN (ns : List Int) (k : Int) : Int := (ns[k.toNat]?).getD 0
theorem p_cell_at {l : Addr} {ns : List Int} {k : Int} {σ : Sto} {Q : PV → Sto → Prop} {X : Addr → Sto → Prop} (h0 : 0 ≤ k) (h1 : ns.length ≤ 63) (hq : Q (.int (cellN ns k)) σ) : T_law_cell_at [.lst l ns, .int k] σ Q X := by
  unfold T_law_cell_at tb_law_cell_at
  refine i_fun2 ?_
  walk_at "ev"
  refine i_len trivial rfl (by simp; omega) ?_
  walk_at "ev"
  refine ite_d (fun h => ?_) (fun h => ?_)
  · walk_at "ev"
    refine i_get h0 (by simp at h; omega) rfl trivial (x := .int (cellN ns k)) ?_ ?_
    · simp at h
      have : k.toNat < ns.length := by omega
      simp [cellN, this]
    · walk_at "ev"
      exact hq
  · walk_at "ev"
    have : ns[k.toNat]? = none := by simp at h ⊢; omega
    simp only [cellN, this, Option.getD] at hq
    exact hq

theorem p_is_number {p : PV} {ty : Ty} {σ : Sto} {Q : PV → Sto → Prop} {X : Addr → Sto → Prop} (h : tyOf σ p = some ty) (hx : ∀ c, ty ≠ .exc c) (hq : Q (.bool (match ty with | .int => true | _ => false)) σ) : T_is_number [p] σ Q X := by
  unfold T_is_number tb_is_number
  refine i_fun1 ?_
  walk_at "ev"
  cases ty with
  | exc c => exact absurd rfl (hx c)
  | int => exact ⟨_, _, h, rfl, _, _, h, rfl, hq⟩
  | bool => exact ⟨_, _, h, rfl, _, _, h, rfl, hq⟩
  | _ => exact ⟨_, _, h, rfl, hq⟩

theorem p_count {l : Addr} {ns : List Int} {σ : Sto} {Q : PV → Sto → Prop} {X : Addr → Sto → Prop} (h1 : ns.length ≤ 63) (hq : ∀ n : Int, 2 ≤ n → n ≤ 20 → Q (.int n) σ) : T_law_count [.lst l ns] σ Q X := by
  unfold T_law_count tb_law_count
  refine i_fun1 ?_
  walk_at "ev"
  refine p_cell_at (by decide) h1 ?_
  walk_at "ev"
  refine ite_d (fun _ => ?_) (fun _ => ?_)
  · walk_at "ev"
    exact hq _ (by omega) (by omega)
  · walk_at "ev"
    refine ite_d (fun _ => ?_) (fun _ => ?_)
    · walk_at "ev"
      exact hq _ (by omega) (by omega)
    · walk_at "ev"
      exact hq _ (by omega) (by omega)

theorem shift_ne {n d s : Int} (h0 : 0 ≤ d) (h1 : d < n) (h2 : 1 ≤ s) (h3 : s < n) : (d + s) % n ≠ d := by
  by_cases h : d + s < n
  · rw [Int.emod_eq_of_lt (by omega) h]; omega
  · have : (d + s) % n = d + s - n := by
      rw [← Int.sub_emod_right]
      exact Int.emod_eq_of_lt (by omega) (by omega)
    omega

/-- a good debt between n houses -/
noncomputable def GoodD (n : Int) (p : PV) : Prop := ∃ d c a : Int, p = .tup [.int d, .int c, .int a] ∧ (0 ≤ d ∧ d < n) ∧ (0 ≤ c ∧ c < n) ∧ d ≠ c ∧ 1 ≤ a ∧ a ≤ 1000000000

theorem am_le {y c : Int} (h0 : 0 < c) (h1 : c ≤ 1000000000) : 1 ≤ 1 + y % c ∧ 1 + y % c ≤ 1000000000 := by
  have := Int.emod_nonneg y (Int.ne_of_gt h0)
  have := Int.emod_lt_of_pos y h0
  omega
theorem am_ge {y : Int} : 1 ≤ 1000000000 - y % 3 ∧ 1000000000 - y % 3 ≤ 1000000000 := by omega
theorem debt_ok {n m : Int} (h1 : 2 ≤ n) : (0 ≤ m % n ∧ m % n < n) ∧ (0 ≤ (m % n + 1 + m / n % (n - 1)) % n ∧ (m % n + 1 + m / n % (n - 1)) % n < n) ∧ m % n ≠ (m % n + 1 + m / n % (n - 1)) % n := by
  have p0 : 0 < n := by omega
  have p1 : 0 < n - 1 := by omega
  have d0 := Int.emod_nonneg m (Int.ne_of_gt p0)
  have d1 := Int.emod_lt_of_pos m p0
  have t0 := Int.emod_nonneg (m / n) (Int.ne_of_gt p1)
  have t1 := Int.emod_lt_of_pos (m / n) p1
  refine ⟨⟨d0, d1⟩, ⟨Int.emod_nonneg _ (Int.ne_of_gt p0), Int.emod_lt_of_pos _ p0⟩, fun e => ?_⟩
  rw [Int.add_assoc] at e
  exact shift_ne d0 d1 (by omega) (by omega) e.symm
/-- the three turns of the amount -/
theorem debt_end {x m kd d c a : Int} {ρ : Env'} {σ : Sto} {Q : PV → Sto → Prop} {X : Addr → Sto → Prop} (hq : ∀ a : Int, 1 ≤ a ∧ a ≤ 1000000000 → Q (.tup [.int d, .int c, .int a]) σ) (ha : 1 ≤ a ∧ a ≤ 1000000000)
    (e1 : ρ "_law_debtor" = some (.int d)) (e2 : ρ "_law_creditor" = some (.int c)) (e3 : ρ "_law_amount" = some (.int a)) (e4 : ρ "_law_kind_here" = some (.int kd)) (e5 : ρ "_law_mixed" = some (.int m)) : tb_law_debt_3 ρ σ (funQ Q) (funX X) := by
  walk_at "ev"
  refine ite_d (fun _ => ?_) (fun _ => ?_)
  · walk_at "ev"
    exact hq _ am_ge
  · walk_at "ev"
    exact hq _ ha
theorem debt_mid {x m kd d c a : Int} {ρ : Env'} {σ : Sto} {Q : PV → Sto → Prop} {X : Addr → Sto → Prop} (hq : ∀ a : Int, 1 ≤ a ∧ a ≤ 1000000000 → Q (.tup [.int d, .int c, .int a]) σ) (ha : 1 ≤ a ∧ a ≤ 1000000000)
    (e1 : ρ "_law_debtor" = some (.int d)) (e2 : ρ "_law_creditor" = some (.int c)) (e3 : ρ "_law_amount" = some (.int a)) (e4 : ρ "_law_kind_here" = some (.int kd)) (e5 : ρ "_law_mixed" = some (.int m)) (e6 : ρ "_law_cell" = some (.int x)) : tb_law_debt_5 ρ σ (funQ Q) (funX X) := by
  refine i_seq (i_if ?_)
  walk_at "ex"
  refine ite_d (fun _ => ?_) (fun _ => ?_)
  · refine i_seq (i_set ?_)
    walk_at "ex"
    exact i_nil (debt_end (a := 1 + x % 1000000000) (x := x) hq (am_le (by decide) (by decide)) (by walk_at "nm") (by walk_at "nm") (by walk_at "nm") (by walk_at "nm") (by walk_at "nm"))
  · exact i_nil (debt_end (x := x) hq ha e1 e2 e3 e4 e5)
theorem p_debt {x k n : Int} {σ : Sto} {Q : PV → Sto → Prop} {X : Addr → Sto → Prop} (h1 : 2 ≤ n) (h2 : n ≤ 20) (hq : ∀ p, GoodD n p → Q p σ) : T_law_debt [.int x, .int k, .int n] σ Q X := by
  have p0 : 0 < n := by omega
  unfold T_law_debt tb_law_debt
  refine i_fun3 ?_
  walk_at "ev"
  refine i_modp p0 ?_
  walk_at "ev"
  refine i_divp p0 (by omega) ?_
  walk_at "ev"
  refine i_modp (by omega) ?_
  walk_at "ev"
  refine i_modp p0 ?_
  refine i_seq (i_set ?_)
  walk_at "ex"
  refine i_seq (i_set ?_)
  walk_at "ex"
  generalize (x % 1000000007 + 7919 * k + 11) * 48271 % 2147483647 = m
  have ok := debt_ok (m := m) h1
  generalize (m % n + 1 + m / n % (n - 1)) % n = c at ok ⊢
  generalize m % n = d at ok ⊢
  have hq' : ∀ a : Int, 1 ≤ a ∧ a ≤ 1000000000 → Q (.tup [.int d, .int c, .int a]) σ := fun a h => hq _ ⟨d, c, a, rfl, ok.1, ok.2.1, ok.2.2, h⟩
  refine i_seq (i_if ?_)
  walk_at "ex"
  refine ite_d (fun _ => ?_) (fun _ => ?_)
  · refine i_seq (i_set ?_)
    walk_at "ex"
    exact i_nil (debt_mid (a := 1 + m / 2000 % 40) hq' (am_le (by decide) (by decide)) (by walk_at "nm") (by walk_at "nm") (by walk_at "nm") (by walk_at "nm") (by walk_at "nm") (by walk_at "nm"))
  · exact i_nil (debt_mid (a := 1 + m / 2000 % 3) hq' (am_le (by decide) (by decide)) (by walk_at "nm") (by walk_at "nm") (by walk_at "nm") (by walk_at "nm") (by walk_at "nm") (by walk_at "nm"))

inductive DebI (n x : Int) (a : Addr) (σ : Sto) (ps : List PV) (ρ : Env') (σ' : Sto) : Prop
  | mk (zs : List PV) : ρ "_law_count_here" = some (.int n) → ρ "_law_cell" = some (.int x) → ρ "_law_found" = some (.ref a) → (∀ p ∈ ps, ∃ k, p = .int k) → σ' = upd σ a (.list zs) → zs.length + ps.length ≤ 40 → (∀ z ∈ zs, GoodD n z) → DebI n x a σ ps ρ σ'
theorem up_items {σ : Sto} {a : Addr} {zs : List PV} : itemsOf (upd σ a (.list zs)) (.ref a) = some zs := by simp only [itemsOf, upd_same]
theorem deb_ins {n x b am : Int} {a : Addr} {σ : Sto} {zs ps : List PV} {ρ : Env'} {Qb : Fl → Env' → Sto → Prop} {XS : Addr → Env' → Sto → Prop} (h2 : 2 ≤ n) (f4 : ∀ p ∈ ps, ∃ k, p = .int k) (hz : zs.length + ps.length + 1 ≤ 40) (f6 : ∀ z ∈ zs, GoodD n z) (hnx : ∀ ρ' σ', DebI n x a σ ps ρ' σ' → Qb .next ρ' σ')
    (b0 : 0 ≤ b) (b1 : b < n) (ha : 1 ≤ am ∧ am ≤ 1000000000) (g1 : ρ "_law_count_here" = some (.int n)) (g2 : ρ "_law_cell" = some (.int x)) (g3 : ρ "_law_found" = some (.ref a)) (g4 : ρ "_law_house" = some (.int b)) (g5 : ρ "_law_amount" = some (.int am)) : tb_law_debts_2 ρ (upd σ a (.list zs)) Qb XS := by
  have p0 : 0 < n := by omega
  walk_at "ev"
  refine ⟨⟨zs, upd_same⟩, ?_⟩
  walk_at "ev"
  refine i_len (xs := zs) trivial up_items (by omega) ?_
  walk_at "ev"
  have pz : 0 < (zs.length : Int) + 1 := by omega
  refine i_modp pz ?_
  walk_at "ev"
  refine i_modp p0 ?_
  walk_at "ev"
  refine i_insert (Int.emod_nonneg _ (Int.ne_of_gt pz)) (Int.lt_trans (Int.emod_lt_of_pos _ pz) (by omega)) upd_same (by omega) ?_
  rw [upd_upd]
  walk_at "ev"
  refine hnx _ _ ⟨_, g1, g2, g3, f4, rfl, ?_, fun z hz => ?_⟩
  · rw [List.length_append, List.length_cons, List.length_take, List.length_drop]
    omega
  · rcases List.mem_append.mp hz with h | h
    · exact f6 z (List.mem_of_mem_take h)
    · rcases List.mem_cons.mp h with rfl | h
      · exact ⟨_, _, am, rfl, ⟨b0, b1⟩, ⟨Int.emod_nonneg _ (Int.ne_of_gt p0), Int.emod_lt_of_pos _ p0⟩, fun e => shift_ne b0 b1 (s := 1) (by decide) (by omega) e.symm, ha⟩
      · exact f6 z (List.mem_of_mem_drop h)
theorem deb_ring {n x : Int} {a : Addr} {σ : Sto} {ys : List PV} {ρ : Env'} {Q : PV → Sto → Prop} {X : Addr → Sto → Prop} (h2 : 2 ≤ n) (h3 : n ≤ 20) (hl : ys.length ≤ 17) (hy : ∀ y ∈ ys, GoodD n y) (hq : ∀ xs : List PV, xs.length ≤ 40 → (∀ x ∈ xs, GoodD n x) → Q (.ref a) (upd σ a (.list xs)))
    (g1 : ρ "_law_count_here" = some (.int n)) (g2 : ρ "_law_cell" = some (.int x)) (g3 : ρ "_law_found" = some (.ref a)) : tb_law_debts_8 ρ (upd σ a (.list ys)) (funQ Q) (funX X) := by
  have p0 : 0 < n := by omega
  walk_at "ev"
  refine ite_d (fun _ => ?_) (fun _ => ?_)
  · walk_at "ev"
    refine ⟨_, rfl, ⟨by decide, by decide, by omega, by omega⟩, ?_⟩
    refine forL_step (DebI n x a σ) (fun _ _ _ => False) ?_ ?_ (fun _ _ _ h => h.elim) _ _ _ ?_
    · rintro p ps ρ' σ' Qb ⟨zs, f1, f2, f3, f4, rfl, f5, f6⟩ hn _
      obtain ⟨k, rfl⟩ := f4 p (.head _)
      have ins := fun b am ρ => @deb_ins n x b am a σ zs ps ρ Qb (funX X) h2 (fun p hp => f4 p (.tail _ hp)) f5 f6 fun ρ' σ' => hn ρ' σ' rfl
      walk_at "ev"
      refine i_modp p0 ?_
      walk_at "ev"
      refine p_debt h2 h3 fun p hp => ?_
      obtain ⟨d, c, am, rfl, _, _, _, ha⟩ := hp
      have s0 := Int.emod_nonneg (x / 54 + k) (Int.ne_of_gt p0)
      have s1 := Int.emod_lt_of_pos (x / 54 + k) p0
      generalize (x / 54 + k) % n = hs at s0 s1 ⊢
      walk_at "ev"
      refine ite_d (fun _ => ?_) (fun _ => ?_)
      · refine i_seq (i_set ?_)
        walk_at "ex"
        exact i_nil (ins (n - 1 - hs) am _ (by omega) (by omega) ha (by walk_at "nm") (by walk_at "nm") (by walk_at "nm") (by walk_at "nm") (by walk_at "nm"))
      · exact i_nil (ins hs am _ s0 s1 ha (by walk_at "nm") (by walk_at "nm") (by walk_at "nm") (by walk_at "nm") (by walk_at "nm"))
    · rintro ρ' σ' ⟨zs, _, _, f3, _, rfl, f5, f6⟩
      walk_at "ev"
      exact hq zs f5 f6
    · refine ⟨ys, g1, g2, g3, fun p hp => ?_, rfl, ?_, hy⟩
      · obtain ⟨k, hk, rfl⟩ := List.mem_map.mp hp
        exact ⟨_, rfl⟩
      · rw [List.length_map, List.length_range]; omega
  · walk_at "ev"
    exact hq ys (by omega) hy
theorem paired_right {P : PV → Prop} : ∀ {xs ys : List PV}, Paired (fun _ y => P y) xs ys → ∀ y ∈ ys, P y
  | _, _, .nil, _, h => nomatch h
  | _, _, .cons h r, y, hy => by
    rcases List.mem_cons.mp hy with rfl | hy
    · exact h
    · exact paired_right r y hy
theorem deb_rest {l : Addr} {ns : List Int} {first n x m : Int} {ρ : Env'} {σ : Sto} {Q : PV → Sto → Prop} {X : Addr → Sto → Prop} (h1 : ns.length ≤ 63) (hf : 0 ≤ first) (h2 : 2 ≤ n) (h3 : n ≤ 20) (hq : ∀ a (xs : List PV), σ a = none → xs.length ≤ 40 → (∀ x ∈ xs, GoodD n x) → Q (.ref a) (upd σ a (.list xs)))
    (hm : 0 ≤ m ∧ m ≤ 17) (e1 : ρ "_law_script" = some (.lst l ns)) (e2 : ρ "_law_first" = some (.int first)) (e3 : ρ "_law_count_here" = some (.int n)) (e4 : ρ "_law_cell" = some (.int x)) (e5 : ρ "_law_many" = some (.int m)) : tb_law_debts_9 ρ σ (funQ Q) (funX X) := by
  obtain ⟨m0, m1⟩ := hm
  refine i_seq (i_set ?_)
  walk_at "ex"
  refine ⟨_, rfl, ⟨by decide, by decide, by omega, by omega⟩, by rw [List.length_map, List.length_range]; exact Nat.le_trans (show (m - 0).toNat ≤ 17 by omega) (show 17 ≤ sizeLine by decide), ?_⟩
  refine compL_all (fun _ y => GoodD n y) (by rfl) _ [] (fun p hp Q' hQ => ?_) (fun ys hys => ?_)
  · obtain ⟨k, hk, rfl⟩ := List.mem_map.mp hp
    walk_at "ev"
    refine p_cell_at (by omega) h1 ?_
    walk_at "ev"
    exact p_debt h2 h3 hQ
  · intro a ha
    have hl : ys.length ≤ 17 := by
      have := hys.length
      rw [List.length_map, List.length_range] at this
      omega
    exact deb_ring h2 h3 hl (paired_right hys) (fun xs => hq a xs ha) (by walk_at "nm") (by walk_at "nm") (by walk_at "nm")
theorem p_debts {l : Addr} {ns : List Int} {first n : Int} {σ : Sto} {Q : PV → Sto → Prop} {X : Addr → Sto → Prop} (h1 : ns.length ≤ 63) (hf : 0 ≤ first) (h2 : 2 ≤ n) (h3 : n ≤ 20)
    (hq : ∀ a (xs : List PV), σ a = none → xs.length ≤ 40 → (∀ x ∈ xs, GoodD n x) → Q (.ref a) (upd σ a (.list xs))) : T_law_debts [.lst l ns, .int first, .int n] σ Q X := by
  unfold T_law_debts tb_law_debts
  refine i_fun3 ?_
  walk_at "ev"
  refine p_cell_at (by decide) h1 ?_
  generalize cellN ns 1 = x
  refine i_seq (i_set ?_)
  walk_at "ex"
  refine i_seq (i_if ?_)
  walk_at "ex"
  refine ite_d (fun _ => ?_) (fun _ => ?_)
  · refine i_seq (i_set ?_)
    walk_at "ex"
    exact i_nil (deb_rest (m := 9 + x / 54 % 9) h1 hf h2 h3 hq (by omega) (by walk_at "nm") (by walk_at "nm") (by walk_at "nm") (by walk_at "nm") (by walk_at "nm"))
  · exact i_nil (deb_rest (m := x % 9) h1 hf h2 h3 hq (by omega) (by walk_at "nm") (by walk_at "nm") (by walk_at "nm") (by walk_at "nm") (by walk_at "nm"))

/-- a value whose type is told, and which is no exception -/
noncomputable def Told (σ : Sto) (p : PV) : Prop := ∃ ty, tyOf σ p = some ty ∧ ∀ c, ty ≠ .exc c
theorem told_int {σ : Sto} {i : Int} : Told σ (.int i) := ⟨_, rfl, fun c e => by cases e⟩
theorem told_bool {σ : Sto} {i : Bool} : Told σ (.bool i) := ⟨_, rfl, fun c e => by cases e⟩
theorem told_str {σ : Sto} {i : Str} : Told σ (.str i) := ⟨_, rfl, fun c e => by cases e⟩
theorem told_none {σ : Sto} : Told σ .none := ⟨_, rfl, fun c e => by cases e⟩
theorem told_list {σ : Sto} {a : Addr} {xs : List PV} (h : σ a = some (.list xs)) : Told σ (.ref a) := ⟨.list, by unfold tyOf; simp only [h], fun c e => by cases e⟩
theorem Told.ext {σ σ' : Sto} {p : PV} (h : Told σ p) (x : Ext σ σ') : Told σ' p := let ⟨ty, h1, h2⟩ := h; ⟨ty, x.ty h1, h2⟩

theorem p_is_number' {p : PV} {σ : Sto} {Q : PV → Sto → Prop} {X : Addr → Sto → Prop} (h : Told σ p) (h1 : ∀ i, p = .int i → Q (.bool true) σ) (h2 : (∀ i, p ≠ .int i) → Q (.bool false) σ) : T_is_number [p] σ Q X := by
  obtain ⟨ty, ht, hx⟩ := h
  refine p_is_number ht hx ?_
  cases p with
  | int i => cases ht; exact h1 i rfl
  | none => cases ht; exact h2 fun i e => by cases e
  | bool b => cases ht; exact h2 fun i e => by cases e
  | str b => cases ht; exact h2 fun i e => by cases e
  | tup b => cases ht; exact h2 fun i e => by cases e
  | lst a b => cases ht; exact h2 fun i e => by cases e
  | exc a b => cases ht; exact absurd rfl (hx b)
  | rng a b => cases ht
  | ref a =>
    have := h2 fun i e => by cases e
    unfold tyOf at ht
    dsimp only at ht
    split at ht
    · cases ht; exact this
    · cases ht; exact this
    · cases ht

theorem ty_list {σ : Sto} {a : Addr} {xs : List PV} (h : σ a = some (.list xs)) : tyOf σ (.ref a) = some .list := by unfold tyOf; simp only [h]
theorem items_ref {σ : Sto} {a : Addr} {xs : List PV} (h : σ a = some (.list xs)) : itemsOf σ (.ref a) = some xs := by unfold itemsOf; simp only [h]
theorem Ext.back {σ σ' : Sto} (x : Ext σ σ') {b : Addr} (h : σ' b = none) : σ b = none := by
  cases e : σ b with
  | none => rfl
  | some o => rw [x _ _ e] at h; cases h
noncomputable def enc (t : Int × Int × Int) : PV := .tup [.int t.1, .int t.2.1, .int t.2.2]
noncomputable def deb (D : List (Int × Int × Int)) (k : Nat) : Int := (D.getD k (0, 0, 0)).1
noncomputable def cre (D : List (Int × Int × Int)) (k : Nat) : Int := (D.getD k (0, 0, 0)).2.1
noncomputable def amt (D : List (Int × Int × Int)) (k : Nat) : Int := (D.getD k (0, 0, 0)).2.2
theorem i_debt {D : List (Int × Int × Int)} {d : Addr} {k : Nat} {σ : Sto} {kk : PV → Prop} (hd : σ d = some (.list (D.map enc))) (hk : k < D.length) (hl : D.length ≤ 1000) (h : kk (.tup [.int (deb D k), .int (cre D k), .int (amt D k)])) : getP σ (.ref d) (.int (k : Int)) kk := by
  refine i_get (by omega) (by omega) (items_ref hd) trivial (x := enc (D.getD k (0, 0, 0))) ?_ h
  simp [List.getD, hk]
theorem i_num {ts : List Int} {d : Addr} {k : Int} {σ : Sto} {kk : PV → Prop} (hd : σ d = some (.list (ts.map .int))) (h0 : 0 ≤ k) (hk : k < ts.length) (hl : ts.length ≤ 1000) (h : kk (.int (ts.getD k.toNat 0))) : getP σ (.ref d) (.int k) kk := by
  have hk' : k.toNat < ts.length := by omega
  refine i_get h0 (by omega) (items_ref hd) trivial (x := .int (ts.getD k.toNat 0)) ?_ h
  simp [List.getD, hk']
theorem i_numk {ts : List Int} {d : Addr} {k : Nat} {σ : Sto} {kk : PV → Prop} (hd : σ d = some (.list (ts.map .int))) (hk : k < ts.length) (hl : ts.length ≤ 1000) (h : kk (.int (ts.getD k 0))) : getP σ (.ref d) (.int (k : Int)) kk :=
  i_num hd (Int.natCast_nonneg _) (Int.ofNat_lt.mpr hk) hl h
section
variable {α : Type} {f : α → PV} {D : List α} {d : Addr} {σ : Sto} {Q : PV → Sto → Prop} {X : Addr → Sto → Prop}
theorem i_lenm (hd : σ d = some (.list (D.map f))) (hl : D.length ≤ 1000) (h : Q (.int (D.length : Nat)) σ) : lenF [.ref d] σ Q X :=
  i_len trivial (items_ref hd) (by rw [List.length_map]; omega) (by rw [List.length_map]; exact h)
theorem i_listm (hd : σ d = some (.list (D.map f))) (hl : D.length ≤ 1000) (h : ∀ c, σ c = none → Q (.ref c) (upd σ c (.list (D.map f)))) : listF [.ref d] σ Q X :=
  i_listF hd (by rw [List.length_map]; omega) h
end
theorem i_getk {d : Addr} {xs : List PV} {x : PV} {k : Nat} {σ : Sto} {kk : PV → Prop} (hd : σ d = some (.list xs)) (hk : k ≤ 1000) (hx : xs[k]? = some x) (h : kk x) : getP σ (.ref d) (.int (k : Int)) kk :=
  i_get (Int.natCast_nonneg _) (by omega) (items_ref hd) trivial hx h
/-- good debts between n houses -/
noncomputable def GoodL (n : Nat) (D : List (Int × Int × Int)) : Prop := D.length ≤ 40 ∧ ∀ k, k < D.length → (0 ≤ deb D k ∧ deb D k < n) ∧ (0 ≤ cre D k ∧ cre D k < n) ∧ 1 ≤ amt D k ∧ amt D k ≤ 1000000000
theorem good_enc {n : Nat} : ∀ {xs : List PV}, (∀ x ∈ xs, GoodD (n : Int) x) → ∃ D, xs = D.map enc ∧ ∀ k, k < D.length → (0 ≤ deb D k ∧ deb D k < n) ∧ (0 ≤ cre D k ∧ cre D k < n) ∧ 1 ≤ amt D k ∧ amt D k ≤ 1000000000
  | [], _ => ⟨[], rfl, fun k hk => by cases hk⟩
  | x :: xs, h => by
    obtain ⟨D, rfl, hw⟩ := good_enc fun y hy => h y (.tail _ hy)
    obtain ⟨a, b, c, rfl, h1, h2, _, h3⟩ := h x (.head _)
    refine ⟨(a, b, c) :: D, rfl, fun k hk => ?_⟩
    cases k with
    | zero => exact ⟨h1, h2, h3⟩
    | succ k => exact hw k (Nat.lt_of_succ_lt_succ hk)
/-- a cut that fits -/
noncomputable def CutOk (D : List (Int × Int × Int)) (cs : List Int) : Prop := cs.length = D.length ∧ ∀ k, k < D.length → 0 ≤ cs.getD k 0 ∧ cs.getD k 0 ≤ amt D k
noncomputable def rg (js : List Nat) : List PV := js.map fun k : Nat => .int (0 + (k : Int))
theorem rg_items {σ : Sto} {n : Nat} : itemsOf σ (.rng 0 (n : Int)) = some (rg (List.range n)) := by simp [itemsOf, rg]
theorem i_rng {x : Str} {tb : TS} {ρ : Env'} {σ : Sto} {Q : Fl → Env' → Sto → Prop} {X : Addr → Env' → Sto → Prop} {n : Nat} (hn : n ≤ 1000) (h : forL x tb (fun σ' => itemsOf σ' (.rng 0 (n : Int)) = some (rg (List.range n))) (rg (List.range n)) ρ σ Q X) :
    ∃ xs, itemsOf σ (.rng 0 (n : Int)) = some xs ∧ iterOk (.rng 0 (n : Int)) ∧ forL x tb (fun σ' => itemsOf σ' (.rng 0 (n : Int)) = some xs) xs ρ σ Q X := ⟨_, rg_items, ⟨by decide, by decide, by omega, by omega⟩, h⟩
theorem range_lt {n : Nat} : ∀ j ∈ List.range n, j < n := fun j hj => List.mem_range.mp hj
theorem le_big {n : Nat} (h : n ≤ 40) : n ≤ 1000 := Nat.le_trans h (by decide)
theorem rg_cons {k : Nat} {js : List Nat} {p : PV} {ps : List PV} (h : p :: ps = rg (k :: js)) : p = .int (k : Int) ∧ ps = rg js := by
  unfold rg at h
  rw [List.map_cons] at h
  injection h with h1 h2
  exact ⟨by rw [h1, Int.zero_add], h2⟩
theorem rg_nil {p : PV} {ps : List PV} (h : p :: ps = rg []) : False := by cases h

theorem p_need_cut_ok {n : Nat} {D : List (Int × Int × Int)} {cs : List Int} {d c : Addr} {σ : Sto} {Q : PV → Sto → Prop} {X : Addr → Sto → Prop} (hd : σ d = some (.list (D.map enc))) (G : GoodL n D) (hc : σ c = some (.list (cs.map .int))) (C : CutOk D cs) (hq : Q .none σ) : T_need_cut [.ref d, .ref c] σ Q X := by
  obtain ⟨hl, G⟩ := G
  obtain ⟨hcl, C⟩ := C
  have hl1 := le_big hl
  have hc1 : cs.length ≤ 1000 := hcl ▸ hl1
  unfold T_need_cut tb_need_cut
  refine i_fun2 ?_
  walk_at "ev"
  refine ⟨.list, true, ty_list hc, rfl, ?_⟩
  walk_at "ev"
  refine i_lenm hc hc1 ?_
  walk_at "ev"
  refine i_lenm hd hl1 ?_
  walk_at "ev"
  refine ite_nd (fun h => absurd (congrArg Nat.cast hcl) h) fun _ => ?_
  walk_at "ev"
  refine i_lenm hd hl1 ?_
  walk_at "ev"
  refine i_rng hl1 ?_
  refine forL_step (fun ps ρ' σ' => ρ' "debts" = some (.ref d) ∧ ρ' "cut" = some (.ref c) ∧ σ' = σ ∧ ∃ js : List Nat, ps = rg js ∧ ∀ j ∈ js, j < D.length) (fun _ _ _ => False) ?_ ?_ (fun _ _ _ h => h.elim) _ _ _ ?_
  · rintro p ps ρ' σ' Qb ⟨f1, f2, rfl, js, f3, f4⟩ hn _
    cases js with
    | nil => exact (rg_nil f3).elim
    | cons k js =>
      obtain ⟨rfl, rfl⟩ := rg_cons f3
      have hk := f4 k (.head _)
      have hC := C k hk
      have hkc : k < cs.length := hcl ▸ hk
      walk_at "ev"
      refine i_numk hc hkc hc1 ?_
      walk_at "ev"
      refine p_is_number' told_int (fun _ e => ?_) fun e => absurd rfl (e _)
      walk_at "ev"
      refine i_numk hc hkc hc1 ?_
      walk_at "ev"
      refine ite_d (fun _ => ?_) fun h => absurd hC.1 h
      walk_at "ev"
      refine i_debt hd hk hl1 ?_
      walk_at "ev"
      refine ite_nd (fun h => absurd hC.2 h) fun _ => ?_
      walk_at "ev"
      exact hn _ _ rg_items ⟨by walk_at "nm", by walk_at "nm", rfl, js, rfl, fun j hj => f4 j (.tail _ hj)⟩
  · rintro ρ' σ' ⟨_, _, rfl, _⟩
    walk_at "ev"
    exact hq
  · exact ⟨by walk_at "nm", by walk_at "nm", rfl, List.range D.length, rfl, range_lt⟩

/-- what is no cut -/
noncomputable def BadK (D : List (Int × Int × Int)) (σ : Sto) (p : PV) : Prop := (∃ ty, tyOf σ p = some ty ∧ (∀ c, ty ≠ .exc c) ∧ ty ≠ .list) ∨ ∃ a xs, p = .ref a ∧ σ a = some (.list xs) ∧ xs.length ≤ 1000 ∧ (xs.length ≠ D.length ∨
  (xs.length = D.length ∧ ∃ m x, m < D.length ∧ xs[m]? = some x ∧ Told σ x ∧ (∀ i, x = .int i → ¬ (0 ≤ i ∧ i ≤ amt D m)) ∧ ∀ j, j < m → ∃ z, xs[j]? = some (.int z) ∧ 0 ≤ z ∧ z ≤ amt D j))
theorem BadK.ext {D : List (Int × Int × Int)} {σ σ' : Sto} {p : PV} (h : BadK D σ p) (e : Ext σ σ') : BadK D σ' p := by
  rcases h with ⟨ty, h1, h2⟩ | ⟨a, xs, rfl, h1, h2, h3⟩
  · exact .inl ⟨ty, e.ty h1, h2⟩
  · refine .inr ⟨a, xs, rfl, e _ _ h1, h2, ?_⟩
    rcases h3 with h3 | ⟨h3, m, x, k1, k2, k3, k4⟩
    · exact .inl h3
    · exact .inr ⟨h3, m, x, k1, k2, k3.ext e, k4⟩
theorem p_need_cut_bad {n : Nat} {D : List (Int × Int × Int)} {d : Addr} {p : PV} {σ : Sto} {Q : PV → Sto → Prop} {X : Addr → Sto → Prop} (hd : σ d = some (.list (D.map enc))) (G : GoodL n D) (h : BadK D σ p) (hx : X c_BadCut_05 σ) : T_need_cut [.ref d, p] σ Q X := by
  obtain ⟨hl, G⟩ := G
  have hl1 := le_big hl
  unfold T_need_cut tb_need_cut
  refine i_fun2 ?_
  rcases h with ⟨ty, h1, h2, h3⟩ | ⟨c, xs, rfl, h1, h2, h3⟩
  · walk_at "ev"
    refine ⟨ty, false, h1, ?_, ?_⟩
    · cases ty with
      | exc c => exact absurd rfl (h2 c)
      | list => exact absurd rfl h3
      | _ => rfl
    · walk_at "ev"
      exact hx
  · walk_at "ev"
    refine ⟨.list, true, ty_list h1, rfl, ?_⟩
    walk_at "ev"
    refine i_len trivial (items_ref h1) (by omega) ?_
    walk_at "ev"
    refine i_lenm hd hl1 ?_
    walk_at "ev"
    rcases h3 with h3 | ⟨h3, m, x, k1, k2, k3, k4, k5⟩
    · refine ite_nd (fun _ => ?_) fun h => absurd h (by omega)
      walk_at "ev"
      exact hx
    · refine ite_nd (fun h => absurd (by omega) h) fun _ => ?_
      walk_at "ev"
      refine i_lenm hd hl1 ?_
      walk_at "ev"
      refine i_rng hl1 ?_
      refine forL_step (fun ps ρ' σ' => ρ' "debts" = some (.ref d) ∧ ρ' "cut" = some (.ref c) ∧ σ' = σ ∧ ∃ i, i ≤ m ∧ ps = rg ((List.range D.length).drop i)) (fun _ _ _ => False) ?_ ?_ (fun _ _ _ h => h.elim) _ _ _ ?_
      · rintro p ps ρ' σ' Qb ⟨f1, f2, rfl, i, f3, f4⟩ hn _
        have hiD : i < D.length := Nat.lt_of_le_of_lt f3 k1
        have hi1 : i ≤ 1000 := Nat.le_trans (Nat.le_of_lt hiD) hl1
        rw [List.drop_eq_getElem_cons (by rw [List.length_range]; exact hiD), List.getElem_range] at f4
        obtain ⟨rfl, rfl⟩ := rg_cons f4
        rcases Nat.lt_or_eq_of_le f3 with hi | rfl
        · obtain ⟨z, z1, z2, z3⟩ := k5 i hi
          walk_at "ev"
          refine i_getk h1 hi1 z1 ?_
          walk_at "ev"
          refine p_is_number' told_int (fun _ e => ?_) fun e => absurd rfl (e _)
          walk_at "ev"
          refine i_getk h1 hi1 z1 ?_
          walk_at "ev"
          refine ite_d (fun _ => ?_) fun h => absurd z2 h
          walk_at "ev"
          refine i_debt hd hiD hl1 ?_
          walk_at "ev"
          refine ite_nd (fun h => absurd z3 h) fun _ => ?_
          walk_at "ev"
          exact hn _ _ rg_items ⟨by walk_at "nm", by walk_at "nm", rfl, i + 1, hi, rfl⟩
        · walk_at "ev"
          refine i_getk h1 hi1 k2 ?_
          walk_at "ev"
          refine p_is_number' k3 (fun z e => ?_) fun e => ?_
          · subst e
            have := k4 z rfl
            walk_at "ev"
            refine i_getk h1 hi1 k2 ?_
            walk_at "ev"
            refine ite_d (fun y => ?_) fun y => ?_
            · walk_at "ev"
              refine i_debt hd hiD hl1 ?_
              walk_at "ev"
              refine ite_nd (fun y' => ?_) fun y' => absurd ⟨y, y'⟩ this
              walk_at "ev"
              exact hx
            · walk_at "ev"
              exact hx
          · walk_at "ev"
            exact hx
      · rintro ρ' σ' ⟨_, _, rfl, i, f3, f4⟩
        rw [List.drop_eq_getElem_cons (by rw [List.length_range]; exact Nat.lt_of_le_of_lt f3 k1)] at f4
        cases f4
      · exact ⟨by walk_at "nm", by walk_at "nm", rfl, 0, Nat.zero_le _, rfl⟩

noncomputable def okAt (D : List (Int × Int × Int)) (cs ts : List Int) (k : Nat) : Bool :=
  !((decide (1 + ts.getD (deb D k).toNat 0 - ts.getD (cre D k).toNat 0 < 0) && decide (cs.getD k 0 > 0)) || (decide (1 + ts.getD (deb D k).toNat 0 - ts.getD (cre D k).toNat 0 > 0) && decide (cs.getD k 0 < amt D k)))
theorem p_shown_loop {n : Nat} {D : List (Int × Int × Int)} {cs ts : List Int} {d c t : Addr} {ρ : Env'} {σ : Sto} {Q : PV → Sto → Prop} {X : Addr → Sto → Prop} (hd : σ d = some (.list (D.map enc))) (G : GoodL n D) (hc : σ c = some (.list (cs.map .int))) (C : CutOk D cs) (ht : σ t = some (.list (ts.map .int))) (T : ts.length = n) (hn : n ≤ 20)
    (e1 : ρ "debts" = some (.ref d)) (e2 : ρ "cut" = some (.ref c)) (e3 : ρ "tags" = some (.ref t)) (hq : Q (.bool ((List.range D.length).all (okAt D cs ts))) σ) : tb_shown_8 ρ σ (funQ Q) (funX X) := by
  obtain ⟨hl, G⟩ := G
  obtain ⟨hcl, C⟩ := C
  have hl1 := le_big hl
  have hc1 : cs.length ≤ 1000 := hcl ▸ hl1
  subst T
  have hT1 : ts.length ≤ 1000 := Nat.le_trans hn (by decide)
  walk_at "ev"
  refine i_lenm hd hl1 ?_
  walk_at "ev"
  refine i_rng hl1 ?_
  refine forL_step (fun ps ρ' σ' => ρ' "debts" = some (.ref d) ∧ ρ' "cut" = some (.ref c) ∧ ρ' "tags" = some (.ref t) ∧ σ' = σ ∧ ∃ js : List Nat, ps = rg js ∧ (∀ j ∈ js, j < D.length) ∧ (List.range D.length).all (okAt D cs ts) = js.all (okAt D cs ts)) (fun v _ σ' => σ' = σ ∧ v = .bool ((List.range D.length).all (okAt D cs ts))) ?_ ?_ ?_ _ _ _ ?_
  · rintro p ps ρ' σ' Qb ⟨f1, f2, f3, rfl, js, f4, f5, f6⟩ hnx hr
    cases js with
    | nil => exact (rg_nil f4).elim
    | cons k js =>
      obtain ⟨rfl, rfl⟩ := rg_cons f4
      have hk := f5 k (.head _)
      obtain ⟨⟨d0, d1⟩, ⟨c0, c1⟩, hG⟩ := G k hk
      have hkc : k < cs.length := hcl ▸ hk
      have next : ∀ ρ'', ρ'' "debts" = some (.ref d) → ρ'' "cut" = some (.ref c) → ρ'' "tags" = some (.ref t) → okAt D cs ts k = true → Qb .next ρ'' σ' := fun ρ'' z1 z2 z3 z4 =>
        hnx _ _ rg_items ⟨z1, z2, z3, rfl, js, rfl, fun j hj => f5 j (.tail _ hj), by rw [f6, List.all_cons, z4, Bool.true_and]⟩
      have stop : ∀ ρ'', okAt D cs ts k = false → Qb (.ret (.bool false)) ρ'' σ' := fun ρ'' z => hr _ _ _ ⟨rfl, by rw [f6, List.all_cons, z, Bool.false_and]⟩
      walk_at "ev"
      refine i_debt hd hk hl1 ?_
      walk_at "ev"
      refine i_num ht d0 d1 hT1 ?_
      walk_at "ev"
      refine i_num ht c0 c1 hT1 ?_
      walk_at "ev"
      refine ite_d (fun y1 => ?_) fun y1 => ?_
      · walk_at "ev"
        refine i_numk hc hkc hc1 ?_
        walk_at "ev"
        refine ite_d (fun y2 => ?_) fun y2 => ?_
        · walk_at "ev"
          exact stop _ (by unfold okAt; rw [decide_eq_true y1, decide_eq_true y2]; rfl)
        · walk_at "ev"
          refine ite_d (fun y3 => absurd y3 (Int.not_lt.mpr (Int.le_of_lt y1))) fun y3 => ?_
          walk_at "ev"
          exact next _ (by walk_at "nm") (by walk_at "nm") (by walk_at "nm") (by unfold okAt; rw [decide_eq_true y1, decide_eq_false y2, decide_eq_false y3]; rfl)
      · walk_at "ev"
        refine ite_d (fun y3 => ?_) fun y3 => ?_
        · walk_at "ev"
          refine i_numk hc hkc hc1 ?_
          walk_at "ev"
          refine ite_d (fun y4 => ?_) fun y4 => ?_
          · walk_at "ev"
            exact stop _ (by unfold okAt; rw [decide_eq_false y1, decide_eq_true y3, decide_eq_true y4]; rfl)
          · walk_at "ev"
            exact next _ (by walk_at "nm") (by walk_at "nm") (by walk_at "nm") (by unfold okAt; rw [decide_eq_false y1, decide_eq_true y3, decide_eq_false y4]; rfl)
        · walk_at "ev"
          exact next _ (by walk_at "nm") (by walk_at "nm") (by walk_at "nm") (by unfold okAt; rw [decide_eq_false y1, decide_eq_false y3]; rfl)
  · rintro ρ' σ' ⟨_, _, _, rfl, js, f4, _, f6⟩
    walk_at "ev"
    have : js = [] := by cases js with | nil => rfl | cons k js => cases f4
    subst this
    rw [f6] at hq
    exact hq
  · rintro v ρ' σ' ⟨rfl, rfl⟩
    exact hq
  · exact ⟨by walk_at "nm", by walk_at "nm", by walk_at "nm", rfl, List.range D.length, rfl, range_lt, rfl⟩

theorem p_shown_ok {n : Nat} {D : List (Int × Int × Int)} {cs ts : List Int} {d c t : Addr} {σ : Sto} {Q : PV → Sto → Prop} {X : Addr → Sto → Prop} (hd : σ d = some (.list (D.map enc))) (G : GoodL n D) (hc : σ c = some (.list (cs.map .int))) (C : CutOk D cs) (ht : σ t = some (.list (ts.map .int))) (T : ts.length = n) (hn : n ≤ 20)
    (hq : Q (.bool ((List.range D.length).all (okAt D cs ts))) σ) : T_shown [.int (n : Int), .ref d, .ref c, .ref t] σ Q X := by
  unfold T_shown tb_shown
  refine i_fun4 ?_
  walk_at "ev"
  refine p_need_cut_ok hd G hc C ?_
  walk_at "ev"
  refine ⟨.list, true, ty_list ht, rfl, ?_⟩
  walk_at "ev"
  refine i_lenm ht (T ▸ Nat.le_trans hn (by decide)) ?_
  walk_at "ev"
  refine ite_nd (fun h => absurd (congrArg Nat.cast T) h) fun _ => ?_
  walk_at "ev"
  refine ⟨_, items_ref ht, trivial, ?_⟩
  refine forL_step (fun ps ρ' σ' => ρ' "debts" = some (.ref d) ∧ ρ' "cut" = some (.ref c) ∧ ρ' "tags" = some (.ref t) ∧ σ' = σ ∧ ∀ p ∈ ps, ∃ z, p = .int z) (fun _ _ _ => False) ?_ ?_ (fun _ _ _ h => h.elim) _ _ _ ?_
  · rintro p ps ρ' σ' Qb ⟨f1, f2, f3, rfl, f4⟩ hnx _
    obtain ⟨z, rfl⟩ := f4 p (.head _)
    walk_at "ev"
    refine p_is_number' told_int (fun _ e => ?_) fun e => absurd rfl (e _)
    walk_at "ev"
    exact hnx _ _ (items_ref ht) ⟨by walk_at "nm", by walk_at "nm", by walk_at "nm", rfl, fun p hp => f4 p (.tail _ hp)⟩
  · rintro ρ' σ' ⟨f1, f2, f3, rfl, _⟩
    exact p_shown_loop hd G hc C ht T hn f1 f2 f3 hq
  · exact ⟨by walk_at "nm", by walk_at "nm", by walk_at "nm", rfl, fun p hp => by obtain ⟨z, _, rfl⟩ := List.mem_map.mp hp; exact ⟨z, rfl⟩⟩

theorem p_shown_cut {n : Nat} {D : List (Int × Int × Int)} {d : Addr} {p t : PV} {σ : Sto} {Q : PV → Sto → Prop} {X : Addr → Sto → Prop} (hd : σ d = some (.list (D.map enc))) (G : GoodL n D) (h : BadK D σ p) (hx : X c_BadCut_05 σ) : T_shown [.int (n : Int), .ref d, p, t] σ Q X := by
  unfold T_shown tb_shown
  refine i_fun4 ?_
  walk_at "ev"
  exact p_need_cut_bad hd G h hx

/-- what is no row of prices -/
noncomputable def BadT (n : Nat) (σ : Sto) (p : PV) : Prop := (∃ ty, tyOf σ p = some ty ∧ (∀ c, ty ≠ .exc c) ∧ ty ≠ .list) ∨ ∃ a xs, p = .ref a ∧ σ a = some (.list xs) ∧ xs.length ≤ 1000 ∧ (xs.length ≠ n ∨ ∃ ys x zs, xs = ys ++ x :: zs ∧ (∀ y ∈ ys, ∃ z, y = .int z) ∧ Told σ x ∧ ∀ i, x ≠ .int i)
theorem BadT.ext {n : Nat} {σ σ' : Sto} {p : PV} (h : BadT n σ p) (e : Ext σ σ') : BadT n σ' p := by
  rcases h with ⟨ty, h1, h2⟩ | ⟨a, xs, rfl, h1, h2, h3⟩
  · exact .inl ⟨ty, e.ty h1, h2⟩
  · refine .inr ⟨a, xs, rfl, e _ _ h1, h2, ?_⟩
    rcases h3 with h3 | ⟨ys, x, zs, k1, k2, k3, k4⟩
    · exact .inl h3
    · exact .inr ⟨ys, x, zs, k1, k2, k3.ext e, k4⟩
theorem p_shown_tags {n : Nat} {D : List (Int × Int × Int)} {cs : List Int} {d c : Addr} {t : PV} {σ : Sto} {Q : PV → Sto → Prop} {X : Addr → Sto → Prop} (hd : σ d = some (.list (D.map enc))) (G : GoodL n D) (hc : σ c = some (.list (cs.map .int))) (C : CutOk D cs) (h : BadT n σ t) (hx : X c_BadPrices_05 σ) : T_shown [.int (n : Int), .ref d, .ref c, t] σ Q X := by
  unfold T_shown tb_shown
  refine i_fun4 ?_
  walk_at "ev"
  refine p_need_cut_ok hd G hc C ?_
  rcases h with ⟨ty, h1, h2, h3⟩ | ⟨a, xs, rfl, h1, h2, h3⟩
  · walk_at "ev"
    refine ⟨ty, false, h1, ?_, ?_⟩
    · cases ty with
      | exc c => exact absurd rfl (h2 c)
      | list => exact absurd rfl h3
      | _ => rfl
    · walk_at "ev"
      exact hx
  · walk_at "ev"
    refine ⟨.list, true, ty_list h1, rfl, ?_⟩
    walk_at "ev"
    refine i_len trivial (items_ref h1) (by omega) ?_
    walk_at "ev"
    refine ite_nd (fun _ => ?_) fun hl => ?_
    · walk_at "ev"
      exact hx
    · rcases h3 with h3 | ⟨ys, x, zs, rfl, k2, k3, k4⟩
      · exact absurd (by omega) h3
      · walk_at "ev"
        refine ⟨_, items_ref h1, trivial, ?_⟩
        refine forL_step (fun ps ρ' σ' => σ' = σ ∧ ∃ us, ps = us ++ x :: zs ∧ ∀ y ∈ us, ∃ z, y = .int z) (fun _ _ _ => False) ?_ ?_ (fun _ _ _ h => h.elim) _ _ _ ?_
        · rintro p ps ρ' σ' Qb ⟨rfl, us, f1, f2⟩ hnx _
          cases us with
          | nil =>
            cases f1
            walk_at "ev"
            refine p_is_number' k3 (fun i e => absurd e (k4 i)) fun e => ?_
            walk_at "ev"
            exact hx
          | cons u us =>
            cases f1
            obtain ⟨z, rfl⟩ := f2 _ (.head _)
            walk_at "ev"
            refine p_is_number' told_int (fun _ e => ?_) fun e => absurd rfl (e _)
            walk_at "ev"
            exact hnx _ _ (items_ref h1) ⟨rfl, us, rfl, fun y hy => f2 y (.tail _ hy)⟩
        · rintro ρ' σ' ⟨rfl, us, f1, _⟩
          cases us <;> cases f1
        · exact ⟨rfl, ys, rfl, k2⟩

theorem p_shows {n : Nat} {D : List (Int × Int × Int)} {cs ts : List Int} {d c t : Addr} {σ : Sto} {Q : PV → Sto → Prop} {X : Addr → Sto → Prop} (hd : σ d = some (.list (D.map enc))) (G : GoodL n D) (hc : σ c = some (.list (cs.map .int))) (C : CutOk D cs) (ht : σ t = some (.list (ts.map .int))) (T : ts.length = n) (hn : n ≤ 20)
    (hq : Q (.bool ((List.range D.length).all (okAt D cs ts))) σ) : T_law_shows [.ref d, .ref c, .ref t] σ Q X := by
  obtain ⟨hl, G⟩ := G
  obtain ⟨hcl, C⟩ := C
  have hl1 := le_big hl
  have hc1 : cs.length ≤ 1000 := hcl ▸ hl1
  subst T
  have hT1 : ts.length ≤ 1000 := Nat.le_trans hn (by decide)
  unfold T_law_shows tb_law_shows
  refine i_fun3 ?_
  walk_at "ev"
  refine i_lenm hd hl1 ?_
  walk_at "ev"
  refine i_rng hl1 ?_
  refine forL_step (fun ps ρ' σ' => ρ' "_law_debts_here" = some (.ref d) ∧ ρ' "_law_cut" = some (.ref c) ∧ ρ' "_law_tags_here" = some (.ref t) ∧ σ' = σ ∧ ∃ js : List Nat, ps = rg js ∧ (∀ j ∈ js, j < D.length) ∧ (List.range D.length).all (okAt D cs ts) = js.all (okAt D cs ts)) (fun v _ σ' => σ' = σ ∧ v = .bool ((List.range D.length).all (okAt D cs ts))) ?_ ?_ ?_ _ _ _ ?_
  · rintro p ps ρ' σ' Qb ⟨f1, f2, f3, rfl, js, f4, f5, f6⟩ hnx hr
    cases js with
    | nil => exact (rg_nil f4).elim
    | cons k js =>
      obtain ⟨rfl, rfl⟩ := rg_cons f4
      have hk := f5 k (.head _)
      obtain ⟨⟨d0, d1⟩, ⟨c0, c1⟩, hG⟩ := G k hk
      have hkc : k < cs.length := hcl ▸ hk
      have next : ∀ ρ'', ρ'' "_law_debts_here" = some (.ref d) → ρ'' "_law_cut" = some (.ref c) → ρ'' "_law_tags_here" = some (.ref t) → okAt D cs ts k = true → Qb .next ρ'' σ' := fun ρ'' z1 z2 z3 z4 =>
        hnx _ _ rg_items ⟨z1, z2, z3, rfl, js, rfl, fun j hj => f5 j (.tail _ hj), by rw [f6, List.all_cons, z4, Bool.true_and]⟩
      have stop : ∀ ρ'', okAt D cs ts k = false → Qb (.ret (.bool false)) ρ'' σ' := fun ρ'' z => hr _ _ _ ⟨rfl, by rw [f6, List.all_cons, z, Bool.false_and]⟩
      walk_at "ev"
      refine i_debt hd hk hl1 ?_
      refine ⟨_, rfl, rfl, ?_⟩
      dsimp only [bindP]
      walk_at "ev"
      refine i_num ht d0 d1 hT1 ?_
      walk_at "ev"
      refine i_num ht c0 c1 hT1 ?_
      walk_at "ev"
      refine ite_d (fun y1 => ?_) fun y1 => ?_
      · walk_at "ev"
        refine i_numk hc hkc hc1 ?_
        walk_at "ev"
        refine ite_d (fun y2 => ?_) fun y2 => ?_
        · walk_at "ev"
          exact stop _ (by unfold okAt; rw [decide_eq_true y1, decide_eq_true y2]; rfl)
        · walk_at "ev"
          refine ite_d (fun y3 => absurd y3 (Int.not_lt.mpr (Int.le_of_lt y1))) fun y3 => ?_
          walk_at "ev"
          exact next _ (by walk_at "nm") (by walk_at "nm") (by walk_at "nm") (by unfold okAt; rw [decide_eq_true y1, decide_eq_false y2, decide_eq_false y3]; rfl)
      · walk_at "ev"
        refine ite_d (fun y3 => ?_) fun y3 => ?_
        · walk_at "ev"
          refine i_numk hc hkc hc1 ?_
          walk_at "ev"
          refine ite_d (fun y4 => ?_) fun y4 => ?_
          · walk_at "ev"
            exact stop _ (by unfold okAt; rw [decide_eq_false y1, decide_eq_true y3, decide_eq_true y4]; rfl)
          · walk_at "ev"
            exact next _ (by walk_at "nm") (by walk_at "nm") (by walk_at "nm") (by unfold okAt; rw [decide_eq_false y1, decide_eq_true y3, decide_eq_false y4]; rfl)
        · walk_at "ev"
          exact next _ (by walk_at "nm") (by walk_at "nm") (by walk_at "nm") (by unfold okAt; rw [decide_eq_false y1, decide_eq_false y3]; rfl)
  · rintro ρ' σ' ⟨_, _, _, rfl, js, f4, _, f6⟩
    walk_at "ev"
    have : js = [] := by cases js with | nil => rfl | cons k js => cases f4
    subst this
    rw [f6] at hq
    exact hq
  · rintro v ρ' σ' ⟨rfl, rfl⟩
    exact hq
  · exact ⟨by walk_at "nm", by walk_at "nm", by walk_at "nm", rfl, List.range D.length, rfl, range_lt, rfl⟩
theorem i_eqbb {σ : Sto} {b : Bool} {k : Bool → Prop} (h : k true) : cmpP .Eq σ (.bool b) (.bool b) k := .inr (.inr ⟨_, _, .bool b, .bool b, rfl, rfl, by cases b <;> exact h⟩)
theorem p_truth {b : Bool} {σ : Sto} {Q : PV → Sto → Prop} {X : Addr → Sto → Prop} (hq : Q (.bool true) σ) : T_law_truth [.bool b, .bool b] σ Q X := by
  unfold T_law_truth tb_law_truth
  refine i_fun2 ?_
  walk_at "ev"
  refine ⟨.bool, true, rfl, rfl, ?_⟩
  walk_at "ev"
  refine i_eqbb ?_
  exact hq
theorem p_kind_cut {e : Addr} {σ : Sto} {Q : PV → Sto → Prop} {X : Addr → Sto → Prop} (hq : ∀ σ', Ext σ σ' → Q (.str "cut") σ') : T_law_kind [.exc e c_BadCut_05] σ Q X := by
  unfold T_law_kind tb_law_kind
  refine i_fun1 ?_
  walk_at "ev"
  intro w hw
  walk_at "ev"
  refine ⟨_, false, rfl, rfl, ?_⟩
  walk_at "ev"
  refine ⟨_, false, rfl, rfl, ?_⟩
  walk_at "ev"
  refine ⟨_, true, rfl, rfl, ?_⟩
  walk_at "ev"
  refine ⟨⟨_, upd_same⟩, ?_⟩
  walk_at "ev"
  refine i_append upd_same (by decide) ?_
  rw [upd_upd]
  walk_at "ev"
  refine ⟨_, false, rfl, rfl, ?_⟩
  walk_at "ev"
  refine ⟨_, false, rfl, rfl, ?_⟩
  walk_at "ev"
  refine ⟨_, false, rfl, rfl, ?_⟩
  walk_at "ev"
  refine ⟨_, false, rfl, rfl, ?_⟩
  walk_at "ev"
  refine ⟨_, false, rfl, rfl, ?_⟩
  walk_at "ev"
  refine ⟨_, false, rfl, rfl, ?_⟩
  walk_at "ev"
  refine i_len trivial (items_ref upd_same) (by simp) ?_
  walk_at "ev"
  refine ite_nd (fun h => absurd rfl h) fun _ => ?_
  walk_at "ev"
  refine ⟨_, true, rfl, rfl, ?_⟩
  walk_at "ev"
  refine i_get (by decide) (by decide) (items_ref upd_same) trivial rfl ?_
  walk_at "ev"
  exact hq _ (Ext.upd hw)
theorem p_kind_prices {e : Addr} {σ : Sto} {Q : PV → Sto → Prop} {X : Addr → Sto → Prop} (hq : ∀ σ', Ext σ σ' → Q (.str "prices") σ') : T_law_kind [.exc e c_BadPrices_05] σ Q X := by
  unfold T_law_kind tb_law_kind
  refine i_fun1 ?_
  walk_at "ev"
  intro w hw
  walk_at "ev"
  refine ⟨_, false, rfl, rfl, ?_⟩
  walk_at "ev"
  refine ⟨_, false, rfl, rfl, ?_⟩
  walk_at "ev"
  refine ⟨_, false, rfl, rfl, ?_⟩
  walk_at "ev"
  refine ⟨_, false, rfl, rfl, ?_⟩
  walk_at "ev"
  refine ⟨_, true, rfl, rfl, ?_⟩
  walk_at "ev"
  refine ⟨⟨_, upd_same⟩, ?_⟩
  walk_at "ev"
  refine i_append upd_same (by decide) ?_
  rw [upd_upd]
  walk_at "ev"
  refine ⟨_, false, rfl, rfl, ?_⟩
  walk_at "ev"
  refine ⟨_, false, rfl, rfl, ?_⟩
  walk_at "ev"
  refine ⟨_, false, rfl, rfl, ?_⟩
  walk_at "ev"
  refine ⟨_, false, rfl, rfl, ?_⟩
  walk_at "ev"
  refine i_len trivial (items_ref upd_same) (by simp) ?_
  walk_at "ev"
  refine ite_nd (fun h => absurd rfl h) fun _ => ?_
  walk_at "ev"
  refine ⟨_, true, rfl, rfl, ?_⟩
  walk_at "ev"
  refine i_get (by decide) (by decide) (items_ref upd_same) trivial rfl ?_
  walk_at "ev"
  exact hq _ (Ext.upd hw)
theorem p_refused_cut {n : Nat} {D : List (Int × Int × Int)} {cs : List Int} {d : Addr} {p t : PV} {σ : Sto} {Q : PV → Sto → Prop} {X : Addr → Sto → Prop} (hd : σ d = some (.list (D.map enc))) (G : GoodL n D) (h : BadK D σ p) (hq : ∀ σ', Q (.str "cut") σ') : T_law_refused [.int (n : Int), .ref d, p, t] σ Q X := by
  unfold T_law_refused tb_law_refused
  refine i_fun4 ?_
  walk_at "ev"
  refine p_shown_cut hd G h ?_
  refine ⟨by decide +kernel, fun a ha => ?_⟩
  walk_at "ev"
  refine p_kind_cut fun σ' x => ?_
  walk_at "ev"
  exact hq _
theorem p_refused_prices {n : Nat} {D : List (Int × Int × Int)} {cs : List Int} {d c : Addr} {t : PV} {σ : Sto} {Q : PV → Sto → Prop} {X : Addr → Sto → Prop} (hd : σ d = some (.list (D.map enc))) (G : GoodL n D) (hc : σ c = some (.list (cs.map .int))) (C : CutOk D cs) (h : BadT n σ t) (hq : ∀ σ', Q (.str "prices") σ') : T_law_refused [.int (n : Int), .ref d, .ref c, t] σ Q X := by
  unfold T_law_refused tb_law_refused
  refine i_fun4 ?_
  walk_at "ev"
  refine p_shown_tags hd G hc C h ?_
  refine ⟨by decide +kernel, fun a ha => ?_⟩
  walk_at "ev"
  refine p_kind_prices fun σ' x => ?_
  walk_at "ev"
  exact hq _

theorem nine {P : Nat → Prop} (h0 : P 0) (h1 : P 1) (h2 : P 2) (h3 : P 3) (h4 : P 4) (h5 : P 5) (h6 : P 6) (h7 : P 7) (h8 : P 8) {j : Nat} (hj : j < 9) : P j := by
  rcases j with _ | _ | _ | _ | _ | _ | _ | _ | _ | j
  · exact h0
  · exact h1
  · exact h2
  · exact h3
  · exact h4
  · exact h5
  · exact h6
  · exact h7
  · exact h8
  · exact absurd hj (Nat.not_lt.mpr (Nat.le_add_left 9 j))
theorem mod9 {x : Int} : 0 ≤ x % 9 ∧ x % 9 < 2 ^ 62 ∧ (x % 9).toNat < 9 := by omega
section
variable {ρ : Env'} {σ : Sto} {Q : PV → Sto → Prop} {X : Addr → Sto → Prop}
theorem a_cat {x y : Addr} {xs ys : List PV} (h1 : σ x = some (.list xs)) (h2 : σ y = some (.list ys)) (h3 : (xs ++ ys).length ≤ 1000000) (h : ∀ σ1 c, Ext σ σ1 → σ1 c = some (.list (xs ++ ys)) → Q (.ref c) σ1) : opP .Add (.ref x) (.ref y) σ Q := i_cat h1 h2 h3 fun c hc => h _ c (Ext.upd hc) upd_same
theorem a_listm {α : Type} {f : α → PV} {D : List α} {d : Addr} (hd : σ d = some (.list (D.map f))) (hl : D.length ≤ 1000) (h : ∀ σ1 c, Ext σ σ1 → σ1 c = some (.list (D.map f)) → Q (.ref c) σ1) : listF [.ref d] σ Q X := i_listm hd hl fun c hc => h _ c (Ext.upd hc) upd_same
end
theorem p_tags {l : Addr} {ns : List Int} {n : Nat} {σ : Sto} {Q : PV → Sto → Prop} {X : Addr → Sto → Prop} (h1 : ns.length ≤ 63) (hn : n ≤ 20)
    (hq : ∀ a (ts : List Int), σ a = none → ts.length = n → Q (.ref a) (upd σ a (.list (ts.map .int)))) : T_law_tags [.lst l ns, .int (n : Int)] σ Q X := by
  unfold T_law_tags tb_law_tags
  refine i_fun2 ?_
  walk_at "ev"
  refine p_cell_at (by decide) h1 ?_
  walk_at "ev"
  generalize cellN ns 2 % _ - _ = far
  intro a ha
  walk_at "ev"
  refine ⟨_, rfl, ⟨by decide, by decide, by omega, by omega⟩, ?_⟩
  refine forL_step (fun ps ρ' σ' => ρ' "_law_script" = some (.lst l ns) ∧ ρ' "_law_far" = some (.int far) ∧ ρ' "_law_tags_here" = some (.ref a) ∧ (∀ p ∈ ps, ∃ k, p = .int k) ∧ ∃ zs : List Int, σ' = upd σ a (.list (zs.map .int)) ∧ zs.length + ps.length = n) (fun _ _ _ => False) ?_ ?_ (fun _ _ _ h => h.elim) _ _ _ ?_
  · rintro p ps ρ' σ' Qb ⟨f1, f2, f3, f4, zs, rfl, f5⟩ hnx _
    obtain ⟨k, rfl⟩ := f4 p (.head _)
    have fin : ∀ (z : Int) (ρ'' : Env'), ρ'' "_law_script" = some (.lst l ns) → ρ'' "_law_far" = some (.int far) → ρ'' "_law_tags_here" = some (.ref a) → ρ'' "_law_tag" = some (.int z) → tb_law_tags_2 ρ'' (upd σ a (.list (zs.map .int))) Qb (funX X) := by
      intro z ρ'' g1 g2 g3 g4
      walk_at "ev"
      refine ⟨⟨_, upd_same⟩, ?_⟩
      walk_at "ev"
      refine i_append upd_same (by simp at f5 ⊢; omega) ?_
      rw [upd_upd]
      walk_at "ev"
      exact hnx _ _ rfl ⟨g1, g2, g3, fun p hp => f4 p (.tail _ hp), zs ++ [z], by simp, by simp at f5 ⊢; omega⟩
    have mid : ∀ (z m : Int) (ρ'' : Env'), ρ'' "_law_script" = some (.lst l ns) → ρ'' "_law_far" = some (.int far) → ρ'' "_law_tags_here" = some (.ref a) → ρ'' "_law_tag" = some (.int z) → ρ'' "_law_mixed" = some (.int m) → tb_law_tags_4 ρ'' (upd σ a (.list (zs.map .int))) Qb (funX X) := by
      intro z m ρ'' g1 g2 g3 g4 g5
      walk_at "ev"
      refine p_cell_at (by decide) h1 ?_
      walk_at "ev"
      refine ite_d (fun _ => ?_) fun _ => ?_
      · walk_at "ev"
        refine ite_d (fun _ => ?_) fun _ => ?_
        · refine i_true (ite_t (i_seq (i_set ?_)))
          walk_at "ex"
          exact i_nil (fin (far + m) _ (by walk_at "nm") (by walk_at "nm") (by walk_at "nm") (by walk_at "nm"))
        · exact ite_f (i_nil (fin z _ g1 g2 g3 g4))
      · exact ite_f (i_nil (fin z _ g1 g2 g3 g4))
    walk_at "ev"
    refine p_cell_at (by decide) h1 ?_
    walk_at "ev"
    refine p_cell_at (by decide) h1 ?_
    walk_at "ev"
    refine ite_d (fun _ => ?_) fun _ => ?_
    · refine i_seq (i_set ?_)
      walk_at "ex"
      exact i_nil (mid _ _ _ (by walk_at "nm") (by walk_at "nm") (by walk_at "nm") (by walk_at "nm") (by walk_at "nm"))
    · exact i_nil (mid _ _ _ (by walk_at "nm") (by walk_at "nm") (by walk_at "nm") (by walk_at "nm") (by walk_at "nm"))
  · rintro ρ' σ' ⟨_, _, f3, _, zs, rfl, f5⟩
    walk_at "ev"
    exact hq a zs ha (by simpa using f5)
  · exact ⟨by walk_at "nm", by walk_at "nm", by walk_at "nm", fun p hp => by obtain ⟨k, _, rfl⟩ := List.mem_map.mp hp; exact ⟨_, rfl⟩, [], rfl, by simp⟩

theorem getD_set {cs : List Int} {m k : Nat} {z : Int} (hm : m < cs.length) : (cs.set m z).getD k 0 = if m = k then z else cs.getD k 0 := by
  rw [List.getD_eq_getElem?_getD, List.getD_eq_getElem?_getD, List.getElem?_set]
  by_cases h : m = k
  · subst h; simp [hm]
  · simp [h]
theorem getD_app {zs : List Int} {z : Int} {k : Nat} : (zs ++ [z]).getD k 0 = if k < zs.length then zs.getD k 0 else if k = zs.length then z else 0 := by
  by_cases h : k < zs.length
  · simp [List.getD, List.getElem?_append_left h, h]
  · by_cases h' : k = zs.length
    · subst h'; simp
    · have : (zs ++ [z])[k]? = none := by simp; omega
      simp [List.getD, this, h, h']
inductive CutI (D : List (Int × Int × Int)) (d t a : Addr) (x : Int) (σ : Sto) (ps : List PV) (ρ : Env') (σ' : Sto) : Prop
  | mk (zs : List Int) : ρ "_law_debts_here" = some (.ref d) → ρ "_law_tags_here" = some (.ref t) → ρ "_law_cell" = some (.int x) → ρ "_law_cut" = some (.ref a) → σ' = upd σ a (.list (zs.map .int)) → zs.length ≤ D.length → ps = rg ((List.range D.length).drop zs.length) → (∀ k, k < zs.length → 0 ≤ zs.getD k 0 ∧ zs.getD k 0 ≤ amt D k) → CutI D d t a x σ ps ρ σ'
section
variable {D : List (Int × Int × Int)} {d t a : Addr} {x : Int} {σ : Sto} {zs : List Int} {ρ : Env'} {Qb : Fl → Env' → Sto → Prop} {XS : Addr → Env' → Sto → Prop}
theorem cut_fin {z : Int} (hl1 : D.length ≤ 1000) (hlt : zs.length < D.length) (f7 : ∀ k, k < zs.length → 0 ≤ zs.getD k 0 ∧ zs.getD k 0 ≤ amt D k) (hnx : ∀ ρ' σ', CutI D d t a x σ (rg ((List.range D.length).drop (zs.length + 1))) ρ' σ' → Qb .next ρ' σ')
    (hz : 0 ≤ z ∧ z ≤ amt D zs.length) (g1 : ρ "_law_debts_here" = some (.ref d)) (g2 : ρ "_law_tags_here" = some (.ref t)) (g3 : ρ "_law_cell" = some (.int x)) (g4 : ρ "_law_cut" = some (.ref a)) (g5 : ρ "_law_many" = some (.int z)) : tb_law_cut_for_5 ρ (upd σ a (.list (zs.map .int))) Qb XS := by
  walk_at "ev"
  refine ⟨⟨_, upd_same⟩, ?_⟩
  walk_at "ev"
  refine i_append upd_same (by rw [List.length_map]; omega) ?_
  rw [upd_upd]
  walk_at "ev"
  refine hnx _ _ ⟨zs ++ [z], g1, g2, g3, g4, by simp, by rw [List.length_append]; exact hlt, by rw [List.length_append]; rfl, fun k hk => ?_⟩
  rw [getD_app]
  by_cases h : k < zs.length
  · rw [if_pos h]; exact f7 k h
  · have : k = zs.length := Nat.le_antisymm (Nat.le_of_lt_succ (by rw [List.length_append] at hk; exact hk)) (Nat.le_of_not_lt h)
    subst this
    rw [if_neg h, if_pos rfl]; exact hz
theorem cut_zero {m z : Int} (hd : upd σ a (.list (zs.map .int)) d = some (.list (D.map enc))) (ha : 1 ≤ amt D zs.length) (hl1 : D.length ≤ 1000) (hlt : zs.length < D.length) (f7 : ∀ k, k < zs.length → 0 ≤ zs.getD k 0 ∧ zs.getD k 0 ≤ amt D k) (hnx : ∀ ρ' σ', CutI D d t a x σ (rg ((List.range D.length).drop (zs.length + 1))) ρ' σ' → Qb .next ρ' σ')
    (hz : 0 ≤ z ∧ z ≤ amt D zs.length) (g1 : ρ "_law_debts_here" = some (.ref d)) (g2 : ρ "_law_tags_here" = some (.ref t)) (g3 : ρ "_law_cell" = some (.int x)) (g4 : ρ "_law_cut" = some (.ref a)) (g5 : ρ "_law_many" = some (.int z)) (g6 : ρ "_law_k" = some (.int (zs.length : Nat))) (g7 : ρ "_law_lure" = some (.int m)) : tb_law_cut_for_8 ρ (upd σ a (.list (zs.map .int))) Qb XS := by
  refine i_seq (i_if ?_)
  walk_at "ex"
  refine ite_d (fun _ => ?_) fun _ => ?_
  · refine i_seq (i_set ?_)
    walk_at "ex"
    refine i_seq (i_set ?_)
    walk_at "ex"
    refine i_debt hd hlt hl1 ?_
    walk_at "ex"
    have p : 0 < amt D zs.length + 1 := Int.lt_of_lt_of_le (by decide) (Int.le_trans ha (Int.le_add_one (Int.le_refl _)))
    refine i_modp p ?_
    generalize (x % 1000000007 + 977 * (zs.length : Int)) * 48271 % 2147483647 = mx
    exact i_nil (cut_fin hl1 hlt f7 hnx ⟨Int.emod_nonneg mx (Int.ne_of_gt p), Int.le_of_lt_add_one (Int.emod_lt_of_pos mx p)⟩ (by walk_at "nm") (by walk_at "nm") (by walk_at "nm") (by walk_at "nm") (by walk_at "nm"))
  · exact i_nil (cut_fin hl1 hlt f7 hnx hz g1 g2 g3 g4 g5)
end
theorem cut_tail {D : List (Int × Int × Int)} {d a : Addr} {x : Int} {σ : Sto} {zs : List Int} {ρ : Env'} {Q : PV → Sto → Prop} {X : Addr → Sto → Prop} (hd : upd σ a (.list (zs.map .int)) d = some (.list (D.map enc))) (hl1 : D.length ≤ 1000) (hlen : zs.length = D.length) (f7 : ∀ k, k < zs.length → 0 ≤ zs.getD k 0 ∧ zs.getD k 0 ≤ amt D k) (G : ∀ k, k < D.length → 1 ≤ amt D k)
    (g1 : ρ "_law_debts_here" = some (.ref d)) (g3 : ρ "_law_cell" = some (.int x)) (g4 : ρ "_law_cut" = some (.ref a)) (hq : ∀ cs, CutOk D cs → Q (.ref a) (upd σ a (.list (cs.map .int)))) : tb_law_cut_for_4 ρ (upd σ a (.list (zs.map .int))) (funQ Q) (funX X) := by
  have ok : CutOk D zs := ⟨hlen, fun k hk => f7 k (hlen ▸ hk)⟩
  refine i_seq (i_if ?_)
  walk_at "ex"
  refine i_lenm hd hl1 ?_
  walk_at "ex"
  refine ite_d (fun y => ?_) fun _ => ?_
  · walk_at "ex"
    refine ite_d (fun _ => ?_) fun _ => ?_
    · refine i_true (ite_t (i_seq (i_set ?_)))
      walk_at "ex"
      refine i_lenm hd hl1 ?_
      walk_at "ex"
      refine i_modp y ?_
      have m1 := Int.emod_lt_of_pos (x / 2) y
      obtain ⟨m, hm⟩ := Int.eq_ofNat_of_zero_le (Int.emod_nonneg (x / 2) (Int.ne_of_gt y))
      rw [hm]
      rw [hm] at m1
      have hm' : m < D.length := Int.ofNat_lt.mp m1
      have hG := G m hm'
      refine i_seq (i_store ?_)
      walk_at "ex"
      refine i_debt hd hm' hl1 ?_
      walk_at "ex"
      refine i_numk upd_same (hlen ▸ hm') (hlen ▸ hl1) ?_
      walk_at "ex"
      refine i_setP (Int.natCast_nonneg _) upd_same (by rw [List.length_map, hlen]; exact m1) (by rw [List.length_map]; omega) ?_
      rw [upd_upd]
      refine i_nil ?_
      walk_at "ev"
      generalize hz : max 0 (min (amt D m) _) = z
      have z0 : 0 ≤ z := hz ▸ Int.le_max_left _ _
      have z1 : z ≤ amt D m := by rw [← hz]; exact Int.max_le.mpr ⟨Int.le_trans (by decide) hG, Int.min_le_left _ _⟩
      have := hq (zs.set m z) ⟨by rw [List.length_set]; exact hlen, fun k hk => by
        rw [getD_set (hlen ▸ hm')]
        by_cases h : m = k
        · subst h; rw [if_pos rfl]; exact ⟨z0, z1⟩
        · rw [if_neg h]; exact f7 k (hlen ▸ hk)⟩
      rw [List.map_set] at this
      exact this
    · refine ite_f (i_nil ?_)
      walk_at "ev"
      exact hq zs ok
  · refine ite_f (i_nil ?_)
    walk_at "ev"
    exact hq zs ok
theorem p_cut_for {n : Nat} {D : List (Int × Int × Int)} {ts : List Int} {d t : Addr} {x : Int} {σ : Sto} {Q : PV → Sto → Prop} {X : Addr → Sto → Prop} (hd : σ d = some (.list (D.map enc))) (G : GoodL n D) (ht : σ t = some (.list (ts.map .int))) (T : ts.length = n) (hn : n ≤ 20)
    (hq : ∀ a cs, σ a = none → CutOk D cs → Q (.ref a) (upd σ a (.list (cs.map .int)))) : T_law_cut_for [.ref d, .ref t, .int x] σ Q X := by
  obtain ⟨hl, G⟩ := G
  have hl1 := le_big hl
  subst T
  have hT1 : ts.length ≤ 1000 := Nat.le_trans hn (by decide)
  unfold T_law_cut_for tb_law_cut_for
  refine i_fun3 ?_
  walk_at "ev"
  intro a ha
  have hda : d ≠ a := by rintro rfl; rw [ha] at hd; cases hd
  have hta : t ≠ a := by rintro rfl; rw [ha] at ht; cases ht
  walk_at "ev"
  refine i_lenm (upd_other hda hd) hl1 ?_
  walk_at "ev"
  refine i_rng hl1 ?_
  refine forL_step (CutI D d t a x σ) (fun _ _ _ => False) ?_ ?_ (fun _ _ _ h => h.elim) _ _ _ ?_
  · rintro p ps ρ' σ' Qb ⟨zs, f1, f2, f3, f4, rfl, f5, f6, f7⟩ hnx _
    have hlt : zs.length < D.length := by
      rcases Nat.lt_or_eq_of_le f5 with h | h
      · exact h
      · rw [h, List.drop_of_length_le (by rw [List.length_range]; exact Nat.le_refl _)] at f6; cases f6
    rw [List.drop_eq_getElem_cons (by rw [List.length_range]; exact hlt), List.getElem_range] at f6
    obtain ⟨rfl, rfl⟩ := rg_cons f6
    obtain ⟨⟨d0, d1⟩, ⟨c0, c1⟩, hG, _⟩ := G _ hlt
    have hd' : upd σ a (.list (zs.map .int)) d = some (.list (D.map enc)) := upd_other hda hd
    have ht' : upd σ a (.list (zs.map .int)) t = some (.list (ts.map .int)) := upd_other hta ht
    have zero := fun m z ρ => @cut_zero D d t a x σ zs ρ Qb (funX X) m z hd' hG hl1 hlt f7 fun ρ' σ' => hnx ρ' σ' rg_items
    walk_at "ev"
    refine i_debt hd' hlt hl1 ?_
    walk_at "ev"
    refine i_num ht' d0 d1 hT1 ?_
    walk_at "ev"
    refine i_debt hd' hlt hl1 ?_
    walk_at "ev"
    refine i_num ht' c0 c1 hT1 ?_
    walk_at "ev"
    refine ite_d (fun _ => ?_) fun _ => ?_
    · refine i_seq (i_set ?_)
      walk_at "ex"
      refine i_debt hd' hlt hl1 ?_
      walk_at "ex"
      exact i_nil (zero _ (amt D zs.length) _ ⟨Int.le_trans (by decide) hG, Int.le_refl _⟩ (by walk_at "nm") (by walk_at "nm") (by walk_at "nm") (by walk_at "nm") (by walk_at "nm") (by walk_at "nm") (by walk_at "nm"))
    · exact i_nil (zero _ 0 _ ⟨Int.le_refl _, Int.le_trans (by decide) hG⟩ (by walk_at "nm") (by walk_at "nm") (by walk_at "nm") (by walk_at "nm") (by walk_at "nm") (by walk_at "nm") (by walk_at "nm"))
  · rintro ρ' σ' ⟨zs, f1, f2, f3, f4, rfl, f5, f6, f7⟩
    have hlen : zs.length = D.length := by
      rcases Nat.lt_or_eq_of_le f5 with h | h
      · rw [List.drop_eq_getElem_cons (by rw [List.length_range]; exact h)] at f6; cases f6
      · exact h
    exact cut_tail (upd_other hda hd) hl1 hlen f7 (fun k hk => (G k hk).2.2.1) f1 f3 f4 fun cs => hq a cs ha
  · exact ⟨[], by walk_at "nm", by walk_at "nm", by walk_at "nm", by walk_at "nm", rfl, Nat.zero_le _, rfl, fun k hk => absurd hk (Nat.not_lt_zero k)⟩

theorem p_var {nm : Str} {t : Addr} {ts : List Int} {m : Nat} {tm : TE} {v : PV} {ρ : Env'} {σ : Sto} {Q : PV → Sto → Prop} {X : Addr → Sto → Prop} (ht : σ t = some (.list (ts.map .int))) (hl : ts.length ≤ 1000) (hm : m < ts.length) (e1 : ρ nm = some (.ref t)) (e2 : ρ "_law_at" = some (.int (m : Nat)))
    (htm : ∀ σ' (Q' : PV → Sto → Prop), Ext σ σ' → Q' v σ' → tm ρ σ' Q' X) (hq : ∀ a σ', Ext σ σ' → σ' a = some (.list ((ts.take m).map .int ++ v :: (ts.drop (m + 1)).map .int)) → Q (.ref a) σ') :
    (tBin .Add (tBin .Add (tSlice (tName nm) (tPnone) (tPsome (tName "_law_at"))) (tList (tEcons tm (tEnil)))) (tSlice (tName nm) (tPsome (tBin .Add (tName "_law_at") (tConst (.int 1)))) (tPnone))) ρ σ Q X := by
  have len_le : (ts.map PV.int).length ≤ sizeLine := by rw [List.length_map]; exact Nat.le_trans hl (by decide)
  walk_at "ev"
  refine ⟨_, rfl, _, trivial, Int.natCast_nonneg m, trivial, items_ref ht, len_le, fun a ha => ?_⟩
  generalize hσ : upd σ a _ = σ1
  obtain ⟨x1, u1⟩ := al hσ ha
  clear hσ
  rw [show cutL (ts.map PV.int) none (some (m : Int)) = (ts.take m).map .int by simp [cutL, List.map_take]] at u1
  walk_at "ev"
  refine htm σ1 _ x1 ?_
  refine i_enil ⟨by simp, fun b hb => ?_⟩
  generalize hσ : upd σ1 b _ = σ2
  obtain ⟨x2, u2⟩ := al hσ hb
  clear hσ
  refine a_cat (x2 _ _ u1) u2 (by simp; omega) fun σ3 c x3 u3 => ?_
  have x13 := x1.trans (x2.trans x3)
  walk_at "ev"
  refine ⟨_, rfl, ?_⟩
  walk_at "ev"
  refine ⟨_, show (0 : Int) ≤ (m : Int) + 1 by omega, trivial, trivial, items_ref (x13 _ _ ht), len_le, fun d hd => ?_⟩
  generalize hσ : upd σ3 d _ = σ4
  obtain ⟨x4, u4⟩ := al hσ hd
  clear hσ
  rw [show cutL (ts.map PV.int) (some ((m : Int) + 1)) none = (ts.drop (m + 1)).map .int by
    rw [show (m : Int) + 1 = ((m + 1 : Nat) : Int) from rfl]
    simp [cutL, List.map_drop, List.take_of_length_le]] at u4
  refine a_cat (x4 _ _ u3) u4 (by simp; omega) fun σ5 e x5 u5 => ?_
  exact hq e σ5 (x13.trans (x4.trans x5)) (by rw [u5]; simp)

theorem ints_before {ts : List Int} {m : Nat} {v : PV} {zs : List PV} : ∀ y ∈ (ts.take m).map PV.int, ∃ z, y = .int z := fun y hy => by
  obtain ⟨z, _, rfl⟩ := List.mem_map.mp hy
  exact ⟨z, rfl⟩
/-- one place changed -/
theorem bad_place {D : List (Int × Int × Int)} {cs : List Int} {m : Nat} {v : PV} {a : Addr} {σ : Sto} (C : CutOk D cs) (hl : D.length ≤ 40) (hm : m < D.length) (ha : σ a = some (.list ((cs.take m).map .int ++ v :: (cs.drop (m + 1)).map .int))) (hv : Told σ v) (hb : ∀ i, v = .int i → ¬ (0 ≤ i ∧ i ≤ amt D m)) : BadK D σ (.ref a) := by
  obtain ⟨hlen, C⟩ := C
  have hml : ((cs.take m).map PV.int).length = m := by simp; omega
  have hle : ((cs.take m).map PV.int ++ v :: (cs.drop (m + 1)).map PV.int).length = D.length := by simp; omega
  refine .inr ⟨a, _, rfl, ha, by omega, .inr ⟨hle, m, v, hm, ?_, hv, hb, fun j hj => ?_⟩⟩
  · rw [List.getElem?_append_right (by omega), hml, Nat.sub_self]; rfl
  · refine ⟨cs.getD j 0, ?_, C j (by omega)⟩
    rw [List.getElem?_append_left (by omega), List.getElem?_map, List.getElem?_take_of_lt hj, List.getElem?_eq_getElem (by omega)]
    simp [List.getD, show j < cs.length by omega]

theorem no_int {D : List (Int × Int × Int)} {m : Nat} {v : PV} (h : ∀ i, v ≠ .int i) : ∀ i, v = .int i → ¬ (0 ≤ i ∧ i ≤ amt D m) := fun i e => absurd e (h i)
theorem an_int {D : List (Int × Int × Int)} {m : Nat} {z : Int} (h : z < 0 ∨ amt D m < z) : ∀ i, PV.int z = .int i → ¬ (0 ≤ i ∧ i ≤ amt D m) := fun i e => by cases e; omega
theorem bool_no {b : Bool} : ∀ i, PV.bool b ≠ .int i := fun i e => by cases e
theorem none_no : ∀ i, PV.none ≠ .int i := fun i e => by cases e
theorem str_no {b : Str} : ∀ i, PV.str b ≠ .int i := fun i e => by cases e
theorem ref_no {b : Addr} : ∀ i, PV.ref b ≠ .int i := fun i e => by cases e
theorem cut_pick {D : List (Int × Int × Int)} {m : Nat} {a : Addr} {xs : List PV} {σ : Sto} (hG : 1 ≤ amt D m) (ha : σ a = some (.list xs)) {j : Nat} (hj : j < 9) :
    ∃ v, ([.int (-1), .int (amt D m + 1), .bool true, .none, .str "0", .int (-amt D m - 1), .int (amt D m * 2 + 1), .ref a, .bool false] : List PV)[j]? = some v ∧ Told σ v ∧ ∀ i, v = .int i → ¬ (0 ≤ i ∧ i ≤ amt D m) :=
  nine (P := fun j => ∃ v, ([.int (-1), .int (amt D m + 1), .bool true, .none, .str "0", .int (-amt D m - 1), .int (amt D m * 2 + 1), .ref a, .bool false] : List PV)[j]? = some v ∧ Told σ v ∧ ∀ i, v = .int i → ¬ (0 ≤ i ∧ i ≤ amt D m))
    ⟨_, rfl, told_int, an_int (by omega)⟩ ⟨_, rfl, told_int, an_int (by omega)⟩ ⟨_, rfl, told_bool, no_int bool_no⟩ ⟨_, rfl, told_none, no_int none_no⟩ ⟨_, rfl, told_str, no_int str_no⟩
    ⟨_, rfl, told_int, an_int (by omega)⟩ ⟨_, rfl, told_int, an_int (by omega)⟩ ⟨_, rfl, told_list ha, no_int ref_no⟩ ⟨_, rfl, told_bool, no_int bool_no⟩ hj
section
variable {n : Nat} {D : List (Int × Int × Int)} {cs : List Int} {d c : Addr} {x : Int} {ρ : Env'} {σ : Sto} {Q : PV → Sto → Prop} {X : Addr → Sto → Prop}
theorem cut_tup (hc : σ c = some (.list (cs.map .int))) (hl : cs.length ≤ 40) (y : x % 9 > 6) (hq : ∀ p σ', Ext σ σ' → BadK D σ' p → Q p σ') (e1 : ρ "_law_cut" = some (.ref c)) (e2 : ρ "_law_cell" = some (.int x)) : tb_law_bad_cut_9 ρ σ (funQ Q) (funX X) := by
  walk_at "ev"
  refine i_tupleF hc (by rw [List.length_map]; omega) ?_
  walk_at "ev"
  intro a ha
  generalize hσ : upd σ a _ = σ1
  obtain ⟨x1, u1⟩ := al hσ ha
  clear hσ
  walk_at "ev"
  have y' : x % 9 - 7 = 0 ∨ x % 9 - 7 = 1 := by omega
  rcases y' with e | e <;> rw [e]
  · exact i_get (by decide) (by decide) (items_ref u1) trivial rfl (hq _ _ x1 (.inl ⟨.tup, rfl, fun c e => (by cases e), fun e => (by cases e)⟩))
  · exact i_get (by decide) (by decide) (items_ref u1) trivial rfl (hq _ _ x1 (.inl ⟨.none, rfl, fun c e => (by cases e), fun e => (by cases e)⟩))
theorem cut_long (hc : σ c = some (.list (cs.map .int))) (hl : cs.length ≤ 40) (hlen : cs.length = D.length) (hq : ∀ p σ', Ext σ σ' → BadK D σ' p → Q p σ') (e : ρ "_law_cut" = some (.ref c)) : tb_law_bad_cut_7 ρ σ (funQ Q) (funX X) := by
  walk_at "ev"
  intro a ha
  generalize hσ : upd σ a _ = σ1
  obtain ⟨x1, u1⟩ := al hσ ha
  clear hσ
  have hL : ((cs.map PV.int) ++ [PV.int 0]).length = D.length + 1 := by rw [List.length_append, List.length_map, hlen]; rfl
  refine a_cat (x1 _ _ hc) u1 (by rw [hL]; omega) fun σ2 b x2 u2 => ?_
  exact hq _ _ (x1.trans x2) (.inr ⟨b, _, rfl, u2, by rw [hL]; omega, .inl (by rw [hL]; exact Nat.succ_ne_self _)⟩)
theorem cut_short (hc : σ c = some (.list (cs.map .int))) (hl : cs.length ≤ 40) (hlen : cs.length = D.length) (hne : 0 < D.length) (hq : ∀ p σ', Ext σ σ' → BadK D σ' p → Q p σ') (e : ρ "_law_cut" = some (.ref c)) : tb_law_bad_cut_5 ρ σ (funQ Q) (funX X) := by
  walk_at "ev"
  refine ⟨_, rfl, ?_⟩
  walk_at "ev"
  refine ⟨_, show (0 : Int) ≤ 1 by decide, trivial, trivial, items_ref hc, by rw [List.length_map]; exact Nat.le_trans (le_big hl) (by decide), fun a ha => ?_⟩
  generalize hσ : upd σ a _ = σ1
  obtain ⟨x1, u1⟩ := al hσ ha
  clear hσ
  have hL : (cutL (cs.map PV.int) (some 1) none).length = D.length - 1 := by simp [cutL, hlen]
  exact hq _ _ x1 (.inr ⟨a, _, rfl, u1, by rw [hL]; omega, .inl (by rw [hL]; omega)⟩)
theorem cut_odd (hd : σ d = some (.list (D.map enc))) (G : GoodL n D) (hc : σ c = some (.list (cs.map .int))) (C : CutOk D cs) (hne : 0 < (D.length : Int)) (hq : ∀ p σ', Ext σ σ' → BadK D σ' p → Q p σ') (e1 : ρ "_law_cut" = some (.ref c)) (e2 : ρ "_law_cell" = some (.int x)) (e3 : ρ "_law_debts_here" = some (.ref d)) : tb_law_bad_cut_4 ρ σ (funQ Q) (funX X) := by
  have hl := G.1
  walk_at "ev"
  refine i_lenm hd (le_big hl) ?_
  walk_at "ev"
  refine i_modp hne ?_
  have m1 := Int.emod_lt_of_pos (x / 4) hne
  obtain ⟨m, hm⟩ := Int.eq_ofNat_of_zero_le (Int.emod_nonneg (x / 4) (Int.ne_of_gt hne))
  rw [hm]
  rw [hm] at m1
  have hm' : m < D.length := Int.ofNat_lt.mp m1
  have hmc : m < cs.length := C.1 ▸ hm'
  walk_at "ev"
  refine i_debt hd hm' (le_big hl) ?_
  walk_at "ev"
  intro a ha
  generalize hσ : upd σ a _ = σ1
  obtain ⟨x1, u1⟩ := al hσ ha
  clear hσ
  walk_at "ev"
  intro b hb
  generalize hσ : upd σ1 b _ = σ2
  obtain ⟨x2, u2⟩ := al hσ hb
  clear hσ
  have x12 := x1.trans x2
  refine i_seq (i_ret ?_)
  obtain ⟨v, p1, p2, p3⟩ := cut_pick (G.2 m hm').2.2.1 (x2 _ _ u1) (mod9 (x := x / 240)).2.2
  refine p_var (nm := "_law_cut") (m := m) (v := v) (x12 _ _ hc) (C.1 ▸ le_big hl) hmc (by walk_at "nm") (by walk_at "nm") (fun σ' Q' x3 hQ => ?_) fun e σ' x3 u3 => ?_
  · walk_at "ev"
    exact i_get mod9.1 mod9.2.1 (items_ref (x3 _ _ u2)) trivial p1 hQ
  · exact hq _ _ (x12.trans x3) (bad_place C hl hm' u3 (p2.ext x3) p3)
theorem p_bad_cut (hd : σ d = some (.list (D.map enc))) (G : GoodL n D) (hc : σ c = some (.list (cs.map .int))) (C : CutOk D cs)
    (hq : ∀ p σ', Ext σ σ' → BadK D σ' p → Q p σ') : T_law_bad_cut [.ref d, .ref c, .int x] σ Q X := by
  have hlen := C.1
  have hl := G.1
  have hc4 : cs.length ≤ 40 := hlen ▸ hl
  unfold T_law_bad_cut tb_law_bad_cut
  refine i_fun3 (i_seq (i_if ?_))
  walk_at "ex"
  refine ite_d (fun y => ?_) fun y => ?_
  · exact cut_tup hc hc4 y hq (by walk_at "nm") (by walk_at "nm")
  · refine i_nil (i_seq (i_if ?_))
    walk_at "ex"
    refine i_lenm hd (le_big hl) ?_
    walk_at "ex"
    refine ite_d (fun y0 => ?_) fun y0 => ?_
    · refine ite_t ?_
      exact cut_long hc hc4 hlen hq (by walk_at "nm")
    · walk_at "ex"
      have hne : 0 < D.length := by omega
      refine ite_d (fun y1 => ?_) fun y1 => ?_
      · exact ite_t (cut_long hc hc4 hlen hq (by walk_at "nm"))
      · refine i_false (ite_f (i_nil (i_seq (i_if ?_))))
        walk_at "ex"
        refine ite_d (fun y2 => ?_) fun y2 => ?_
        · exact cut_short hc hc4 hlen hne hq (by walk_at "nm")
        · exact i_nil (cut_odd hd G hc C (Int.ofNat_lt.mpr hne) hq (by walk_at "nm") (by walk_at "nm") (by walk_at "nm"))
end

theorem bad_tag {n m : Nat} {ts : List Int} {v : PV} {a : Addr} {σ : Sto} (T : ts.length ≤ 900) (ha : σ a = some (.list ((ts.take m).map .int ++ v :: (ts.drop (m + 1)).map .int))) (hv : Told σ v) (hb : ∀ i, v ≠ .int i) : BadT n σ (.ref a) :=
  .inr ⟨a, _, rfl, ha, by simp; omega, .inr ⟨_, v, _, rfl, ints_before (v := v) (zs := []), hv, hb⟩⟩

theorem p_bad_tags {n : Nat} {ts : List Int} {t : Addr} {x : Int} {σ : Sto} {Q : PV → Sto → Prop} {X : Addr → Sto → Prop} (ht : σ t = some (.list (ts.map .int))) (T : ts.length = n) (hn : 2 ≤ n) (hn' : n ≤ 20)
    (hq : ∀ p σ', Ext σ σ' → BadT n σ' p → Q p σ') : T_law_bad_tags [.ref t, .int x] σ Q X := by
  have size : (ts.map PV.int).length ≤ sizeLine := by rw [List.length_map]; exact Nat.le_trans (show ts.length ≤ 1000 by omega) (by decide)
  unfold T_law_bad_tags tb_law_bad_tags
  refine i_fun2 ?_
  walk_at "ev"
  refine i_len trivial (items_ref ht) (by simp; omega) ?_
  rw [List.length_map, T]
  walk_at "ev"
  refine i_modp (by omega) ?_
  have m0 := Int.emod_nonneg (x / 9) (show (n : Int) ≠ 0 by omega)
  have m1 := Int.emod_lt_of_pos (x / 9) (show 0 < (n : Int) by omega)
  obtain ⟨m, hm⟩ := Int.eq_ofNat_of_zero_le m0
  rw [hm]
  rw [hm] at m1
  have hm' : m < ts.length := by omega
  refine i_seq (i_set (i_list (i_econs (i_bin (i_name (by walk_at "nm") (i_list (i_econs (i_const (i_enil ?_)))))))))
  refine ⟨by simp, fun a ha => ?_⟩
  generalize hσ : upd σ a _ = σ1
  obtain ⟨x1, u1⟩ := al hσ ha
  clear hσ
  refine a_cat (x1 _ _ ht) u1 (by simp; omega) fun σ2 b x2 u2 => ?_
  have y2 := x1.trans x2
  refine i_econs (i_slice (i_name (by walk_at "nm") (i_psome (i_const ⟨_, rfl, i_pnone ?_⟩))))
  refine ⟨_, show (0 : Int) ≤ 1 by decide, trivial, trivial, items_ref (y2 _ _ ht), size, fun c hc => ?_⟩
  generalize hσ : upd σ2 c _ = σ3
  obtain ⟨x3, u3⟩ := al hσ hc
  clear hσ
  have y3 := y2.trans x3
  refine i_econs (i_call (i_econs (i_name (by walk_at "nm") (i_enil ?_))))
  refine i_tupleF (y3 _ _ ht) (by simp; omega) ?_
  refine i_econs (i_const ?_)
  refine i_econs ?_
  refine p_var (nm := "_law_tags_here") (m := m) (v := .bool true) (y3 _ _ ht) (by omega) hm' (by walk_at "nm") (by walk_at "nm") (fun σ' Q' _ h => h) fun e σ4 x4 u4 => ?_
  have y4 := y3.trans x4
  refine i_econs (i_list (i_enil ?_))
  refine ⟨by simp, fun f hf => ?_⟩
  generalize hσ : upd σ4 f _ = σ5
  obtain ⟨x5, u5⟩ := al hσ hf
  clear hσ
  have y5 := y4.trans x5
  refine i_enil ⟨by simp, fun o ho => ?_⟩
  generalize hσ : upd σ5 o _ = σ6
  obtain ⟨x6, u6⟩ := al hσ ho
  clear hσ
  have y6 := y5.trans x6
  refine i_seq (i_set (i_bin (i_name (by walk_at "nm") (i_list (i_econs ?_)))))
  refine p_var (nm := "_law_tags_here") (m := m) (v := .str "0") (y6 _ _ ht) (by omega) hm' (by walk_at "nm") (by walk_at "nm") (fun σ' Q' _ h => h) fun g σ7 x7 u7 => ?_
  have y7 := y6.trans x7
  refine i_econs ?_
  refine p_var (nm := "_law_tags_here") (m := m) (v := .none) (y7 _ _ ht) (by omega) hm' (by walk_at "nm") (by walk_at "nm") (fun σ' Q' _ h => h) fun h σ8 x8 u8 => ?_
  have y8 := y7.trans x8
  refine i_enil ⟨by simp, fun q hq0 => ?_⟩
  generalize hσ : upd σ8 q _ = σ9
  obtain ⟨x9, u9⟩ := al hσ hq0
  clear hσ
  refine i_cat (x9 _ _ (x8 _ _ (x7 _ _ u6))) u9 (by simp) fun r hr => ?_
  generalize hσ : upd σ9 r _ = σ10
  obtain ⟨x10, u10⟩ := al hσ hr
  clear hσ
  have y10 := y8.trans (x9.trans x10)
  refine i_seq (i_expr (i_meth (i_name (p := .ref r) (by walk_at "nm") ?_)))
  refine ⟨⟨_, u10⟩, i_econs ?_⟩
  refine p_var (nm := "_law_tags_here") (m := m) (v := .bool false) (y10 _ _ ht) (by omega) hm' (by walk_at "nm") (by walk_at "nm") (fun σ' Q' _ h => h) fun w σ11 x11 u11 => ?_
  have y11 := y10.trans x11
  refine i_enil (i_append (x11 _ _ u10) (by simp) ?_)
  have hrσ : σ r = none := (y8.trans x9).back hr
  have e6 : Ext σ6 σ11 := x7.trans (x8.trans (x9.trans (x10.trans x11)))
  have nr : ∀ {z : Addr} {xs : List PV}, σ9 z = some (.list xs) → z ≠ r := fun hz e => by subst e; rw [hr] at hz; cases hz
  have keep : ∀ {z : Addr} {xs : List PV}, σ9 z = some (.list xs) → upd σ11 r (.list ([PV.ref b, .ref c, .tup (ts.map .int), .none, .ref e, .ref f] ++ [.ref g, .ref h] ++ [.ref w])) z = some (.list xs) := fun hz => upd_other (nr hz) (x11 _ _ (x10 _ _ hz))
  have k6 : Ext σ6 σ9 := x7.trans (x8.trans x9)
  have k2 := keep (k6 _ _ (x6 _ _ (x5 _ _ (x4 _ _ (x3 _ _ u2)))))
  have k3 := keep (k6 _ _ (x6 _ _ (x5 _ _ (x4 _ _ u3))))
  have k4 := keep (k6 _ _ (x6 _ _ (x5 _ _ u4)))
  have k5 := keep (k6 _ _ (x6 _ _ u5))
  have k7 := keep (x9 _ _ (x8 _ _ u7))
  have k8 := keep (x9 _ _ u8)
  have hwr : w ≠ r := by
    rintro rfl
    have h0 := x11 _ _ u10
    rw [u11] at h0
    injection h0 with h0
    injection h0 with h0
    have hm := List.mem_append_right ((ts.take m).map PV.int) (List.Mem.head (a := PV.bool false) ((ts.drop (m + 1)).map PV.int))
    rw [h0] at hm
    simp at hm
  have k11 : upd σ11 r (.list ([PV.ref b, .ref c, .tup (ts.map .int), .none, .ref e, .ref f] ++ [.ref g, .ref h] ++ [.ref w])) w = _ := upd_other hwr u11
  have kr : upd σ11 r (.list ([PV.ref b, .ref c, .tup (ts.map .int), .none, .ref e, .ref f] ++ [.ref g, .ref h] ++ [.ref w])) r = _ := upd_same
  have yr : Ext σ (upd σ11 r (.list ([PV.ref b, .ref c, .tup (ts.map .int), .none, .ref e, .ref f] ++ [.ref g, .ref h] ++ [.ref w]))) := y11.upd' hrσ
  generalize upd σ11 r (.list ([PV.ref b, .ref c, .tup (ts.map .int), .none, .ref e, .ref f] ++ [.ref g, .ref h] ++ [.ref w])) = τ at k2 k3 k4 k5 k7 k8 k11 kr yr ⊢
  walk_at "ev"
  have pick := nine (P := fun j => ∃ v, ([PV.ref b, .ref c, .tup (ts.map .int), .none, .ref e, .ref f] ++ [.ref g, .ref h] ++ [.ref w])[j]? = some v ∧ BadT n τ v)
    ⟨_, rfl, .inr ⟨b, _, rfl, k2, by simp; omega, .inl (by simp; omega)⟩⟩
    ⟨_, rfl, .inr ⟨c, _, rfl, k3, by simp [cutL]; omega, .inl (by simp [cutL]; omega)⟩⟩
    ⟨_, rfl, .inl ⟨.tup, rfl, fun c e => (by cases e), fun e => (by cases e)⟩⟩
    ⟨_, rfl, .inl ⟨.none, rfl, fun c e => (by cases e), fun e => (by cases e)⟩⟩
    ⟨_, rfl, bad_tag (by omega) k4 told_bool fun i e => by cases e⟩
    ⟨_, rfl, .inr ⟨f, _, rfl, k5, by simp, .inl (by simp; omega)⟩⟩
    ⟨_, rfl, bad_tag (by omega) k7 told_str fun i e => by cases e⟩
    ⟨_, rfl, bad_tag (by omega) k8 told_none fun i e => by cases e⟩
    ⟨_, rfl, bad_tag (by omega) k11 told_bool fun i e => by cases e⟩ (mod9 (x := x)).2.2
  obtain ⟨v, p1, p2⟩ := pick
  exact i_get mod9.1 mod9.2.1 (items_ref kr) trivial p1 (hq v τ yr p2)

theorem i_eqd {σ : Sto} {a b : Addr} {d : PyData} {k : Bool → Prop} (h1 : DataOf σ (.ref a) d) (h2 : DataOf σ (.ref b) d) (c : d.canLay0 = true) (hd : d.depth ≤ 64) (h : k true) : cmpP .Eq σ (.ref a) (.ref b) k := by
  have s : SeqAt.shaped d = true := by
    unfold SeqAt.shaped
    rw [c, decide_eq_true hd]; rfl
  exact .inr (.inr ⟨_, _, h1, h2, s, s, by rw [SeqAt.eqv_refl _ c]; exact h⟩)
theorem ints_flat {σ : Sto} {ts : List Int} : ∀ x ∈ ts.map PV.int, Flat 3 σ x := fun x hx => by
  obtain ⟨z, _, rfl⟩ := List.mem_map.mp hx
  exact flat_int
theorem encs_flat {σ : Sto} {D : List (Int × Int × Int)} : ∀ x ∈ D.map enc, Flat 3 σ x := fun x hx => by
  obtain ⟨z, _, rfl⟩ := List.mem_map.mp hx
  exact flat_tup3 flat_int flat_int flat_int
theorem i_eq3 {σ : Sto} {a b l1 l2 l3 m1 m2 m3 : Addr} {x1 x2 x3 : List PV} {k : Bool → Prop} (ha : σ a = some (.list [.ref l1, .ref l2, .ref l3])) (hb : σ b = some (.list [.ref m1, .ref m2, .ref m3]))
    (h1 : σ l1 = some (.list x1)) (h2 : σ l2 = some (.list x2)) (h3 : σ l3 = some (.list x3)) (g1 : σ m1 = some (.list x1)) (g2 : σ m2 = some (.list x2)) (g3 : σ m3 = some (.list x3))
    (f1 : ∀ x ∈ x1, Flat 3 σ x) (f2 : ∀ x ∈ x2, Flat 3 σ x) (f3 : ∀ x ∈ x3, Flat 3 σ x) (h : k true) : cmpP .Eq σ (.ref a) (.ref b) k := by
  obtain ⟨d1, p1, q1, r1⟩ := flats f1
  obtain ⟨d2, p2, q2, r2⟩ := flats f2
  obtain ⟨d3, p3, q3, r3⟩ := flats f3
  refine i_eqd (d := .list [.list d1, .list d2, .list d3]) (.list ha (.cons (.list h1 p1) (.cons (.list h2 p2) (.cons (.list h3 p3) .nil)))) (.list hb (.cons (.list g1 p1) (.cons (.list g2 p2) (.cons (.list g3 p3) .nil)))) ?_ ?_ h
  · simp [PyData.canLay0, PyData.canLayAll0, q1, q2, q3]
  · simp [PyData.depth, PyData.depthAll]; omega

theorem end_cut {n : Nat} {D : List (Int × Int × Int)} {d : Addr} {p t : PV} {ρ : Env'} {σ : Sto} (hd : σ d = some (.list (D.map enc))) (G : GoodL n D) (h : BadK D σ p) (e1 : ρ "_law_count_here" = some (.int (n : Nat))) (e2 : ρ "_law_debts_here" = some (.ref d)) (e3 : ρ "_law_cut" = some p) (e4 : ρ "_law_tags_here" = some t) (e5 : ρ "_law_due" = some (.str "cut")) :
    tb_law_main_4 ρ σ (funQ fun p _ => p = .bool true) (funX nope) := by
  have hl := G.1
  walk_at "ev"
  refine a_listm hd (le_big hl) fun σ1 a x1 u1 => ?_
  walk_at "ev"
  refine p_refused_cut (cs := []) u1 G (h.ext x1) fun σ' => ?_
  walk_at "ev"
  rfl
theorem end_prices {n : Nat} {D : List (Int × Int × Int)} {cs : List Int} {d c : Addr} {t : PV} {ρ : Env'} {σ : Sto} (hd : σ d = some (.list (D.map enc))) (G : GoodL n D) (hc : σ c = some (.list (cs.map .int))) (C : CutOk D cs) (h : BadT n σ t) (e1 : ρ "_law_count_here" = some (.int (n : Nat))) (e2 : ρ "_law_debts_here" = some (.ref d)) (e3 : ρ "_law_cut" = some (.ref c)) (e4 : ρ "_law_tags_here" = some t) (e5 : ρ "_law_due" = some (.str "prices")) :
    tb_law_main_4 ρ σ (funQ fun p _ => p = .bool true) (funX nope) := by
  have hl := G.1
  walk_at "ev"
  refine a_listm hd (le_big hl) fun σ1 a x1 u1 => ?_
  walk_at "ev"
  refine p_refused_prices u1 G (x1 _ _ hc) C (h.ext x1) fun σ' => ?_
  walk_at "ev"
  rfl

theorem plain05 (a : Addr) (ns : List Int) (h : ns.length ≤ 63) : T_law_main [.lst a ns] noSto (fun p _ => p = .bool true) nope := by
  unfold T_law_main tb_law_main
  refine i_fun1 ?_
  walk_at "ev"
  refine p_count h fun n' n2 n20 => ?_
  obtain ⟨n, rfl⟩ := Int.eq_ofNat_of_zero_le (show 0 ≤ n' by omega)
  walk_at "ev"
  refine p_debts h (by decide) n2 n20 fun d xs hd0 hl hg => ?_
  obtain ⟨D, rfl, hw⟩ := good_enc hg
  rw [List.length_map] at hl
  have G : GoodL n D := ⟨hl, hw⟩
  generalize hσ1 : upd noSto d _ = σ1
  obtain ⟨_, hd⟩ := al hσ1 hd0
  clear hσ1 hd0
  walk_at "ev"
  refine p_tags h (by omega) fun t ts ht0 T => ?_
  generalize hσ2 : upd σ1 t _ = σ2
  obtain ⟨x2, ht⟩ := al hσ2 ht0
  have hd := x2 _ _ hd
  clear hσ2 ht0
  walk_at "ev"
  refine p_cell_at (by decide) h ?_
  walk_at "ev"
  refine p_cut_for hd G ht T (by omega) fun c cs hc0 C => ?_
  generalize hσ3 : upd σ2 c _ = σ
  obtain ⟨x3, hc⟩ := al hσ3 hc0
  have hd := x3 _ _ hd
  have ht := x3 _ _ ht
  clear hσ3 hc0
  have hcl := C.1
  walk_at "ev"
  refine p_cell_at (by decide) h ?_
  walk_at "ev"
  refine ite_d (fun y => ?_) fun y => ?_
  · refine i_seq (i_set ?_)
    walk_at "ex"
    refine i_seq (i_if ?_)
    walk_at "ex"
    refine ite_d (fun y0 => ?_) fun y0 => ?_
    · refine i_seq (i_set ?_)
      walk_at "ex"
      refine p_cell_at (by decide) h ?_
      walk_at "ex"
      refine p_bad_cut hd G hc C fun p σ' x4 B => ?_
      refine i_seq (i_set ?_)
      walk_at "ex"
      refine i_nil ?_
      refine i_seq (i_if ?_)
      walk_at "ex"
      refine ite_d (fun y1 => ?_) fun y1 => ?_
      · refine i_seq (i_set ?_)
        walk_at "ex"
        refine p_cell_at (by decide) h ?_
        walk_at "ex"
        refine p_bad_tags (x4 _ _ ht) T (by omega) (by omega) fun q σ'' x5 _ => ?_
        refine i_nil ?_
        exact end_cut (x5 _ _ (x4 _ _ hd)) G (B.ext x5) (by walk_at "nm") (by walk_at "nm") (by walk_at "nm") (by walk_at "nm") (by walk_at "nm")
      · refine i_nil ?_
        exact end_cut (x4 _ _ hd) G B (by walk_at "nm") (by walk_at "nm") (by walk_at "nm") (by walk_at "nm") (by walk_at "nm")
    · refine i_nil ?_
      refine i_seq (i_if ?_)
      walk_at "ex"
      refine ite_d (fun y1 => ?_) fun y1 => absurd (by omega) y1
      refine i_seq (i_set ?_)
      walk_at "ex"
      refine p_cell_at (by decide) h ?_
      walk_at "ex"
      refine p_bad_tags ht T (by omega) (by omega) fun q σ'' x5 B => ?_
      refine i_nil ?_
      exact end_prices (x5 _ _ hd) G (x5 _ _ hc) C B (by walk_at "nm") (by walk_at "nm") (by walk_at "nm") (by walk_at "nm") (by walk_at "nm")
  · refine i_nil ?_
    walk_at "ev"
    refine a_listm hd (le_big hl) fun τ1 l1 z1 v1 => ?_
    walk_at "ev"
    refine a_listm (z1 _ _ hc) (hcl ▸ le_big hl) fun τ2 l2 z2 v2 => ?_
    walk_at "ev"
    refine a_listm (z2 _ _ (z1 _ _ ht)) (by omega) fun τ3 l3 z3 v3 => ?_
    walk_at "ev"
    intro w hw
    generalize hσ : upd τ3 w _ = τ4
    obtain ⟨z4, v4⟩ := al hσ hw
    clear hσ
    have z := z1.trans (z2.trans (z3.trans z4))
    have k1 := z4 _ _ (z3 _ _ (z2 _ _ v1))
    have k2 := z4 _ _ (z3 _ _ v2)
    have k3 := z4 _ _ v3
    walk_at "ev"
    refine i_get (by decide) (by decide) (items_ref v4) trivial rfl ?_
    walk_at "ev"
    refine i_get (by decide) (by decide) (items_ref v4) trivial rfl ?_
    walk_at "ev"
    refine i_get (by decide) (by decide) (items_ref v4) trivial rfl ?_
    walk_at "ev"
    refine p_shown_ok k1 G k2 C k3 T (by omega) ?_
    walk_at "ev"
    refine p_shows (z _ _ hd) G (z _ _ hc) C (z _ _ ht) T (by omega) ?_
    walk_at "ev"
    refine p_truth ?_
    walk_at "ev"
    intro w2 hw2
    generalize hσ : upd τ4 w2 _ = τ5
    obtain ⟨z5, v5⟩ := al hσ hw2
    clear hσ
    refine i_eq3 (z5 _ _ v4) v5 (z5 _ _ k1) (z5 _ _ k2) (z5 _ _ k3) (z5 _ _ (z _ _ hd)) (z5 _ _ (z _ _ hc)) (z5 _ _ (z _ _ ht)) encs_flat ints_flat ints_flat ?_
    rfl

theorem ints_map {vs : List Value} {ns : List Int} (h : IntsAre vs ns) : vs.map (fun v => match v with | Value.int i _ => some i | _ => Option.none) = ns.map some := by
  induction h with
  | nil => rfl
  | cons _ _ _ ih => simp [ih]

end Mine

open PySem PyProof.Rows PySem.Calls PySem.W Mine
set_option maxRecDepth 100000 in
set_option maxHeartbeats 8000000 in
theorem PySem.Challenge.cw_uf030027_05_holds : PySem.Challenge.rw_uf030027_05.Holds :=
  hd05 (fun d kwd hdef => by
  intro w s₀ s₁ mg mb G Y fa o pm cd doc dV kV ho hd hcd hD hmg hg args vals as hpre hlay hrd hwl hlo
  rw [defOf_name hdef] at hmg
  have KX := kIn_of Y
  refine Ground.open G ?_
  intro T B D TE TW
  wrow_args hpre hlay hrd hwl hlo
  rename_i ns _ _ _ _ _ _ _ l vs _ hL _ _ _ hI _ hcond _
  obtain ⟨f, o', fd, h1, h2, h3, hS⟩ := s_law_main (fx05 (g := ⟨_, w, s₁.heap, H05 w.params, mg, mb, KX, T.g, T.b, T.nolimit⟩) (loose := []) T rfl)
  obtain rfl : f = fa := by
    have e : some (Value.ref f) = some (Value.ref fa) := h1.symm.trans hmg
    injection e with e; injection e
  refine wpAny_mono (hS callerA [] s₁ [_] [.lst l ns] noSto (fun p _ => p = .bool true) nope rfl ⟨by decide, by decide⟩ (fun _ => rfl) (hp_start _) (.cons (.lst hL ?_) .nil) (plain05 _ _ (by omega))) (fun v s' hp => ?_) (fun e s' hp => hp.no)
  · exact ints_map hI
  · obtain ⟨h', tk, p, σ', rfl, st, sm, r, rfl⟩ := hp
    cases r
    have keep : ∀ b o, s₁.heap.get? b = some o → h'.get? b = some o := fun b o e => st.other b o e (by simp [frs]) id rfl
    refine GoodW.toG ⟨.inl ⟨_, .bool true, [], rfl, ?_, ?_, ?_, ?_⟩, keep, rfl, hg⟩
    · intro cls; rfl
    · exact .bool true
    · wrow_post
    · exact fun _ => ⟨List.nodup_nil, fun _ m => by cases m⟩)
