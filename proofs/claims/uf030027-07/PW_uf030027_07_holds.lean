import PyProof.Rows.All
import PyProof.StationsW
import PyProof.Cells
import PyProof.CompFree
import PyProof.Rows.Tup
import PyProof.RangeIter
import PyProof.TupleIter
import PyProof.PlainList
import PyProof.DefCall
import PyProof.RulesTry
import PyProof.RulesAs
import PyProof.Rows.Catch
import PyProof.RangeFor
import PyProof.TupleKey
import PyProof.WalkInts
import OpenK.KLine
import OpenK.KRaise
import KE.KTryMore
import PyProof.NsDelKeeps
import PyProof.SumWalkG
import PyProof.SeqI3
import PyProof.ZipIter
import KE.KMinKey
import KE.KLam
import Lean
import PySem.Challenge.RW_uf030027_07
set_option Elab.async false
set_option autoImplicit false
namespace Mine
open PySem PyProof.Rows

/-- plain values -/
inductive PV where
  | none
  | bool (b : Bool)
  | int (i : Int)
  | str (x : Str)
  | tup (xs : List PV)
  | ref (a : Addr)
  | lst (a : Addr) (ns : List Int)
  | exc (a : Addr) (c : Addr)
  | rng (lo hi : Int)

/-- what the store keeps at an address -/
inductive AO where
  | list (xs : List PV)
  | raw (o : Obj)

noncomputable abbrev Sto := Addr → Option AO
noncomputable abbrev Env' := Str → Option PV

/-- a range object -/
noncomputable def IsRng (h : Heap) (a : Addr) (lo hi : Int) : Prop := ∃ t1 t2 t3, IsRange h a lo hi 1 t1 t2 t3

mutual
inductive Rep (base h : Heap) : Value → PV → Prop
  | none : Rep base h Value.none PV.none
  | bool (b : Bool) : Rep base h (Value.bool b) (PV.bool b)
  | int (i : Int) (t : Tok) : Rep base h (Value.int i t) (PV.int i)
  | str (x : Str) (t : Tok) : Rep base h (Value.str x t) (PV.str x)
  | tup {a : Addr} {o : Obj} {vs : List Value} {n : Nat} {xs : List PV} : h.get? a = some o → o.cls = .type "tuple" → o.data = .seq vs.toArray n → Reps base h vs xs → Rep base h (Value.ref a) (PV.tup xs)
  | ref (a : Addr) : Rep base h (Value.ref a) (PV.ref a)
  | lst {a : Addr} {vs : List Value} {ns : List Int} : base.IsList a vs.toArray → vs.map (fun v => match v with | Value.int i _ => some i | _ => Option.none) = ns.map some → Rep base h (Value.ref a) (PV.lst a ns)
  | exc {a c : Addr} {o : Obj} {vs : Array Value} : h.get? a = some o → o.cls = .ref c → o.data = .fields vs → Rep base h (Value.ref a) (PV.exc a c)
  | rng {a : Addr} {lo hi : Int} : IsRng h a lo hi → Rep base h (Value.ref a) (PV.rng lo hi)
inductive Reps (base h : Heap) : List Value → List PV → Prop
  | nil : Reps base h [] []
  | cons {v : Value} {vs : List Value} {x : PV} {xs : List PV} : Rep base h v x → Reps base h vs xs → Reps base h (v :: vs) (x :: xs)
end

/-- the objects on which Rep leans -/
noncomputable def Firm (o : Obj) : Prop := (∃ vs, o.data = .fields vs ∧ (o.cls = .type "range" ∨ ∃ c, o.cls = .ref c)) ∨ (o.cls = .type "tuple" ∧ ∃ xs n, o.data = .seq xs n)

theorem Rep.mono {base h h' : Heap} (k : ∀ b o, h.get? b = some o → Firm o → h'.get? b = some o) {v : Value} {x : PV} (r : Rep base h v x) : Rep base h' v x :=
  Rep.rec (motive_1 := fun v x _ => Rep base h' v x) (motive_2 := fun vs xs _ => Reps base h' vs xs)
    .none .bool .int .str (fun ho hc hd _ ih => .tup (k _ _ ho (.inr ⟨hc, _, _, hd⟩)) hc hd ih) .ref (fun h1 h2 => .lst h1 h2) (fun ho hc hd => .exc (k _ _ ho (.inl ⟨_, hd, .inr ⟨_, hc⟩⟩)) hc hd)
    (fun e => .rng (e.elim fun t1 e => e.elim fun t2 e => e.elim fun t3 ho => ⟨t1, t2, t3, k _ _ ho (.inl ⟨_, rfl, .inl rfl⟩)⟩)) .nil (fun _ _ ih1 ih2 => .cons ih1 ih2) r
theorem Reps.mono {base h h' : Heap} (k : ∀ b o, h.get? b = some o → Firm o → h'.get? b = some o) {vs : List Value} {xs : List PV} (r : Reps base h vs xs) : Reps base h' vs xs :=
  Reps.rec (motive_1 := fun _ _ _ => True) (motive_2 := fun vs xs _ => Reps base h' vs xs)
    trivial (fun _ => trivial) (fun _ _ => trivial) (fun _ _ => trivial) (fun _ _ _ _ _ => trivial) (fun _ => trivial) (fun _ _ => trivial) (fun _ _ _ => trivial) (fun _ => trivial) .nil (fun r _ _ ih2 => .cons (r.mono k) ih2) r
section
variable {base h : Heap} {v : Value}
theorem inv_none (r : Rep base h v .none) : v = .none := by cases r; rfl
theorem inv_bool {b : Bool} (r : Rep base h v (.bool b)) : v = .bool b := by cases r; rfl
theorem inv_int {i : Int} (r : Rep base h v (.int i)) : ∃ t, v = .int i t := by cases r; exact ⟨_, rfl⟩
theorem inv_str {x : Str} (r : Rep base h v (.str x)) : ∃ t, v = .str x t := by cases r; exact ⟨_, rfl⟩
theorem inv_ref {a : Addr} (r : Rep base h v (.ref a)) : v = .ref a := by cases r; rfl
theorem inv_tup {xs : List PV} (r : Rep base h v (.tup xs)) : ∃ a o vs n, v = .ref a ∧ h.get? a = some o ∧ o.cls = .type "tuple" ∧ o.data = .seq vs.toArray n ∧ Reps base h vs xs := by cases r with | tup ho hc hd rs => exact ⟨_, _, _, _, rfl, ho, hc, hd, rs⟩
theorem inv_lst {a : Addr} {ns : List Int} (r : Rep base h v (.lst a ns)) : v = .ref a ∧ ∃ vs : List Value, base.IsList a vs.toArray ∧ vs.map (fun v => match v with | Value.int i _ => some i | _ => Option.none) = ns.map some := by cases r with | lst h1 h2 => exact ⟨rfl, _, h1, h2⟩
theorem inv_rng {lo hi : Int} (r : Rep base h v (.rng lo hi)) : ∃ a, v = .ref a ∧ IsRng h a lo hi := by cases r with | rng h1 => exact ⟨_, rfl, h1⟩
theorem inv_exc {a c : Addr} (r : Rep base h v (.exc a c)) : ∃ o, v = .ref a ∧ h.get? a = some o ∧ o.cls = .ref c := by cases r with | exc h1 h2 h3 => exact ⟨_, rfl, h1, h2⟩
theorem reps_one {vals : List Value} {p : PV} (R : Reps base h vals [p]) : ∃ v, vals = [v] ∧ Rep base h v p := by cases R with | cons r rs => cases rs; exact ⟨_, rfl, r⟩
theorem reps_two {vals : List Value} {p p' : PV} (R : Reps base h vals [p, p']) : ∃ v v', vals = [v, v'] ∧ Rep base h v p ∧ Rep base h v' p' := by
  cases R with | cons r rs => obtain ⟨v', rfl, r'⟩ := reps_one rs; exact ⟨_, _, rfl, r, r'⟩
end
theorem Rep.keeps {base h h' : Heap} {v : Value} {x : PV} (r : Rep base h v x) (k : ∀ b o, h.get? b = some o → h'.get? b = some o) : Rep base h' v x := r.mono fun b o e _ => k b o e
theorem Reps.keeps {base h h' : Heap} {v : List Value} {x : List PV} (r : Reps base h v x) (k : ∀ b o, h.get? b = some o → h'.get? b = some o) : Reps base h' v x := r.mono fun b o e _ => k b o e

theorem Reps.ind {base h : Heap} {M : List Value → List PV → Prop} (nil : M [] []) (cons : ∀ {v vs x xs}, Rep base h v x → Reps base h vs xs → M vs xs → M (v :: vs) (x :: xs)) {vs : List Value} {xs : List PV} (r : Reps base h vs xs) : M vs xs :=
  Reps.rec (motive_1 := fun _ _ _ => True) (motive_2 := fun vs xs _ => M vs xs)
    trivial (fun _ => trivial) (fun _ _ => trivial) (fun _ _ => trivial) (fun _ _ _ _ _ => trivial) (fun _ => trivial) (fun _ _ => trivial) (fun _ _ _ => trivial) (fun _ => trivial) nil (fun a r _ ih => cons a r ih) r
theorem Reps.length {base h : Heap} {vs : List Value} {xs : List PV} (r : Reps base h vs xs) : vs.length = xs.length :=
  r.ind (M := fun vs xs => vs.length = xs.length) rfl fun _ _ ih => congrArg Nat.succ ih
theorem Reps.append {base h : Heap} {vs ws : List Value} {xs ys : List PV} (r : Reps base h vs xs) (q : Reps base h ws ys) : Reps base h (vs ++ ws) (xs ++ ys) :=
  r.ind (M := fun vs xs => Reps base h (vs ++ ws) (xs ++ ys)) q fun a _ ih => .cons a ih
theorem Reps.get {base h : Heap} {vs : List Value} {xs : List PV} (r : Reps base h vs xs) {k : Nat} {x : PV} (hx : xs[k]? = some x) : ∃ v, vs[k]? = some v ∧ Rep base h v x := by
  revert k
  refine r.ind (M := fun vs xs => ∀ {k : Nat}, xs[k]? = some x → ∃ v, vs[k]? = some v ∧ Rep base h v x) (fun e => ?_) fun a _ ih k e => ?_
  · cases e
  · cases k with
    | zero => cases e; exact ⟨_, rfl, a⟩
    | succ k => exact ih (k := k) e
theorem Reps.get' {base h : Heap} {vs : List Value} {xs : List PV} (r : Reps base h vs xs) {k : Nat} {v : Value} (hv : vs[k]? = some v) : ∃ x, xs[k]? = some x ∧ Rep base h v x := by
  revert k
  refine r.ind (M := fun vs xs => ∀ {k : Nat}, vs[k]? = some v → ∃ x, xs[k]? = some x ∧ Rep base h v x) (fun e => ?_) fun a _ ih k e => ?_
  · cases e
  · cases k with
    | zero => cases e; exact ⟨_, rfl, a⟩
    | succ k => exact ih (k := k) e
theorem Reps.take {base h : Heap} {vs : List Value} {xs : List PV} (r : Reps base h vs xs) : ∀ k, Reps base h (vs.take k) (xs.take k) :=
  r.ind (M := fun vs xs => ∀ k, Reps base h (vs.take k) (xs.take k)) (fun k => by cases k <;> exact .nil) fun a _ ih k => by
    cases k with
    | zero => exact .nil
    | succ k => exact .cons a (ih k)
theorem Reps.drop {base h : Heap} {vs : List Value} {xs : List PV} (r : Reps base h vs xs) : ∀ k, Reps base h (vs.drop k) (xs.drop k) :=
  r.ind (M := fun vs xs => ∀ k, Reps base h (vs.drop k) (xs.drop k)) (fun k => by cases k <;> exact .nil) fun a r ih k => by
    cases k with
    | zero => exact .cons a r
    | succ k => exact ih k
theorem Reps.set {base h : Heap} {vs : List Value} {xs : List PV} (r : Reps base h vs xs) (k : Nat) {v : Value} {x : PV} (a : Rep base h v x) : Reps base h (vs.set k v) (xs.set k x) := by
  revert k
  refine r.ind (M := fun vs xs => ∀ k, Reps base h (vs.set k v) (xs.set k x)) (fun k => by cases k <;> exact .nil) fun b r ih k => ?_
  cases k with
  | zero => exact .cons a r
  | succ k => exact .cons b (ih k)

noncomputable def RawOk (o : Obj) : Prop := o.data = .plain ∨ (∃ es n, o.data = .dict es n) ∨ ((∃ vs, o.data = .fields vs) ∧ (o.cls = .none ∨ o.cls = .type "code"))
/-- the store is borne by the heap -/
noncomputable def Sim (base h : Heap) (σ : Sto) : Prop := ∀ a ao, σ a = some ao → match ao with
  | .list xs => ∃ vs : List Value, h.PlainList a vs.toArray ∧ Reps base h vs xs
  | .raw o => h.get? a = some o ∧ RawOk o

noncomputable def frs (fr : List Env) : List Addr := fr.filterMap (·.frame)

noncomputable abbrev nobody : Addr → Prop := fun _ => False

structure Step (fr : List Env) (own : Addr → Prop) (σ : Sto) (h : Heap) (σ' : Sto) (h' : Heap) : Prop where
  other : ∀ b o, h.get? b = some o → b ∉ frs fr → ¬ own b → σ b = none → h'.get? b = some o
  frame : ∀ b o, h.get? b = some o → b ∈ frs fr → ¬ own b → ∃ sl, h'.get? b = some { o with slots := sl }
  live : ∀ b o, h.get? b = some o → ¬ own b → ∃ o', h'.get? b = some o'
  new : ∀ a, σ a = none → ¬ own a → h.get? a ≠ none → σ' a = none
  dom : ∀ a, σ a ≠ none → σ' a ≠ none

theorem Step.refl {fr : List Env} {own : Addr → Prop} {σ : Sto} {h : Heap} : Step fr own σ h σ h :=
  ⟨fun _ _ e _ _ _ => e, fun _ o e _ _ => ⟨o.slots, e⟩, fun _ o e _ => ⟨o, e⟩, fun _ e _ _ => e, fun _ e => e⟩
theorem Step.trans {fr : List Env} {own : Addr → Prop} {σ σ₁ σ₂ : Sto} {h h₁ h₂ : Heap} (x : Step fr own σ h σ₁ h₁) (y : Step fr own σ₁ h₁ σ₂ h₂) : Step fr own σ h σ₂ h₂ where
  other := fun b o e n1 n2 s => y.other b o (x.other b o e n1 n2 s) n1 n2 (x.new b s n2 (by rw [e]; simp))
  frame := fun b o e n1 n2 => by
    obtain ⟨sl, e1⟩ := x.frame b o e n1 n2
    obtain ⟨sl2, e2⟩ := y.frame b _ e1 n1 n2
    exact ⟨sl2, e2⟩
  live := fun b o e n => by
    obtain ⟨o1, e1⟩ := x.live b o e n
    exact y.live b o1 e1 n
  new := fun a s n e => by
    refine y.new a (x.new a s n e) n ?_
    cases q : h.get? a with
    | none => exact absurd q e
    | some o => obtain ⟨o1, e1⟩ := x.live a o q n; rw [e1]; simp
  dom := fun a s => y.dom a (x.dom a s)
theorem Step.own {fr : List Env} {own own' : Addr → Prop} {σ σ₁ : Sto} {h h₁ : Heap} (x : Step fr own σ h σ₁ h₁) (k : ∀ b, own b → own' b) : Step fr own' σ h σ₁ h₁ where
  other := fun b o e n1 n2 s => x.other b o e n1 (fun q => n2 (k b q)) s
  frame := fun b o e n1 n2 => x.frame b o e n1 (fun q => n2 (k b q))
  live := fun b o e n => x.live b o e (fun q => n (k b q))
  new := fun a s n => x.new a s (fun q => n (k a q))
  dom := x.dom

structure Hp (base : Heap) (fr : List Env) (σ : Sto) (h : Heap) : Prop where
  stays : base.StaysIn h
  frames : h.FunFrames base fr
  sim : Sim base h σ
  fresh : ∀ a, σ a ≠ none → base.get? a = none ∧ a ∉ frs fr
  dicts : ∀ b ∈ frs fr, ∃ o es n, h.get? b = some o ∧ o.data = .dict es n

theorem Sim.not_firm {base h : Heap} {σ : Sto} (S : Sim base h σ) {b : Addr} {o : Obj} (e : h.get? b = some o) (f : Firm o) : σ b = none := by
  cases q : σ b with
  | none => rfl
  | some ao =>
    have := S b ao q
    cases ao with
    | list xs =>
      obtain ⟨vs, ⟨n, ho⟩, _⟩ := this
      rw [e] at ho; cases ho
      rcases f with ⟨ws, hw, _⟩ | ⟨hw, _⟩
      · cases hw
      · injection hw with hw; exact absurd hw (by decide)
    | raw o' =>
      obtain ⟨ho, hd⟩ := this
      rw [e] at ho; cases ho
      rcases hd with hd | ⟨es, m, hd⟩ | ⟨⟨vs, hd⟩, hc⟩
      · rcases f with ⟨ws, hw, _⟩ | ⟨_, xs, n, hw⟩ <;> rw [hd] at hw <;> cases hw
      · rcases f with ⟨ws, hw, _⟩ | ⟨_, xs, n, hw⟩ <;> rw [hd] at hw <;> cases hw
      · rcases f with ⟨ws, _, q | ⟨c, q⟩⟩ | ⟨_, xs, n, hw⟩
        · rcases hc with hc | hc <;> rw [hc] at q <;> first | cases q | (injection q with q; exact absurd q (by decide))
        · rcases hc with hc | hc <;> rw [hc] at q <;> cases q
        · rw [hd] at hw; cases hw

theorem notFirm_dict {o : Obj} {es : Array DictEntry} {n : Nat} (hd : o.data = .dict es n) : ¬ Firm o := by
  rintro (⟨vs, q, _⟩ | ⟨_, xs, m, q⟩) <;> rw [hd] at q <;> cases q
theorem notFirm_cell {o : Obj} {ov : Option Value} (hd : o.data = .cell ov) : ¬ Firm o := by
  rintro (⟨vs, q, _⟩ | ⟨_, xs, m, q⟩) <;> rw [hd] at q <;> cases q
theorem Hp.firm {base h : Heap} {fr : List Env} {σ : Sto} (H : Hp base fr σ h) {b : Addr} {o : Obj} (e : h.get? b = some o) (f : Firm o) : b ∉ frs fr ∧ σ b = none := by
  refine ⟨fun m => ?_, H.sim.not_firm e f⟩
  obtain ⟨o', es, n, h1, h2⟩ := H.dicts b m
  rw [e] at h1; cases h1
  exact notFirm_dict h2 f
theorem Step.rep {base h h' : Heap} {fr : List Env} {σ σ' : Sto} {v : Value} {p : PV} (x : Step fr nobody σ h σ' h') (H : Hp base fr σ h) (r : Rep base h v p) : Rep base h' v p :=
  r.mono fun b o e f => x.other b o e (H.firm e f).1 id (H.firm e f).2
theorem Step.reps {base h h' : Heap} {fr : List Env} {σ σ' : Sto} {v : List Value} {p : List PV} (x : Step fr nobody σ h σ' h') (H : Hp base fr σ h) (r : Reps base h v p) : Reps base h' v p :=
  r.mono fun b o e f => x.other b o e (H.firm e f).1 id (H.firm e f).2

theorem funFrames_step {base h h' : Heap} : ∀ {l : List Env}, h.FunFrames base l → (∀ b o, h.get? b = some o → (∀ vs, o.data ≠ .fields vs) → b ∈ frs l → ∃ o', h'.get? b = some o' ∧ ∀ vs, o'.data ≠ .fields vs) → h'.FunFrames base l
  | [], _, _ => trivial
  | env :: l, ⟨hk, ⟨L, o, hf, hn, ho, hd⟩, hr⟩, k => by
    have hm : L ∈ frs (env :: l) := List.mem_filterMap.mpr ⟨env, .head _, hf⟩
    obtain ⟨o', ho', hd'⟩ := k L o ho hd hm
    refine ⟨hk, ⟨L, o', hf, hn, ho', hd'⟩, funFrames_step hr fun b o e d m => k b o e d ?_⟩
    obtain ⟨en, he, hf'⟩ := List.mem_filterMap.mp m
    exact List.mem_filterMap.mpr ⟨en, .tail _ he, hf'⟩

theorem Hp.step {base h h' : Heap} {fr : List Env} {σ σ' : Sto} (H : Hp base fr σ h) (x : Step fr nobody σ h σ' h') (S : Sim base h' σ') : Hp base fr σ' h' where
  stays := fun b o e => x.other b o (H.stays b o e) (fun m => by rw [(H.frames.mem m).1] at e; cases e) id (by
    cases q : σ b with
    | none => rfl
    | some ao => have := (H.fresh b (by rw [q]; simp)).1; rw [e] at this; cases this)
  frames := funFrames_step H.frames fun b o e d m => by
    obtain ⟨sl, hs⟩ := x.frame b o e m id
    exact ⟨_, hs, d⟩
  sim := S
  fresh := fun a n => by
    by_cases q : σ a = none
    · have hn : h.get? a = none := by
        cases e : h.get? a with
        | none => rfl
        | some o => exact absurd (x.new a q id (by rw [e]; simp)) n
      refine ⟨?_, fun m => ?_⟩
      · cases e : base.get? a with
        | none => rfl
        | some o => rw [H.stays a o e] at hn; cases hn
      · obtain ⟨_, o, ho, _⟩ := H.frames.mem m
        rw [hn] at ho; cases ho
    · exact H.fresh a q
  dicts := fun b m => by
    obtain ⟨o, es, n, ho, hd⟩ := H.dicts b m
    obtain ⟨sl, hs⟩ := x.frame b o ho m id
    exact ⟨_, es, n, hs, hd⟩
end Mine

set_option autoImplicit false
namespace Mine
open PySem PyProof.Rows

/-- the run's fixed part -/
structure Gx where
  prog : Program
  w : World
  base : Heap
  K : List (Addr × Obj)
  mg : Str → Option Value
  mb : Str → Option Value
  inK : ∀ a o, K.lookup a = some o → base.get? a = some o
  hg : base.Ns mainGlobals mg
  hb : base.Ns builtinsNs mb
  nolimit : base.NoLimit
  lam : Value
  lamq : Str

/-- the name that the lambda takes from its function -/
noncomputable abbrev lamName : Str := "pair"

noncomputable abbrev Gx.M (g : Gx) : Model := model g.prog g.w

/-- the frame's names: what stands in the table (of heap h), what the values lean on (B) -/
structure Loc (base B h : Heap) (env : Env) (ρ : Env') : Prop where
  ns : ∃ m, h.Ns env.locals m ∧ ∀ x p, ρ x = some p → env.kindOf x = some .local → ∃ v, m x = some v ∧ Rep base B v p
  cell : ∀ x, env.kindOf x = some .cell → ∃ c ov, env.cells.lookup x = some c ∧ B.IsCell c ov ∧ ∀ p, ρ x = some p → ∃ v, ov = some v ∧ Rep base B v p

structure St (g : Gx) (fr : List Env) (env : Env) (ρ : Env') (σ : Sto) (h : Heap) : Prop where
  hp : Hp g.base fr σ h
  loc : Loc g.base h h env ρ
  nl : σ env.locals = none

noncomputable def Room (n : Nat) (A : Around) : Prop := A.depth + n < recursionLimit ∧ A.units + 8 * n + 100 < cLine
theorem Room.lt {n : Nat} {A : Around} (r : Room n A) : A.depth < recursionLimit := by have := r.1; omega
theorem Room.units {n : Nat} {A : Around} (r : Room n A) : A.units + 100 < cLine := by have := r.2; omega
theorem Room.le {n m : Nat} {A : Around} (r : Room n A) (h : m ≤ n) : Room m A := ⟨by have := r.1; omega, by have := r.2; omega⟩
theorem Room.deeper {n : Nat} {A : Around} {env : Env} (r : Room (n + 1) A) : Room n (A.deeper env) := by
  obtain ⟨h1, h2⟩ := r
  refine ⟨?_, ?_⟩
  · show A.depth + 1 + n < _; omega
  · show A.units + 3 + 8 * n + 100 < _; omega

/-- the setting of a run in a frame: the frames are fr, names are looked up in env -/
structure Cx (g : Gx) (n : Nat) (q : Bool) (A : Around) (fr : List Env) (env : Env) : Prop where
  frames : A.frames = some fr
  room : Room n A
  quiet : q = true → A.handled = none
  kind : env.scope.kind = .function
  globals : env.globals = mainGlobals
  builtins : env.builtins = builtinsNs
  inj : ∀ x y c, env.cells.lookup x = some c → env.cells.lookup y = some c → x = y
  nbase : g.base.get? env.locals = none
  cbase : ∀ x c, env.cells.lookup x = some c → g.base.get? c = none
  code : env.kindOf lamName = some .cell → env.code = g.lam ∧ env.qual = g.lamq

/-- an exception in flight (just made | come from a callee | noted at this frame) -/
noncomputable def Fly (B : Heap) (fr : List Env) (x c : Addr) (h' : Heap) : Prop :=
  B.StaysIn h' ∧ h'.FunFrames B fr ∧ B.get? x = none ∧
  ((∃ t o, h'.get? x = some o ∧ o.cls = .ref c ∧ o.data = .fields #[.ref t, .none, .none, .none, .bool false, .none]) ∨
   (∃ a0, h'.TracedW B x (.ref c) a0) ∨
   (∃ a0 L env outer, fr = env :: outer ∧ env.frame = some L ∧ h'.TracedAtW B x (.ref c) a0 (rawInt L)))

structure ExcB (g : Gx) (fr : List Env) (own : Addr → Prop) (σ : Sto) (h : Heap) (σ' : Sto) (B h' : Heap) (x c : Addr) : Prop where
  other : ∀ b o, h.get? b = some o → b ∉ frs fr → ¬ own b → σ b = none → B.get? b = some o
  frame : ∀ b o, h.get? b = some o → b ∈ frs fr → ¬ own b → ∃ sl, h'.get? b = some { o with slots := sl }
  sim : Sim g.base B σ'
  new : ∀ a, σ a = none → ¬ own a → h.get? a ≠ none → σ' a = none
  dom : ∀ a, σ a ≠ none → σ' a ≠ none
  stays : g.base.StaysIn B
  nofr : ∀ b ∈ frs fr, B.get? b = none
  dicts : ∀ b ∈ frs fr, ∃ o es n, h'.get? b = some o ∧ o.data = .dict es n
  fly : Fly B fr x c h'

noncomputable abbrev TE := Env' → Sto → (PV → Sto → Prop) → (Addr → Sto → Prop) → Prop
inductive Fl where
  | next | brk | cont
  | ret (v : PV)
noncomputable abbrev TS := Env' → Sto → (Fl → Env' → Sto → Prop) → (Addr → Env' → Sto → Prop) → Prop

inductive PostE (g : Gx) (fr : List Env) (σ : Sto) (s : Shared) (Q : PV → Sto → Prop) (v : Value) (s' : Shared) : Prop
  | mk (h' : Heap) (tk : Nat) (p : PV) (σ' : Sto) : s' = { s with heap := h', toks := tk } → Step fr nobody σ s.heap σ' h' → Sim g.base h' σ' → Rep g.base h' v p → Q p σ' → PostE g fr σ s Q v s'
inductive PostX (g : Gx) (fr : List Env) (σ : Sto) (s : Shared) (X : Addr → Sto → Prop) (v : Value) (s' : Shared) : Prop
  | mk (h' : Heap) (tk : Nat) (x c : Addr) (σ' : Sto) (B : Heap) : v = .ref x → s' = { s with heap := h', toks := tk } → ExcB g fr nobody σ s.heap σ' B h' x c → X c σ' → PostX g fr σ s X v s'

noncomputable def owned (env : Env) : Addr → Prop := fun b => b = env.locals ∨ ∃ y, env.kindOf y = some .cell ∧ env.cells.lookup y = some b

inductive FlRep (base h : Heap) : Flow → Fl → Prop
  | next : FlRep base h .next .next
  | brk : FlRep base h .brk .brk
  | cont : FlRep base h .cont .cont
  | ret {v : Value} {p : PV} : Rep base h v p → FlRep base h (.ret v) (.ret p)

inductive PostS (g : Gx) (fr : List Env) (env : Env) (σ : Sto) (s : Shared) (Q : Fl → Env' → Sto → Prop) (f : Flow) (s' : Shared) : Prop
  | mk (h' : Heap) (tk : Nat) (fl : Fl) (ρ' : Env') (σ' : Sto) : s' = { s with heap := h', toks := tk } → Step fr (owned env) σ s.heap σ' h' → St g fr env ρ' σ' h' → FlRep g.base h' f fl → Q fl ρ' σ' → PostS g fr env σ s Q f s'
inductive PostXS (g : Gx) (fr : List Env) (env : Env) (σ : Sto) (s : Shared) (X : Addr → Env' → Sto → Prop) (v : Value) (s' : Shared) : Prop
  | mk (h' : Heap) (tk : Nat) (x c : Addr) (ρ' : Env') (σ' : Sto) (B : Heap) : v = .ref x → s' = { s with heap := h', toks := tk } → ExcB g fr (owned env) σ s.heap σ' B h' x c → Loc g.base B h' env ρ' → X c ρ' σ' → PostXS g fr env σ s X v s'

/-- an expression is told by a transformer -/
noncomputable def SoundE (g : Gx) (n : Nat) (q : Bool) (sc : Scope) (e : Expr) (t : TE) : Prop :=
  ∀ (A : Around) (fr : List Env) (env : Env), Cx g n q A fr env → env.scope = sc → ∀ (s : Shared) (ρ : Env') (σ : Sto) (Q : PV → Sto → Prop) (X : Addr → Sto → Prop),
    St g fr env ρ σ s.heap → t ρ σ Q X → wpAny g.M A (eval e env) (PostE g fr σ s Q) (PostX g fr σ s X) s

/-- several, from the left -/
noncomputable abbrev TEs := Env' → Sto → (List PV → Sto → Prop) → (Addr → Sto → Prop) → Prop

/-- a condition -/
noncomputable abbrev TB := Env' → Sto → (Bool → Sto → Prop) → (Addr → Sto → Prop) → Prop
inductive PostB (g : Gx) (fr : List Env) (σ : Sto) (s : Shared) (Q : Bool → Sto → Prop) (b : Bool) (s' : Shared) : Prop
  | mk (h' : Heap) (tk : Nat) (σ' : Sto) : s' = { s with heap := h', toks := tk } → Step fr nobody σ s.heap σ' h' → Sim g.base h' σ' → Q b σ' → PostB g fr σ s Q b s'
noncomputable def SoundB (g : Gx) (n : Nat) (q : Bool) (sc : Scope) (e : Expr) (t : TB) : Prop :=
  ∀ (A : Around) (fr : List Env) (env : Env), Cx g n q A fr env → env.scope = sc → ∀ (s : Shared) (ρ : Env') (σ : Sto) (Q : Bool → Sto → Prop) (X : Addr → Sto → Prop),
    St g fr env ρ σ s.heap → t ρ σ Q X → wpAny g.M A (isTrue e env (eval e env)) (PostB g fr σ s Q) (PostX g fr σ s X) s

noncomputable def SoundS (g : Gx) (n : Nat) (q : Bool) (sc : Scope) (st : Stmt) (t : TS) : Prop :=
  ∀ (A : Around) (outer : List Env) (env : Env), Cx g n q A (env :: outer) env → env.scope = sc → env.frame = some env.locals → ∀ (s : Shared) (ρ : Env') (σ : Sto) (Q : Fl → Env' → Sto → Prop) (X : Addr → Env' → Sto → Prop),
    St g (env :: outer) env ρ σ s.heap → t ρ σ Q X → wpAny g.M A (exec st env) (PostS g (env :: outer) env σ s Q) (PostXS g (env :: outer) env σ s X) s
noncomputable def SoundSs (g : Gx) (n : Nat) (q : Bool) (sc : Scope) (st : List Stmt) (t : TS) : Prop :=
  ∀ (A : Around) (outer : List Env) (env : Env), Cx g n q A (env :: outer) env → env.scope = sc → env.frame = some env.locals → ∀ (s : Shared) (ρ : Env') (σ : Sto) (Q : Fl → Env' → Sto → Prop) (X : Addr → Env' → Sto → Prop),
    St g (env :: outer) env ρ σ s.heap → t ρ σ Q X → wpAny g.M A (execs st env) (PostS g (env :: outer) env σ s Q) (PostXS g (env :: outer) env σ s X) s

/-! moving along -/
theorem IsCell.notIn {base h : Heap} {σ : Sto} (S : Sim base h σ) {c : Addr} {ov : Option Value} (hc : h.IsCell c ov) : σ c = none := by
  obtain ⟨o, ho, hd⟩ := hc
  cases q : σ c with
  | none => rfl
  | some ao =>
    have := S c ao q
    cases ao with
    | list xs => obtain ⟨vs, ⟨n, ho'⟩, _⟩ := this; rw [ho] at ho'; cases ho'; cases hd
    | raw o' => obtain ⟨ho', hd'⟩ := this; rw [ho] at ho'; cases ho'; rcases hd' with hd' | ⟨_, _, hd'⟩ | ⟨⟨_, hd'⟩, _⟩ <;> rw [hd] at hd' <;> cases hd'
theorem IsCell.notFr {base h : Heap} {fr : List Env} {σ : Sto} (H : Hp base fr σ h) {c : Addr} {ov : Option Value} (hc : h.IsCell c ov) : c ∉ frs fr := fun m => by
  obtain ⟨o, ho, hd⟩ := hc
  obtain ⟨o', es, n, ho', hd'⟩ := H.dicts c m
  rw [ho] at ho'; cases ho'; rw [hd] at hd'; cases hd'

theorem Ns.up {h h' : Heap} {a : Addr} {m : Str → Option Value} (hn : h.Ns a m) (k : ∀ o, h.get? a = some o → ∃ sl, h'.get? a = some { o with slots := sl }) : h'.Ns a m := by
  obtain ⟨o, es, ep, ho, hd, r⟩ := hn
  obtain ⟨sl, hs⟩ := k o ho
  exact ⟨_, es, ep, hs, hd, r⟩
theorem IsCell.up {h h' : Heap} {a : Addr} {ov : Option Value} (hn : h.IsCell a ov) (k : ∀ o, h.get? a = some o → ∃ sl, h'.get? a = some { o with slots := sl }) : h'.IsCell a ov := by
  obtain ⟨o, ho, hd⟩ := hn
  obtain ⟨sl, hs⟩ := k o ho
  exact ⟨_, hs, hd⟩

theorem St.step {g : Gx} {fr : List Env} {env : Env} {ρ : Env'} {σ σ' : Sto} {h h' : Heap} (H : St g fr env ρ σ h) (x : Step fr nobody σ h σ' h') (S : Sim g.base h' σ') : St g fr env ρ σ' h' := by
  have up : ∀ b o, h.get? b = some o → σ b = none → ∃ sl, h'.get? b = some { o with slots := sl } := fun b o e n => by
    by_cases m : b ∈ frs fr
    · exact x.frame b o e m id
    · exact ⟨o.slots, x.other b o e m id n⟩
  obtain ⟨hp, ⟨⟨m, hn, hm⟩, hc⟩, nl⟩ := H
  refine ⟨hp.step x S, ⟨⟨m, Ns.up hn fun o e => up _ o e nl, fun y p e k => ?_⟩, fun y k => ?_⟩, ?_⟩
  · obtain ⟨v, hv, r⟩ := hm y p e k
    exact ⟨v, hv, x.rep hp r⟩
  · obtain ⟨c, ov, h1, h2, h3⟩ := hc y k
    refine ⟨c, ov, h1, IsCell.up h2 fun o e => up _ o e (IsCell.notIn hp.sim h2), fun p e => ?_⟩
    obtain ⟨v, e1, r⟩ := h3 p e
    exact ⟨v, e1, x.rep hp r⟩
  · refine x.new _ nl id ?_
    obtain ⟨o, es, ep, ho, _⟩ := hn
    rw [ho]; simp

theorem ExcB.before {g : Gx} {fr : List Env} {own : Addr → Prop} {σ σ₁ σ₂ : Sto} {h h₁ B h₂ : Heap} {x c : Addr} (a : Step fr own σ h σ₁ h₁) (e : ExcB g fr own σ₁ h₁ σ₂ B h₂ x c) : ExcB g fr own σ h σ₂ B h₂ x c where
  other := fun b o e1 n1 n2 n3 => e.other b o (a.other b o e1 n1 n2 n3) n1 n2 (a.new b n3 n2 (by rw [e1]; simp))
  frame := fun b o e1 n1 n2 => by
    obtain ⟨sl, h1⟩ := a.frame b o e1 n1 n2
    obtain ⟨sl2, h2⟩ := e.frame b _ h1 n1 n2
    exact ⟨sl2, h2⟩
  sim := e.sim
  new := fun b n n2 e1 => by
    refine e.new b (a.new b n n2 e1) n2 ?_
    cases q : h.get? b with
    | none => exact absurd q e1
    | some o => obtain ⟨o1, h1⟩ := a.live b o q n2; rw [h1]; simp
  dom := fun b n => e.dom b (a.dom b n)
  stays := e.stays
  nofr := e.nofr
  dicts := e.dicts
  fly := e.fly
theorem ExcB.own {g : Gx} {fr : List Env} {own own' : Addr → Prop} {σ σ₂ : Sto} {h B h₂ : Heap} {x c : Addr} (e : ExcB g fr own σ h σ₂ B h₂ x c) (k : ∀ b, own b → own' b) : ExcB g fr own' σ h σ₂ B h₂ x c :=
  { e with other := fun b o e1 n1 n2 n3 => e.other b o e1 n1 (fun q => n2 (k b q)) n3, frame := fun b o e1 n1 n2 => e.frame b o e1 n1 (fun q => n2 (k b q)), new := fun a s n => e.new a s (fun q => n (k a q)) }

theorem PostE.up {g : Gx} {fr : List Env} {σ σ₁ : Sto} {s : Shared} {h₁ : Heap} {tk : Nat} {Q : PV → Sto → Prop} {v : Value} {s' : Shared} (a : Step fr nobody σ s.heap σ₁ h₁) (p : PostE g fr σ₁ { s with heap := h₁, toks := tk } Q v s') : PostE g fr σ s Q v s' := by
  obtain ⟨h', tk', p, σ', rfl, b, S, r, hq⟩ := p
  exact ⟨h', tk', p, σ', rfl, a.trans b, S, r, hq⟩
theorem PostB.up {g : Gx} {fr : List Env} {σ σ₁ : Sto} {s : Shared} {h₁ : Heap} {tk : Nat} {Q : Bool → Sto → Prop} {v : Bool} {s' : Shared} (a : Step fr nobody σ s.heap σ₁ h₁) (p : PostB g fr σ₁ { s with heap := h₁, toks := tk } Q v s') : PostB g fr σ s Q v s' := by
  obtain ⟨h', tk', σ', rfl, b, S, hq⟩ := p
  exact ⟨h', tk', σ', rfl, a.trans b, S, hq⟩
theorem PostX.up {g : Gx} {fr : List Env} {σ σ₁ : Sto} {s : Shared} {h₁ : Heap} {tk : Nat} {X : Addr → Sto → Prop} {v : Value} {s' : Shared} (a : Step fr nobody σ s.heap σ₁ h₁) (p : PostX g fr σ₁ { s with heap := h₁, toks := tk } X v s') : PostX g fr σ s X v s' := by
  obtain ⟨h', tk', x, c, σ', B, rfl, rfl, e, hx⟩ := p
  exact ⟨h', tk', x, c, σ', B, rfl, rfl, ExcB.before a e, hx⟩

/-- one step of an evaluation, then the rest -/
theorem bindE {g : Gx} {fr : List Env} {A : Around} {σ : Sto} {s : Shared} {t : Sem Value} {Q₁ : PV → Sto → Prop} {X : Addr → Sto → Prop} {f : Value → Shared → Prop}
    (h : wpAny g.M A t (PostE g fr σ s Q₁) (PostX g fr σ s X) s)
    (k : ∀ v h₁ tk p σ₁, Step fr nobody σ s.heap σ₁ h₁ → Sim g.base h₁ σ₁ → Rep g.base h₁ v p → Q₁ p σ₁ → f v { s with heap := h₁, toks := tk }) :
    wpAny g.M A t f (PostX g fr σ s X) s :=
  wpAny_mono h (fun v _ ⟨h', tk, p, σ', e, b, S, r, hq⟩ => e ▸ k v h' tk p σ' b S r hq) fun _ _ x => x

theorem doneE {g : Gx} {fr : List Env} {σ : Sto} {s : Shared} {Q : PV → Sto → Prop} {v : Value} {p : PV} {tk : Nat} (S : Sim g.base s.heap σ) (r : Rep g.base s.heap v p) (hq : Q p σ) : PostE g fr σ s Q v { s with toks := tk } :=
  ⟨s.heap, tk, p, σ, rfl, Step.refl, S, r, hq⟩

/-! names and constants -/
noncomputable def tName (x : Str) : TE := fun ρ σ Q _ => match ρ x with
  | some p => Q p σ
  | none => False
noncomputable def tConst (p : PV) : TE := fun _ σ Q _ => Q p σ

section
variable {g : Gx} {n : Nat} {q : Bool} {sc : Scope}
theorem sound_local {x : Str} {pos : Pos} (hl : sc.names.lookup x = some .local) (hd : (x == ("__debug__" : Str)) = false) : SoundE g n q sc (.Name x pos) (tName x) := by
  intro A fr env C hsc s ρ σ Q X H ht
  subst hsc
  unfold tName at ht
  split at ht
  · rename_i p hp
    obtain ⟨⟨m, hn, hm⟩, _⟩ := H.loc
    obtain ⟨v, hv, r⟩ := hm x p hp hl
    exact wpAny_Name (wpAny_loadName_local C.kind hl hn hv (doneE (tk := s.toks) H.hp.sim r ht)) hd
  · exact ht.elim
theorem sound_cell {x : Str} {pos : Pos} (hl : sc.names.lookup x = some .cell) (hd : (x == ("__debug__" : Str)) = false) : SoundE g n q sc (.Name x pos) (tName x) := by
  intro A fr env C hsc s ρ σ Q X H ht
  subst hsc
  unfold tName at ht
  split at ht
  · rename_i p hp
    obtain ⟨c, ov, h1, h2, h3⟩ := H.loc.cell x hl
    obtain ⟨v, rfl, r⟩ := h3 p hp
    exact wpAny_Name (wpAny_loadName_cell C.kind hl h1 h2 (doneE (tk := s.toks) H.hp.sim r ht)) hd
  · exact ht.elim
theorem sound_int {i : Int} {k : Nat} {pos : Pos} : SoundE g n q sc (.Constant (.int i) k pos) (tConst (.int i)) := by
  intro A fr env C hsc s ρ σ Q X H ht
  exact wpAny_Constant_int (doneE H.hp.sim (.int _ _) ht)
theorem sound_str {x : Str} {k : Nat} {pos : Pos} : SoundE g n q sc (.Constant (.str x) k pos) (tConst (.str x)) := by
  intro A fr env C hsc s ρ σ Q X H ht
  exact wpAny_mkText (doneE H.hp.sim (.str _ _) ht)
theorem sound_bool {b : Bool} {k : Nat} {pos : Pos} : SoundE g n q sc (.Constant (.bool b) k pos) (tConst (.bool b)) := by
  intro A fr env C hsc s ρ σ Q X H ht
  exact wpAny_pure (doneE (tk := s.toks) H.hp.sim (.bool _) ht)
theorem sound_none {k : Nat} {pos : Pos} : SoundE g n q sc (.Constant .none k pos) (tConst .none) := by
  intro A fr env C hsc s ρ σ Q X H ht
  exact wpAny_pure (doneE (tk := s.toks) H.hp.sim .none ht)
end
end Mine

set_option autoImplicit false
namespace Mine
open PySem PyProof.Rows

noncomputable def setL (ρ : Env') (x : Str) (p : PV) : Env' := fun y => if y = x then some p else ρ y

/-- one own object turned -/
theorem turned {base h h' : Heap} {fr : List Env} {own : Addr → Prop} {σ : Sto} {a : Addr} (H : Hp base fr σ h) (ho : own a) (hs : Heap.SameBut a h h') (hsz : ∃ o', h'.get? a = some o' ∧ ((∃ es n, o'.data = .dict es n) ∨ ((∃ ov, o'.data = .cell ov) ∧ a ∉ frs fr)))
    (hb : base.get? a = none) (hσ : σ a = none) (hf : ∀ o, h.get? a = some o → ¬ Firm o) : Step fr own σ h σ h' ∧ Hp base fr σ h' ∧ (∀ {v : Value} {p : PV}, Rep base h v p → Rep base h' v p) := by
  have firm : ∀ b o, h.get? b = some o → Firm o → h'.get? b = some o := fun b o e f => by
    have : b ≠ a := by rintro rfl; exact hf o e f
    exact (hs.2 b this).trans e
  refine ⟨⟨fun b o e _ n _ => ?_, fun b o e _ n => ?_, fun b o e n => ?_, fun _ e _ _ => e, fun _ e => e⟩, ⟨fun b o e => ?_, ?_, ?_, H.fresh, fun b m => ?_⟩, fun r => r.mono firm⟩
  · exact (hs.2 b (by rintro rfl; exact n ho)).trans e
  · exact ⟨o.slots, (hs.2 b (by rintro rfl; exact n ho)).trans e⟩
  · by_cases q : b = a
    · subst q; obtain ⟨o', h1, _⟩ := hsz; exact ⟨o', h1⟩
    · exact ⟨o, (hs.2 b q).trans e⟩
  · exact (hs.2 b (by rintro rfl; rw [hb] at e; cases e)).trans (H.stays b o e)
  · refine funFrames_step H.frames fun b o e d m => ?_
    by_cases q : b = a
    · subst q
      obtain ⟨o', h1, h2⟩ := hsz
      refine ⟨o', h1, fun vs z => ?_⟩
      rcases h2 with ⟨es, n, h2⟩ | ⟨⟨ov, h2⟩, _⟩ <;> rw [h2] at z <;> cases z
    · exact ⟨o, (hs.2 b q).trans e, d⟩
  · intro c ao e
    have hne : c ≠ a := by rintro rfl; rw [hσ] at e; cases e
    have := H.sim c ao e
    cases ao with
    | list xs =>
      obtain ⟨vs, ⟨m, h1⟩, r⟩ := this
      exact ⟨vs, ⟨m, (hs.2 c hne).trans h1⟩, r.mono firm⟩
    | raw o => exact ⟨(hs.2 c hne).trans this.1, this.2⟩
  · by_cases q : b = a
    · subst q
      obtain ⟨o', h1, h2⟩ := hsz
      rcases h2 with ⟨es, n, h2⟩ | ⟨_, h2⟩
      · exact ⟨o', es, n, h1, h2⟩
      · exact absurd m h2
    · obtain ⟨o, es, n, h1, h2⟩ := H.dicts b m
      exact ⟨o, es, n, (hs.2 b q).trans h1, h2⟩

theorem store {g : Gx} {n : Nat} {q : Bool} {A : Around} {fr : List Env} {env : Env} {s : Shared} {ρ : Env'} {σ : Sto} {x : Str} {v : Value} {p : PV} {E : Value → Shared → Prop} {Q : Unit → Shared → Prop} (C : Cx g n q A fr env) (H : St g fr env ρ σ s.heap)
    (hx : env.kindOf x = some .local ∨ env.kindOf x = some .cell) (r : Rep g.base s.heap v p)
    (k : ∀ h' tk, Step fr (owned env) σ s.heap σ h' → St g fr env (setL ρ x p) σ h' → Q () { s with heap := h', toks := tk }) : wpAny g.M A (storeName env x v) Q E s := by
  obtain ⟨hp, ⟨⟨m, hn, hm⟩, hc⟩, nl⟩ := H
  have hLd : ∀ o, s.heap.get? env.locals = some o → ¬ Firm o := fun o e => by
    obtain ⟨o', es, ep, ho, hd, _⟩ := hn
    rw [e] at ho; cases ho; exact notFirm_dict hd
  rcases hx with hx | hx
  · refine wpAny_storeName_local hx hn (fun h' hn' hs' => ?_) (by rw [C.kind]; rfl)
    have hsz : ∃ o', h'.get? env.locals = some o' ∧ ((∃ es n, o'.data = .dict es n) ∨ ((∃ ov, o'.data = .cell ov) ∧ env.locals ∉ frs fr)) := by
      obtain ⟨o', es, ep, ho, hd, _⟩ := hn'
      exact ⟨o', ho, .inl ⟨es, ep, hd⟩⟩
    obtain ⟨S1, H1, R1⟩ := turned (own := owned env) hp (.inl rfl) hs' hsz C.nbase nl hLd
    refine k h' _ S1 ⟨H1, ⟨⟨_, hn', fun y p' e k' => ?_⟩, fun y k' => ?_⟩, nl⟩
    · unfold setL at e
      by_cases hy : y = x
      · subst hy
        rw [if_pos rfl] at e; cases e
        exact ⟨v, by rw [if_pos rfl], R1 r⟩
      · rw [if_neg hy] at e
        obtain ⟨w, h1, h2⟩ := hm y p' e k'
        exact ⟨w, by rw [if_neg hy]; exact h1, R1 h2⟩
    · obtain ⟨c, ov, h1, h2, h3⟩ := hc y k'
      have hcl : c ≠ env.locals := by
        rintro rfl
        obtain ⟨o, ho, hd⟩ := h2
        obtain ⟨o', es, ep, ho', hd', _⟩ := hn
        rw [ho] at ho'; cases ho'; rw [hd] at hd'; cases hd'
      refine ⟨c, ov, h1, h2.sameBut hs' hcl, fun p' e => ?_⟩
      have hy : y ≠ x := by rintro rfl; rw [hx] at k'; cases k'
      unfold setL at e
      rw [if_neg hy] at e
      obtain ⟨w, h4, h5⟩ := h3 p' e
      exact ⟨w, h4, R1 h5⟩
  · obtain ⟨c, ov, h1, h2, _⟩ := hc x hx
    refine wpAny_storeName_cell C.kind hx h1 h2 fun h' hc' hs' => ?_
    have hnf := IsCell.notFr hp h2
    have hsz : ∃ o', h'.get? c = some o' ∧ ((∃ es n, o'.data = .dict es n) ∨ ((∃ ov, o'.data = .cell ov) ∧ c ∉ frs fr)) := by
      obtain ⟨o', ho, hd⟩ := hc'
      exact ⟨o', ho, .inr ⟨⟨_, hd⟩, hnf⟩⟩
    have hcf : ∀ o, s.heap.get? c = some o → ¬ Firm o := fun o e => by
      obtain ⟨o', ho, hd⟩ := h2
      rw [e] at ho; cases ho; exact notFirm_cell hd
    obtain ⟨S1, H1, R1⟩ := turned (own := owned env) hp (.inr ⟨x, hx, h1⟩) hs' hsz (C.cbase _ _ h1) (IsCell.notIn hp.sim h2) hcf
    have hcl : env.locals ≠ c := by
      rintro e
      obtain ⟨o, ho, hd⟩ := h2
      obtain ⟨o', es, ep, ho', hd', _⟩ := hn
      rw [← e, ho'] at ho; cases ho; rw [hd'] at hd; cases hd
    refine k h' s.toks S1 ⟨H1, ⟨⟨m, hn.sameBut hs' hcl, fun y p' e k' => ?_⟩, fun y k' => ?_⟩, nl⟩
    · have hy : y ≠ x := by rintro rfl; rw [hx] at k'; cases k'
      unfold setL at e
      rw [if_neg hy] at e
      obtain ⟨w, h3, h4⟩ := hm y p' e k'
      exact ⟨w, h3, R1 h4⟩
    · by_cases hy : y = x
      · subst hy
        refine ⟨c, some v, h1, hc', fun p' e => ?_⟩
        unfold setL at e
        rw [if_pos rfl] at e; cases e
        exact ⟨v, rfl, R1 r⟩
      · obtain ⟨c', ov', h3, h4, h5⟩ := hc y k'
        have hne : c' ≠ c := by rintro rfl; exact hy (C.inj y x _ h3 h1)
        refine ⟨c', ov', h3, h4.sameBut hs' hne, fun p' e => ?_⟩
        unfold setL at e
        rw [if_neg hy] at e
        obtain ⟨w, h6, h7⟩ := h5 p' e
        exact ⟨w, h6, R1 h7⟩

theorem PostS.up {g : Gx} {fr : List Env} {env : Env} {σ σ₁ : Sto} {s : Shared} {h₁ : Heap} {tk : Nat} {Q : Fl → Env' → Sto → Prop} {f : Flow} {s' : Shared} (a : Step fr (owned env) σ s.heap σ₁ h₁) (p : PostS g fr env σ₁ { s with heap := h₁, toks := tk } Q f s') : PostS g fr env σ s Q f s' := by
  obtain ⟨h', tk', fl, ρ', σ', rfl, b, S, r, hq⟩ := p
  exact ⟨h', tk', fl, ρ', σ', rfl, a.trans b, S, r, hq⟩
theorem PostXS.up {g : Gx} {fr : List Env} {env : Env} {σ σ₁ : Sto} {s : Shared} {h₁ : Heap} {tk : Nat} {X : Addr → Env' → Sto → Prop} {v : Value} {s' : Shared} (a : Step fr (owned env) σ s.heap σ₁ h₁) (p : PostXS g fr env σ₁ { s with heap := h₁, toks := tk } X v s') : PostXS g fr env σ s X v s' := by
  obtain ⟨h', tk', x, c, ρ', σ', B, rfl, rfl, e, l, hx⟩ := p
  exact ⟨h', tk', x, c, ρ', σ', B, rfl, rfl, ExcB.before a e, l, hx⟩

theorem ExcB.loc {g : Gx} {fr : List Env} {env : Env} {ρ : Env'} {σ σ' : Sto} {h B h' : Heap} {x c : Addr} (H : St g fr env ρ σ h) (e : ExcB g fr nobody σ h σ' B h' x c) (hL : env.locals ∈ frs fr) : Loc g.base B h' env ρ := by
  obtain ⟨hp, ⟨⟨m, hn, hm⟩, hc⟩, nl⟩ := H
  have firm : ∀ b o, h.get? b = some o → Firm o → B.get? b = some o := fun b o e1 f => e.other b o e1 (hp.firm e1 f).1 id (hp.firm e1 f).2
  refine ⟨⟨m, Ns.up hn fun o h1 => e.frame _ o h1 hL id, fun y p h1 h2 => ?_⟩, fun y k => ?_⟩
  · obtain ⟨v, h3, h4⟩ := hm y p h1 h2
    exact ⟨v, h3, h4.mono firm⟩
  · obtain ⟨c', ov, h1, h2, h3⟩ := hc y k
    refine ⟨c', ov, h1, IsCell.up h2 fun o h4 => ⟨o.slots, e.other _ o h4 (IsCell.notFr hp h2) id (IsCell.notIn hp.sim h2)⟩, fun p h4 => ?_⟩
    obtain ⟨v, h5, h6⟩ := h3 p h4
    exact ⟨v, h5, h6.mono firm⟩

theorem PostX.stmt {g : Gx} {outer : List Env} {env : Env} {ρ : Env'} {σ : Sto} {s : Shared} {X : Addr → Env' → Sto → Prop} {v : Value} {s' : Shared} (H : St g (env :: outer) env ρ σ s.heap) (hf : env.frame = some env.locals) (p : PostX g (env :: outer) σ s (fun c σ' => X c ρ σ') v s') : PostXS g (env :: outer) env σ s X v s' := by
  obtain ⟨h', tk, x, c, σ', B, rfl, rfl, e, hx⟩ := p
  exact ⟨h', tk, x, c, ρ, σ', B, rfl, rfl, e.own (fun _ z => z.elim), ExcB.loc H e (List.mem_filterMap.mpr ⟨env, .head _, hf⟩), hx⟩

/-- an expression's evaluation inside a statement -/
theorem stmtE {g : Gx} {outer : List Env} {env : Env} {A : Around} {ρ : Env'} {σ : Sto} {s : Shared} {t : Sem Value} {Q₁ : PV → Sto → Prop} {X : Addr → Env' → Sto → Prop} {f : Value → Shared → Prop} (H : St g (env :: outer) env ρ σ s.heap) (hf : env.frame = some env.locals)
    (h : wpAny g.M A t (PostE g (env :: outer) σ s Q₁) (PostX g (env :: outer) σ s fun c σ' => X c ρ σ') s)
    (k : ∀ v h₁ tk p σ₁, Step (env :: outer) nobody σ s.heap σ₁ h₁ → St g (env :: outer) env ρ σ₁ h₁ → Rep g.base h₁ v p → Q₁ p σ₁ → f v { s with heap := h₁, toks := tk }) :
    wpAny g.M A t f (PostXS g (env :: outer) env σ s X) s :=
  wpAny_mono h (fun v _ ⟨h', tk, p, σ', e, b, S, r, hq⟩ => e ▸ k v h' tk p σ' b (H.step b S) r hq) fun _ _ x => x.stmt H hf
theorem stmtB {g : Gx} {outer : List Env} {env : Env} {A : Around} {ρ : Env'} {σ : Sto} {s : Shared} {t : Sem Bool} {Q₁ : Bool → Sto → Prop} {X : Addr → Env' → Sto → Prop} {f : Bool → Shared → Prop} (H : St g (env :: outer) env ρ σ s.heap) (hf : env.frame = some env.locals)
    (h : wpAny g.M A t (PostB g (env :: outer) σ s Q₁) (PostX g (env :: outer) σ s fun c σ' => X c ρ σ') s)
    (k : ∀ b h₁ tk σ₁, Step (env :: outer) nobody σ s.heap σ₁ h₁ → St g (env :: outer) env ρ σ₁ h₁ → Q₁ b σ₁ → f b { s with heap := h₁, toks := tk }) :
    wpAny g.M A t f (PostXS g (env :: outer) env σ s X) s :=
  wpAny_mono h (fun v _ ⟨h', tk, σ', e, b, S, hq⟩ => e ▸ k v h' tk σ' b (H.step b S) hq) fun _ _ x => x.stmt H hf
theorem noOwn {fr : List Env} {own : Addr → Prop} {σ σ₁ : Sto} {h h₁ : Heap} (x : Step fr nobody σ h σ₁ h₁) : Step fr own σ h σ₁ h₁ := x.own fun _ z => z.elim

/-! statements -/
noncomputable def tNil : TS := fun ρ σ Q _ => Q .next ρ σ
noncomputable def tSeq (a b : TS) : TS := fun ρ σ Q X => a ρ σ (fun f ρ' σ' => match f with
  | .next => b ρ' σ' Q X
  | f => Q f ρ' σ') X
noncomputable def tSet (x : Str) (e : TE) : TS := fun ρ σ Q X => e ρ σ (fun p σ' => Q .next (setL ρ x p) σ') (fun c σ' => X c ρ σ')
noncomputable def tIf (b : TB) (t e : TS) : TS := fun ρ σ Q X => b ρ σ (fun r σ' => if r = true then t ρ σ' Q X else e ρ σ' Q X) (fun c σ' => X c ρ σ')
noncomputable def tRet (e : TE) : TS := fun ρ σ Q X => e ρ σ (fun p σ' => Q (.ret p) ρ σ') (fun c σ' => X c ρ σ')
noncomputable def tExpr (e : TE) : TS := fun ρ σ Q X => e ρ σ (fun _ σ' => Q .next ρ σ') (fun c σ' => X c ρ σ')

section
variable {g : Gx} {n : Nat} {q : Bool} {sc : Scope}
theorem sound_nil : SoundSs g n q sc [] tNil := by
  intro A outer env C hsc hf s ρ σ Q X H ht
  exact wpAny_execs_nil ⟨s.heap, s.toks, .next, ρ, σ, rfl, Step.refl, H, .next, ht⟩
theorem sound_cons {st : Stmt} {rest : List Stmt} {a b : TS} (h1 : SoundS g n q sc st a) (h2 : SoundSs g n q sc rest b) : SoundSs g n q sc (st :: rest) (tSeq a b) := by
  intro A outer env C hsc hf s ρ σ Q X H ht
  refine wpAny_execs_cons (wpAny_mono (h1 A outer env C hsc hf s ρ σ _ X H ht) (fun f s' hp => ?_) fun _ _ x => x)
  obtain ⟨h', tk, fl, ρ', σ', rfl, S1, H1, r, hq⟩ := hp
  cases r with
  | next =>
    exact wpAny_mono (h2 A outer env C hsc hf { s with heap := h', toks := tk } ρ' σ' Q X H1 hq) (fun _ _ x => x.up S1) fun _ _ x => x.up S1
  | brk => exact ⟨h', tk, .brk, ρ', σ', rfl, S1, H1, .brk, hq⟩
  | cont => exact ⟨h', tk, .cont, ρ', σ', rfl, S1, H1, .cont, hq⟩
  | ret r => exact ⟨h', tk, _, ρ', σ', rfl, S1, H1, .ret r, hq⟩
theorem sound_set {x : Str} {e : Expr} {pos' pos : Pos} {t : TE} (he : SoundE g n q sc e t) (hx : sc.names.lookup x = some .local ∨ sc.names.lookup x = some .cell)
    (hs : ∀ env : Env, env.scope = sc → swapsWith e (some (.Name x pos')) pos.line env = pure false) : SoundS g n q sc (.Assign [.Name x pos'] e pos) (tSet x t) := by
  intro A outer env C hsc hf s ρ σ Q X H ht
  have hx' : env.kindOf x = some .local ∨ env.kindOf x = some .cell := by subst hsc; exact hx
  refine wpAny_Assign_Name (stmtE H hf (he A _ env C hsc s ρ σ _ _ H ht) fun v h₁ tk p σ₁ S1 H1 r hq => ?_) (hs env hsc)
  exact store C H1 hx' r fun h' tk' S2 H2 => ⟨h', tk', .next, _, σ₁, rfl, (noOwn S1).trans S2, H2, .next, hq⟩
theorem sound_if {test : Expr} {body orelse : List Stmt} {pos : Pos} {b : TB} {t e : TS} (hb : SoundB g n q sc test b) (h1 : SoundSs g n q sc body t) (h2 : SoundSs g n q sc orelse e) : SoundS g n q sc (.If test body orelse pos) (tIf b t e) := by
  intro A outer env C hsc hf s ρ σ Q X H ht
  refine wpAny_If (stmtB H hf (hb A _ env C hsc s ρ σ _ _ H ht) fun r h₁ tk σ₁ S1 H1 hq => ?_)
  cases r with
  | true => exact wpAny_mono (h1 A outer env C hsc hf { s with heap := h₁, toks := tk } ρ σ₁ Q X H1 (by simpa using hq)) (fun _ _ x => x.up (noOwn S1)) fun _ _ x => x.up (noOwn S1)
  | false => exact wpAny_mono (h2 A outer env C hsc hf { s with heap := h₁, toks := tk } ρ σ₁ Q X H1 (by simpa using hq)) (fun _ _ x => x.up (noOwn S1)) fun _ _ x => x.up (noOwn S1)
theorem sound_ret {e : Expr} {pos : Pos} {t : TE} (he : SoundE g n q sc e t) : SoundS g n q sc (.Return (some e) pos) (tRet t) := by
  intro A outer env C hsc hf s ρ σ Q X H ht
  refine wpAny_Return_some (stmtE H hf (he A _ env C hsc s ρ σ _ _ H ht) fun v h₁ tk p σ₁ S1 H1 r hq => ?_)
  exact ⟨h₁, tk, .ret p, ρ, σ₁, rfl, noOwn S1, H1, .ret r, hq⟩
end
end Mine

set_option autoImplicit false
namespace Mine
open PySem PyProof.Rows

noncomputable def Held (B : Heap) (env : Env) (outer : List Env) (x c : Addr) (h' : Heap) : Prop :=
  B.StaysIn h' ∧ h'.FunFrames B (env :: outer) ∧ B.get? x = none ∧ ∃ a0 L, env.frame = some L ∧ h'.TracedAtW B x (.ref c) a0 (rawInt L)
noncomputable def Flown (B : Heap) (fr : List Env) (x c : Addr) (h' : Heap) : Prop := B.StaysIn h' ∧ h'.FunFrames B fr ∧ B.get? x = none ∧ ∃ a0, h'.TracedW B x (.ref c) a0
theorem Held.fly {B : Heap} {env : Env} {outer : List Env} {x c : Addr} {h' : Heap} (H : Held B env outer x c h') : Fly B (env :: outer) x c h' := by
  obtain ⟨h1, h2, h3, a0, L, h4, h5⟩ := H
  exact ⟨h1, h2, h3, .inr (.inr ⟨a0, L, env, outer, rfl, h4, h5⟩)⟩
theorem Flown.fly {B : Heap} {fr : List Env} {x c : Addr} {h' : Heap} (H : Flown B fr x c h') : Fly B fr x c h' := by
  obtain ⟨h1, h2, h3, h4⟩ := H
  exact ⟨h1, h2, h3, .inr (.inl h4)⟩

section
variable {M : Model} {A : Around} {E : Value → Shared → Prop} {s : Shared} {B : Heap} {env : Env} {outer : List Env} {L x c : Addr} {Q : Unit → Shared → Prop}
theorem Fly.note (hfr : A.frames = some (env :: outer)) (hf : env.frame = some L) (F : Fly B (env :: outer) x c s.heap)
    (k : ∀ h', Held B env outer x c h' → s.heap.UpToSlots h' → Q () { s with heap := h' }) : wpAny M A (noteFrame (.ref x) env) Q E s := by
  obtain ⟨h1, h2, h3, h4⟩ := F
  rcases h4 with ⟨t, o, ho, hc, hd⟩ | ⟨a0, ht⟩ | ⟨a0, L', env', outer', e1, e2, ht⟩
  · unfold noteFrame
    simp only [hf]
    refine wpAny_bind (wpAny_field ho hd (x := .none) rfl ?_)
    rw [if_neg (by decide)]
    refine wpAny_entryW (a0 := .ref t) hfr h2 hf ho h1 h3 hd (by simp) rfl fun h' hN => ?_
    obtain ⟨k1, k2, k3, k4⟩ := hN
    rw [hc] at k3
    exact k h' ⟨k1, k2, h3, _, L, hf, k3⟩ k4
  · refine wpAny_noteFrame_onW hfr h2 hf ht h1 h3 fun h' hN => ?_
    obtain ⟨k1, k2, k3, k4⟩ := hN
    exact k h' ⟨k1, k2, h3, a0, L, hf, k3⟩ k4
  · cases e1
    rw [hf] at e2; cases e2
    exact wpAny_noteFrame_againW hf ht (k s.heap ⟨h1, h2, h3, a0, L, hf, ht⟩ (.refl _))
theorem Held.land (H : Held B env outer x c s.heap) (k : ∀ h', Flown B (env :: outer) x c h' → s.heap.UpToSlots h' → Q () { s with heap := h' }) : wpAny M A (setFlight (.ref x) none) Q E s := by
  obtain ⟨h1, h2, h3, a0, L, hf, ht⟩ := H
  exact wpAny_setFlight_noneW h1 h2 ht fun h' k1 k2 k3 k4 => k h' ⟨k1, k2, h3, a0, k3⟩ fun b o hb hn => ⟨o.slots, k4 b o hb hn⟩
theorem Flown.land {fr : List Env} (H : Flown B fr x c s.heap) (k : ∀ h', Flown B fr x c h' → s.heap.UpToSlots h' → Q () { s with heap := h' }) : wpAny M A (setFlight (.ref x) none) Q E s := by
  obtain ⟨h1, h2, h3, a0, ht⟩ := H
  exact wpAny_setFlight_noneW h1 h2 ht.at fun h' k1 k2 k3 k4 => k h' ⟨k1, k2, h3, a0, k3⟩ fun b o hb hn => ⟨o.slots, k4 b o hb hn⟩
theorem Flown.tail (H : Flown B (env :: outer) x c s.heap) : Flown B outer x c s.heap := by
  obtain ⟨h1, ⟨_, _, h2⟩, h3, h4⟩ := H
  exact ⟨h1, h2, h3, h4⟩
theorem Fly.leave (hfr : A.frames = some (env :: outer)) (hf : env.frame = some L) (F : Fly B (env :: outer) x c s.heap)
    (k : ∀ h', Flown B outer x c h' → s.heap.UpToSlots h' → Q () { s with heap := h' }) : wpAny M A (leaving env (.ref x)) Q E s := by
  unfold leaving
  refine wpAny_bind (F.note hfr hf fun h' H1 u1 => ?_)
  exact Held.land (s := { s with heap := h' }) H1 fun h'' H2 u2 => k h'' (Flown.tail (s := { s with heap := h'' }) H2) (u1.trans u2)
theorem Held.back {E : Value → Shared → Prop} (H : Held B env outer x c s.heap) (k : ∀ h', Held B env outer x c h' → s.heap.UpToSlots h' → E (.ref x) { s with heap := h' }) : cameBackBy M A env E (.ref x) s := by
  obtain ⟨hkb, hl, hen, a0, L, hf, oe, vs, T, oT, ts, he, hcls, hd, h1, hnT, hTe, hT, hdT, h3⟩ := H
  have hsz3 : 3 < ts.size := (Array.getElem?_eq_some_iff.mp h3).1
  have other : ∀ b, b ≠ T → (s.heap.update T (Obj.mapFields (·.setIfInBounds 3 ((some L).elim Value.none fun f => rawInt f)))).get? b = s.heap.get? b :=
    fun b hb => Heap.get?_update_other _ _ (Ne.symm hb)
  have noRecord : ∀ b o, s.heap.get? b = some o → (∀ vs, o.data ≠ .fields vs) → b ≠ T := fun b o hb hnf q => by
    rw [q, hT] at hb; injection hb with hb; subst hb; exact hnf ts hdT
  unfold cameBackBy
  refine wpAny_bind (wpAny_field he hd h1 ?_)
  rw [if_neg (show ¬ ((Value.ref T == Value.none) = true) from by simp), hf]
  unfold setFlight
  refine wpAny_bind (wpAny_field he hd h1 ?_)
  rw [if_pos (show (Value.ref T != Value.none) = true from by simp)]
  refine wpAny_setField hT hdT hsz3 (k _ ⟨fun b o hbo => (other b fun q => by rw [q, hnT] at hbo; cases hbo).trans (hkb b o hbo),
    hl.of_keeps fun b o hb hnf => ⟨o, (other b (noRecord b o hb hnf)).trans hb, rfl⟩, hen, a0, L, hf, ?_⟩ fun b o hb hnf => ⟨o.slots, (other b (noRecord b o hb hnf)).trans hb⟩)
  exact ⟨oe, vs, T, _, _, (other x (Ne.symm hTe)).trans he, hcls, hd, h1, hnT, hTe, Heap.get?_update_self _ hT (Obj.isFreed_of_fields (Obj.data_mapFields hdT _)), Obj.data_mapFields hdT _, by simp [hsz3]⟩
end

theorem ExcB.turn {g : Gx} {fr : List Env} {own : Addr → Prop} {σ σ' : Sto} {h B h' h'' : Heap} {x c : Addr} (e : ExcB g fr own σ h σ' B h' x c) (u : h'.UpToSlots h'') (F : Fly B fr x c h'') : ExcB g fr own σ h σ' B h'' x c :=
  { e with
    frame := fun b o e1 n1 n2 => by
      obtain ⟨sl, h1⟩ := e.frame b o e1 n1 n2
      obtain ⟨o', es, n, h2, h3⟩ := e.dicts b n1
      rw [h1] at h2; cases h2
      obtain ⟨sl2, h4⟩ := u b _ h1 (fun vs q => by rw [h3] at q; cases q)
      exact ⟨sl2, h4⟩
    dicts := fun b n1 => by
      obtain ⟨o', es, n, h2, h3⟩ := e.dicts b n1
      obtain ⟨sl2, h4⟩ := u b _ h2 (fun vs q => by rw [h3] at q; cases q)
      exact ⟨_, es, n, h4, h3⟩
    fly := F }
theorem Loc.turn {base B h' h'' : Heap} {env : Env} {ρ : Env'} (l : Loc base B h' env ρ) (u : h'.UpToSlots h'') : Loc base B h'' env ρ :=
  ⟨let ⟨m, h1, h2⟩ := l.ns; ⟨m, u.ns h1, h2⟩, l.cell⟩

noncomputable abbrev TF := List PV → Sto → (PV → Sto → Prop) → (Addr → Sto → Prop) → Prop
noncomputable def SoundF (g : Gx) (n : Nat) (q : Bool) (f : Addr) (T : TF) : Prop :=
  ∀ (A : Around) (fr : List Env) (s : Shared) (vals : List Value) (ps : List PV) (σ : Sto) (Q : PV → Sto → Prop) (X : Addr → Sto → Prop), A.frames = some fr → Room n A → (q = true → A.handled = none) →
    Hp g.base fr σ s.heap → Reps g.base s.heap vals ps → T ps σ Q X → wpAny g.M A (call (.ref f) vals) (PostE g fr σ s Q) (PostX g fr σ s X) s

noncomputable def SoundFc (g : Gx) (n : Nat) (q : Bool) (f : Addr) (T : TF) : Prop :=
  ∀ (A : Around) (fr : List Env) (s : Shared) (vals : List Value) (ps : List PV) (σ : Sto) (Q : PV → Sto → Prop) (X : Addr → Sto → Prop), A.frames = some fr → Room n A → (q = true → A.handled = none) →
    Hp g.base fr σ s.heap → Reps g.base s.heap vals ps → T ps σ Q X → codeAny g.M A (.call (.ref f) ⟨vals, []⟩) (fun r s' => match r with | .ok (.ret v) => PostE g fr σ s Q v s' | .ok _ => False | .error e => PostX g fr σ s X e s') s
theorem SoundFc.call {g : Gx} {n : Nat} {q : Bool} {f : Addr} {T : TF} (h : SoundFc g n q f T) : SoundF g n q f T := fun A fr s vals ps σ Q X h1 h2 h3 h4 h5 h6 => wpAny_call (h A fr s vals ps σ Q X h1 h2 h3 h4 h5 h6)

noncomputable def bindP : List Str → List PV → Env' → Env'
  | x :: xs, p :: ps, ρ => bindP xs ps (setL ρ x p)
  | _, _, ρ => ρ
noncomputable def tFun (names : List Str) (tb : TS) : TF := fun ps σ Q X => ps.length = names.length ∧ tb (bindP names ps fun _ => none) σ (fun fl _ σ' => match fl with
  | .ret p => Q p σ'
  | .next => Q .none σ'
  | _ => False) (fun c _ σ' => X c σ')

theorem bindP_rep {base h : Heap} {kindOf : Str → Option NameKind} : ∀ (names : List Str) (vals : List Value) (ps : List PV) (ρ : Env') (m cm : Str → Option Value), Reps base h vals ps →
    (∀ x ∈ names, kindOf x = some .local ∨ kindOf x = some .cell) →
    (∀ x p, ρ x = some p → (kindOf x = some .local → ∃ v, m x = some v ∧ Rep base h v p) ∧ (kindOf x = some .cell → ∃ v, cm x = some v ∧ Rep base h v p)) →
    ∀ x p, bindP names ps ρ x = some p → (kindOf x = some .local → ∃ v, bindL kindOf (names.zip vals) m x = some v ∧ Rep base h v p) ∧ (kindOf x = some .cell → ∃ v, bindC kindOf (names.zip vals) cm x = some v ∧ Rep base h v p)
  | [], vals, ps, ρ, m, cm, _, _, inv, x, p, e => inv x p e
  | y :: ys, [], ps, ρ, m, cm, r, _, inv, x, p, e => by cases r; exact inv x p e
  | y :: ys, v :: vs, ps, ρ, m, cm, r, hk, inv, x, p, e => by
    cases r with
    | cons a r =>
      rename_i p₀ ps
      rw [List.zip_cons_cons]
      unfold bindL bindC
      refine bindP_rep ys vs ps (setL ρ y p₀) _ _ r (fun z hz => hk z (.tail _ hz)) (fun z pz ez => ?_) x p e
      unfold setL at ez
      by_cases hz : z = y
      · subst hz
        rw [if_pos rfl] at ez; cases ez
        refine ⟨fun kl => ⟨v, by rw [if_pos kl, if_pos rfl], a⟩, fun kc => ⟨v, by rw [if_neg (by rw [kc]; decide), if_pos rfl], a⟩⟩
      · rw [if_neg hz] at ez
        obtain ⟨i1, i2⟩ := inv z pz ez
        refine ⟨fun kl => ?_, fun kc => ?_⟩
        · obtain ⟨w, h1, h2⟩ := i1 kl
          refine ⟨w, ?_, h2⟩
          split
          · show (if z = y then _ else _) = _; rw [if_neg hz]; exact h1
          · exact h1
        · obtain ⟨w, h1, h2⟩ := i2 kc
          refine ⟨w, ?_, h2⟩
          split
          · exact h1
          · show (if z = y then _ else _) = _; rw [if_neg hz]; exact h1

theorem frs_cons {env : Env} {outer : List Env} {L : Addr} (h : env.frame = some L) : frs (env :: outer) = L :: frs outer := by
  unfold frs; rw [List.filterMap_cons, h]

theorem fresh_size {h : Heap} {b : Addr} (hb : h.objs.size ≤ b) : h.get? b = none := by
  cases q : h.get? b with
  | none => rfl
  | some o => exact absurd (Heap.lt_size q) (Nat.not_lt.mpr hb)

theorem sound_fun {g : Gx} {n : Nat} {q : Bool} {f : Addr} {o : Obj} {fd : FuncData} {body : List Stmt} {names : List Str} {tb : TS} (ho : g.base.get? f = some o) (hd : o.data = .func fd) (hb : fd.body = .stmts body) (hcl : fd.closure = [])
    (hcd : g.base.CodeRec fd.code fd.qualname) (hgl : fd.globals = mainGlobals) (hbu : fd.builtins = builtinsNs)
    (hbind : ∀ vals : List Value, vals.length = names.length → bindArgs fd ⟨vals, []⟩ = pure (names.zip vals))
    (hk1 : ∀ x ∈ names, fd.scope.names.lookup x = some .local ∨ fd.scope.names.lookup x = some .cell)
    (hk2 : ∀ (L : Nat) (x : Str), fd.scope.names.lookup x = some .cell → ((cellsFrom L fd.scope.names []).lookup x).isSome = true)
    (hco : fd.scope.isCoroutine = false) (hgen : fd.scope.isGenerator = false) (hk : fd.scope.kind = .function)
    (hlam : fd.scope.names.lookup lamName = some .cell → fd.code = g.lam ∧ fd.qualname ++ ".<locals>." = g.lamq) (hbody : SoundSs g n q fd.scope body tb) : SoundFc g (n + 1) q f (tFun names tb) := by
  intro A fr s vals ps σ Q X hfr hroom hqu H R ht
  obtain ⟨hlen, ht⟩ := ht
  have hlen' : vals.length = names.length := R.length.trans hlen
  refine codeAny_call_cells hroom.lt (H.stays _ _ ho) hd (g.nolimit.keeps H.stays) (hcd.keeps H.stays) hb (hbind vals hlen') hcl (fun x hx => ?_) (fun s₁ I => ?_) hco hgen hk
  · have hm : x.1 ∈ names := (List.of_mem_zip hx).1
    rcases hk1 _ hm with k | k
    · exact .inl k
    · exact .inr ⟨k, hk2 _ _ k⟩
  obtain ⟨⟨⟨h₁, tk₁, rfl⟩, hns, hkeep, hfresh⟩, hcell, hap, hab⟩ := I
  generalize hE : callEnvC fd s.heap.objs.size f = env' at *
  have e1 : env'.locals = s.heap.objs.size := by subst hE; rfl
  have e2 : env'.frame = some env'.locals := by subst hE; rfl
  have e3 : env'.scope = fd.scope := by subst hE; rfl
  have e4 : env'.cells = cellsFrom (s.heap.objs.size + 1) fd.scope.names [] := by subst hE; rfl
  have e5 : env'.globals = mainGlobals := by subst hE; exact hgl
  have e6 : env'.builtins = builtinsNs := by subst hE; exact hbu
  have e7 : env'.code = fd.code := by subst hE; rfl
  have e8 : env'.qual = fd.qualname ++ ".<locals>." := by subst hE; rfl
  have hLb : g.base.get? env'.locals = none := by rw [e1]; exact H.stays.fresh
  have cge : ∀ y c, env'.cells.lookup y = some c → s.heap.objs.size < c := fun y c hc => by have := hab y c (mem_of_lookup hc); rw [e1] at this; exact this
  have hcb : ∀ y c, env'.cells.lookup y = some c → g.base.get? c = none := fun y c hc => by
    have := cge y c hc
    cases z : g.base.get? c with
    | none => rfl
    | some o' => exact absurd (Heap.lt_size (H.stays c o' z)) (Nat.not_lt.mpr (Nat.le_of_lt this))
  have C' : Cx g n q (A.deeper env') (env' :: fr) env' := ⟨Around.frames_deeper hfr, hroom.deeper, hqu, by rw [e3]; exact hk, e5, e6,
    fun y z c h1 h2 => name_of_addr hap (mem_of_lookup h1) (mem_of_lookup h2), hLb, hcb, fun hc => by rw [e7, e8]; unfold Env.kindOf at hc; rw [e3] at hc; exact hlam hc⟩
  have hlt : ∀ b o, s.heap.get? b = some o → b ≠ env'.locals := fun b o e z => by
    have := Heap.lt_size e; rw [z, e1] at this; exact Nat.lt_irrefl _ this
  have hno : ∀ b o, s.heap.get? b = some o → ¬ owned env' b := fun b o e hm => by
    rcases hm with z | ⟨y, _, h1⟩
    · exact hlt b o e z
    · exact absurd (Heap.lt_size e) (Nat.not_lt.mpr (Nat.le_of_lt (cge y b h1)))
  have S1 : Sim g.base h₁ σ := fun a ao e => by
    have := H.sim a ao e
    cases ao with
    | list xs => obtain ⟨vs, ⟨m, h1⟩, r⟩ := this; exact ⟨vs, ⟨m, hkeep _ _ h1⟩, r.keeps hkeep⟩
    | raw o' => exact ⟨hkeep _ _ this.1, this.2⟩
  have dl : ∀ a, σ a ≠ none → ∃ o', s.heap.get? a = some o' := fun a hz => by
    cases z : σ a with
    | none => exact absurd z hz
    | some ao =>
      have := H.sim a ao z
      cases ao with
      | list xs => obtain ⟨vs, ⟨m, h1⟩, r⟩ := this; exact ⟨_, h1⟩
      | raw o' => exact ⟨o', this.1⟩
  have hfrs := frs_cons (outer := fr) e2
  have Hp1 : Hp g.base (env' :: fr) σ h₁ := ⟨fun b o' e => hkeep _ _ (H.stays _ _ e),
    Heap.FunFrames.cons (by rw [e3, hk]; decide) e2 hns hLb (H.frames.of_keeps fun b o' e _ => ⟨o', hkeep _ _ e, rfl⟩), S1,
    fun a hz => ⟨(H.fresh a hz).1, by
      rw [hfrs]
      intro hm
      rcases List.mem_cons.mp hm with z | hm
      · obtain ⟨o', h1⟩ := dl a hz; exact hlt a o' h1 z
      · exact (H.fresh a hz).2 hm⟩,
    fun b hm => by
      rw [hfrs] at hm
      rcases List.mem_cons.mp hm with z | hm
      · subst z; obtain ⟨o', es, ep, h1, h2, _⟩ := hns; exact ⟨o', es, ep, h1, h2⟩
      · obtain ⟨o', es, ep, h1, h2⟩ := H.dicts b hm; exact ⟨o', es, ep, hkeep _ _ h1, h2⟩⟩
  have nl1 : σ env'.locals = none := by
    cases z : σ env'.locals with
    | none => rfl
    | some ao => obtain ⟨o', h1⟩ := dl _ (by rw [z]; simp); exact absurd rfl (hlt _ o' h1)
  have BR := bindP_rep (base := g.base) (h := h₁) (kindOf := env'.kindOf) names vals ps (fun _ => none) (fun _ => none) (fun _ => none) (R.keeps hkeep) (fun x hx => by
    have := hk1 x hx
    unfold Env.kindOf; rw [e3]; exact this) (fun x p e => by cases e)
  have L1 : Loc g.base h₁ h₁ env' (bindP names ps fun _ => none) := ⟨⟨_, hns, fun x p e k => (BR x p e).1 k⟩, fun x k => by
    have k' : fd.scope.names.lookup x = some .cell := by rw [← e3]; exact k
    have := hk2 (s.heap.objs.size + 1) x k'
    rw [← e4] at this
    obtain ⟨c, hc⟩ := Option.isSome_iff_exists.mp this
    exact ⟨c, _, hc, hcell x c hc, fun p e => (BR x p e).2 k⟩⟩
  have St1 : St g (env' :: fr) env' (bindP names ps fun _ => none) σ h₁ := ⟨Hp1, L1, nl1⟩
  have res := hbody (A.deeper env') fr env' C' e3 e2 { s with heap := h₁, toks := tk₁ } _ σ _ _ St1 ht
  have notfr : ∀ b o', s.heap.get? b = some o' → (b ∈ frs (env' :: fr) ↔ b ∈ frs fr) := fun b o' e => by
    rw [hfrs]
    constructor
    · intro hm
      rcases List.mem_cons.mp hm with z | hm
      · exact absurd z (hlt b o' e)
      · exact hm
    · exact fun hm => .tail _ hm
  refine wpAny_mono res (fun fl s' hp => ?_) fun v s' hp => ?_
  · obtain ⟨h', tk, fl', ρ', σ', rfl, S2, H2, r, hq⟩ := hp
    have S3 : Step fr nobody σ s.heap σ' h' := ⟨fun b o' e n1 _ n3 => S2.other b o' (hkeep _ _ e) (fun m => n1 ((notfr b o' e).mp m)) (hno b o' e) n3,
      fun b o' e n1 _ => S2.frame b o' (hkeep _ _ e) ((notfr b o' e).mpr n1) (hno b o' e), fun b o' e _ => S2.live b o' (hkeep _ _ e) (hno b o' e),
      fun a n1 _ n3 => by
        cases z : s.heap.get? a with
        | none => exact absurd z n3
        | some o' => exact S2.new a n1 (hno a o' z) (by show h₁.get? a ≠ none; rw [hkeep _ _ z]; simp), S2.dom⟩
    cases r with
    | ret r => exact ⟨h', tk, _, σ', rfl, S3, H2.hp.sim, r, hq⟩
    | next => exact ⟨h', tk, .none, σ', rfl, S3, H2.hp.sim, .none, hq⟩
    | brk => exact hq.elim
    | cont => exact hq.elim
  · obtain ⟨h', tk, x, c, ρ', σ', B, rfl, rfl, e, l, hx⟩ := hp
    refine Fly.leave (s := { s with heap := h', toks := tk }) (Around.frames_deeper hfr) e2 e.fly fun h'' F u => ?_
    refine ⟨h'', tk, x, c, σ', B, rfl, rfl, ⟨fun b o' e1 n1 _ n3 => e.other b o' (hkeep _ _ e1) (fun m => n1 ((notfr b o' e1).mp m)) (hno b o' e1) n3, fun b o' e1 n1 _ => ?_, e.sim, fun a n1 _ n3 => ?_, e.dom, e.stays,
      fun b m => e.nofr b (by rw [hfrs]; exact .tail _ m), fun b m => ?_, F.fly⟩, hx⟩
    · obtain ⟨sl, h1⟩ := e.frame b o' (hkeep _ _ e1) ((notfr b o' e1).mpr n1) (hno b o' e1)
      obtain ⟨o2, es, ep, h2, h3⟩ := e.dicts b ((notfr b o' e1).mpr n1)
      rw [h1] at h2; cases h2
      obtain ⟨sl2, h4⟩ := u b _ h1 (fun vs z => by rw [h3] at z; cases z)
      exact ⟨sl2, h4⟩
    · cases z : s.heap.get? a with
      | none => exact absurd z n3
      | some o' => exact e.new a n1 (hno a o' z) (by show h₁.get? a ≠ none; rw [hkeep _ _ z]; simp)
    · obtain ⟨o2, es, ep, h2, h3⟩ := e.dicts b (by rw [hfrs]; exact .tail _ m)
      obtain ⟨sl2, h4⟩ := u b _ h2 (fun vs z => by rw [h3] at z; cases z)
      exact ⟨_, es, ep, h4, h3⟩
end Mine

set_option autoImplicit false
namespace Mine
open PySem PyProof.Rows

noncomputable def itemsOf (σ : Sto) : PV → Option (List PV)
  | .ref a => match σ a with
    | some (.list xs) => some xs
    | _ => none
  | .tup xs => some xs
  | .lst _ ns => some (ns.map .int)
  | .rng lo hi => some ((List.range (hi - lo).toNat).map fun k => .int (lo + (k : Nat)))
  | _ => none
noncomputable def iterOk : PV → Prop
  | .rng lo hi => -(2 ^ 62) ≤ lo ∧ lo < 2 ^ 62 ∧ -(2 ^ 62) ≤ hi ∧ hi < 2 ^ 62
  | _ => True

noncomputable def NR (p : PV) : Prop := match p with
  | .rng _ _ => False
  | _ => True
noncomputable def IterAt (base h : Heap) (I : Addr) : PV → Nat → Prop
  | .ref a, k => h.IsListIter I a k
  | .lst a _, k => h.IsListIter I a k
  | .tup xs, k => ∃ (t : Addr) (vs : List Value), h.IsTupleIter I t k ∧ h.IsTuple t vs.toArray ∧ Reps base h vs xs
  | .rng lo hi, k => IsRangeIter h I (lo + (k : Int)) (((hi - lo).toNat : Int) - (k : Int)) 1
  | _, _ => False

/-- an iterator's object: a record of no class that Rep leans on -/
noncomputable def IterObj (o : Obj) : Prop := (∃ vs, o.data = .fields vs) ∧ (o.cls = .type "list_iterator" ∨ o.cls = .type "tuple_iterator" ∨ o.cls = .type "range_iterator")
theorem IterObj.notRaw {o : Obj} (i : IterObj o) (r : RawOk o) : False := by
  obtain ⟨⟨vs, hd⟩, hc⟩ := i
  rcases r with z | ⟨es, n, z⟩ | ⟨_, z⟩
  · rw [hd] at z; cases z
  · rw [hd] at z; cases z
  · rcases z with z | z <;> rcases hc with hc | hc | hc <;> rw [hc] at z <;> first | cases z | (injection z with z; exact absurd z (by decide))
theorem IterObj.notFirm {o : Obj} (i : IterObj o) : ¬ Firm o := by
  obtain ⟨⟨vs, hd⟩, hc⟩ := i
  rintro (⟨ws, _, q | ⟨c, q⟩⟩ | ⟨q, xs, n, q'⟩)
  · rcases hc with hc | hc | hc <;> rw [hc] at q <;> injection q with q <;> exact absurd q (by decide)
  · rcases hc with hc | hc | hc <;> rw [hc] at q <;> cases q
  · rw [hd] at q'; cases q'
theorem IterAt.obj {base h : Heap} {I : Addr} {p : PV} {k : Nat} (i : IterAt base h I p k) : ∃ o, h.get? I = some o ∧ IterObj o := by
  cases p with
  | ref a => obtain ⟨o, h1, h2, h3⟩ := i; exact ⟨o, h1, ⟨_, h3⟩, .inl h2⟩
  | lst a ns => obtain ⟨o, h1, h2, h3⟩ := i; exact ⟨o, h1, ⟨_, h3⟩, .inl h2⟩
  | tup xs => obtain ⟨t, vs, ⟨o, h1, h2, h3⟩, _⟩ := i; exact ⟨o, h1, ⟨_, h3⟩, .inr (.inl h2)⟩
  | rng lo hi => exact ⟨_, i, ⟨_, rfl⟩, .inr (.inr rfl)⟩
  | _ => exact i.elim
theorem IterAt.keep {base h h' : Heap} {I : Addr} {p : PV} {k : Nat} (i : IterAt base h I p k) (hI : ∀ o, h.get? I = some o → h'.get? I = some o) (hf : ∀ b o, h.get? b = some o → Firm o → h'.get? b = some o) : IterAt base h' I p k := by
  cases p with
  | ref a => obtain ⟨o, h1, h2⟩ := i; exact ⟨o, hI o h1, h2⟩
  | lst a ns => obtain ⟨o, h1, h2⟩ := i; exact ⟨o, hI o h1, h2⟩
  | tup xs => obtain ⟨t, vs, ⟨o, h1, h2⟩, ⟨o', h3, h4, n, h5⟩, r⟩ := i; exact ⟨t, vs, ⟨o, hI o h1, h2⟩, ⟨o', hf _ _ h3 (.inr ⟨h4, _, _, h5⟩), h4, n, h5⟩, r.mono hf⟩
  | rng lo hi => exact hI _ i
  | _ => exact i.elim

theorem lst_items {base h : Heap} : ∀ {vs : List Value} {ns : List Int}, vs.map (fun v => match v with | Value.int i _ => some i | _ => Option.none) = ns.map some → Reps base h vs (ns.map .int)
  | [], [], _ => .nil
  | [], n :: ns, e => by simp at e
  | v :: vs, [], e => by simp at e
  | v :: vs, n :: ns, e => by
    simp only [List.map_cons, List.cons.injEq] at e
    obtain ⟨e1, e2⟩ := e
    refine .cons ?_ (lst_items e2)
    cases v with
    | int i t => simp at e1; subst e1; exact .int _ _
    | _ => simp at e1

noncomputable def LR (p : PV) : Prop := match p with
  | .ref _ => True
  | .lst _ _ => True
  | _ => False
theorem list_of {base h : Heap} {fr : List Env} {σ : Sto} {v : Value} {p : PV} {xs : List PV} (H : Hp base fr σ h) (r : Rep base h v p) (hi : itemsOf σ p = some xs) (hn : LR p) : ∃ l, v = .ref l ∧ ∃ vs : List Value, h.IsList l vs.toArray ∧ Reps base h vs xs := by
  cases p with
  | ref a =>
    obtain rfl := inv_ref r
    cases e : σ a with
    | none => rw [itemsOf, e] at hi; cases hi
    | some ao =>
      rw [itemsOf, e] at hi
      cases ao with
      | raw o => cases hi
      | list ys =>
        cases hi
        obtain ⟨vs, hl, rs⟩ := H.sim a _ e
        exact ⟨a, rfl, vs, hl.isList, rs⟩
  | lst a ns =>
    cases hi
    obtain ⟨rfl, vs, ⟨o, h3, h4⟩, h2⟩ := inv_lst r
    exact ⟨a, rfl, vs, ⟨o, H.stays _ _ h3, h4⟩, lst_items h2⟩
  | _ => exact hn.elim
/-- what has items and is no range is a list or a tuple -/
theorem seq_of {base h : Heap} {fr : List Env} {σ : Sto} {v : Value} {p : PV} {xs : List PV} (H : Hp base fr σ h) (r : Rep base h v p) (hi : itemsOf σ p = some xs) (hn : NR p) : ∃ l, v = .ref l ∧ ∃ vs : List Value, (h.IsList l vs.toArray ∨ h.IsTuple l vs.toArray) ∧ Reps base h vs xs := by
  have go : LR p → ∃ l, v = .ref l ∧ ∃ vs : List Value, (h.IsList l vs.toArray ∨ h.IsTuple l vs.toArray) ∧ Reps base h vs xs := fun hl => by
    obtain ⟨l, h1, vs, h2, h3⟩ := list_of H r hi hl
    exact ⟨l, h1, vs, .inl h2, h3⟩
  cases p with
  | ref a => exact go trivial
  | lst a ns => exact go trivial
  | tup ys =>
    cases hi
    obtain ⟨a, o, vs, n, rfl, ho, hc, hd, rs⟩ := inv_tup r
    exact ⟨a, rfl, vs, .inr ⟨o, ho, hc, n, hd⟩, rs⟩
  | rng lo hi => exact hn.elim
  | _ => cases hi
section
variable {g : Gx} {A : Around} {E : Value → Shared → Prop} {s : Shared} {fr : List Env} {σ : Sto}

theorem iter_start {v : Value} {p : PV} {xs : List PV} {Q : Value → Shared → Prop} (H : Hp g.base fr σ s.heap) (r : Rep g.base s.heap v p) (hi : itemsOf σ p = some xs) (ok : iterOk p)
    (k : ∀ I h', (∀ b o, s.heap.get? b = some o → h'.get? b = some o) → s.heap.get? I = none → IterAt g.base h' I p 0 → Q (.ref I) { s with heap := h' }) : wpAny g.M A (pyIter v) Q E s := by
  have fresh : s.heap.get? s.heap.objs.size = none := fresh_size (Nat.le_refl _)
  have kp : ∀ (o' : Obj) b o, s.heap.get? b = some o → (s.heap.push o').get? b = some o := fun o' b o e => Heap.get?_push_of_some _ e
  cases p with
  | rng lo hi' =>
    obtain ⟨a, rfl, t1, t2, t3, hr⟩ := inv_rng r
    obtain ⟨o1, o2, o3, o4⟩ := ok
    refine wpAny_pyIter_range hr (small_one o1 o2 o3 o4) (k _ _ (kp _) fresh ?_)
    show IsRangeIter _ _ _ _ _
    have e : Builtin.Range.rangeSize lo hi' 1 = ((hi' - lo).toNat : Int) := by
      have := rangeSize_one (a := lo) (b := hi')
      rw [this]; split <;> omega
    unfold IsRangeIter
    rw [Heap.get?_push_size _ rfl, e]
    simp
  | tup ys =>
    obtain ⟨a, o, vs, n, rfl, ho, hc, hd, rs⟩ := inv_tup r
    exact wpAny_pyIter_tuple ⟨_, ho, hc, _, hd⟩ (k _ _ (kp _) fresh ⟨_, _, ⟨_, Heap.get?_push_size _ rfl, rfl, rfl⟩, ⟨_, kp _ _ _ ho, hc, _, hd⟩, rs.keeps (kp _)⟩)
  | ref a =>
    obtain ⟨l, hv, vs, hl, rs⟩ := list_of H r hi trivial
    obtain rfl := inv_ref r
    cases hv
    exact wpAny_pyIter_list hl (k _ _ (kp _) fresh ⟨_, Heap.get?_push_size _ rfl, rfl, rfl⟩)
  | lst a ns =>
    obtain ⟨l, hv, vs, hl, rs⟩ := list_of H r hi trivial
    obtain ⟨rfl, _⟩ := inv_lst r
    cases hv
    exact wpAny_pyIter_list hl (k _ _ (kp _) fresh ⟨_, Heap.get?_push_size _ rfl, rfl, rfl⟩)
  | _ => cases hi

theorem iter_item {I : Addr} {p x : PV} {k : Nat} {xs : List PV} {Q : Option Value → Shared → Prop} (H : Hp g.base fr σ s.heap) (hr : ∀ a ns, p = .lst a ns → Rep g.base s.heap (.ref a) p) (hi : itemsOf σ p = some xs) (i : IterAt g.base s.heap I p k) (hx : xs[k]? = some x)
    (kk : ∀ v h' tk, Heap.SameBut I s.heap h' → IterAt g.base h' I p (k + 1) → Rep g.base s.heap v x → Q (some v) { s with heap := h', toks := tk }) : wpAny g.M A (pyNext (.ref I)) Q E s := by
  have io := i.obj
  cases p with
  | ref a =>
    obtain ⟨l, hv, vs, hl, rs⟩ := list_of H (.ref a) hi trivial
    cases hv
    obtain ⟨v, hv, rv⟩ := rs.get hx
    exact wpAny_pyNext_list_item i hl (by simpa using hv) fun h' hit' hs' => kk v h' s.toks hs' hit' rv
  | lst a ns =>
    obtain ⟨l, hv, vs, hl, rs⟩ := list_of H (hr a ns rfl) hi trivial
    cases hv
    obtain ⟨v, hv, rv⟩ := rs.get hx
    exact wpAny_pyNext_list_item i hl (by simpa using hv) fun h' hit' hs' => kk v h' s.toks hs' hit' rv
  | tup ys =>
    simp [itemsOf] at hi; subst hi
    obtain ⟨t, vs, h1, h2, rs⟩ := i
    obtain ⟨v, hv, rv⟩ := rs.get hx
    obtain ⟨o, ho, io⟩ := io
    refine wpAny_pyNext_tuple_item h1 h2 (by simpa using hv) fun h' hit' hs' => kk v h' s.toks hs' ⟨t, vs, hit', ?_, ?_⟩ rv
    · obtain ⟨o', h3, h4, n, h5⟩ := h2
      refine ⟨o', (hs'.2 _ ?_).trans h3, h4, n, h5⟩
      rintro rfl
      rw [ho] at h3; cases h3
      exact io.notFirm (.inr ⟨h4, _, _, h5⟩)
    · exact rs.mono fun b o' e f => (hs'.2 _ (by rintro rfl; rw [ho] at e; cases e; exact io.notFirm f)).trans e
  | rng lo hi' =>
    simp [itemsOf] at hi; subst hi
    rw [List.getElem?_map] at hx
    by_cases hk : k < (hi' - lo).toNat
    · rw [List.getElem?_range hk] at hx
      simp at hx; subst hx
      refine wpAny_pyNext_range_item i (by omega) fun h' hit' hs' => kk _ h' _ hs' ?_ (.int _ _)
      show IsRangeIter h' I _ _ _
      have e1 : lo + ((k + 1 : Nat) : Int) = lo + (k : Int) + 1 := by omega
      have e2 : ((hi' - lo).toNat : Int) - ((k + 1 : Nat) : Int) = ((hi' - lo).toNat : Int) - (k : Int) - 1 := by omega
      rw [e1, e2]; exact hit'
    · rw [List.getElem?_eq_none (by simp; omega)] at hx
      simp at hx
  | _ => exact i.elim

theorem iter_end {I : Addr} {p : PV} {k : Nat} {xs : List PV} {Q : Option Value → Shared → Prop} (hh : A.handled = none) (H : Hp g.base fr σ s.heap) (hr : ∀ a ns, p = .lst a ns → Rep g.base s.heap (.ref a) p) (hi : itemsOf σ p = some xs) (i : IterAt g.base s.heap I p k) (hx : xs[k]? = none)
    (kk : ∀ h' tk, Heap.ExtBut I s.heap h' → Q none { s with heap := h', toks := tk }) : wpAny g.M A (pyNext (.ref I)) Q E s := by
  have none_at : ∀ {vs : List Value}, Reps g.base s.heap vs xs → vs.toArray[k]? = none := fun {vs} rs => by
    rw [List.getElem?_eq_none_iff, ← rs.length] at hx
    simpa using hx
  cases p with
  | ref a =>
    obtain ⟨l, hv, vs, hl, rs⟩ := list_of H (.ref a) hi trivial
    cases hv
    exact wpAny_pyNext_list_end hh i hl (none_at rs) fun h' hs' => kk h' s.toks hs'
  | lst a ns =>
    obtain ⟨l, hv, vs, hl, rs⟩ := list_of H (hr a ns rfl) hi trivial
    cases hv
    exact wpAny_pyNext_list_end hh i hl (none_at rs) fun h' hs' => kk h' s.toks hs'
  | tup ys =>
    simp [itemsOf] at hi; subst hi
    obtain ⟨t, vs, h1, h2, rs⟩ := i
    refine wpAny_pyNext_tuple_end hh h1 h2 ?_ fun h' hs' => kk h' s.toks hs'
    rw [List.getElem?_eq_none_iff] at hx
    simp [rs.length]; omega
  | rng lo hi' =>
    simp [itemsOf] at hi; subst hi
    rw [List.getElem?_eq_none_iff] at hx
    simp at hx
    exact wpAny_pyNext_range_end hh i (by omega) fun h' hs' => kk h' s.toks hs'
  | _ => exact i.elim
end
end Mine

set_option autoImplicit false
namespace Mine
open PySem PyProof.Rows

theorem Sim.keepBut {base h h' : Heap} {σ : Sto} {I : Addr} (S : Sim base h σ) (hI : ∀ o, h.get? I = some o → IterObj o) (k : Heap.ExtBut I h h') : Sim base h' σ := fun a ao e => by
  have firm : ∀ b o, h.get? b = some o → Firm o → h'.get? b = some o := fun b o e f => k b o (by rintro rfl; exact (hI o e).notFirm f) e
  have := S a ao e
  cases ao with
  | list xs =>
    obtain ⟨vs, ⟨n, h1⟩, r⟩ := this
    exact ⟨vs, ⟨n, k a _ (by rintro rfl; obtain ⟨⟨ws, q⟩, _⟩ := hI _ h1; cases q) h1⟩, r.mono firm⟩
  | raw o => exact ⟨k a o (by rintro rfl; exact (hI o this.1).notRaw this.2) this.1, this.2⟩
theorem Hp.keepBut {base h h' : Heap} {fr : List Env} {σ : Sto} {I : Addr} (H : Hp base fr σ h) (hI : ∀ o, h.get? I = some o → IterObj o) (hb : base.get? I = none) (k : Heap.ExtBut I h h') : Hp base fr σ h' := by
  have nf : ∀ b ∈ frs fr, ∀ o, h.get? b = some o → b ≠ I := fun b m o e z => by
    subst z
    obtain ⟨o', es, n, h1, h2⟩ := H.dicts b m
    rw [e] at h1; cases h1
    obtain ⟨⟨ws, q⟩, _⟩ := hI o e
    rw [h2] at q; cases q
  refine ⟨fun b o e => k b o (by rintro rfl; rw [hb] at e; cases e) (H.stays b o e), funFrames_step H.frames fun b o e d m => ⟨o, k b o (nf b m o e) e, d⟩, H.sim.keepBut hI k, H.fresh, fun b m => ?_⟩
  obtain ⟨o', es, n, h1, h2⟩ := H.dicts b m
  exact ⟨o', es, n, k b o' (nf b m o' h1) h1, h2⟩
theorem St.keepBut {g : Gx} {fr : List Env} {env : Env} {ρ : Env'} {σ : Sto} {h h' : Heap} {I : Addr} (H : St g fr env ρ σ h) (hI : ∀ o, h.get? I = some o → IterObj o) (hb : g.base.get? I = none) (k : Heap.ExtBut I h h') : St g fr env ρ σ h' := by
  have firm : ∀ b o, h.get? b = some o → Firm o → h'.get? b = some o := fun b o e f => k b o (by rintro rfl; exact (hI o e).notFirm f) e
  obtain ⟨hp, ⟨⟨m, hn, hm⟩, hc⟩, nl⟩ := H
  refine ⟨hp.keepBut hI hb k, ⟨⟨m, Ns.up hn fun o e => ⟨o.slots, k _ o ?_ e⟩, fun y p e1 e2 => ?_⟩, fun y e1 => ?_⟩, nl⟩
  · rintro rfl
    obtain ⟨o', es, ep, h1, h2, _⟩ := hn
    rw [e] at h1; cases h1
    obtain ⟨⟨ws, q⟩, _⟩ := hI o e
    rw [h2] at q; cases q
  · obtain ⟨v, h1, h2⟩ := hm y p e1 e2
    exact ⟨v, h1, h2.mono firm⟩
  · obtain ⟨c, ov, h1, ⟨o, h2, h3⟩, h4⟩ := hc y e1
    refine ⟨c, ov, h1, ⟨o, k c o ?_ h2, h3⟩, fun p e2 => ?_⟩
    · rintro rfl
      obtain ⟨⟨ws, q⟩, _⟩ := hI o h2
      rw [h3] at q; cases q
    · obtain ⟨v, h5, h6⟩ := h4 p e2
      exact ⟨v, h5, h6.mono firm⟩
theorem Step.keepBut {fr : List Env} {own : Addr → Prop} {σ σ' : Sto} {h h' h'' : Heap} {I : Addr} (x : Step fr own σ h σ' h') (hI : h.get? I = none) (k : Heap.ExtBut I h' h'') : Step fr own σ h σ' h'' where
  other := fun b o e n1 n2 n3 => k b o (by rintro rfl; rw [hI] at e; cases e) (x.other b o e n1 n2 n3)
  frame := fun b o e n1 n2 => by
    obtain ⟨sl, h1⟩ := x.frame b o e n1 n2
    exact ⟨sl, k b _ (by rintro rfl; rw [hI] at e; cases e) h1⟩
  live := fun b o e n => by
    obtain ⟨o', h1⟩ := x.live b o e n
    exact ⟨o', k b o' (by rintro rfl; rw [hI] at e; cases e) h1⟩
  new := x.new
  dom := x.dom
theorem Step.keeps {fr : List Env} {own : Addr → Prop} {σ : Sto} {h h' : Heap} (k : ∀ b o, h.get? b = some o → h'.get? b = some o) : Step fr own σ h σ h' :=
  ⟨fun b o e _ _ _ => k b o e, fun b o e _ _ => ⟨o.slots, k b o e⟩, fun b o e _ => ⟨o, k b o e⟩, fun _ e _ _ => e, fun _ e => e⟩
theorem Sim.keeps {base h h' : Heap} {σ : Sto} (S : Sim base h σ) (k : ∀ b o, h.get? b = some o → h'.get? b = some o) : Sim base h' σ := fun a ao e => by
  have := S a ao e
  cases ao with
  | list xs => obtain ⟨vs, ⟨n, h1⟩, r⟩ := this; exact ⟨vs, ⟨n, k _ _ h1⟩, r.keeps k⟩
  | raw o => exact ⟨k _ _ this.1, this.2⟩
theorem St.keeps {g : Gx} {fr : List Env} {env : Env} {ρ : Env'} {σ : Sto} {h h' : Heap} (H : St g fr env ρ σ h) (k : ∀ b o, h.get? b = some o → h'.get? b = some o) : St g fr env ρ σ h' := H.step (Step.keeps k) (H.hp.sim.keeps k)

theorem rep_lst {base h h' : Heap} {v : Value} {a : Addr} {ns : List Int} (r : Rep base h v (.lst a ns)) : Rep base h' (.ref a) (.lst a ns) := by
  cases r with | lst h1 h2 => exact .lst h1 h2

/-- an iterator stays while the body runs -/
theorem IterAt.step {g : Gx} {fr : List Env} {env : Env} {ρ : Env'} {σ σ' : Sto} {h h' : Heap} {I : Addr} {p : PV} {k : Nat} (i : IterAt g.base h I p k) (H : St g fr env ρ σ h) (x : Step fr (owned env) σ h σ' h') : IterAt g.base h' I p k := by
  have nown : ∀ b o, h.get? b = some o → (IterObj o ∨ Firm o) → b ∉ frs fr ∧ ¬ owned env b ∧ σ b = none := fun b o e f => by
    refine ⟨fun m => ?_, fun m => ?_, ?_⟩
    · obtain ⟨o', es, n, h1, h2⟩ := H.hp.dicts b m
      rw [e] at h1; cases h1
      rcases f with ⟨⟨ws, q⟩, _⟩ | f
      · rw [h2] at q; cases q
      · exact notFirm_dict h2 f
    · rcases m with z | ⟨y, z1, z2⟩
      · subst z
        obtain ⟨m, ⟨o', es, ep, h1, h2, _⟩, _⟩ := H.loc.ns
        rw [e] at h1; cases h1
        rcases f with ⟨⟨ws, q⟩, _⟩ | f
        · rw [h2] at q; cases q
        · exact notFirm_dict h2 f
      · obtain ⟨c, ov, h1, ⟨o', h2, h3⟩, _⟩ := H.loc.cell y z1
        rw [h1] at z2; cases z2
        rw [e] at h2; cases h2
        rcases f with ⟨⟨ws, q⟩, _⟩ | f
        · rw [h3] at q; cases q
        · exact notFirm_cell h3 f
    · rcases f with f | f
      · cases z : σ b with
        | none => rfl
        | some ao =>
          have := H.hp.sim b ao z
          have f0 : IterObj o := f
          obtain ⟨⟨ws, q⟩, _⟩ := f
          cases ao with
          | list xs => obtain ⟨vs, ⟨n, h1⟩, _⟩ := this; rw [e] at h1; cases h1; cases q
          | raw o' => obtain ⟨h1, h2⟩ := this; rw [e] at h1; cases h1; exact (f0.notRaw h2).elim
      · exact H.hp.sim.not_firm e f
  obtain ⟨o, ho, io⟩ := i.obj
  refine i.keep (fun o' e => ?_) fun b o' e f => ?_
  · rw [ho] at e; cases e
    obtain ⟨n1, n2, n3⟩ := nown I o ho (.inl io)
    exact x.other I o ho n1 n2 n3
  · obtain ⟨n1, n2, n3⟩ := nown b o' e (.inr f)
    exact x.other b o' e n1 n2 n3

noncomputable def forL (x : Str) (tb : TS) (ok : Sto → Prop) : List PV → TS
  | [] => fun ρ σ Q _ => Q .next ρ σ
  | p :: ps => fun ρ σ Q X => tb (setL ρ x p) σ (fun fl ρ' σ' => match fl with
      | .next => ok σ' ∧ forL x tb ok ps ρ' σ' Q X
      | .cont => ok σ' ∧ forL x tb ok ps ρ' σ' Q X
      | .brk => Q .next ρ' σ'
      | .ret v => Q (.ret v) ρ' σ') X
noncomputable def tFor (x : Str) (ti : TE) (tb : TS) : TS := fun ρ σ Q X => ti ρ σ (fun p σ₁ => ∃ xs, itemsOf σ₁ p = some xs ∧ iterOk p ∧ forL x tb (fun σ' => itemsOf σ' p = some xs) xs ρ σ₁ Q X) (fun c σ' => X c ρ σ')

/-- an exception inside a loop's turn: noted here, it comes back at the loop's own statement -/
theorem noted_back {g : Gx} {A : Around} {outer : List Env} {env : Env} {σ : Sto} {s s₁ : Shared} {X : Addr → Env' → Sto → Prop} {v : Value} (hfr : A.frames = some (env :: outer)) (hf : env.frame = some env.locals)
    (p : PostXS g (env :: outer) env σ s X v s₁) : notedBy g.M A env (cameBackBy g.M A env (PostXS g (env :: outer) env σ s X)) v s₁ := by
  obtain ⟨h', tk, x, c, ρ', σ', B, rfl, rfl, e, l, hx⟩ := p
  refine Fly.note (s := { s with heap := h', toks := tk }) hfr hf e.fly fun h₂ H2 u2 => ?_
  refine Held.back (s := { s with heap := h₂, toks := tk }) H2 fun h₃ H3 u3 => ?_
  exact ⟨h₃, tk, x, c, ρ', σ', B, rfl, rfl, e.turn (u2.trans u3) H3.fly, l.turn (u2.trans u3), hx⟩

inductive ForI (g : Gx) (outer : List Env) (env : Env) (s : Shared) (σ₁ : Sto) (h₁ : Heap) (I : Addr) (p : PV) (xs : List PV) (x : Str) (tb : TS) (Q : Fl → Env' → Sto → Prop) (X : Addr → Env' → Sto → Prop) (m : Nat) (s' : Shared) : Prop
  | mk (k : Nat) (h : Heap) (tk' : Nat) (ρ' : Env') (σ' : Sto) : s' = { s with heap := h, toks := tk' } → m = xs.length + 1 - k → k ≤ xs.length → Step (env :: outer) (owned env) σ₁ h₁ σ' h → St g (env :: outer) env ρ' σ' h → IterAt g.base h I p k →
    itemsOf σ' p = some xs → forL x tb (fun σ' => itemsOf σ' p = some xs) (xs.drop k) ρ' σ' Q X → ForI g outer env s σ₁ h₁ I p xs x tb Q X m s'
inductive WhI (g : Gx) (outer : List Env) (env : Env) (s : Shared) (σ : Sto) (Inv : Nat → Env' → Sto → Prop) (m : Nat) (s' : Shared) : Prop
  | mk (h : Heap) (tk' : Nat) (ρ' : Env') (σ' : Sto) : s' = { s with heap := h, toks := tk' } → Step (env :: outer) (owned env) σ s.heap σ' h → St g (env :: outer) env ρ' σ' h → Inv m ρ' σ' → WhI g outer env s σ Inv m s'
section
variable {g : Gx} {n : Nat} {sc : Scope}
theorem sound_for {x : Str} {px pos : Pos} {iter : Expr} {body : List Stmt} {ti : TE} {tb : TS} (hi : SoundE g n true sc iter ti) (hb : SoundSs g n true sc body tb) (hx : sc.names.lookup x = some .local ∨ sc.names.lookup x = some .cell)
    (hs : ∀ (env : Env) (v : Value), foldedSetIterable iter env v = pure v) : SoundS g n true sc (.For (.Name x px) iter body [] pos) (tFor x ti tb) := by
  intro A outer env C hsc hf s ρ σ Q X H ht
  have hx' : env.kindOf x = some .local ∨ env.kindOf x = some .cell := by subst hsc; exact hx
  refine wpAny_For (stmtE H hf (hi A _ env C hsc s ρ σ _ _ H ht) fun v h₁ tk p σ₁ S1 H1 r hq => ?_) (hs env)
  obtain ⟨xs, hxs, hok, hl⟩ := hq
  refine iter_start (s := { s with heap := h₁, toks := tk }) H1.hp r hxs hok fun I h₂ hk2 hI i0 => ?_
  have hbI : g.base.get? I = none := by
    cases z : g.base.get? I with
    | none => rfl
    | some o => rw [H1.hp.stays I o z] at hI; cases hI
  have hr : ∀ (h : Heap) a ns, p = .lst a ns → Rep g.base h (.ref a) p := fun h a ns e => by subst e; exact rep_lst r
  refine codeAny_forLoop (ForI g outer env s σ₁ h₁ I p xs x tb Q X) ?_ (xs.length + 1) ⟨0, h₂, tk, ρ, σ₁, rfl, rfl, Nat.zero_le _, Step.keeps hk2, H1.keeps hk2, i0, hxs, by simpa using hl⟩
  rintro m s' ⟨k, h, tk', ρ', σ', rfl, rfl, hle, S, H', i, hit, hL⟩
  have hIo : ∀ o, h.get? I = some o → IterObj o := fun o e => by obtain ⟨o', h1, h2⟩ := i.obj; rw [e] at h1; cases h1; exact h2
  by_cases hk : k < xs.length
  · have hxk : xs[k]? = some xs[k] := List.getElem?_eq_getElem hk
    rw [List.drop_eq_getElem_cons hk] at hL
    refine iter_item (s := { s with heap := h, toks := tk' }) H'.hp (hr h) hit i hxk fun v' h₃ tk₃ hs₃ i₃ rv => ?_
    have H3 := H'.keepBut hIo hbI hs₃.extBut
    have rv3 : Rep g.base h₃ v' xs[k] := rv.mono fun b o e f => (hs₃.2 b (by rintro rfl; exact (hIo o e).notFirm f)).trans e
    have S3 := S.keepBut hI hs₃.extBut
    refine wpAny_assign_Name (store (s := { s with heap := h₃, toks := tk₃ }) C H3 hx' rv3 fun h₄ tk₄ S4 H4 => ?_)
    have i4 := i₃.step H3 S4
    have S04 := S3.trans S4
    refine wpAny_mono (hb A outer env C hsc hf { s with heap := h₄, toks := tk₄ } _ σ' _ X H4 hL) (fun f s₃ hp => ?_) fun e s₃ hp => noted_back C.frames hf (hp.up ((noOwn S1).trans S04))
    obtain ⟨h₅, tk₅, fl, ρ₅, σ₅, rfl, S5, H5, rf, hq⟩ := hp
    have i5 := i4.step H4 S5
    have S05 := S04.trans S5
    have go : itemsOf σ₅ p = some xs ∧ forL x tb (fun σ' => itemsOf σ' p = some xs) (xs.drop (k + 1)) ρ₅ σ₅ Q X → ∃ m, m < xs.length + 1 - k ∧ ForI g outer env s σ₁ h₁ I p xs x tb Q X m { s with heap := h₅, toks := tk₅ } := fun z =>
      ⟨xs.length + 1 - (k + 1), by omega, ⟨k + 1, h₅, tk₅, ρ₅, σ₅, rfl, rfl, hk, S05, H5, i5, z.1, z.2⟩⟩
    cases rf with
    | next => exact go hq
    | cont => exact go hq
    | brk => exact ⟨h₅, tk₅, .next, ρ₅, σ₅, rfl, (noOwn S1).trans S05, H5, .next, hq⟩
    | ret rv => exact ⟨h₅, tk₅, _, ρ₅, σ₅, rfl, (noOwn S1).trans S05, H5, .ret rv, hq⟩
  · have hke : k = xs.length := by omega
    subst hke
    rw [List.drop_length] at hL
    refine iter_end (s := { s with heap := h, toks := tk' }) (C.quiet rfl) H'.hp (hr h) hit i (List.getElem?_eq_none (Nat.le_refl _)) fun h₃ tk₃ hs₃ => ?_
    exact wpAny_execs_nil ⟨h₃, tk₃, .next, ρ', σ', rfl, (noOwn S1).trans (S.keepBut hI hs₃), H'.keepBut hIo hbI hs₃, .next, hL⟩

noncomputable def tWhile (b : TB) (t : TS) : TS := fun ρ σ Q X => ∃ Inv : Nat → Env' → Sto → Prop, (∃ m, Inv m ρ σ) ∧ ∀ m ρ σ, Inv m ρ σ → b ρ σ (fun r σ' => if r = true then t ρ σ' (fun fl ρ' σ'' => match fl with
    | .next => ∃ m', m' < m ∧ Inv m' ρ' σ''
    | .cont => ∃ m', m' < m ∧ Inv m' ρ' σ''
    | .brk => Q .next ρ' σ''
    | .ret v => Q (.ret v) ρ' σ'') X else Q .next ρ σ') (fun c σ' => X c ρ σ')

theorem sound_while {q : Bool} {test : Expr} {body : List Stmt} {pos : Pos} {b : TB} {t : TS} (hb : SoundB g n q sc test b) (ht : SoundSs g n q sc body t) : SoundS g n q sc (.While test body [] pos) (tWhile b t) := by
  intro A outer env C hsc hf s ρ σ Q X H hw
  obtain ⟨Inv, ⟨m₀, h0⟩, step⟩ := hw
  refine wpAny_While (codeAny_whileLoop (WhI g outer env s σ Inv) ?_ m₀ ⟨s.heap, s.toks, ρ, σ, rfl, Step.refl, H, h0⟩)
  rintro m s' ⟨h, tk', ρ', σ', rfl, S, H', hI⟩
  have hs := step m ρ' σ' hI
  refine wpAny_mono (hb A _ env C hsc { s with heap := h, toks := tk' } ρ' σ' _ (fun c σ'' => X c ρ' σ'') H' hs) (fun r s₂ hp => ?_) fun e s₂ hp => noted_back C.frames hf ((hp.stmt H' hf).up S)
  obtain ⟨h₂, tk₂, σ₂, rfl, S2, Sm2, hq⟩ := hp
  have H2 := H'.step S2 Sm2
  have S02 := S.trans (noOwn S2)
  cases r with
  | false =>
    rw [if_neg (by decide)]
    exact wpAny_execs_nil ⟨h₂, tk₂, .next, ρ', σ₂, rfl, S02, H2, .next, by simpa using hq⟩
  | true =>
    rw [if_pos rfl]
    refine wpAny_mono (ht A outer env C hsc hf { s with heap := h₂, toks := tk₂ } ρ' σ₂ _ X H2 (by simpa using hq)) (fun f s₃ hp => ?_) fun e s₃ hp => noted_back C.frames hf (hp.up S02)
    obtain ⟨h₅, tk₅, fl, ρ₅, σ₅, rfl, S5, H5, rf, hq⟩ := hp
    have S05 := S02.trans S5
    cases rf with
    | next => obtain ⟨m', h1, h2⟩ := hq; exact ⟨m', h1, ⟨h₅, tk₅, ρ₅, σ₅, rfl, S05, H5, h2⟩⟩
    | cont => obtain ⟨m', h1, h2⟩ := hq; exact ⟨m', h1, ⟨h₅, tk₅, ρ₅, σ₅, rfl, S05, H5, h2⟩⟩
    | brk => exact ⟨h₅, tk₅, .next, ρ₅, σ₅, rfl, S05, H5, .next, hq⟩
    | ret rv => exact ⟨h₅, tk₅, _, ρ₅, σ₅, rfl, S05, H5, .ret rv, hq⟩
end
end Mine

set_option autoImplicit false
namespace Mine
open PySem PyProof.Rows
section
variable {prog : Program} {w : World} {A : Around} {E : Value → Shared → Prop} {s : Shared} {a b : Addr} {oa ob : Obj} {na nb : Nat} {x1 x2 y1 y2 : Int} {t1 t2 u1 u2 : Tok}
theorem rich_lt {x y : Int} {t u : Tok} {Q : Value → Shared → Prop} (h : Q (.bool (decide (x < y))) s) : wpAny (model prog w) A (richCompare .Lt (.int x t) (.int y u)) Q E s :=
  CmpOf.ints_lt (prog := prog) (w := w) (A := A) (P := fun i v => ∃ t, v = Value.int (if i = 0 then x else y) t) (fun i => if i = 0 then x else y) (fun i v h => h) 0 1 _ _ _ _ _ ⟨t, rfl⟩ ⟨u, rfl⟩ h
theorem tuple_lt_tree {P : PySem.Fin → Shared → Prop} (hoa : s.heap.get? a = some oa) (hda : oa.data = .seq #[.int x1 t1, .int x2 t2] na) (hob : s.heap.get? b = some ob) (hcb : ob.cls = .type "tuple") (hdb : ob.data = .seq #[.int y1 u1, .int y2 u2] nb)
    (h : P (.done (.ret (.bool (decide (x1 < y1 ∨ x1 = y1 ∧ x2 < y2))))) s) : wpAny (model prog w) A (Builtin.«tuple.__lt__» ⟨[.ref a, .ref b], []⟩) P E s := by
  have hT : s.TypeIs (.ref b) "tuple" := ⟨ob, hob, hcb⟩
  show wpAny _ _ (isInstance (.ref b) (.type "tuple") >>= _) _ _ s
  refine wpAny_bind (wpAny_isInstance hT isSubtype_tuple_tuple ?_)
  simp only [Bool.not_true, Bool.false_eq_true, if_false]
  refine wpAny_bind (wpAny_tupleItemsOf hoa hda ?_)
  refine wpAny_bind (wpAny_tupleItemsOf hob hdb ?_)
  refine wpAny_bind ?_
  simp only [List.zip_cons_cons, List.zip_nil_right, List.forIn_cons, List.forIn_nil, bind_assoc]
  refine wpAny_bind (wpAny_eqBool_int ?_)
  by_cases e1 : x1 = y1
  · rw [beq_iff_eq.mpr e1]
    simp only [Bool.not_true, Bool.false_eq_true, if_false]
    refine wpAny_bind (wpAny_pure ?_)
    refine wpAny_bind (wpAny_eqBool_int ?_)
    by_cases e2 : x2 = y2
    · rw [beq_iff_eq.mpr e2]
      simp only [Bool.not_true, Bool.false_eq_true, if_false]
      refine wpAny_bind (wpAny_pure (wpAny_pure (wpAny_pure ?_)))
      rw [decide_eq_false (by omega)] at h
      exact h
    · rw [beq_eq_false_iff_ne.mpr e2]
      simp only [Bool.not_false, if_true]
      refine wpAny_bind (wpAny_bind (wpAny_rule (wpAny_bind (rich_lt (wpAny_bind (wpAny_pure (wpAny_pure (wpAny_pure (wpAny_pure ?_)))))))))
      rw [show decide (x2 < y2) = decide (x1 < y1 ∨ x1 = y1 ∧ x2 < y2) from decide_eq_decide.mpr (by omega)]
      exact h
  · rw [beq_eq_false_iff_ne.mpr e1]
    simp only [Bool.not_false, if_true]
    refine wpAny_bind (wpAny_bind (wpAny_rule (wpAny_bind (rich_lt (wpAny_bind (wpAny_pure (wpAny_pure (wpAny_pure (wpAny_pure ?_)))))))))
    rw [show decide (x1 < y1) = decide (x1 < y1 ∨ x1 = y1 ∧ x2 < y2) from decide_eq_decide.mpr (by omega)]
    exact h
theorem rich_lt2 {Q : Value → Shared → Prop} (hu : A.units < cLine) (hoa : s.heap.get? a = some oa) (hca : oa.cls = .type "tuple") (hda : oa.data = .seq #[.int x1 t1, .int x2 t2] na) (hob : s.heap.get? b = some ob) (hcb : ob.cls = .type "tuple") (hdb : ob.data = .seq #[.int y1 u1, .int y2 u2] nb)
    (h : Q (.bool (decide (x1 < y1 ∨ x1 = y1 ∧ x2 < y2))) s) : wpAny (model prog w) A (richCompare .Lt (.ref a) (.ref b)) Q E s := by
  have hTa : s.TypeIs (.ref a) "tuple" := ⟨oa, hoa, hca⟩
  have hTb : s.TypeIs (.ref b) "tuple" := ⟨ob, hob, hcb⟩
  refine wpAny_richCompare_same_room hTa hTb F.slot_tuple_lt (wpAny_call_entry F.slot_tuple_lt hTa F.entry_tuple_lt (tuple_lt_tree hoa hda hob hcb hdb ⟨_, rfl, ?_, h⟩) (F.args_tuple_lt_2 _ _)) hu
  exact fun e => by cases e
end

noncomputable def upd (σ : Sto) (a : Addr) (ao : AO) : Sto := fun b => if b = a then some ao else σ b

/-! arithmetic -/
noncomputable def opP (op : Operator) (a b : PV) (σ : Sto) (Q : PV → Sto → Prop) : Prop :=
  match op with
  | .Add => (∃ x y, a = .int x ∧ b = .int y ∧ Q (.int (x + y)) σ) ∨ ∃ x y xs ys, a = .ref x ∧ b = .ref y ∧ σ x = some (.list xs) ∧ σ y = some (.list ys) ∧ (xs ++ ys).length ≤ 1000000 ∧ ∀ c, σ c = none → Q (.ref c) (upd σ c (.list (xs ++ ys)))
  | .Sub => ∃ x y, a = .int x ∧ b = .int y ∧ Q (.int (x - y)) σ
  | .Mult => ∃ x y, a = .int x ∧ b = .int y ∧ ((-(2 ^ 64) < x ∧ x < 2 ^ 64) ∨ (-(2 ^ 64) < y ∧ y < 2 ^ 64)) ∧ Q (.int (x * y)) σ
  | .FloorDiv => ∃ x y, a = .int x ∧ b = .int y ∧ y ≠ 0 ∧ y.natAbs < 1073741824 ∧ Q (.int (x.fdiv y)) σ
  | .Mod => ∃ x y, a = .int x ∧ b = .int y ∧ y ≠ 0 ∧ Q (.int (x.fmod y)) σ
  | .Pow => ∃ x y, a = .int x ∧ b = .int y ∧ 0 ≤ y ∧ y ≤ 1000 ∧ x.natAbs < 2 ^ 64 ∧ Q (.int (x ^ y.toNat)) σ
  | _ => False
noncomputable def tBin (op : Operator) (l r : TE) : TE := fun ρ σ Q X => l ρ σ (fun a σ₁ => r ρ σ₁ (fun b σ₂ => opP op a b σ₂ Q) X) X
noncomputable def tNeg (e : TE) : TE := fun ρ σ Q X => e ρ σ (fun a σ₁ => match a with
  | .int x => Q (.int (-x)) σ₁
  | _ => False) X

/-! data of a value -/
mutual
inductive DataOf (σ : Sto) : PV → PyData → Prop
  | none : DataOf σ .none .none
  | bool (b : Bool) : DataOf σ (.bool b) (.bool b)
  | int (i : Int) : DataOf σ (.int i) (.int i)
  | str (x : Str) : DataOf σ (.str x) (.str x)
  | tup {xs : List PV} {ds : List PyData} : DatasOf σ xs ds → DataOf σ (.tup xs) (.tuple ds)
  | list {a : Addr} {xs : List PV} {ds : List PyData} : σ a = some (.list xs) → DatasOf σ xs ds → DataOf σ (.ref a) (.list ds)
inductive DatasOf (σ : Sto) : List PV → List PyData → Prop
  | nil : DatasOf σ [] []
  | cons {x : PV} {d : PyData} {xs : List PV} {ds : List PyData} : DataOf σ x d → DatasOf σ xs ds → DatasOf σ (x :: xs) (d :: ds)
end

theorem DataOf.reads {base h : Heap} {σ : Sto} (S : Sim base h σ) {p : PV} {d : PyData} (D : DataOf σ p d) : ∀ v, Rep base h v p → ∃ as, Reads h v d as := by
  refine DataOf.rec (motive_1 := fun p d _ => ∀ v, Rep base h v p → ∃ as, Reads h v d as) (motive_2 := fun ps ds _ => ∀ vs, Reps base h vs ps → ∃ as, ReadsAll h vs ds as) ?_ ?_ ?_ ?_ ?_ ?_ ?_ ?_ D
  · intro v r; obtain rfl := inv_none r; exact ⟨_, .none⟩
  · intro b v r; obtain rfl := inv_bool r; exact ⟨_, .bool b⟩
  · intro i v r; obtain ⟨t, rfl⟩ := inv_int r; exact ⟨_, .int _ _⟩
  · intro x v r; obtain ⟨t, rfl⟩ := inv_str r; exact ⟨_, .str _ _⟩
  · intro xs ds _ ih v r
    obtain ⟨a, o, vs, n, rfl, ho, hc, hd, rs⟩ := inv_tup r
    obtain ⟨as, q⟩ := ih vs rs
    exact ⟨_, .tuple ho hc hd q⟩
  · intro a xs ds e _ ih v r
    obtain rfl := inv_ref r
    obtain ⟨vs, ⟨n, ho⟩, rs⟩ := S _ _ e
    obtain ⟨as, q⟩ := ih vs rs
    exact ⟨_, .list ho rfl rfl q⟩
  · intro vs r; cases r; exact ⟨_, .nil⟩
  · intro x d xs ds _ _ ih1 ih2 vs r
    cases r with
    | cons r rs =>
      obtain ⟨bs, q⟩ := ih1 _ r
      obtain ⟨cs, q'⟩ := ih2 _ rs
      exact ⟨_, .cons q q'⟩
theorem DatasOf.reads {base h : Heap} {σ : Sto} (S : Sim base h σ) {ps : List PV} {ds : List PyData} (D : DatasOf σ ps ds) : ∀ vs, Reps base h vs ps → ∃ as, ReadsAll h vs ds as := by
  refine DatasOf.rec (motive_1 := fun p d _ => True) (motive_2 := fun ps ds _ => ∀ vs, Reps base h vs ps → ∃ as, ReadsAll h vs ds as) trivial (fun _ => trivial) (fun _ => trivial) (fun _ => trivial) (fun _ _ => trivial) (fun _ _ _ => trivial) ?_ ?_ D
  · intro vs r; cases r; exact ⟨_, .nil⟩
  · intro x d xs ds h1 _ _ ih2 vs r
    cases r with
    | cons r rs =>
      obtain ⟨bs, q⟩ := h1.reads S _ r
      obtain ⟨cs, q'⟩ := ih2 _ rs
      exact ⟨_, .cons q q'⟩

noncomputable def eqP (σ : Sto) (a b : PV) (k : Bool → Prop) : Prop := (∃ x y, a = .int x ∧ b = .int y ∧ k (decide (x = y))) ∨ (∃ x y, a = .str x ∧ b = .str y ∧ k (decide (x = y))) ∨
  ∃ d e, DataOf σ a d ∧ DataOf σ b e ∧ SeqAt.shaped d = true ∧ SeqAt.shaped e = true ∧ k (PyData.eqv d e)
noncomputable def isNone : PV → Bool
  | .none => true
  | _ => false
noncomputable def inP (σ : Sto) (a b : PV) (k : Bool → Prop) : Prop := ∃ (x : Int) (l : Addr) (ns : List Int), a = .int x ∧ b = .ref l ∧ σ l = some (.list (ns.map .int)) ∧ k (decide (x ∈ ns))
noncomputable def ints2 (a b : PV) (f : Int → Int → Prop) : Prop := ∃ x y, a = .int x ∧ b = .int y ∧ f x y
noncomputable def pairs2 (a b : PV) (k : Bool → Prop) : Prop := ∃ x1 x2 y1 y2 : Int, a = .tup [.int x1, .int x2] ∧ b = .tup [.int y1, .int y2] ∧ k (decide (x1 < y1 ∨ x1 = y1 ∧ x2 < y2))
noncomputable def cmpP (op : CmpOp) (σ : Sto) (a b : PV) (k : Bool → Prop) : Prop := match op with
  | .Lt => (ints2 a b fun x y => k (decide (x < y))) ∨ pairs2 a b k
  | .LtE => ints2 a b fun x y => k (decide (x ≤ y))
  | .Gt => ints2 a b fun x y => k (decide (x > y))
  | .GtE => ints2 a b fun x y => k (decide (x ≥ y))
  | .Eq => eqP σ a b k
  | .NotEq => eqP σ a b fun r => k (!r)
  | .Is => b = .none ∧ k (isNone a)
  | .IsNot => b = .none ∧ k (!isNone a)
  | .In => inP σ a b k
  | .NotIn => inP σ a b fun r => k (!r)
noncomputable def tCmp (op : CmpOp) (l r : TE) : TE := fun ρ σ Q X => l ρ σ (fun a σ₁ => r ρ σ₁ (fun b σ₂ => cmpP op σ₂ a b fun c => Q (.bool c) σ₂) X) X
noncomputable def tCmpB (op : CmpOp) (l r : TE) : TB := fun ρ σ Q X => l ρ σ (fun a σ₁ => r ρ σ₁ (fun b σ₂ => cmpP op σ₂ a b fun c => Q c σ₂) X) X
noncomputable def tChainB (op op' : CmpOp) (l m r : TE) : TB := fun ρ σ Q X => l ρ σ (fun a σ₁ => m ρ σ₁ (fun b σ₂ => cmpP op σ₂ a b fun c => if c = true then r ρ σ₂ (fun d σ₃ => cmpP op' σ₃ b d fun e => Q e σ₃) X else Q false σ₂) X) X

/-- a pure step: nothing is made but tokens -/
theorem pureE {g : Gx} {fr : List Env} {σ σ₁ : Sto} {s : Shared} {h₁ : Heap} {tk' : Nat} {Q : PV → Sto → Prop} {v : Value} {p : PV} (S1 : Step fr nobody σ s.heap σ₁ h₁) (Sm : Sim g.base h₁ σ₁) (r : Rep g.base h₁ v p) (hq : Q p σ₁) : PostE g fr σ s Q v { s with heap := h₁, toks := tk' } :=
  ⟨h₁, tk', p, σ₁, rfl, S1, Sm, r, hq⟩

theorem datas_ints {σ : Sto} : ∀ ns : List Int, DatasOf σ (ns.map .int) (ns.map .int)
  | [] => .nil
  | n :: ns => .cons (.int n) (datas_ints ns)
theorem canLay_ints : ∀ ns : List Int, PyData.canLayAll0 (ns.map PyData.int) = true
  | [] => rfl
  | n :: ns => by simp [PyData.canLayAll0, PyData.canLay0, canLay_ints ns]
theorem depth_ints : ∀ ns : List Int, PyData.depthAll (ns.map PyData.int) = 0
  | [] => rfl
  | n :: ns => by simp [PyData.depthAll, PyData.depth, depth_ints ns]
theorem any_ints (x : Int) : ∀ ns : List Int, ((ns.map PyData.int).any fun y => PyData.eqv y (.int x)) = decide (x ∈ ns)
  | [] => by simp
  | n :: ns => by
    rw [List.map_cons, List.any_cons, any_ints x ns]
    simp only [PyData.eqv, List.mem_cons]
    by_cases h : x = n
    · subst h; simp
    · have : ¬ n = x := fun e => h e.symm
      simp [h, this]

section
variable {g : Gx} {A : Around} {fr : List Env} {s : Shared} {σ : Sto}
theorem rep_isNone {base h : Heap} {v : Value} {p : PV} (r : Rep base h v p) : (isNone p = true ∧ v = .none) ∨ (isNone p = false ∧ v ≠ .none) := by
  cases r <;> first | exact .inl ⟨rfl, rfl⟩ | exact .inr ⟨rfl, by intro z; cases z⟩
theorem beq_dec {α : Type} [DecidableEq α] {x y : α} : (x == y) = decide (x = y) := by by_cases z : x = y <;> simp [z]
theorem eq_any {n : Nat} {u v : Value} {a b : PV} {k : Bool → Prop} {E : Value → Shared → Prop} (hr : Room n A) (Sm : Sim g.base s.heap σ) (ra : Rep g.base s.heap u a) (rb : Rep g.base s.heap v b) (hk : eqP σ a b k) :
    ∃ c, k c ∧ (∀ {Q : Value → Shared → Prop}, Q (.bool c) s → wpAny g.M A (compareOp .Eq u v) Q E s) ∧ (∀ {Q : Value → Shared → Prop}, Q (.bool (!c)) s → wpAny g.M A (compareOp .NotEq u v) Q E s) := by
  have hu : A.units + 64 < cLine := by have := hr.units; omega
  rcases hk with ⟨x, y, rfl, rfl, hk⟩ | ⟨x, y, rfl, rfl, hk⟩ | ⟨d, e, h1, h2, h3, h4, h5⟩
  · obtain ⟨t, rfl⟩ := inv_int ra
    obtain ⟨t', rfl⟩ := inv_int rb
    exact ⟨_, hk, fun {Q} hq => PyProof.Rows.eq_int (by rw [beq_dec]; exact hq), fun {Q} hq => PyProof.Rows.ne_int (by show Q (.bool (!(x == y))) s; rw [beq_dec]; exact hq)⟩
  · obtain ⟨t, rfl⟩ := inv_str ra
    obtain ⟨t', rfl⟩ := inv_str rb
    exact ⟨_, hk, fun {Q} hq => PyProof.Rows.eq_str (by rw [beq_dec]; exact hq), fun {Q} hq => PyProof.Rows.ne_str (by show Q (.bool (!(x == y))) s; rw [beq_dec]; exact hq)⟩
  · obtain ⟨as, q1⟩ := h1.reads Sm _ ra
    obtain ⟨bs, q2⟩ := h2.reads Sm _ rb
    exact ⟨_, h5, fun hq => eq_dataH q1 q2 h3 h4 hu hq, fun hq => ne_dataH q1 q2 h3 h4 hu hq⟩
theorem in_any {n : Nat} {u v : Value} {a b : PV} {k : Bool → Prop} {E : Value → Shared → Prop} (hr : Room n A) (Sm : Sim g.base s.heap σ) (ra : Rep g.base s.heap u a) (rb : Rep g.base s.heap v b) (hk : inP σ a b k) :
    ∃ c, k c ∧ (∀ {Q : Value → Shared → Prop}, Q (.bool c) s → wpAny g.M A (compareOp .In u v) Q E s) ∧ (∀ {Q : Value → Shared → Prop}, Q (.bool (!c)) s → wpAny g.M A (compareOp .NotIn u v) Q E s) := by
  obtain ⟨x, l, ns, rfl, rfl, h1, h2⟩ := hk
  obtain ⟨t, rfl⟩ := inv_int ra
  obtain rfl := inv_ref rb
  obtain ⟨vs, ⟨m, h3⟩, rs⟩ := Sm _ _ h1
  obtain ⟨as, q⟩ := DatasOf.reads Sm (datas_ints ns) _ rs
  have hun : A.units + 1 + min (PyData.depthAll (ns.map PyData.int)) (PyData.int x).depth < cLine := by
    have := hr.units
    rw [depth_ints]; simp; omega
  exact ⟨_, h2, fun hq => SeqAt.in_list_reads (.list h3 rfl rfl (by simpa using q)) (.int x t) (canLay_ints ns) rfl hun (by rw [any_ints]; exact hq),
    fun hq => SeqAt.notIn_list_reads (.list h3 rfl rfl (by simpa using q)) (.int x t) (canLay_ints ns) rfl hun (by rw [any_ints]; exact hq)⟩
theorem two_any {u v : Value} {a b : PV} {f : Int → Int → Prop} {P : Value → Value → Prop} (ra : Rep g.base s.heap u a) (rb : Rep g.base s.heap v b) (hk : ints2 a b f) (h : ∀ x y t t', f x y → P (.int x t) (.int y t')) : P u v := by
  obtain ⟨x, y, rfl, rfl, hk⟩ := hk
  obtain ⟨t, rfl⟩ := inv_int ra
  obtain ⟨t', rfl⟩ := inv_int rb
  exact h _ _ _ _ hk
theorem inv_pair {base h : Heap} {v : Value} {x1 x2 : Int} (r : Rep base h v (.tup [.int x1, .int x2])) : ∃ a o n t1 t2, v = .ref a ∧ h.get? a = some o ∧ o.cls = .type "tuple" ∧ o.data = .seq #[.int x1 t1, .int x2 t2] n := by
  obtain ⟨a, o, vs, n, rfl, h1, h2, h3, rs⟩ := inv_tup r
  have hl := rs.length
  match vs, hl, rs with
  | [u1, u2], _, rs =>
    obtain ⟨z1, e1, r1⟩ := rs.get' (k := 0) (v := u1) rfl
    obtain ⟨z2, e2, r2⟩ := rs.get' (k := 1) (v := u2) rfl
    cases e1; cases e2
    obtain ⟨t1, rfl⟩ := inv_int r1
    obtain ⟨t2, rfl⟩ := inv_int r2
    exact ⟨a, o, n, t1, t2, rfl, h1, h2, h3⟩
/-- comparing two values -/
theorem cmp_any {n : Nat} {op : CmpOp} {u v : Value} {a b : PV} {k : Bool → Prop} {Q : Value → Shared → Prop} {E : Value → Shared → Prop} (hr : Room n A) (Sm : Sim g.base s.heap σ) (ra : Rep g.base s.heap u a) (rb : Rep g.base s.heap v b) (hk : cmpP op σ a b k) (hQ : ∀ c, k c → Q (.bool c) s) :
    wpAny g.M A (compareOp op u v) Q E s := by
  cases op with
  | Lt =>
    rcases hk with hk | ⟨x1, x2, y1, y2, rfl, rfl, hk⟩
    · exact two_any (P := fun u v => wpAny g.M A (compareOp .Lt u v) Q E s) ra rb hk fun x y t t' h => PyProof.Rows.lt_int (hQ _ h)
    · obtain ⟨a', oa, na, t1, t2, rfl, h1, h2, h3⟩ := inv_pair ra
      obtain ⟨b', ob, nb, u1, u2, rfl, h4, h5, h6⟩ := inv_pair rb
      exact PySem.W.cmp_ofLt (rich_lt2 (Nat.lt_of_le_of_lt (Nat.le_add_right _ 100) hr.units) h1 h2 h3 h4 h5 h6 (hQ _ hk))
  | LtE => exact two_any (P := fun u v => wpAny g.M A (compareOp .LtE u v) Q E s) ra rb hk fun x y t t' h => PyProof.Rows.le_int (hQ _ h)
  | Gt => exact two_any (P := fun u v => wpAny g.M A (compareOp .Gt u v) Q E s) ra rb hk fun x y t t' h => PyProof.Rows.gt_int (hQ _ h)
  | GtE => exact two_any (P := fun u v => wpAny g.M A (compareOp .GtE u v) Q E s) ra rb hk fun x y t t' h => PyProof.Rows.ge_int (hQ _ h)
  | Eq => obtain ⟨c, h1, h2, _⟩ := eq_any hr Sm ra rb hk; exact h2 (hQ _ h1)
  | NotEq => obtain ⟨c, h1, _, h2⟩ := eq_any (k := fun r => k (!r)) hr Sm ra rb hk; exact h2 (hQ _ h1)
  | Is =>
    obtain ⟨rfl, hk⟩ := hk
    obtain rfl := inv_none rb
    rcases rep_isNone ra with ⟨h1, rfl⟩ | ⟨h1, h2⟩
    · rw [h1] at hk; exact is_none_none (hQ _ hk)
    · rw [h1] at hk; exact is_none_ne h2 (hQ _ hk)
  | IsNot =>
    obtain ⟨rfl, hk⟩ := hk
    obtain rfl := inv_none rb
    rcases rep_isNone ra with ⟨h1, rfl⟩ | ⟨h1, h2⟩
    · rw [h1] at hk; exact isnot_none_none (hQ _ hk)
    · rw [h1] at hk; exact isnot_none_ne h2 (hQ _ hk)
  | In => obtain ⟨c, h1, h2, _⟩ := in_any hr Sm ra rb hk; exact h2 (hQ _ h1)
  | NotIn => obtain ⟨c, h1, _, h2⟩ := in_any (k := fun r => k (!r)) hr Sm ra rb hk; exact h2 (hQ _ h1)
end
end Mine

set_option autoImplicit false
set_option linter.unusedVariables false
namespace Mine
open PySem PyProof.Rows PySem.Calls

theorem addList {base h h' : Heap} {fr : List Env} {own : Addr → Prop} {σ : Sto} {c : Addr} {vs : List Value} {xs : List PV} (S : Sim base h σ) (k : ∀ b o, h.get? b = some o → h'.get? b = some o) (hc : h.get? c = none) (hl : h'.PlainList c vs.toArray) (r : Reps base h' vs xs) :
    σ c = none ∧ Step fr own σ h (upd σ c (.list xs)) h' ∧ Sim base h' (upd σ c (.list xs)) := by
  have hσ : σ c = none := by
    cases z : σ c with
    | none => rfl
    | some ao =>
      have := S c ao z
      cases ao with
      | list xs => obtain ⟨vs, ⟨m, h1⟩, _⟩ := this; rw [hc] at h1; cases h1
      | raw o => rw [hc] at this; cases this.1
  refine ⟨hσ, ⟨fun b o e _ _ _ => k b o e, fun b o e _ _ => ⟨o.slots, k b o e⟩, fun b o e _ => ⟨o, k b o e⟩, fun a e _ n => ?_, fun a e => ?_⟩, fun a ao e => ?_⟩
  · unfold upd
    rw [if_neg (by rintro rfl; exact n hc)]; exact e
  · unfold upd
    split
    · simp
    · exact e
  · unfold upd at e
    split at e
    · rename_i q; subst q; cases e; exact ⟨vs, hl, r⟩
    · exact S.keeps k a ao e

theorem newList_any {g : Gx} {A : Around} {fr : List Env} {s : Shared} {σ : Sto} {vs : List Value} {xs : List PV} {Q : Value → Shared → Prop} {E : Value → Shared → Prop} (Sm : Sim g.base s.heap σ) (r : Reps g.base s.heap vs xs) (hsz : vs.length ≤ sizeLine)
    (k : ∀ c h', σ c = none → Step fr nobody σ s.heap (upd σ c (.list xs)) h' → Sim g.base h' (upd σ c (.list xs)) → Q (.ref c) { s with heap := h' }) : wpAny g.M A (newList vs) Q E s := by
  have kp : ∀ b o, s.heap.get? b = some o → (s.heap.push { cls := .type "list", data := .seq vs.toArray }).get? b = some o := fun b o e => Heap.get?_push_of_some _ e
  obtain ⟨h1, h2, h3⟩ := addList (fr := fr) (own := nobody) Sm kp (fresh_size (Nat.le_refl _)) ⟨_, Heap.get?_push_size _ rfl⟩ (r.keeps kp)
  exact wpAny_newList (k _ _ h1 h2 h3) hsz

/-! several expressions -/
inductive PostEs (g : Gx) (fr : List Env) (σ : Sto) (s : Shared) (Q : List PV → Sto → Prop) (vs : List Value) (s' : Shared) : Prop
  | mk (h' : Heap) (tk : Nat) (ps : List PV) (σ' : Sto) : s' = { s with heap := h', toks := tk } → Step fr nobody σ s.heap σ' h' → Sim g.base h' σ' → Reps g.base h' vs ps → Q ps σ' → PostEs g fr σ s Q vs s'
noncomputable def SoundEs (g : Gx) (n : Nat) (q : Bool) (sc : Scope) (es : List Expr) (t : TEs) : Prop :=
  (∀ (env : Env) (pos : Pos), (backTo pos (starEach es env)).any (·.1) = false) ∧
  ∀ (A : Around) (fr : List Env) (env : Env), Cx g n q A fr env → env.scope = sc → ∀ (pos : Pos) (s : Shared) (ρ : Env') (σ : Sto) (Q : List PV → Sto → Prop) (X : Addr → Sto → Prop),
    St g fr env ρ σ s.heap → t ρ σ Q X → wpAny g.M A (spliced (backTo pos (starEach es env))) (PostEs g fr σ s Q) (PostX g fr σ s X) s
noncomputable def tEnil : TEs := fun _ σ Q _ => Q [] σ
noncomputable def tEcons (e : TE) (es : TEs) : TEs := fun ρ σ Q X => e ρ σ (fun p σ₁ => es ρ σ₁ (fun ps σ₂ => Q (p :: ps) σ₂) X) X

section
variable {g : Gx} {n : Nat} {q : Bool} {sc : Scope}
theorem sound_enil : SoundEs g n q sc [] tEnil :=
  ⟨fun _ _ => rfl, fun A fr env C hsc pos s ρ σ Q X H ht => spliced_nil ⟨s.heap, s.toks, [], σ, rfl, Step.refl, H.hp.sim, .nil, ht⟩⟩
theorem sound_econs {e : Expr} {es : List Expr} {t : TE} {ts : TEs} (he : SoundE g n q sc e t) (hes : SoundEs g n q sc es ts) (hns : ∀ env : Env, starEach (e :: es) env = (false, eval e env) :: starEach es env) : SoundEs g n q sc (e :: es) (tEcons t ts) := by
  refine ⟨fun env pos => ?_, fun A fr env C hsc pos s ρ σ Q X H ht => ?_⟩
  · rw [hns]
    show ((false, _) :: backTo pos (starEach es env)).any (·.1) = false
    rw [List.any_cons, hes.1 env pos]; rfl
  · rw [hns]
    show wpAny _ _ (spliced ((false, eval e env) :: backTo pos (starEach es env))) _ _ _
    refine spliced_cons (bindE (he A fr env C hsc s ρ σ _ X H ht) fun v h₁ tk p σ₁ S1 Sm1 r hq => ?_)
    refine wpAny_mono (hes.2 A fr env C hsc pos { s with heap := h₁, toks := tk } ρ σ₁ _ X (H.step S1 Sm1) hq) (fun vs s' hp => ?_) fun _ _ x => x.up S1
    obtain ⟨h₂, tk₂, ps, σ₂, rfl, S2, Sm2, rs, hq⟩ := hp
    exact ⟨h₂, tk₂, p :: ps, σ₂, rfl, S1.trans S2, Sm2, .cons (S2.rep (H.hp.step S1 Sm1) r) rs, hq⟩

theorem evalArgs_es {es : List Expr} {ts : TEs} (hes : SoundEs g n q sc es ts) {A : Around} {fr : List Env} {env : Env} (C : Cx g n q A fr env) (hsc : env.scope = sc) {f : Value} {pos : Pos} {s : Shared} {ρ : Env'} {σ : Sto} {Q : List PV → Sto → Prop} {X : Addr → Sto → Prop}
    (H : St g fr env ρ σ s.heap) (ht : ts ρ σ Q X) : wpAny g.M A (evalArgs f true (backTo pos (starEach es env)) []) (fun a s' => a.kw = [] ∧ PostEs g fr σ s Q a.pos s') (PostX g fr σ s X) s := by
  have h1 := hes.1 env pos
  have h2 := hes.2 A fr env C hsc pos s ρ σ Q X H ht
  generalize backTo pos (starEach es env) = l at h1 h2
  cases l with
  | nil =>
    have h3 := wpAny_mono h2 (fun vs s' (hp : PostEs g fr σ s Q vs s') => hp) fun _ _ x => x
    unfold evalArgs
    show wpAny _ _ (spliced [] >>= _) _ _ s
    refine wpAny_bind (wpAny_mono h3 (fun vs s' hp => ?_) fun _ _ x => x)
    refine wpAny_bind (wpAny_pure (wpAny_holding ?_))
    exact wpAny_bind (wpAny_pure (wpAny_bind (wpAny_pure (wpAny_pure ⟨rfl, hp⟩))))
  | cons a r =>
    obtain ⟨b, x⟩ := a
    have hb : b = false := by
      rw [List.any_cons] at h1
      cases b with
      | false => rfl
      | true => simp at h1
    subst hb
    exact evalArgs_plain (wpAny_mono h2 (fun vs s' hp => ⟨rfl, hp⟩) fun _ _ x => x)

/-! displays -/
noncomputable def tTup (ts : TEs) : TE := fun ρ σ Q X => ts ρ σ (fun ps σ' => ps.length ≤ 1000000 ∧ Q (.tup ps) σ') X
noncomputable def tList (ts : TEs) : TE := fun ρ σ Q X => ts ρ σ (fun ps σ' => ps.length ≤ 1000000 ∧ ∀ c, σ' c = none → Q (.ref c) (upd σ' c (.list ps))) X
theorem big_ok {k : Nat} (h : k ≤ 1000000) : k ≤ sizeLine := by unfold sizeLine; omega
theorem sound_tuple {es : List Expr} {k : Nat} {pos : Pos} {ts : TEs} (hes : SoundEs g n q sc es ts) : SoundE g n q sc (.Tuple es k pos) (tTup ts) := by
  intro A fr env C hsc s ρ σ Q X H ht
  refine Tuple_ (wpAny_mono (hes.2 A fr env C hsc pos s ρ σ _ X H ht) (fun vs s' hp => ?_) fun _ _ x => x)
  obtain ⟨h₂, tk₂, ps, σ₂, rfl, S2, Sm2, rs, hl, hq⟩ := hp
  have kp : ∀ b o, h₂.get? b = some o → (h₂.push { cls := .type "tuple", data := .seq vs.toArray }).get? b = some o := fun b o e => Heap.get?_push_of_some _ e
  refine wpAny_newTuple (s := { s with heap := h₂, toks := tk₂ }) ⟨_, tk₂, .tup ps, σ₂, rfl, S2.trans (Step.keeps kp), Sm2.keeps kp, .tup (Heap.get?_push_size _ rfl) rfl rfl (rs.keeps kp), hq⟩ (by rw [rs.length]; exact big_ok hl)
theorem sound_list {es : List Expr} {pos : Pos} {ts : TEs} (hes : SoundEs g n q sc es ts) : SoundE g n q sc (.List es pos) (tList ts) := by
  intro A fr env C hsc s ρ σ Q X H ht
  refine List_ (wpAny_mono (hes.2 A fr env C hsc pos s ρ σ _ X H ht) (fun vs s' hp => ?_) fun _ _ x => x)
  obtain ⟨h₂, tk₂, ps, σ₂, rfl, S2, Sm2, rs, hl, hq⟩ := hp
  exact newList_any (s := { s with heap := h₂, toks := tk₂ }) Sm2 rs (by rw [rs.length]; exact big_ok hl) fun c h' h1 h2 h3 => ⟨h', tk₂, _, _, rfl, S2.trans h2, h3, .ref c, hq c h1⟩

/-! operators -/
theorem sound_bin {l r : Expr} {op : Operator} {pos : Pos} {tl tr : TE} (hl : SoundE g n q sc l tl) (hr : SoundE g n q sc r tr) : SoundE g n q sc (.BinOp l op r pos) (tBin op tl tr) := by
  intro A fr env C hsc s ρ σ Q X H ht
  refine wpAny_BinOp (bindE (hl A fr env C hsc s ρ σ _ X H ht) fun u h₁ tk a σ₁ S1 Sm1 ra hq => ?_)
  have H1 := H.step S1 Sm1
  refine wpAny_mono (bindE (hr A fr env C hsc { s with heap := h₁, toks := tk } ρ σ₁ _ X H1 hq) fun v h₂ tk₂ b σ₂ S2 Sm2 rb hq => ?_) (fun _ _ x => x) fun _ _ x => x.up S1
  have ra := S2.rep H1.hp ra
  have S := S1.trans S2
  cases op with
  | Add =>
    rcases hq with ⟨x, y, rfl, rfl, hq⟩ | ⟨x, y, xs, ys, rfl, rfl, e1, e2, hle, hq⟩
    · obtain ⟨t, rfl⟩ := inv_int ra
      obtain ⟨t', rfl⟩ := inv_int rb
      exact PyProof.Rows.add_int (pureE S Sm2 (.int _ _) hq)
    · obtain rfl := inv_ref ra
      obtain rfl := inv_ref rb
      obtain ⟨vs, ⟨m1, ho⟩, r1⟩ := Sm2 _ _ e1
      obtain ⟨ws, ⟨m2, ho2⟩, r2⟩ := Sm2 _ _ e2
      have r12 := r1.append r2
      have hsz : (vs ++ ws).length ≤ sizeLine := by rw [r12.length]; exact big_ok hle
      have e : vs.toArray ++ ws.toArray = (vs ++ ws).toArray := by simp
      refine concat_meets (s := { s with heap := h₂, toks := tk₂ }) ⟨_, ho, rfl⟩ ⟨_, ho2, rfl⟩ noFill_list_add seq_list_add PySem.F.slot_list_add PySem.F.entry_list_add (PySem.F.args_list_add_2 _ _) (list_addW _ _ vs.toArray ws.toArray m1 m2 none none #[] #[] (by simpa using hsz)) ⟨ho, ho2, ?_⟩
      rw [e]
      have kp : ∀ b o, h₂.get? b = some o → (h₂.push { cls := .type "list", data := .seq (vs ++ ws).toArray }).get? b = some o := fun b o e => Heap.get?_push_of_some _ e
      obtain ⟨z1, z2, z3⟩ := addList (fr := fr) (own := nobody) Sm2 kp (fresh_size (Nat.le_refl _)) ⟨_, Heap.get?_push_size _ rfl⟩ (r12.keeps kp)
      exact ⟨_, tk₂, _, _, rfl, S.trans z2, z3, .ref _, hq _ z1⟩
  | Sub =>
    exact two_any (s := { s with heap := h₂, toks := tk₂ }) (P := fun u v => wpAny g.M A (binaryOp .Sub u v) _ _ _) ra rb hq fun x y t t' hq => PyProof.Rows.sub_int (pureE S Sm2 (.int _ _) hq)
  | Mult =>
    refine two_any (s := { s with heap := h₂, toks := tk₂ }) (P := fun u v => wpAny g.M A (binaryOp .Mult u v) _ _ _) ra rb hq fun x y t t' hq => ?_
    refine PyProof.Rows.mul_int (pureE S Sm2 (.int _ _) hq.2) ?_
    rcases hq.1 with ⟨z1, z2⟩ | ⟨z1, z2⟩
    · exact IntMulOk.of_left (intBits_le_64 z1 z2)
    · exact IntMulOk.of_right (intBits_le_64 z1 z2)
  | FloorDiv =>
    exact two_any (s := { s with heap := h₂, toks := tk₂ }) (P := fun u v => wpAny g.M A (binaryOp .FloorDiv u v) _ _ _) ra rb hq fun x y t t' hq => PyProof.Rows.floordiv_int hq.1 (pureE S Sm2 (.int _ _) hq.2.2) (.inl (PyProof.noPylong_small hq.2.1))
  | Mod =>
    exact two_any (s := { s with heap := h₂, toks := tk₂ }) (P := fun u v => wpAny g.M A (binaryOp .Mod u v) _ _ _) ra rb hq fun x y t t' hq => PyProof.Rows.mod_int' hq.1 (pureE S Sm2 (.int _ _) hq.2)
  | Pow =>
    refine two_any (s := { s with heap := h₂, toks := tk₂ }) (P := fun u v => wpAny g.M A (binaryOp .Pow u v) _ _ _) ra rb hq fun x y t t' hq => ?_
    obtain ⟨z1, z2, z3, hq⟩ := hq
    refine PyProof.Rows.pow_int z1 ?_ (pureE S Sm2 (.int _ _) hq)
    have hb := PyProof.Rows.intBits_le (k := 64) z3
    have e1 : ((Builtin.Int.intBits _ : Nat) : Int) ≤ 64 := Int.ofNat_le.mpr hb
    refine Int.le_trans (Int.mul_le_mul e1 z2 z1 (by decide)) (by decide)
  | _ => exact hq.elim
end
end Mine

set_option autoImplicit false
set_option linter.unusedVariables false
namespace Mine
open PySem PyProof.Rows PySem.Calls

section
variable {g : Gx} {n : Nat} {q : Bool} {sc : Scope}

theorem sound_neg {x : Expr} {pos : Pos} {t : TE} (hx : SoundE g n q sc x t) : SoundE g n q sc (.UnaryOp .USub x pos) (tNeg t) := by
  intro A fr env C hsc s ρ σ Q X H ht
  refine UnaryOp_ (bindE (hx A fr env C hsc s ρ σ _ X H ht) fun u h₁ tk a σ₁ S1 Sm1 ra hq => ?_)
  cases a with
  | int i => obtain ⟨t, rfl⟩ := inv_int ra; exact PyProof.Rows.neg_int (pureE S1 Sm1 (.int _ _) hq)
  | _ => exact hq.elim

/-! conditions -/
noncomputable def tNot (b : TB) : TB := fun ρ σ Q X => b ρ σ (fun r σ' => Q (!r) σ') X
noncomputable def tAnd (b c : TB) : TB := fun ρ σ Q X => b ρ σ (fun r σ' => if r = true then c ρ σ' Q X else Q false σ') X
noncomputable def tOr (b c : TB) : TB := fun ρ σ Q X => b ρ σ (fun r σ' => if r = true then Q true σ' else c ρ σ' Q X) X
noncomputable def tTrue : TB := fun _ σ Q _ => Q true σ
noncomputable def tFalse : TB := fun _ σ Q _ => Q false σ
noncomputable def tTest (e : TE) : TB := fun ρ σ Q X => e ρ σ (fun p σ' => match p with
  | .bool b => Q b σ'
  | _ => False) X

theorem bindB {A : Around} {fr : List Env} {σ : Sto} {s : Shared} {t : Sem Bool} {Q₁ : Bool → Sto → Prop} {X : Addr → Sto → Prop} {f : Bool → Shared → Prop}
    (h : wpAny g.M A t (PostB g fr σ s Q₁) (PostX g fr σ s X) s)
    (k : ∀ b h₁ tk σ₁, Step fr nobody σ s.heap σ₁ h₁ → Sim g.base h₁ σ₁ → Q₁ b σ₁ → f b { s with heap := h₁, toks := tk }) :
    wpAny g.M A t f (PostX g fr σ s X) s :=
  wpAny_mono h (fun v _ ⟨h', tk, σ', e, b, S, hq⟩ => e ▸ k v h' tk σ' b S hq) fun _ _ x => x

theorem soundB_not {x : Expr} {pos : Pos} {b : TB} (hb : SoundB g n q sc x b) : SoundB g n q sc (.UnaryOp .Not x pos) (tNot b) := by
  intro A fr env C hsc s ρ σ Q X H ht
  exact isTrue_not (bindB (hb A fr env C hsc s ρ σ _ X H ht) fun r h₁ tk σ₁ S1 Sm1 hq => ⟨h₁, tk, σ₁, rfl, S1, Sm1, hq⟩)
theorem soundB_andNil {pos : Pos} : SoundB g n q sc (.BoolOp .And [] pos) tTrue := by
  intro A fr env C hsc s ρ σ Q X H ht
  exact isTrue_and_nil ⟨s.heap, s.toks, σ, rfl, Step.refl, H.hp.sim, ht⟩
theorem soundB_orNil {pos : Pos} : SoundB g n q sc (.BoolOp .Or [] pos) tFalse := by
  intro A fr env C hsc s ρ σ Q X H ht
  exact isTrue_or_nil ⟨s.heap, s.toks, σ, rfl, Step.refl, H.hp.sim, ht⟩
theorem soundB_and {x : Expr} {rest : List Expr} {pos : Pos} {b c : TB} (hb : SoundB g n q sc x b) (hc : SoundB g n q sc (.BoolOp .And rest pos) c) : SoundB g n q sc (.BoolOp .And (x :: rest) pos) (tAnd b c) := by
  intro A fr env C hsc s ρ σ Q X H ht
  refine isTrue_and (bindB (hb A fr env C hsc s ρ σ _ X H ht) fun r h₁ tk σ₁ S1 Sm1 hq => ?_)
  cases r with
  | true =>
    rw [if_pos rfl]
    exact wpAny_mono (hc A fr env C hsc { s with heap := h₁, toks := tk } ρ σ₁ Q X (H.step S1 Sm1) (by simpa using hq)) (fun _ _ x => x.up S1) fun _ _ x => x.up S1
  | false => rw [if_neg (by decide)]; exact ⟨h₁, tk, σ₁, rfl, S1, Sm1, by simpa using hq⟩
theorem soundB_or {x : Expr} {rest : List Expr} {pos : Pos} {b c : TB} (hb : SoundB g n q sc x b) (hc : SoundB g n q sc (.BoolOp .Or rest pos) c) : SoundB g n q sc (.BoolOp .Or (x :: rest) pos) (tOr b c) := by
  intro A fr env C hsc s ρ σ Q X H ht
  refine isTrue_or (bindB (hb A fr env C hsc s ρ σ _ X H ht) fun r h₁ tk σ₁ S1 Sm1 hq => ?_)
  cases r with
  | false =>
    rw [if_neg (by decide)]
    exact wpAny_mono (hc A fr env C hsc { s with heap := h₁, toks := tk } ρ σ₁ Q X (H.step S1 Sm1) (by simpa using hq)) (fun _ _ x => x.up S1) fun _ _ x => x.up S1
  | true => rw [if_pos rfl]; exact ⟨h₁, tk, σ₁, rfl, S1, Sm1, by simpa using hq⟩
/-- a plain expression as a condition -/
theorem soundB_plain {e : Expr} {t : TE} (he : SoundE g n q sc e t) (hp : ∀ (env : Env) (whole : Sem Value), isTrue e env whole = (do let v ← whole; standAt e.pos; holding [v] (truthy v))) : SoundB g n q sc e (tTest t) := by
  intro A fr env C hsc s ρ σ Q X H ht
  refine isTrue_plain (bindE (he A fr env C hsc s ρ σ _ X H ht) fun u h₁ tk a σ₁ S1 Sm1 ra hq => ?_) (hp env _)
  cases a with
  | bool b => obtain rfl := inv_bool ra; exact wpAny_truthy_bool ⟨h₁, tk, σ₁, rfl, S1, Sm1, hq⟩
  | _ => exact hq.elim

theorem sound_cmp {l r : Expr} {op : CmpOp} {pos : Pos} {tl tr : TE} (hl : SoundE g n q sc l tl) (hr : SoundE g n q sc r tr) (hm : behindInMarks op r = false) : SoundE g n q sc (.Compare l [op] [r] pos) (tCmp op tl tr) := by
  intro A fr env C hsc s ρ σ Q X H ht
  refine wpAny_Compare1 (bindE (hl A fr env C hsc s ρ σ _ X H ht) fun u h₁ tk a σ₁ S1 Sm1 ra hq => ?_) hm
  have H1 := H.step S1 Sm1
  refine wpAny_mono (bindE (hr A fr env C hsc { s with heap := h₁, toks := tk } ρ σ₁ _ X H1 hq) fun v h₂ tk₂ b σ₂ S2 Sm2 rb hq => ?_) (fun _ _ x => x) fun _ _ x => x.up S1
  exact cmp_any (s := { s with heap := h₂, toks := tk₂ }) C.room Sm2 (S2.rep H1.hp ra) rb hq fun c hc => ⟨h₂, tk₂, .bool c, σ₂, rfl, S1.trans S2, Sm2, .bool c, hc⟩
theorem soundB_cmp {l r : Expr} {op : CmpOp} {pos : Pos} {tl tr : TE} (hl : SoundE g n q sc l tl) (hr : SoundE g n q sc r tr) (hm : behindInMarks op r = false) : SoundB g n q sc (.Compare l [op] [r] pos) (tCmpB op tl tr) := by
  intro A fr env C hsc s ρ σ Q X H ht
  refine wpAny_isTrue_Compare1 (bindE (hl A fr env C hsc s ρ σ _ X H ht) fun u h₁ tk a σ₁ S1 Sm1 ra hq => ?_) hm
  have H1 := H.step S1 Sm1
  refine wpAny_mono (bindE (hr A fr env C hsc { s with heap := h₁, toks := tk } ρ σ₁ _ X H1 hq) fun v h₂ tk₂ b σ₂ S2 Sm2 rb hq => ?_) (fun _ _ x => x) fun _ _ x => x.up S1
  exact cmp_any (s := { s with heap := h₂, toks := tk₂ }) C.room Sm2 (S2.rep H1.hp ra) rb hq fun c hc => wpAny_truthy_bool ⟨h₂, tk₂, σ₂, rfl, S1.trans S2, Sm2, hc⟩
theorem soundB_chain {l m r : Expr} {op op' : CmpOp} {pos : Pos} {tl tm tr : TE} (hl : SoundE g n q sc l tl) (hm' : SoundE g n q sc m tm) (hr : SoundE g n q sc r tr) (hm : lastMarks [op, op'] [m, r] = false) : SoundB g n q sc (.Compare l [op, op'] [m, r] pos) (tChainB op op' tl tm tr) := by
  intro A fr env C hsc s ρ σ Q X H ht
  refine isTrue_chain (bindE (hl A fr env C hsc s ρ σ _ X H ht) fun u h₁ tk a σ₁ S1 Sm1 ra hq => ?_) hm
  have H1 := H.step S1 Sm1
  refine wpAny_mono (test_link (bindE (hm' A fr env C hsc { s with heap := h₁, toks := tk } ρ σ₁ _ X H1 hq) fun v h₂ tk₂ b σ₂ S2 Sm2 rb hq => ?_)) (fun _ _ x => x) fun _ _ x => x.up S1
  have H2 := H1.step S2 Sm2
  refine cmp_any (s := { s with heap := h₂, toks := tk₂ }) C.room Sm2 (S2.rep H1.hp ra) rb hq fun c hc => wpAny_truthy_bool ?_
  cases c with
  | false => rw [if_neg (by decide)]; exact ⟨h₂, tk₂, σ₂, rfl, S1.trans S2, Sm2, by simpa using hc⟩
  | true =>
    rw [if_pos rfl]
    refine wpAny_mono (test_last (bindE (hr A fr env C hsc { s with heap := h₂, toks := tk₂ } ρ σ₂ _ X H2 (by simpa using hc)) fun v h₃ tk₃ d σ₃ S3 Sm3 rd hq => ?_)) (fun _ _ x => x) fun _ _ x => x.up S2
    exact cmp_any (s := { s with heap := h₃, toks := tk₃ }) C.room Sm3 (S3.rep H2.hp rb) rd hq fun c hc => wpAny_truthy_bool ⟨h₃, tk₃, σ₃, rfl, (S1.trans S2).trans S3, Sm3, hc⟩

/-! and, or, not as values (of bools) -/
noncomputable def tAndE (a b : TE) : TE := fun ρ σ Q X => a ρ σ (fun p σ' => match p with
  | .bool true => b ρ σ' Q X
  | .bool false => Q (.bool false) σ'
  | _ => False) X
noncomputable def tNotE (a : TE) : TE := fun ρ σ Q X => a ρ σ (fun p σ' => match p with
  | .bool b => Q (.bool (!b)) σ'
  | _ => False) X
theorem sound_one {e : Expr} {op : BoolOp} {pos : Pos} {t : TE} (he : SoundE g n q sc e t) : SoundE g n q sc (.BoolOp op [e] pos) t := by
  intro A fr env C hsc s ρ σ Q X H ht
  exact BoolOp_one (he A fr env C hsc s ρ σ Q X H ht)
theorem sound_and {e₁ e₂ : Expr} {rest : List Expr} {pos : Pos} {a b : TE} (h1 : SoundE g n q sc e₁ a) (h2 : SoundE g n q sc (.BoolOp .And (e₂ :: rest) pos) b) : SoundE g n q sc (.BoolOp .And (e₁ :: e₂ :: rest) pos) (tAndE a b) := by
  intro A fr env C hsc s ρ σ Q X H ht
  refine BoolOp_and (bindE (h1 A fr env C hsc s ρ σ _ X H ht) fun u h₁ tk a σ₁ S1 Sm1 ra hq => ?_)
  cases a with
  | bool b =>
    obtain rfl := inv_bool ra
    refine wpAny_truthy_bool ?_
    cases b with
    | true => rw [if_pos rfl]; exact wpAny_mono (h2 A fr env C hsc { s with heap := h₁, toks := tk } ρ σ₁ Q X (H.step S1 Sm1) hq) (fun _ _ x => x.up S1) fun _ _ x => x.up S1
    | false => rw [if_neg (by decide)]; exact ⟨h₁, tk, .bool false, σ₁, rfl, S1, Sm1, .bool _, hq⟩
  | _ => exact hq.elim
theorem sound_not {x : Expr} {pos : Pos} {t : TE} (hx : SoundE g n q sc x t) : SoundE g n q sc (.UnaryOp .Not x pos) (tNotE t) := by
  intro A fr env C hsc s ρ σ Q X H ht
  refine UnaryOp_ (bindE (hx A fr env C hsc s ρ σ _ X H ht) fun u h₁ tk a σ₁ S1 Sm1 ra hq => ?_)
  cases a with
  | bool b => obtain rfl := inv_bool ra; exact not_of (wpAny_truthy_bool ⟨h₁, tk, .bool (!b), σ₁, rfl, S1, Sm1, .bool _, hq⟩)
  | _ => exact hq.elim

/-! items -/
noncomputable def getP (σ : Sto) (a i : PV) (k : PV → Prop) : Prop := ∃ j, i = .int j ∧ -(2 ^ 62) < j ∧ j < 2 ^ 62 ∧ ∃ xs, itemsOf σ a = some xs ∧ NR a ∧ ((0 ≤ j ∧ ∃ x, xs[j.toNat]? = some x ∧ k x) ∨ (j < 0 ∧ 0 ≤ j + xs.length ∧ ∃ x, xs[(j + xs.length).toNat]? = some x ∧ k x))
noncomputable def tItem (a i : TE) : TE := fun ρ σ Q X => a ρ σ (fun p σ₁ => i ρ σ₁ (fun j σ₂ => getP σ₂ p j fun x => Q x σ₂) X) X

theorem item_any {A : Around} {s : Shared} {σ : Sto} {fr : List Env} {value slice : Expr} {u v : Value} {a i : PV} {k : PV → Prop} {Q : Value → Shared → Prop} {E : Value → Shared → Prop} (H : Hp g.base fr σ s.heap) (ra : Rep g.base s.heap u a) (ri : Rep g.base s.heap v i) (hk : getP σ a i k)
    (hQ : ∀ w x, Rep g.base s.heap w x → k x → Q w s) (hs : ∀ l j t, subscripted slice false (.ref l) (.int j t) = operate [.ref l, .int j t] (getItem (.ref l) (.int j t))) : wpAny g.M A (subscriptTail value slice u v) Q E s := by
  obtain ⟨j, rfl, hj0, hj1, xs, hxs, hnr, hk⟩ := hk
  obtain ⟨t, rfl⟩ := inv_int ri
  obtain ⟨l, rfl, vs, hl, rs⟩ := seq_of H ra hxs hnr
  have hlen := rs.length
  have at' : ∀ {m : Nat} {x : PV}, xs[m]? = some x → ∃ w, vs[m]? = some w ∧ Rep g.base s.heap w x ∧ m < vs.length := fun {m x} hx => by
    obtain ⟨w, hw, r⟩ := rs.get hx
    exact ⟨w, hw, r, (List.getElem?_eq_some_iff.mp hw).1⟩
  rcases hl with hl | hl
  · refine tail_any hl.typeIs slot_list_getitem.lookup ?_ (hs _ _ _)
    rcases hk with ⟨h0, x, hx, hk⟩ | ⟨h0, h1, x, hx, hk⟩
    · obtain ⟨w, hw, rw', _⟩ := at' hx
      exact wpAny_getItem_list hl h0 (by omega) (by simpa using hw) (hQ w x rw' hk)
    · obtain ⟨w, hw, rw', _⟩ := at' hx
      exact wpAny_getItem_list_neg hl h0 (by simp; omega) (by omega) (by simpa [hlen] using hw) (hQ w x rw' hk)
  · rcases hk with ⟨h0, x, hx, hk⟩ | ⟨h0, h1, x, hx, hk⟩
    · obtain ⟨w, hw, rw', hlt⟩ := at' hx
      refine item_tupleT (j := j.toNat) hl (by omega) (by omega) ?_ hw (hQ w x rw' hk) (hs _ _ _)
      unfold seqIndex?
      simp only
      rw [if_neg (show ¬ j < 0 by omega), if_pos (by rw [Bool.and_eq_true]; exact ⟨decide_eq_true h0, decide_eq_true (by omega)⟩)]
    · obtain ⟨w, hw, rw', hlt⟩ := at' hx
      refine item_tupleT (j := (j + xs.length).toNat) hl (by omega) (by omega) ?_ hw (hQ w x rw' hk) (hs _ _ _)
      unfold seqIndex?
      simp only
      rw [if_pos h0, hlen, if_pos (by rw [Bool.and_eq_true]; exact ⟨decide_eq_true h1, decide_eq_true (by omega)⟩)]
theorem sound_item {value slice : Expr} {pos : Pos} {a i : TE} (ha : SoundE g n q sc value a) (hi : SoundE g n q sc slice i) (hs : ∀ l j t, subscripted slice false (.ref l) (.int j t) = operate [.ref l, .int j t] (getItem (.ref l) (.int j t))) : SoundE g n q sc (.Subscript value slice pos) (tItem a i) := by
  intro A fr env C hsc s ρ σ Q X H ht
  refine Subscript_ (bindE (ha A fr env C hsc s ρ σ _ X H ht) fun u h₁ tk a σ₁ S1 Sm1 ra hq => ?_)
  have H1 := H.step S1 Sm1
  refine wpAny_mono (bindE (hi A fr env C hsc { s with heap := h₁, toks := tk } ρ σ₁ _ X H1 hq) fun v h₂ tk₂ b σ₂ S2 Sm2 rb hq => ?_) (fun _ _ x => x) fun _ _ x => x.up S1
  exact item_any (s := { s with heap := h₂, toks := tk₂ }) (H1.hp.step S2 Sm2) (S2.rep H1.hp ra) rb hq (fun w x rw' hk => ⟨h₂, tk₂, x, σ₂, rfl, S1.trans S2, Sm2, rw', hk⟩) hs
end
end Mine

set_option autoImplicit false
set_option linter.unusedVariables false
namespace Mine
open PySem PyProof.Rows PySem.Calls

theorem turnList {base h h' : Heap} {fr : List Env} {own : Addr → Prop} {σ : Sto} {a : Addr} {xs xs' : List PV} {vs' : List Value} (H : Hp base fr σ h) (e : σ a = some (.list xs)) (hs : Heap.SameBut a h h') (hl : h'.PlainList a vs'.toArray) (r : Reps base h vs' xs') :
    Step fr own σ h (upd σ a (.list xs')) h' ∧ Sim base h' (upd σ a (.list xs')) := by
  have firm : ∀ b o, h.get? b = some o → Firm o → h'.get? b = some o := fun b o eb f => (hs.2 b (by rintro rfl; rw [(H.firm eb f).2] at e; cases e)).trans eb
  refine ⟨⟨fun b o eb _ _ n => (hs.2 b (by rintro rfl; rw [n] at e; cases e)).trans eb, fun b o eb m _ => ⟨o.slots, (hs.2 b (by rintro rfl; exact (H.fresh b (by rw [e]; simp)).2 m)).trans eb⟩, fun b o eb _ => ?_, fun c n _ _ => ?_, fun c n => ?_⟩, fun c ao ec => ?_⟩
  · by_cases q : b = a
    · subst q; obtain ⟨m, h1⟩ := hl; exact ⟨_, h1⟩
    · exact ⟨o, (hs.2 b q).trans eb⟩
  · unfold upd; rw [if_neg (by rintro rfl; rw [n] at e; cases e)]; exact n
  · unfold upd
    split
    · simp
    · exact n
  · unfold upd at ec
    split at ec
    · rename_i q; subst q; cases ec; exact ⟨vs', hl, r.mono firm⟩
    · rename_i q
      have := H.sim c ao ec
      cases ao with
      | list ys => obtain ⟨vs, ⟨m, h1⟩, r⟩ := this; exact ⟨vs, ⟨m, (hs.2 c q).trans h1⟩, r.mono firm⟩
      | raw o => exact ⟨(hs.2 c q).trans this.1, this.2⟩

section
variable {g : Gx} {n : Nat} {q : Bool} {sc : Scope}

/-! calls by a global name -/
noncomputable def tCall (ts : TEs) (T : TF) : TE := fun ρ σ Q X => ts ρ σ (fun ps σ₁ => T ps σ₁ Q X) X

/-- what a global name holds -/
noncomputable def GlobAt (g : Gx) (x : Str) (v : Value) : Prop := g.mg x = some v ∨ (g.mg x = none ∧ g.mb x = some v)
theorem name_glob {A : Around} {fr : List Env} {env : Env} {s : Shared} {ρ : Env'} {σ : Sto} {x : Str} {pos : Pos} {v : Value} {Q : Value → Shared → Prop} {E : Value → Shared → Prop} (C : Cx g n q A fr env) (H : St g fr env ρ σ s.heap) (hx : env.scope.names.lookup x = some .globalImplicit) (hd : (x == ("__debug__" : Str)) = false)
    (hg : GlobAt g x v) (hQ : Q v s) : wpAny g.M A (eval (.Name x pos) env) Q E s := by
  refine Name_function_global C.kind hx ?_ hd
  rcases hg with h1 | ⟨h1, h2⟩
  · exact loadGlobal_global (by rw [C.globals]; exact g.hg.keeps H.hp.stays) h1 hQ
  · exact loadGlobal_builtin (by rw [C.globals]; exact g.hg.keeps H.hp.stays) h1 (by rw [C.builtins]; exact g.hb.keeps H.hp.stays) h2 hQ

theorem sound_call {m : Nat} {x : Str} {np pos : Pos} {es : List Expr} {ts : TEs} {f : Addr} {o : Obj} {fd : FuncData} {T : TF} (hx : sc.names.lookup x = some .globalImplicit) (hd : (x == ("__debug__" : Str)) = false) (hg : GlobAt g x (.ref f)) (ho : g.base.get? f = some o) (hf : o.data = .func fd)
    (hes : SoundEs g n q sc es ts) (hT : SoundF g m q f T) (hm : m ≤ n) : SoundE g n q sc (.Call (.Name x np) es [] pos) (tCall ts T) := by
  intro A fr env C hsc s ρ σ Q X H ht
  refine wpAny_Call_ofName (name_glob C H (by rw [hsc]; exact hx) hd hg ?_)
  refine callWith_function (o := o) (fd := fd) (wpAny_mono (evalArgs_es hes C hsc H ht) (fun a s' hp => ?_) fun _ _ x => x)
  obtain ⟨hkw, h₁, tk, ps, σ₁, rfl, S1, Sm1, rs, hq⟩ := hp
  obtain ⟨apos, akw⟩ := a
  obtain rfl : akw = [] := hkw
  have H1 := H.step S1 Sm1
  refine ⟨⟨H1.hp.stays _ _ ho, hf⟩, ?_⟩
  exact wpAny_mono (hT A fr { s with heap := h₁, toks := tk } apos ps σ₁ Q X C.frames (C.room.le hm) C.quiet H1.hp rs hq) (fun _ _ x => x.up S1) fun _ _ x => x.up S1

/-- a built-in function, or a class, told by what it does to its arguments -/
noncomputable def SoundBI (g : Gx) (n : Nat) (q : Bool) (f : Value) (T : TF) : Prop :=
  ∀ (A : Around) (fr : List Env) (s : Shared) (vals : List Value) (ps : List PV) (σ : Sto) (Q : PV → Sto → Prop) (X : Addr → Sto → Prop), A.frames = some fr → Room n A → (q = true → A.handled = none) →
    Hp g.base fr σ s.heap → Reps g.base s.heap vals ps → T ps σ Q X → wpAny g.M A (call f vals) (PostE g fr σ s Q) (PostX g fr σ s X) s
theorem sound_callB {x : Str} {np pos : Pos} {es : List Expr} {ts : TEs} {id : String} {T : TF} (hx : sc.names.lookup x = some .globalImplicit) (hd : (x == ("__debug__" : Str)) = false) (hg : GlobAt g x (.builtin id))
    (hes : SoundEs g n q sc es ts) (hT : SoundBI g n q (.builtin id) T) : SoundE g n q sc (.Call (.Name x np) es [] pos) (tCall ts T) := by
  intro A fr env C hsc s ρ σ Q X H ht
  refine wpAny_Call_ofName (name_glob C H (by rw [hsc]; exact hx) hd hg ?_)
  refine callWith_builtin (hes.1 env pos) (wpAny_mono (evalArgs_es hes C hsc H ht) (fun a s' hp => ?_) fun _ _ x => x)
  obtain ⟨hkw, h₁, tk, ps, σ₁, rfl, S1, Sm1, rs, hq⟩ := hp
  obtain ⟨apos, akw⟩ := a
  obtain rfl : akw = [] := hkw
  have H1 := H.step S1 Sm1
  exact wpAny_mono (hT A fr { s with heap := h₁, toks := tk } apos ps σ₁ Q X C.frames C.room C.quiet H1.hp rs hq) (fun _ _ x => x.up S1) fun _ _ x => x.up S1
theorem sound_callT {x : Str} {np pos : Pos} {es : List Expr} {ts : TEs} {id : String} {T : TF} (hx : sc.names.lookup x = some .globalImplicit) (hd : (x == ("__debug__" : Str)) = false) (hg : GlobAt g x (.type id))
    (hes : SoundEs g n q sc es ts) (hT : SoundBI g n q (.type id) T) : SoundE g n q sc (.Call (.Name x np) es [] pos) (tCall ts T) := by
  intro A fr env C hsc s ρ σ Q X H ht
  refine wpAny_Call_ofName (name_glob C H (by rw [hsc]; exact hx) hd hg ?_)
  refine PyProof.Rows.callWith_type (hes.1 env pos) (wpAny_mono (evalArgs_es hes C hsc H ht) (fun a s' hp => ?_) fun _ _ x => x)
  obtain ⟨hkw, h₁, tk, ps, σ₁, rfl, S1, Sm1, rs, hq⟩ := hp
  obtain ⟨apos, akw⟩ := a
  obtain rfl : akw = [] := hkw
  have H1 := H.step S1 Sm1
  exact wpAny_mono (hT A fr { s with heap := h₁, toks := tk } apos ps σ₁ Q X C.frames C.room C.quiet H1.hp rs hq) (fun _ _ x => x.up S1) fun _ _ x => x.up S1

/-! len, range, list, tuple, int -/
noncomputable def lenF : TF := fun ps σ Q _ => ∃ p xs, ps = [p] ∧ NR p ∧ itemsOf σ p = some xs ∧ xs.length < 2 ^ 62 ∧ Q (.int xs.length) σ
theorem bi_len : SoundBI g n q (.builtin "len") lenF := by
  intro A fr s vals ps σ Q X hfr hroom hq H R ht
  obtain ⟨p, xs, rfl, hnr, hxs, hlt, hQ⟩ := ht
  obtain ⟨v, rfl, r⟩ := reps_one R
  obtain ⟨l, rfl, vs, hl, rs⟩ := seq_of H r hxs hnr
  have hlen := rs.length
  have fin : ∀ {tk tk' : Nat}, PostE g fr σ s Q (.int (vs.toArray.size : Nat) tk) { s with toks := tk' } := fun {tk tk'} => ⟨s.heap, tk', _, σ, rfl, Step.refl, H.sim, .int _ _, by rw [List.size_toArray, hlen]; exact hQ⟩
  rcases hl with hl | hl
  · exact len_list hl (by rw [List.size_toArray]; omega) fin
  · exact len_tuple hl (by rw [List.size_toArray]; omega) fin

noncomputable def rangeF : TF := fun ps σ Q _ => ∃ n, ps = [.int n] ∧ Q (.rng 0 n) σ
theorem bi_range : SoundBI g n q (.type "range") rangeF := by
  intro A fr s vals ps σ Q X hfr hroom hq H R ht
  obtain ⟨m, rfl, ht⟩ := ht
  obtain ⟨v, rfl, r⟩ := reps_one R
  obtain ⟨t, rfl⟩ := inv_int r
  have kp : ∀ b o, s.heap.get? b = some o → (s.heap.push { cls := .type "range", data := .fields #[.int 0 s.toks, .int m t, .int 1 (s.toks + 1)] }).get? b = some o := fun b o e => Heap.get?_push_of_some _ e
  exact call_range_1 ⟨_, _, _, σ, rfl, Step.keeps kp, H.sim.keeps kp, .rng ⟨_, _, _, Heap.get?_push_size _ rfl⟩, ht⟩

noncomputable def listF : TF := fun ps σ Q _ => (∃ a xs, ps = [.ref a] ∧ σ a = some (.list xs) ∧ xs.length ≤ 1000000 ∧ ∀ c, σ c = none → Q (.ref c) (upd σ c (.list xs))) ∨
  ∃ lo hi, ps = [.rng lo hi] ∧ iterOk (.rng lo hi) ∧ hi - lo ≤ 1000000 ∧ ∀ c, σ c = none → Q (.ref c) (upd σ c (.list ((List.range (hi - lo).toNat).map fun k => .int (lo + (k : Nat)))))
theorem itemsOf_reps {base h : Heap} {lo : Int} : ∀ {vs : List Value} {k : Nat}, (∀ (i : Nat) v, vs[i]? = some v → ∃ t, v = .int (lo + ((k + i : Nat) : Int)) t) → Reps base h vs ((List.range' k vs.length).map fun j => .int (lo + (j : Nat)))
  | [], k, _ => by simpa using Reps.nil
  | v :: vs, k, hv => by
    rw [List.length_cons, List.range'_succ, List.map_cons]
    refine .cons ?_ (itemsOf_reps fun i w hw => ?_)
    · obtain ⟨t, rfl⟩ := hv 0 v rfl
      exact .int _ _
    · obtain ⟨t, ht⟩ := hv (i + 1) w (by simpa using hw)
      exact ⟨t, by rw [ht]; congr 2; omega⟩
theorem bi_list (hqt : q = true) : SoundBI g n q (.type "list") listF := by
  intro A fr s vals ps σ Q X hfr hroom hq H R ht
  rcases ht with ⟨a, xs, rfl, e, hle, hQ⟩ | ⟨lo, hi, rfl, ⟨o1, o2, o3, o4⟩, hle, hQ⟩
  · obtain ⟨v, rfl, r⟩ := reps_one R
    obtain rfl := inv_ref r
    obtain ⟨vs, ⟨m, hl⟩, rs⟩ := H.sim _ _ e
    refine call_list_seq _ (.inl rfl) hl rfl rfl (fun h' c' hk hD => ?_) (by rw [List.size_toArray, rs.length]; exact big_ok hle)
    obtain ⟨z1, z2, z3⟩ := addList (fr := fr) (own := nobody) H.sim hk (fresh_size (Nat.le_refl _)) ⟨_, hD⟩ (rs.keeps hk)
    exact ⟨h', s.toks, _, _, rfl, z2, z3, .ref _, hQ _ z1⟩
  · obtain ⟨v, rfl, r⟩ := reps_one R
    obtain ⟨a, rfl, t1, t2, t3, hr⟩ := inv_rng r
    have e : Builtin.Range.rangeSize lo hi 1 = ((hi - lo).toNat : Int) := by
      have := rangeSize_one (a := lo) (b := hi)
      rw [this]; split <;> omega
    refine call_list_range (hq hqt) hr (small_one o1 o2 o3 o4) e (by omega) fun h' tk acc c' hk hD hacc => ?_
    have hr : Reps g.base h' acc.toList ((List.range (hi - lo).toNat).map fun k => .int (lo + (k : Nat))) := by
      have hlen : acc.toList.length = (hi - lo).toNat := by simpa using hacc.1
      have := itemsOf_reps (base := g.base) (h := h') (lo := lo) (vs := acc.toList) (k := 0) fun i v hv => by
        obtain ⟨t, ht⟩ := hacc.2 i v (by simpa using hv)
        exact ⟨t, by rw [ht]; simp⟩
      rw [hlen, ← List.range_eq_range'] at this
      exact this
    obtain ⟨z1, z2, z3⟩ := addList (fr := fr) (own := nobody) (vs := acc.toList) H.sim hk (fresh_size (Nat.le_refl _)) ⟨_, by simpa using hD⟩ hr
    exact ⟨h', tk, _, _, rfl, z2, z3, .ref _, hQ _ z1⟩

noncomputable def tupleF : TF := fun ps σ Q _ => ∃ a xs, ps = [.ref a] ∧ σ a = some (.list xs) ∧ xs.length ≤ 1000000 ∧ Q (.tup xs) σ
theorem bi_tuple : SoundBI g n q (.type "tuple") tupleF := by
  intro A fr s vals ps σ Q X hfr hroom hq H R ht
  obtain ⟨a, xs, rfl, e, hle, hQ⟩ := ht
  obtain ⟨v, rfl, r⟩ := reps_one R
  obtain rfl := inv_ref r
  obtain ⟨vs, hl, rs⟩ := H.sim _ _ e
  refine call_tuple_list hl.isList (fun h' hk => ?_) (by rw [List.size_toArray, rs.length]; exact big_ok hle)
  have kp : ∀ b o, s.heap.get? b = some o → (h'.push { cls := .type "tuple", data := .seq vs.toArray }).get? b = some o := fun b o e => Heap.get?_push_of_some _ (hk _ _ e)
  exact ⟨_, s.toks, _, σ, rfl, Step.keeps kp, H.sim.keeps kp, .tup (Heap.get?_push_size _ rfl) rfl rfl (rs.keeps kp), hQ⟩

end
end Mine

set_option autoImplicit false
set_option linter.unusedVariables false
namespace Mine
open PySem PyProof.Rows PySem.Calls

section
variable {g : Gx} {n : Nat} {q : Bool} {sc : Scope}

theorem sound_expr {e : Expr} {pos : Pos} {t : TE} (he : SoundE g n q sc e t) (hs : ∀ env : Env, env.scope = sc → swapsWith e none pos.line env = pure false) : SoundS g n q sc (.Expr e pos) (tExpr t) := by
  intro A outer env C hsc hf s ρ σ Q X H ht
  refine wpAny_Expr_any (stmtE H hf (he A _ env C hsc s ρ σ _ _ H ht) fun v h₁ tk p σ₁ S1 H1 r hq => ?_) ?_ (hs env hsc)
  · exact ⟨h₁, tk, .next, ρ, σ₁, rfl, noOwn S1, H1, .next, hq⟩
  · unfold interactive; rw [C.kind]; rfl

/-! a store at a list's place -/
noncomputable def setP (σ : Sto) (a i v : PV) (k : Sto → Prop) : Prop := ∃ l j xs, a = .ref l ∧ i = .int j ∧ 0 ≤ j ∧ σ l = some (.list xs) ∧ j < xs.length ∧ xs.length ≤ 1000000 ∧ k (upd σ l (.list (xs.set j.toNat v)))
noncomputable def tStore (o i v : TE) : TS := fun ρ σ Q X => v ρ σ (fun p σ₁ => o ρ σ₁ (fun a σ₂ => i ρ σ₂ (fun j σ₃ => setP σ₃ a j p fun σ₄ => Q .next ρ σ₄) (fun c σ' => X c ρ σ')) (fun c σ' => X c ρ σ')) (fun c σ' => X c ρ σ')

theorem mapSeq_plain (its : Array Value) (m : Nat) (f : Array Value → Array Value) : ∃ m', Obj.mapSeq f { cls := .type "list", data := .seq its m } = { cls := .type "list", data := .seq (f its) m' } := ⟨_, rfl⟩
theorem plain_update {h : Heap} {l : Addr} {its : Array Value} (hl : h.PlainList l its) (f : Array Value → Array Value) : (h.update l (Obj.mapSeq f)).PlainList l (f its) := by
  obtain ⟨m, ho⟩ := hl
  obtain ⟨m', e⟩ := mapSeq_plain its m f
  exact ⟨m', by rw [Heap.get?_update_self _ ho (by rw [e]; rfl), e]⟩

theorem setItem_plain {A : Around} {s : Shared} {E : Value → Shared → Prop} {l : Addr} {items : Array Value} {k : Int} {t : Tok} {v : Value} {Q : Unit → Shared → Prop} (hl : s.heap.PlainList l items)
    (h0 : 0 ≤ k) (hfit : k < 2 ^ 63) (hn : k < items.size)
    (hQ : ∀ h', h'.PlainList l (items.setIfInBounds k.toNat v) → Heap.SameBut l s.heap h' → Q () { s with heap := h' }) :
    wpAny g.M A (setItem (.ref l) (.int k t) v) Q E s := by
  obtain ⟨o, ho, hc, ne, hd⟩ := hl.isList
  unfold setItem
  try with_reducible refine wpAny_holding ?_
  first | refine wpAny_bind (wpAny_pure ?_) | skip
  refine wpAny_bind (wpAny_sequenceKey hl.isList.typeIs (by decide) ?_)
  refine wpAny_bind (wpAny_callSpecial?_slot (name := Str.ofString "__setitem__") hl.isList.typeIs slot_list_setitem
    (wpAny_call_entry slot_list_setitem hl.isList.typeIs entry_list_setitem ?_ (args_list_setitem _ _ _)))
  show wpAny _ _ (Builtin.List.listSubscript? (.int k t) >>= _) _ _ s
  refine wpAny_bind (wpAny_listSubscript_int (fitsIndex_of h0 hfit) ?_)
  clear hfit
  obtain ⟨j, rfl⟩ := Int.eq_ofNat_of_zero_le h0
  have hj : j < items.size := by omega
  have hx' : items[j]? = some items[j] := Array.getElem?_eq_getElem hj
  show wpAny _ _ ((seqItemAt l j >>= fun r => pure (r.map (j, ·))) >>= _) _ _ s
  refine wpAny_bind (wpAny_bind (wpAny_seqItemAt ho hd (wpAny_pure ?_)))
  rw [hx']
  show wpAny _ _ (setSeqItemAt l j v >>= _) _ _ s
  have hfin := plain_update hl (·.setIfInBounds j v)
  refine wpAny_bind (wpAny_setSeqItemAt ho hd ?_)
  first
    | exact wpAny_bind (wpAny_pure (wpAny_pure ⟨.none, rfl, wpAny_pure (hQ _ hfin (Heap.SameBut.update ..))⟩))
    | exact wpAny_pure ⟨.none, rfl, wpAny_pure (hQ _ hfin (Heap.SameBut.update ..))⟩

theorem sound_store {o i e : Expr} {pos' pos : Pos} {to ti te : TE} (he : SoundE g n q sc e te) (ho : SoundE g n q sc o to) (hi : SoundE g n q sc i ti) (hs : ∀ env : Env, env.scope = sc → swapsWith e (some (.Subscript o i pos')) pos.line env = pure false) :
    SoundS g n q sc (.Assign [.Subscript o i pos'] e pos) (tStore to ti te) := by
  intro A outer env C hsc hf s ρ σ Q X H ht
  refine wpAny_Assign_Subscript (stmtE H hf (he A _ env C hsc s ρ σ _ _ H ht) fun v h₁ tk p σ₁ S1 H1 r hq => ?_) (hs env hsc)
  refine wpAny_mono (stmtE (s := { s with heap := h₁, toks := tk }) H1 hf (ho A _ env C hsc { s with heap := h₁, toks := tk } ρ σ₁ _ _ H1 hq) fun ov h₂ tk₂ a σ₂ S2 H2 ra hq => ?_) (fun _ _ x => x) fun _ _ x => x.up (noOwn S1)
  refine wpAny_mono (stmtE (s := { s with heap := h₂, toks := tk₂ }) H2 hf (hi A _ env C hsc { s with heap := h₂, toks := tk₂ } ρ σ₂ _ _ H2 hq) fun iv h₃ tk₃ j σ₃ S3 H3 rj hq => ?_) (fun _ _ x => x) fun _ _ x => x.up (noOwn (S1.trans S2))
  have r3 := S3.rep H2.hp (S2.rep H1.hp r)
  have ra := S3.rep H2.hp ra
  obtain ⟨l, k, xs, rfl, rfl, h0, e, hlt, hle, hq⟩ := hq
  obtain rfl := inv_ref ra
  obtain ⟨t, rfl⟩ := inv_int rj
  obtain ⟨vs, hl, rs⟩ := H3.hp.sim _ _ e
  have hlen := rs.length
  refine setItem_plain (s := { s with heap := h₃, toks := tk₃ }) hl h0 (by omega) (by rw [List.size_toArray]; omega) fun h' hl' hs' => ?_
  have hl'' : h'.PlainList l (vs.set k.toNat v).toArray := by simpa using hl'
  obtain ⟨z1, z2⟩ := turnList (own := nobody) H3.hp e hs' hl'' (rs.set k.toNat r3)
  exact ⟨h', tk₃, .next, ρ, _, rfl, noOwn (((S1.trans S2).trans S3).trans z1), H3.step z1 z2, .next, hq⟩

/-! methods of a list -/
noncomputable def appendF (a : Addr) : TF := fun ps σ Q _ => ∃ v xs, ps = [v] ∧ σ a = some (.list xs) ∧ xs.length ≤ 1000000 ∧ Q .none (upd σ a (.list (xs ++ [v])))
noncomputable def insertF (a : Addr) : TF := fun ps σ Q _ => ∃ i v xs, ps = [.int i, v] ∧ 0 ≤ i ∧ i < 2 ^ 62 ∧ σ a = some (.list xs) ∧ xs.length ≤ 1000000 ∧ Q .none (upd σ a (.list (xs.take i.toNat ++ v :: xs.drop i.toNat)))
noncomputable def tMeth (T : Addr → TF) (o : TE) (ts : TEs) : TE := fun ρ σ Q X => o ρ σ (fun p σ₁ => match p with
  | .ref a => (∃ xs, σ₁ a = some (.list xs)) ∧ ts ρ σ₁ (fun ps σ₂ => T a ps σ₂ Q X) X
  | _ => False) X

noncomputable def SoundMe (g : Gx) (n : Nat) (q : Bool) (id : String) (T : Addr → TF) : Prop :=
  ∀ (A : Around) (fr : List Env) (s : Shared) (a : Addr) (vals : List Value) (ps : List PV) (σ : Sto) (Q : PV → Sto → Prop) (X : Addr → Sto → Prop), A.frames = some fr → Room n A → (q = true → A.handled = none) →
    Hp g.base fr σ s.heap → Reps g.base s.heap vals ps → T a ps σ Q X → wpAny g.M A (call (.builtin id) (.ref a :: vals)) (PostE g fr σ s Q) (PostX g fr σ s X) s

theorem me_append : SoundMe g n q "list.append" appendF := by
  intro A fr s a vals ps σ Q X hfr hroom hq H R ht
  obtain ⟨v, xs, rfl, e, hle, hQ⟩ := ht
  obtain ⟨vv, rfl, r⟩ := reps_one R
  obtain ⟨vs, hl, rs⟩ := H.sim _ _ e
  refine wpAny_list_append_plain hl (fun h' hl' hs' => ?_) (by rw [List.size_toArray, rs.length]; exact big_ok hle)
  have hl'' : h'.PlainList a (vs ++ [vv]).toArray := by simpa using hl'
  obtain ⟨z1, z2⟩ := turnList (own := nobody) H e hs' hl'' (rs.append (.cons r .nil))
  exact ⟨h', s.toks, _, _, rfl, z1, z2, .none, hQ⟩
theorem fitsIdx {i : Int} (h0 : 0 ≤ i) (h1 : i < 2 ^ 62) : ¬ (!Builtin.List.listFitsIndex i) = true := by
  unfold Builtin.List.listFitsIndex
  simp; omega
theorem me_insert : SoundMe g n q "list.insert" insertF := by
  intro A fr s a vals ps σ Q X hfr hroom hq H R ht
  · obtain ⟨i, v, xs, rfl, h0, h1, e, hle, hQ⟩ := ht
    obtain ⟨iv, vv, rfl, ri, rv⟩ := reps_two R
    obtain ⟨t, rfl⟩ := inv_int ri
    obtain ⟨vs, ⟨m, hl⟩, rs⟩ := H.sim _ _ e
    have hsz : vs.toArray.size ≤ sizeLine := by rw [List.size_toArray, rs.length]; exact big_ok hle
    refine call_meets PySem.F.slot_list_insert ⟨_, hl, rfl⟩ PySem.F.entry_list_insert (PySem.F.args_list_insert_3 _ _ _) (AutoListH.list_insert_list_int_val_1 a vs.toArray m i t _ (fitsIdx h0 h1) hsz) ⟨hl, ?_⟩
    have hpl := plain_update (l := a) ⟨m, hl⟩ (fun xs : Array Value => have k := if i < 0 then (i + ((xs.size : Nat) : Int)).toNat else min i.toNat xs.size; (xs.extract 0 k).push vv ++ xs.extract k)
    have e2 : ((fun xs : Array Value => have k := if i < 0 then (i + ((xs.size : Nat) : Int)).toNat else min i.toNat xs.size; (xs.extract 0 k).push vv ++ xs.extract k) vs.toArray) = (vs.take i.toNat ++ vv :: vs.drop i.toNat).toArray := by
      have hneg : ¬ i < 0 := by omega
      simp only [if_neg hneg, List.size_toArray]
      apply Array.ext'
      by_cases hc : i.toNat ≤ vs.length
      · rw [Nat.min_eq_left hc]; simp [List.take_of_length_le]
      · have hc' : vs.length ≤ i.toNat := by omega
        rw [Nat.min_eq_right hc']
        simp [List.take_of_length_le hc', List.drop_of_length_le hc']
    have hpl' : (s.heap.update a (Obj.mapSeq (fun xs : Array Value => have k := if i < 0 then (i + ((xs.size : Nat) : Int)).toNat else min i.toNat xs.size; (xs.extract 0 k).push vv ++ xs.extract k))).PlainList a (vs.take i.toNat ++ vv :: vs.drop i.toNat).toArray := by
      rw [← e2]; exact hpl
    obtain ⟨z1, z2⟩ := turnList (own := nobody) H e (Heap.SameBut.update ..) hpl' ((rs.take i.toNat).append (.cons rv (rs.drop i.toNat)))
    exact ⟨_, s.toks, _, _, rfl, z1, z2, .none, hQ⟩
theorem sound_meth {o : Expr} {name : Str} {apos pos : Pos} {es : List Expr} {id : String} {T : Addr → TF} {to : TE} {ts : TEs} (ho : SoundE g n q sc o to) (hes : SoundEs g n q sc es ts) (hT : SoundMe g n q id T)
    (hbase : ∀ env : Env, env.scope = sc → attributeBase o name env (eval o env) = eval o env)
    (hlen : es.length < 29) (hline : (apos.endLine == pos.line) = true) (slot : Slot "list" name id) (hty : typeOf (.builtin id) = pure (.type "method_descriptor")) :
    SoundE g n q sc (.Call (.Attribute o name apos) es [] pos) (tMeth T to ts) := by
  intro A fr env C hsc s ρ σ Q X H ht
  refine wpAny_Call_method (T := "list") (id := id) (hbase env hsc) ?_ hline PySem.F.plainAttrs_list slot hty (bindE (ho A fr env C hsc s ρ σ _ X H ht) fun u h₁ tk a σ₁ S1 Sm1 ra hq => ?_)
  · have h1 := hes.1 env pos
    have h2 : (backTo pos (starEach es env)).all (fun x => !x.1) = true := by
      rw [List.all_eq_true]
      intro x hx
      rw [List.any_eq_false] at h1
      simpa using h1 x hx
    have h3 : (backToKw pos (keywordEach [] env)).all (fun x => x.1.isSome) = true := rfl
    rw [h2, h3]
    simp only [Bool.and_self, Bool.true_and, List.length_nil, List.isEmpty_nil, if_true, decide_eq_true_eq]
    omega
  have H1 := H.step S1 Sm1
  cases a with
  | ref l =>
    obtain rfl := inv_ref ra
    obtain ⟨⟨xs, e⟩, hq⟩ := hq
    obtain ⟨vs, ⟨m, hl⟩, rs⟩ := Sm1 _ _ e
    refine ⟨⟨_, hl, rfl⟩, fun b hb => ?_, ?_⟩
    · cases hb; exact ⟨_, hl, rfl⟩
    · refine wpAny_mono (callWith_builtin (hes.1 env pos) (wpAny_mono (evalArgs_es (s := { s with heap := h₁, toks := tk }) hes C hsc H1 hq) (fun a s' hp => ?_) fun _ _ x => x)) (fun _ _ x => x) fun _ _ x => x.up S1
      obtain ⟨hkw, h₂, tk₂, ps, σ₂, rfl, S2, Sm2, rs, hq⟩ := hp
      obtain ⟨apos, akw⟩ := a
      obtain rfl : akw = [] := hkw
      have H2 := H1.step S2 Sm2
      exact wpAny_mono (hT A fr { s with heap := h₂, toks := tk₂ } l apos ps σ₂ Q X C.frames C.room C.quiet H2.hp rs hq) (fun _ _ x => x.up (S1.trans S2)) fun _ _ x => PostX.up (s := { s with heap := h₁, toks := tk }) S2 x
  | _ => exact hq.elim
end
end Mine

set_option autoImplicit false
set_option linter.unusedVariables false
namespace Mine
open PySem PyProof.Rows PySem.Calls

/-! an address that no one else knows -/
structure Priv (g : Gx) (fr : List Env) (env : Env) (σ : Sto) (h : Heap) (a : Addr) : Prop where
  nb : g.base.get? a = none
  nf : a ∉ frs fr
  ns : σ a = none
  nl : a ≠ env.locals
  no : ∃ o, h.get? a = some o ∧ ¬ Firm o ∧ ∀ ov, o.data ≠ .cell ov

theorem Priv.firm {g : Gx} {fr : List Env} {env : Env} {σ : Sto} {h : Heap} {a : Addr} (P : Priv g fr env σ h a) {o : Obj} (e : h.get? a = some o) : ¬ Firm o ∧ ∀ ov, o.data ≠ .cell ov := by
  obtain ⟨o', h1, h2⟩ := P.no
  rw [e] at h1; cases h1; exact h2
theorem Priv.up {g : Gx} {fr : List Env} {env env' : Env} {σ σ' : Sto} {h h' : Heap} {a : Addr} (P : Priv g fr env σ h a) (x : Step fr nobody σ h σ' h') : Priv g fr env σ' h' a := by
  obtain ⟨o, h1, h2⟩ := P.no
  exact ⟨P.nb, P.nf, x.new a P.ns id (by rw [h1]; simp), P.nl, o, x.other a o h1 P.nf id P.ns, h2⟩
theorem Priv.at {g : Gx} {fr : List Env} {env : Env} {σ σ' : Sto} {h h' : Heap} {a : Addr} (P : Priv g fr env σ h a) (x : Step fr nobody σ h σ' h') {o : Obj} (e : h.get? a = some o) : h'.get? a = some o := x.other a o e P.nf id P.ns
theorem Priv.but {g : Gx} {fr : List Env} {env : Env} {σ : Sto} {h h' : Heap} {a b : Addr} (P : Priv g fr env σ h a) (k : Heap.ExtBut b h h') (n : a ≠ b) : Priv g fr env σ h' a := by
  obtain ⟨o, h1, h2⟩ := P.no
  exact ⟨P.nb, P.nf, P.ns, P.nl, o, k a o n h1, h2⟩

theorem St.but {g : Gx} {fr : List Env} {env : Env} {ρ : Env'} {σ : Sto} {h h' : Heap} {a : Addr} (H : St g fr env ρ σ h) (P : Priv g fr env σ h a) (k : Heap.ExtBut a h h') : St g fr env ρ σ h' := by
  have firm : ∀ b o, h.get? b = some o → Firm o → h'.get? b = some o := fun b o e f => k b o (by rintro rfl; exact (P.firm e).1 f) e
  obtain ⟨hp, ⟨⟨m, hn, hm⟩, hc⟩, nl⟩ := H
  refine ⟨⟨fun b o e => k b o (by rintro rfl; rw [P.nb] at e; cases e) (hp.stays b o e), funFrames_step hp.frames fun b o e d m => ⟨o, k b o (by rintro rfl; exact P.nf m) e, d⟩, fun c ao e => ?_, hp.fresh, fun b m => ?_⟩, ⟨⟨m, Ns.up hn fun o e => ⟨o.slots, k _ o (Ne.symm P.nl) e⟩, fun y p e1 e2 => ?_⟩, fun y e1 => ?_⟩, nl⟩
  · have hca : c ≠ a := by rintro rfl; rw [P.ns] at e; cases e
    have := hp.sim c ao e
    cases ao with
    | list xs => obtain ⟨vs, ⟨n, h1⟩, r⟩ := this; exact ⟨vs, ⟨n, k c _ hca h1⟩, r.mono firm⟩
    | raw o => exact ⟨k c o hca this.1, this.2⟩
  · obtain ⟨o', es, n, h1, h2⟩ := hp.dicts b m
    exact ⟨o', es, n, k b o' (by rintro rfl; exact P.nf m) h1, h2⟩
  · obtain ⟨v, h1, h2⟩ := hm y p e1 e2
    exact ⟨v, h1, h2.mono firm⟩
  · obtain ⟨c, ov, h1, ⟨o, h2, h3⟩, h4⟩ := hc y e1
    refine ⟨c, ov, h1, ⟨o, k c o ?_ h2, h3⟩, fun p e2 => ?_⟩
    · rintro rfl
      exact (P.firm h2).2 ov h3
    · obtain ⟨v, h5, h6⟩ := h4 p e2
      exact ⟨v, h5, h6.mono firm⟩

theorem Step.but {fr : List Env} {own : Addr → Prop} {σ σ' : Sto} {h h' h'' : Heap} {I : Addr} (x : Step fr own σ h σ' h') (hI : h.get? I = none) (k : Heap.ExtBut I h' h'') : Step fr own σ h σ' h'' := x.keepBut hI k

/-! the cells that a comprehension takes along -/
noncomputable def clOf (env : Env) : List (Str × NameKind) → List (Str × Addr) → List (Str × Addr)
  | [], acc => acc
  | (y, k) :: r, acc => clOf env r (if k == .free then match env.cells.lookup y with | some c => (y, c) :: acc | none => acc else acc)

theorem closure_go (env : Env) (f : Str × NameKind → List (Str × Addr) → Sem (ForInStep (List (Str × Addr)))) (hf : ∀ y k r, f (y, k) r = if (k == NameKind.free) = true then (do let c ← cellOf env y; pure (ForInStep.yield ((y, c) :: r))) else pure (ForInStep.yield r)) :
    ∀ (names : List (Str × NameKind)) (acc : List (Str × Addr)), (∀ y ∈ names, y.2 = .free → (env.cells.lookup y.1).isSome = true) → forIn (m := Sem) names acc f = pure (clOf env names acc)
  | [], acc, _ => rfl
  | (y, k) :: r, acc, h => by
    have ih := closure_go env f hf r
    rw [List.forIn_cons, hf]
    by_cases hk : (k == NameKind.free) = true
    · obtain ⟨c, hc⟩ := Option.isSome_iff_exists.mp (h (y, k) (.head _) (by simpa using hk))
      have hc' : env.cells.lookup y = some c := hc
      have e : cellOf env y = pure c := by unfold cellOf; rw [hc']
      rw [if_pos hk, e, pure_bind, pure_bind]
      show forIn r ((y, c) :: acc) f = _
      rw [ih _ fun z hz => h z (.tail _ hz)]
      simp [clOf, hk, hc']
    · rw [if_neg hk, pure_bind]
      show forIn r acc f = _
      rw [ih _ fun z hz => h z (.tail _ hz)]
      simp [clOf, hk]

theorem closureFor_cl {env : Env} {scope : Scope} (h : ∀ y ∈ scope.names, y.2 = .free → (env.cells.lookup y.1).isSome = true) : closureFor scope env = pure (clOf env scope.names []) := by
  unfold closureFor
  dsimp only
  rw [closure_go env _ (fun y k r => by rfl) scope.names [] h]
  rfl

theorem clOf_from (env : Env) : ∀ (names : List (Str × NameKind)) (acc : List (Str × Addr)), (∀ y c, (y, c) ∈ acc → env.cells.lookup y = some c) → ∀ y c, (y, c) ∈ clOf env names acc → env.cells.lookup y = some c
  | [], acc, h => h
  | (z, k) :: r, acc, h => by
    refine clOf_from env r _ ?_
    split
    · split
      · rename_i c hc
        intro y c' hm
        rcases List.mem_cons.mp hm with e | hm
        · cases e; exact hc
        · exact h y c' hm
      · exact h
    · exact h
theorem clOf_acc (env : Env) : ∀ (names : List (Str × NameKind)) (acc : List (Str × Addr)) (x), x ∈ acc → x ∈ clOf env names acc
  | [], acc, x, h => h
  | (z, k) :: r, acc, x, h => by
    refine clOf_acc env r _ x ?_
    split
    · split
      · exact .tail _ h
      · exact h
    · exact h
theorem clOf_has (env : Env) : ∀ (names : List (Str × NameKind)) (acc : List (Str × Addr)) (y : Str) (c : Addr), (y, NameKind.free) ∈ names → env.cells.lookup y = some c → (y, c) ∈ clOf env names acc
  | [], acc, y, c, h, _ => by simp at h
  | (z, k) :: r, acc, y, c, h, hc => by
    rcases List.mem_cons.mp h with e | h
    · cases e
      refine clOf_acc env r _ _ ?_
      simp [hc]
    · exact clOf_has env r _ y c h hc
theorem lookup_of_mem {l : List (Str × Addr)} {y : Str} {c : Addr} (h : (y, c) ∈ l) : ∃ c', l.lookup y = some c' := by
  induction l with
  | nil => simp at h
  | cons z l ih =>
    obtain ⟨z1, z2⟩ := z
    rw [List.lookup_cons]
    by_cases e : (y == z1) = true
    · rw [e]; exact ⟨z2, rfl⟩
    · have e' : (y == z1) = false := by simpa using e
      rw [e']
      rcases List.mem_cons.mp h with q | h
      · cases q; simp at e
      · exact ih h

theorem relabel_cell {env : Env} : ∀ {names : List (Str × NameKind)} {x : Str}, (∀ y ∈ names, y.2 ≠ .cell) →
    (names.map fun (n, k) => if (k == NameKind.free && env.scope.kind == .function && env.kindOf n == some .cell) then (n, NameKind.cell) else (n, k)).lookup x = some .cell → (x, NameKind.free) ∈ names ∧ env.kindOf x = some .cell
  | [], _, _, h => by simp at h
  | (n, k) :: r, x, hn, h => by
    have ih := @relabel_cell env r x fun y hy => hn y (.tail _ hy)
    simp only [List.map_cons] at h
    by_cases hc : (k == NameKind.free && env.scope.kind == .function && env.kindOf n == some .cell) = true
    · rw [if_pos hc] at h
      simp only [List.lookup_cons] at h
      by_cases e : (x == n) = true
      · simp at e
        subst e
        simp at hc
        refine ⟨?_, hc.2⟩
        rw [hc.1.1]; exact .head _
      · have e' : (x == n) = false := by simpa using e
        rw [e'] at h
        exact ⟨.tail _ (ih h).1, (ih h).2⟩
    · rw [if_neg hc] at h
      simp only [List.lookup_cons] at h
      by_cases e : (x == n) = true
      · rw [e] at h
        simp at h
        exact absurd h (hn (n, k) (.head _))
      · have e' : (x == n) = false := by simpa using e
        rw [e'] at h
        exact ⟨.tail _ (ih h).1, (ih h).2⟩

noncomputable def compR (cs : List Str) (ρ : Env') (x : Str) (p : PV) : Env' := fun y => if y = x then some p else if y ∈ cs then ρ y else none

noncomputable abbrev nope : Addr → Sto → Prop := fun _ _ => False
noncomputable def compL (x : Str) (cs : List Str) (tt : TB) (te : TE) (ok : Sto → Prop) (ρ : Env') : List PV → List PV → Sto → (List PV → Sto → Prop) → Prop
  | [], ys, σ, Q => Q ys σ
  | p :: ps, ys, σ, Q => tt (compR cs ρ x p) σ (fun b σ₁ => if b = true then te (compR cs ρ x p) σ₁ (fun y σ₂ => ok σ₂ ∧ compL x cs tt te ok ρ ps (ys ++ [y]) σ₂ Q) nope else ok σ₁ ∧ compL x cs tt te ok ρ ps ys σ₁ Q) nope
noncomputable def tComp (x : Str) (cs : List Str) (ti : TE) (tt : TB) (te : TE) : TE := fun ρ σ Q X => ti ρ σ (fun p σ₁ => ∃ xs, itemsOf σ₁ p = some xs ∧ iterOk p ∧ xs.length ≤ sizeLine ∧
  compL x cs tt te (fun σ' => itemsOf σ' p = some xs) ρ xs [] σ₁ (fun ys σ₂ => ∀ a, σ₂ a = none → Q (.ref a) (upd σ₂ a (.list ys)))) X

noncomputable def SoundIfs (g : Gx) (n : Nat) (sc : Scope) (ifs : List Expr) (t : TB) : Prop :=
  ∀ (A : Around) (fr : List Env) (env : Env), Cx g n true A fr env → env.scope = sc → ∀ (s : Shared) (ρ : Env') (σ : Sto) (Q : Bool → Sto → Prop) (X : Addr → Sto → Prop),
    St g fr env ρ σ s.heap → t ρ σ Q X → wpAny g.M A (forIn ifs true fun c r => if r = true then do let ok ← isTrue c env (eval c env); pure (ForInStep.yield ok) else pure (ForInStep.yield r)) (PostB g fr σ s Q) (PostX g fr σ s X) s
theorem ifs_nil {g : Gx} {n : Nat} {sc : Scope} : SoundIfs g n sc [] tTrue := fun A fr env C hsc s ρ σ Q X H ht =>
  wpAny_tests_nil ⟨s.heap, s.toks, σ, rfl, Step.refl, H.hp.sim, ht⟩
theorem ifs_one {g : Gx} {n : Nat} {sc : Scope} {c : Expr} {t : TB} (h : SoundB g n true sc c t) : SoundIfs g n sc [c] t := fun A fr env C hsc s ρ σ Q X H ht =>
  wpAny_tests_one (h A fr env C hsc s ρ σ Q X H ht)

theorem PostX.no {g : Gx} {fr : List Env} {σ : Sto} {s s' : Shared} {v : Value} {P : Prop} (p : PostX g fr σ s nope v s') : P := by
  obtain ⟨_, _, _, _, _, _, _, _, _, f⟩ := p
  exact f.elim
end Mine

set_option autoImplicit false
set_option linter.unusedVariables false
namespace Mine
open PySem PyProof.Rows PySem.Calls

section
variable {g : Gx} {n : Nat} {sc sc' : Scope}

/-- what a comprehension's scope must be like -/
structure CompOk (sc sc' scope : Scope) (x : Str) (cs : List Str) : Prop where
  rel : ∀ env : Env, env.scope = sc → relabel scope env = sc'
  kind : scope.kind = .function
  nocell : ∀ y ∈ scope.names, y.2 ≠ .cell
  free : ∀ y ∈ scope.names, y.2 = .free → sc.names.lookup y.1 = some .cell
  names : ∀ y ∈ scope.names, y.2 = .local → scope.names.lookup y.1 = some .local
  hx : scope.names.lookup x = some .local
  cs : ∀ y ∈ cs, sc'.names.lookup y ≠ some .local

theorem comp_inner {scope : Scope} {x : Str} {cs : List Str} {A : Around} {fr : List Env} {env : Env} {ρ : Env'} {σ : Sto} {h : Heap} {D : Addr} {m : Str → Option Value} {v : Value} {p : PV} (K : CompOk sc sc' scope x cs) (C : Cx g n true A fr env) (hsc : env.scope = sc) (H : St g fr env ρ σ h)
    (hD : Priv g fr env σ h D) (hn : h.Ns D m) (hm : m x = some v) (r : Rep g.base h v p) :
    Cx g n true A fr (compEnvC scope (clOf env scope.names []) D env) ∧ (compEnvC scope (clOf env scope.names []) D env).scope = sc' ∧ St g fr (compEnvC scope (clOf env scope.names []) D env) (compR cs ρ x p) σ h := by
  have e1 : (compEnvC scope (clOf env scope.names []) D env).scope = sc' := K.rel env hsc
  have from' : ∀ y c, (clOf env scope.names []).lookup y = some c → env.cells.lookup y = some c := fun y c e => clOf_from env scope.names [] (fun _ _ z => by simp at z) y c (mem_of_lookup e)
  refine ⟨⟨C.frames, C.room, C.quiet, K.kind, C.globals, C.builtins, fun y z c h1 h2 => C.inj y z c (from' _ _ h1) (from' _ _ h2), hD.nb, fun y c h1 => C.cbase y c (from' _ _ h1), fun hc => C.code (relabel_cell (env := env) (x := lamName) K.nocell hc).2⟩, e1, H.hp, ⟨⟨m, hn, fun y p' h1 h2 => ?_⟩, fun y h1 => ?_⟩, hD.ns⟩
  · unfold compR at h1
    by_cases hy : y = x
    · subst hy
      rw [if_pos rfl] at h1; cases h1
      exact ⟨v, hm, r⟩
    · rw [if_neg hy] at h1
      by_cases hc : y ∈ cs
      · exact absurd (by rw [← e1]; exact h2) (K.cs y hc)
      · rw [if_neg hc] at h1; cases h1
  · obtain ⟨h2, h3⟩ := relabel_cell (env := env) (x := y) K.nocell h1
    obtain ⟨c, ov, h4, h5, h6⟩ := H.loc.cell y h3
    obtain ⟨c', h7⟩ := lookup_of_mem (clOf_has env scope.names [] y c h2 h4)
    have h8 := from' _ _ h7
    rw [h4] at h8; cases h8
    refine ⟨c, ov, h7, h5, fun p' h9 => h6 p' ?_⟩
    unfold compR at h9
    by_cases hy : y = x
    · subst hy
      have := lookup_relabel_local (env := env) K.hx
      unfold Env.kindOf compEnvC relabel at h1
      rw [this] at h1; cases h1
    · rw [if_neg hy] at h9
      by_cases hc : y ∈ cs
      · rw [if_pos hc] at h9; exact h9
      · rw [if_neg hc] at h9; cases h9

theorem iter_self {g : Gx} {A : Around} {E : Value → Shared → Prop} {s : Shared} {I : Addr} {p : PV} {k : Nat} {Q : Value → Shared → Prop} (i : IterAt g.base s.heap I p k) (h : Q (.ref I) s) : wpAny g.M A (pyIter (.ref I)) Q E s := by
  cases p with
  | ref a => exact wpAny_pyIter_listiter i h
  | lst a ns => exact wpAny_pyIter_listiter i h
  | tup xs => obtain ⟨t, vs, i, _⟩ := i; exact wpAny_pyIter_tupleiter i h
  | rng lo hi => exact wpAny_pyIter_rangeiter i h
  | _ => exact i.elim

inductive CompI (g : Gx) (fr : List Env) (env : Env) (ρ : Env') (σ : Sto) (s : Shared) (I D T : Addr) (p : PV) (xs : List PV) (x : Str) (cs : List Str) (tt : TB) (te : TE) (Qc : List PV → Sto → Prop) (m : Nat) (s' : Shared) : Prop
  | mk (kk : Nat) (h : Heap) (tk' : Nat) (σ' : Sto) (ys : List PV) (vs : List Value) (mm : Str → Option Value) : s' = { s with heap := h, toks := tk' } → m = xs.length + 1 - kk → kk ≤ xs.length → ys.length ≤ kk → Step fr nobody σ s.heap σ' h → St g fr env ρ σ' h → IterAt g.base h I p kk →
      itemsOf σ' p = some xs → Priv g fr env σ' h T → Priv g fr env σ' h D → Priv g fr env σ' h I → h.Ns T mm → h.PlainList D vs.toArray → Reps g.base h vs ys → compL x cs tt te (fun σ' => itemsOf σ' p = some xs) ρ (xs.drop kk) ys σ' Qc → CompI g fr env ρ σ s I D T p xs x cs tt te Qc m s'
set_option maxHeartbeats 1600000 in
theorem comp_core {scope : Scope} {x : Str} {px pos : Pos} {cs : List Str} {elt iter : Expr} {ifs : List Expr} {tt : TB} {te : TE} (K : CompOk sc sc' scope x cs) (hif : SoundIfs g n sc' ifs tt) (he : SoundE g n true sc' elt te)
    {A : Around} {fr : List Env} {env : Env} {ρ : Env'} {σ : Sto} {s : Shared} {xv : Value} {p : PV} {xs : List PV} {Qc : List PV → Sto → Prop} {E : Value → Shared → Prop} {RR : Value → Addr → Result → Shared → Prop} (C : Cx g n true A fr env) (hsc : env.scope = sc) (H : St g fr env ρ σ s.heap) (r : Rep g.base s.heap xv p) (hxs : itemsOf σ p = some xs) (hok : iterOk p) (hsz : xs.length ≤ sizeLine)
    (hL : compL x cs tt te (fun σ' => itemsOf σ' p = some xs) ρ xs [] σ Qc)
    (k : ∀ D T h' tk ys σ', s.heap.get? D = none → s.heap.get? T = none → D ≠ T → σ' D = none → Step fr nobody σ s.heap (upd σ' D (.list ys)) h' → St g fr env ρ (upd σ' D (.list ys)) h' → Priv g fr env (upd σ' D (.list ys)) h' T → (∃ m, h'.Ns T m) → Qc ys σ' → RR (.ref D) T (.ok .next) { s with heap := h', toks := tk }) :
    wpAny g.M A (pyIter xv) (fun it s₂ => wpAny g.M A (newList []) (fun acc s₃ => wpAny g.M A (newFunctionEnv scope env.globals (clOf env scope.names []) [] env.qual none .none (some env)) (fun cenv s₄ =>
      codeAny g.M A (.compStart (.ListComp elt [⟨.Name x px, iter, ifs, 0⟩] scope pos) 0 it acc { cenv with scope := relabel scope env }) (RR acc cenv.locals) s₄) E s₃) E s₂) E s := by
  refine iter_start (s := s) H.hp r hxs hok fun I h₂ hk2 hI i0 => ?_
  have hr : ∀ (h : Heap) a ns, p = .lst a ns → Rep g.base h (.ref a) p := fun h a ns e => by subst e; exact rep_lst r
  have hIlt : I < h₂.objs.size := by obtain ⟨o, h1, _⟩ := i0.obj; exact Heap.lt_size h1
  refine wpAny_newList ?_ (Nat.zero_le _)
  refine wpAny_newFunctionEnv K.nocell (by intro y hy; simp at hy) (fun h₃ hns₃ hsb₃ => ?_) K.kind
  dsimp only at hns₃ hsb₃ ⊢
  generalize hH2 : h₂.push { cls := .type "list", dict := none, data := .seq ([] : List Value).toArray } = H2 at hns₃ hsb₃ ⊢
  have hT : H2.objs.size = h₂.objs.size + 1 := by rw [← hH2, Heap.size_push]
  have hDT : h₂.objs.size ≠ H2.objs.size := by rw [hT]; exact Nat.ne_of_lt (Nat.lt_succ_self _)
  have up3 : ∀ b o, h₂.get? b = some o → h₃.get? b = some o := fun b o e => hsb₃.extBut b o (by have := Heap.lt_size e; intro z; rw [z, hT] at this; exact Nat.lt_irrefl _ (Nat.lt_of_succ_lt this)) (Heap.get?_push_of_some _ (hH2 ▸ Heap.get?_push_of_some _ e))
  have hacc : h₃.PlainList h₂.objs.size #[] := ⟨_, hsb₃.extBut _ _ hDT (Heap.get?_push_of_some _ (hH2 ▸ Heap.get?_push_size _ rfl))⟩
  have lts : ∀ b o, s.heap.get? b = some o → b < h₂.objs.size := fun b o e => Heap.lt_size (hk2 b o e)
  have up03 : ∀ b o, s.heap.get? b = some o → h₃.get? b = some o := fun b o e => up3 b o (hk2 b o e)
  have fr0 : ∀ a, h₂.objs.size ≤ a → s.heap.get? a = none := fun a ha => by
    cases e : s.heap.get? a with
    | none => rfl
    | some o => exact absurd (lts a o e) (Nat.not_lt.mpr ha)
  have hT' : s.heap.get? H2.objs.size = none := fr0 _ (by rw [hT]; exact Nat.le_succ _)
  have hD' : s.heap.get? h₂.objs.size = none := fr0 _ (Nat.le_refl _)
  have priv : ∀ a o, s.heap.get? a = none → h₃.get? a = some o → ¬ Firm o → (∀ ov, o.data ≠ .cell ov) → Priv g fr env σ h₃ a := fun a o e1 e2 e3 e4 => by
    refine ⟨?_, fun m => ?_, ?_, ?_, o, e2, e3, e4⟩
    · cases z : g.base.get? a with
      | none => rfl
      | some o' => rw [H.hp.stays a o' z] at e1; cases e1
    · obtain ⟨o', _, _, h1, _⟩ := H.hp.dicts a m
      rw [e1] at h1; cases h1
    · cases z : σ a with
      | none => rfl
      | some ao =>
        have := H.hp.sim a ao z
        cases ao with
        | list xs => obtain ⟨vs, ⟨m, h1⟩, _⟩ := this; rw [e1] at h1; cases h1
        | raw o' => rw [e1] at this; cases this.1
    · rintro rfl
      obtain ⟨m, ⟨o', _, _, h1, _⟩, _⟩ := H.loc.ns
      rw [e1] at h1; cases h1
  have PT : Priv g fr env σ h₃ H2.objs.size := by
    obtain ⟨o, es, ep, h1, h2, _⟩ := hns₃
    exact priv _ o hT' h1 (notFirm_dict h2) fun ov z => by rw [h2] at z; cases z
  have PD : Priv g fr env σ h₃ h₂.objs.size := by
    obtain ⟨m, h1⟩ := hacc
    refine priv _ _ hD' h1 ?_ fun ov z => by cases z
    rintro (⟨vs, q, _⟩ | ⟨q, _⟩)
    · cases q
    · injection q with q; exact absurd q (by decide)
  have PI : Priv g fr env σ h₃ I := by
    obtain ⟨o, h1, h2⟩ := i0.obj
    refine priv _ o hI (up3 _ _ h1) h2.notFirm fun ov z => ?_
    obtain ⟨⟨ws, q⟩, _⟩ := h2
    rw [q] at z; cases z
  have hID : I ≠ h₂.objs.size := Nat.ne_of_lt hIlt
  have hIT : I ≠ H2.objs.size := by rw [hT]; exact Nat.ne_of_lt (Nat.lt_succ_of_lt hIlt)
  generalize hDg : h₂.objs.size = D at *
  generalize hTg : H2.objs.size = T at *
  have i3 : IterAt g.base h₃ I p 0 := i0.keep (fun o e => up3 _ o e) fun b o e _ => up3 b o e
  have noted : ∀ {v : Value} {s₀ s' : Shared} {σ₀ : Sto} {F : Value → Shared → Prop}, PostX g fr σ₀ s₀ nope v s' → F v s' := fun p => p.no
  have loop : ∀ tk, codeAny g.M A (.compLoop (.ListComp elt [⟨.Name x px, iter, ifs, 0⟩] scope pos) 0 (.ref I) (.ref D) (compEnvC scope (clOf env scope.names []) T env)) (RR (.ref D) T) { s with heap := h₃, toks := tk } := by
    intro tk
    refine codeAny_compLoop_tests (CompI g fr env ρ σ s I D T p xs x cs tt te Qc) ?_ (xs.length + 1)
      ⟨0, h₃, tk, σ, [], [], _, rfl, rfl, Nat.zero_le _, Nat.le_refl _, Step.keeps up03, H.keeps up03, i3, hxs, PT, PD, PI, hns₃, hacc, .nil, by simpa using hL⟩
    rintro m s' ⟨kk, h, tk', σ', ys, vs, mm, rfl, rfl, hle, hys, S, H', i, hit, QT, QD, QI, hns, hpl, hrs, hL⟩
    by_cases hk : kk < xs.length
    · have hxk : xs[kk]? = some xs[kk] := List.getElem?_eq_getElem hk
      rw [List.drop_eq_getElem_cons hk] at hL
      refine iter_item (s := { s with heap := h, toks := tk' }) H'.hp (hr h) hit i hxk fun v' h₄ tk₄ hs₄ i₄ rv => ?_
      have H4 := H'.but QI hs₄.extBut
      have firm4 : ∀ b o, h.get? b = some o → Firm o → h₄.get? b = some o := fun b o e f => hs₄.extBut b o (by rintro rfl; exact (QI.firm e).1 f) e
      have QT4 := QT.but hs₄.extBut (Ne.symm hIT)
      have QD4 := QD.but hs₄.extBut (Ne.symm hID)
      have S4 := S.keepBut hI hs₄.extBut
      have ns4 := hns.sameBut hs₄ (Ne.symm hIT)
      have pl4 := hpl.extBut hs₄.extBut (Ne.symm hID)
      have QI4 : Priv g fr env σ' h₄ I := by
        obtain ⟨o, h1, h2⟩ := i₄.obj
        refine ⟨QI.nb, QI.nf, QI.ns, QI.nl, o, h1, h2.notFirm, fun ov z => ?_⟩
        obtain ⟨⟨ws, q⟩, _⟩ := h2
        rw [q] at z; cases z
      refine wpAny_assign_Name (wpAny_storeName_local (env := compEnvC scope (clOf env scope.names []) T env) (lookup_relabel_local K.hx) ns4 (fun h₅ hn₅ hs₅ => ?_) (by show (scope.kind == _ || (scope.kind == _ && _)) = false; rw [K.kind]; rfl))
      have H5 := H4.but QT4 hs₅.extBut
      have firm5 : ∀ b o, h₄.get? b = some o → Firm o → h₅.get? b = some o := fun b o e f => hs₅.extBut b o (by rintro rfl; exact (QT4.firm e).1 f) e
      have QT5 : Priv g fr env σ' h₅ T := by
        obtain ⟨o, es, ep, h1, h2, _⟩ := hn₅
        exact ⟨QT.nb, QT.nf, QT.ns, QT.nl, o, h1, notFirm_dict h2, fun ov z => by rw [h2] at z; cases z⟩
      have QD5 := QD4.but hs₅.extBut hDT
      have QI5 := QI4.but hs₅.extBut hIT
      have S5 := S4.keepBut hT' hs₅.extBut
      have pl5 := pl4.extBut hs₅.extBut hDT
      have i5 : IterAt g.base h₅ I p (kk + 1) := i₄.keep (fun o e => hs₅.extBut _ o hIT e) firm5
      have rs5 := (hrs.mono firm4).mono firm5
      obtain ⟨C5, hsc5, HC5⟩ := comp_inner K C hsc H5 QT5 hn₅ (by simp) ((rv.mono firm4).mono firm5)
      refine wpAny_mono (hif A fr _ C5 hsc5 { s with heap := h₅, toks := _ } _ σ' _ nope HC5 hL) (fun b s₆ hp => ?_) fun e s₆ hp => noted hp
      obtain ⟨h₆, tk₆, σ₆, rfl, S6, Sm6, hq⟩ := hp
      have S06 := S5.trans S6
      have H6 := H5.step S6 Sm6
      have QT6 := QT5.up (env' := env) S6
      have QD6 := QD5.up (env' := env) S6
      have QI6 := QI5.up (env' := env) S6
      have ns6 := Ns.up hn₅ fun o e => ⟨o.slots, QT5.at S6 e⟩
      have pl6 : h₆.PlainList D vs.toArray := by obtain ⟨mq, h1⟩ := pl5; exact ⟨mq, QD5.at S6 h1⟩
      have i6 : IterAt g.base h₆ I p (kk + 1) := i5.keep (fun o e => QI5.at S6 e) fun b o e f => S6.other b o e (H5.hp.firm e f).1 id (H5.hp.firm e f).2
      have rs6 := S6.reps H5.hp rs5
      cases b with
      | false =>
        rw [if_neg (by decide)] at hq ⊢
        exact ⟨xs.length + 1 - (kk + 1), by omega, ⟨kk + 1, h₆, tk₆, σ₆, ys, vs, _, rfl, rfl, hk, by omega, S06, H6, i6, hq.1, QT6, QD6, QI6, ns6, pl6, rs6, hq.2⟩⟩
      | true =>
        rw [if_pos rfl] at hq ⊢
        obtain ⟨C6, hsc6, HC6⟩ := comp_inner (x := x) K C hsc H6 QT6 ns6 (by simp) (S6.rep H5.hp ((rv.mono firm4).mono firm5))
        refine wpAny_mono (he A fr _ C6 hsc6 { s with heap := h₆, toks := tk₆ } _ σ₆ _ nope HC6 hq) (fun y s₇ hp => ?_) fun e s₇ hp => noted hp
        obtain ⟨h₇, tk₇, py, σ₇, rfl, S7, Sm7, ry, hq⟩ := hp
        have S07 := S06.trans S7
        have H7 := H6.step S7 Sm7
        have QT7 := QT6.up (env' := env) S7
        have QD7 := QD6.up (env' := env) S7
        have QI7 := QI6.up (env' := env) S7
        have ns7 := Ns.up ns6 fun o e => ⟨o.slots, QT6.at S7 e⟩
        have pl7 : h₇.PlainList D vs.toArray := by obtain ⟨mq, h1⟩ := pl6; exact ⟨mq, QD6.at S7 h1⟩
        have i7 : IterAt g.base h₇ I p (kk + 1) := i6.keep (fun o e => QI6.at S7 e) fun b o e f => S7.other b o e (H6.hp.firm e f).1 id (H6.hp.firm e f).2
        have rs7 := S7.reps H6.hp rs6
        refine wpAny_list_append_plain pl7 (fun h₈ pl₈ hs₈ => ?_) (by rw [List.size_toArray, hrs.length]; exact Nat.le_trans hys (Nat.le_trans hle hsz))
        have firm8 : ∀ b o, h₇.get? b = some o → Firm o → h₈.get? b = some o := fun b o e f => hs₈.extBut b o (by rintro rfl; exact (QD7.firm e).1 f) e
        have pl8 : h₈.PlainList D (vs ++ [y]).toArray := by simpa using pl₈
        have QD8 : Priv g fr env σ₇ h₈ D := by
          obtain ⟨mq, h1⟩ := pl8
          refine ⟨QD7.nb, QD7.nf, QD7.ns, QD7.nl, _, h1, ?_, fun ov z => by cases z⟩
          rintro (⟨vs, q, _⟩ | ⟨q, _⟩)
          · cases q
          · injection q with q; exact absurd q (by decide)
        exact ⟨xs.length + 1 - (kk + 1), by omega, ⟨kk + 1, h₈, tk₇, σ₇, ys ++ [py], vs ++ [y], _, rfl, rfl, hk, by simp; omega, S07.keepBut hD' hs₈.extBut, H7.but QD7 hs₈.extBut, i7.keep (fun o e => hs₈.extBut _ o hID e) firm8, hq.1,
          QT7.but hs₈.extBut (Ne.symm hDT), QD8, QI7.but hs₈.extBut hID, ns7.sameBut hs₈ (Ne.symm hDT), pl8, (rs7.append (.cons ry .nil)).mono firm8, hq.2⟩⟩
    · have hke : kk = xs.length := by omega
      subst hke
      rw [List.drop_length] at hL
      refine iter_end (s := { s with heap := h, toks := tk' }) (C.quiet rfl) H'.hp (hr h) hit i (List.getElem?_eq_none (Nat.le_refl _)) fun h₄ tk₄ hs₄ => ?_
      have H4 := H'.but QI hs₄
      have firm4 : ∀ b o, h.get? b = some o → Firm o → h₄.get? b = some o := fun b o e f => hs₄ b o (by rintro rfl; exact (QI.firm e).1 f) e
      have QT4 := QT.but hs₄ (Ne.symm hIT)
      have S4 := S.keepBut hI hs₄
      have pl4 := hpl.extBut hs₄ (Ne.symm hID)
      have rs4 := hrs.mono firm4
      have Sm4 : Sim g.base h₄ (upd σ' D (.list ys)) := fun a ao e => by
        unfold upd at e
        split at e
        · rename_i q; subst q; cases e; exact ⟨vs, pl4, rs4⟩
        · exact H4.hp.sim a ao e
      have SD : Step fr nobody σ s.heap (upd σ' D (.list ys)) h₄ := ⟨S4.other, S4.frame, S4.live, fun a e1 e2 e3 => by
          unfold upd
          rw [if_neg (by rintro rfl; exact e3 hD')]
          exact S4.new a e1 e2 e3, fun a e => by
          unfold upd
          split
          · simp
          · exact S4.dom a e⟩
      refine k D T h₄ tk₄ ys σ' hD' hT' hDT QD.ns SD (H.step SD Sm4) ⟨QT4.nb, QT4.nf, ?_, QT4.nl, QT4.no⟩ ⟨mm, ?_⟩ hL
      · unfold upd
        rw [if_neg (Ne.symm hDT)]; exact QT4.ns
      · obtain ⟨o, es, ep, h1, h2⟩ := hns
        exact ⟨o, es, ep, hs₄ _ o (Ne.symm hIT) h1, h2⟩
  exact codeAny_compStart_list (loop _) (iter_self (s := { s with heap := h₃, toks := _ }) i3 (loop _))
end
end Mine

set_option autoImplicit false
set_option linter.unusedVariables false
namespace Mine
open PySem PyProof.Rows PySem.Calls

section
variable {g : Gx} {n : Nat} {sc sc' : Scope}
theorem comp_cells {scope : Scope} {x : Str} {cs : List Str} {fr : List Env} {env : Env} {ρ : Env'} {σ : Sto} {h : Heap} (K : CompOk sc sc' scope x cs) (hsc : env.scope = sc) (H : St g fr env ρ σ h) : closureFor scope env = pure (clOf env scope.names []) :=
  closureFor_cl fun y hy hk => by
    have := K.free y hy hk
    rw [← hsc] at this
    obtain ⟨c, ov, h1, _⟩ := H.loc.cell y.1 this
    rw [h1]; rfl

theorem sound_comp {scope : Scope} {x : Str} {px pos : Pos} {cs : List Str} {elt iter : Expr} {ifs : List Expr} {ti : TE} {tt : TB} {te : TE} (K : CompOk sc sc' scope x cs) (hi : SoundE g n true sc iter ti) (hif : SoundIfs g n sc' ifs tt) (he : SoundE g n true sc' elt te)
    (hs : ∀ (env : Env) (v : Value), foldedSetIterable iter env v = pure v) : SoundE g n true sc (.ListComp elt [⟨.Name x px, iter, ifs, 0⟩] scope pos) (tComp x cs ti tt te) := by
  intro A fr env C hsc s ρ σ Q X H ht
  rw [eval_ListComp]
  refine wpAny_comprehension_free (use := none) rfl (hs env) (comp_cells K hsc H) K.kind K.names (bindE (hi A fr env C hsc s ρ σ _ X H ht) fun xv h₁ tk p σ₁ S1 Sm1 r hq => ?_)
  obtain ⟨xs, hxs, hok, hsz, hL⟩ := hq
  refine comp_core (s := { s with heap := h₁, toks := tk }) (RR := fun acc T => compPost g.M A (PostX g fr σ s X) none (PostE g fr σ s Q) acc T) K hif he C hsc (H.step S1 Sm1) r hxs hok hsz hL ?_
  intro D T h' tk' ys σ' hD hT hDT hσ S2 H2 PT hm hQ
  obtain ⟨m, hn⟩ := hm
  refine ⟨m, hn, fun h'' hs'' => ?_⟩
  exact ⟨h'', tk', _, _, rfl, S1.trans (S2.but hT hs''.extBut), (H2.but PT hs''.extBut).hp.sim, .ref D, hQ D hσ⟩

theorem sound_setcomp {scope : Scope} {x y : Str} {px py pos spos : Pos} {cs : List Str} {elt iter : Expr} {ifs : List Expr} {ti : TE} {tt : TB} {te : TE} (K : CompOk sc sc' scope x cs) (hi : SoundE g n true sc iter ti) (hif : SoundIfs g n sc' ifs tt) (he : SoundE g n true sc' elt te)
    (hs : ∀ (env : Env) (v : Value), foldedSetIterable iter env v = pure v) (hy : sc.names.lookup y = some .local ∨ sc.names.lookup y = some .cell)
    (hsw : ∀ env : Env, env.scope = sc → swapsWith (.ListComp elt [⟨.Name x px, iter, ifs, 0⟩] scope pos) (some (.Name y py)) spos.line env = pure true) :
    SoundS g n true sc (.Assign [.Name y py] (.ListComp elt [⟨.Name x px, iter, ifs, 0⟩] scope pos) spos) (tSet y (tComp x cs ti tt te)) := by
  intro A outer env C hsc hf s ρ σ Q X H ht
  have hy' : env.kindOf y = some .local ∨ env.kindOf y = some .cell := by subst hsc; exact hy
  rw [exec_Assign_Name_used _ _ _ _ (hsw env hsc)]
  refine wpAny_bind (wpAny_standAt (wpAny_bind ?_))
  show wpAny _ A (do let _ ← comprehension (.ListComp elt [⟨.Name x px, iter, ifs, 0⟩] scope pos) scope env _ (newList []) false (eval iter env) (some (assign (.Name y py) env))) _ _ s
  refine wpAny_bind (wpAny_mono (wpAny_comprehension_free (use := some (assign (.Name y py) env)) (Q := fun _ s' => PostS g (env :: outer) env σ s Q .next s') rfl (hs env) (comp_cells K hsc H) K.kind K.names
    (stmtE H hf (hi A _ env C hsc s ρ σ _ _ H ht) fun xv h₁ tk p σ₁ S1 H1 r hq => ?_)) (fun _ s' hq => wpAny_pure (wpAny_pure hq)) fun _ _ e => e)
  obtain ⟨xs, hxs, hok, hsz, hL⟩ := hq
  refine comp_core (s := { s with heap := h₁, toks := tk }) (RR := fun acc T => compPost g.M A (PostXS g (env :: outer) env σ s X) (some (assign (.Name y py) env)) (fun _ s' => PostS g (env :: outer) env σ s Q .next s') acc T) K hif he C hsc H1 r hxs hok hsz hL ?_
  intro D T h' tk' ys σ' hD hT hDT hσ S2 H2 PT hm hQ
  obtain ⟨m, hn⟩ := hm
  show wpAny _ A (assign (.Name y py) env (.ref D)) _ _ _
  have hTk : ∀ h'', Step (env :: outer) (owned env) (upd σ' D (.list ys)) h' (upd σ' D (.list ys)) h'' → ∀ o, h'.get? T = some o → h''.get? T = some o := fun h'' x o e => by
    refine x.other T o e PT.nf (fun z => ?_) PT.ns
    rcases z with z | ⟨w, z1, z2⟩
    · exact PT.nl z
    · obtain ⟨c, ov, q1, ⟨o', q2, q3⟩, _⟩ := H2.loc.cell w z1
      rw [q1] at z2; cases z2
      exact (PT.firm q2).2 _ q3
  refine wpAny_assign_Name (store (s := { s with heap := h', toks := tk' }) C H2 hy' (.ref D) fun h₃ tk₃ S3 H3 => ?_)
  have hn3 : h₃.Ns T m := Ns.up hn fun o e => ⟨o.slots, hTk h₃ S3 o e⟩
  have PT3 : Priv g (env :: outer) env (upd σ' D (.list ys)) h₃ T := by
    obtain ⟨o, h1, h2⟩ := PT.no
    exact ⟨PT.nb, PT.nf, PT.ns, PT.nl, o, hTk h₃ S3 o h1, h2⟩
  refine ⟨m, hn3, fun h'' hs'' => ?_⟩
  exact ⟨h'', tk₃, .next, _, _, rfl, ((noOwn S1).trans ((noOwn S2).trans S3)).keepBut (by
    cases z : s.heap.get? T with
    | none => rfl
    | some o =>
      obtain ⟨o', h1⟩ := S1.live T o z id
      have hT' : h₁.get? T = none := hT
      rw [hT'] at h1; cases h1) hs''.extBut, H3.but PT3 hs''.extBut, .next, hQ D hσ⟩
end
end Mine

set_option autoImplicit false
set_option linter.unusedVariables false
namespace Mine
open PySem PyProof.Rows PySem.Calls PySem.W

theorem raised {g : Gx} {fr : List Env} {σ : Sto} {h h' : Heap} {x c : Addr} {vs : List Value} (H : Hp g.base fr σ h) (M : Heap.MadeExcOf h h' x (.ref c) vs) : ExcB g fr nobody σ h σ (hideAll h (frs fr)) h' x c := by
  have firm : ∀ b o, h.get? b = some o → Firm o → (hideAll h (frs fr)).get? b = some o := fun b o e f => hideAll_get _ e (H.firm e f).1
  refine ⟨fun b o e n1 _ _ => hideAll_get _ e n1, fun b o e n1 _ => ⟨o.slots, M.keeps b o e⟩, fun a ao e => ?_, fun a e _ _ => e, fun a e => e, fun b o e => hideAll_get _ (H.stays b o e) fun m => ?_, fun b m => hideAll_none _ m, fun b m => ?_, ?_⟩
  · have nf : a ∉ frs fr := (H.fresh a (by rw [e]; simp)).2
    have := H.sim a ao e
    cases ao with
    | list xs => obtain ⟨vs, ⟨n, h1⟩, r⟩ := this; exact ⟨vs, ⟨n, hideAll_get _ h1 nf⟩, r.mono firm⟩
    | raw o => exact ⟨hideAll_get _ this.1 nf, this.2⟩
  · rw [(H.frames.mem m).1] at e; cases e
  · obtain ⟨o, es, n, h1, h2⟩ := H.dicts b m
    exact ⟨o, es, n, M.keeps _ _ h1, h2⟩
  · refine ⟨fun b o e => M.keeps b o (of_hideAll _ e), ?_, ?_, .inl ?_⟩
    · refine funFrames_step (funFrames_hide H.frames fun env he a hf => List.mem_filterMap.mpr ⟨env, he, hf⟩) fun b o e d m => ⟨o, M.keeps b o e, d⟩
    · cases q : (hideAll h (frs fr)).get? x with
      | none => rfl
      | some o => have := of_hideAll _ q; rw [M.new] at this; cases this
    · obtain ⟨t, h1, _⟩ := M.there
      exact ⟨t, _, h1, rfl, rfl⟩

noncomputable def tRaise (c : Addr) (ts : TEs) : TS := fun ρ σ Q X => ts ρ σ (fun ps σ' => ps.length ≤ sizeLine ∧ X c ρ σ') (fun c' σ' => X c' ρ σ')

section
variable {g : Gx} {n : Nat} {sc : Scope}
theorem sound_raise {x : Str} {c : Addr} {B newId initId : String} {bm : List Value} {es : List Expr} {ts : TEs} {np cpos pos : Pos} (O : OwnCls x c bm newId g.mg g.base) (FB : ExcBaseFacts B newId initId bm) (hes : SoundEs g n true sc es ts)
    (hx : sc.names.lookup x = some .globalImplicit) (hd : (x == ("__debug__" : Str)) = false) : SoundS g n true sc (.Raise (some (.Call (.Name x np) es [] cpos)) none pos) (tRaise c ts) := by
  intro A outer env C hsc hf s ρ σ Q X H ht
  obtain ⟨tl, N, nm, q, bs, hdct, sn, sub, ab, col, dd, k0, k1, k2, k3, k5, mN, hC, hN, hni, T⟩ := O.obj
  refine wpAny_Raise_call_subT (C := c) (nm := nm) (q := q) (N := N) (bs := bs) (bm := tl) (hdct := hdct) (sn := sn) (sub := sub) (ab := ab) (col := col) (dd := dd) (k0 := k0) (k1 := k1) (k2 := k2) (k3 := k3) (k5 := k5)
    FB (mN := mN) (T.hasType FB.hasBase) (C.quiet rfl) (hes.1 env cpos) hni (name_glob C H (by rw [hsc]; exact hx) hd (.inl O.bound) ⟨rfl, ?_⟩)
  refine wpAny_mono (evalArgs_es (f := .ref c) hes C hsc H ht) (fun a s' hp => ?_) fun _ _ y => y.stmt H hf
  obtain ⟨hkw, h₁, tk, ps, σ₁, rfl, S1, Sm1, rs, hle, hq⟩ := hp
  have H1 := H.step S1 Sm1
  have st := H1.hp.stays
  refine ⟨hkw, by rw [rs.length]; exact hle, st _ _ hC, hN.keeps st, T.keeps st, fun h' e M => ?_⟩
  have R := raised H1.hp M
  have P : PostX g (env :: outer) σ₁ { s with heap := h₁, toks := tk } (fun c' σ' => X c' ρ σ') (.ref e) { s with heap := h', toks := tk } := ⟨h', tk, e, c, σ₁, _, rfl, rfl, R, hq⟩
  exact (P.stmt H1 hf).up (noOwn S1)
end
end Mine

set_option autoImplicit false
set_option linter.unusedVariables false
namespace Mine
open PySem PyProof.Rows PySem.Calls PySem.W

theorem Flown.obj {B : Heap} {fr : List Env} {x c : Addr} {h' : Heap} (H : Flown B fr x c h') : ∃ o vs, h'.get? x = some o ∧ o.cls = .ref c ∧ o.data = .fields vs := by
  obtain ⟨_, _, _, a0, oe, vs, T, oT, ts, h1, h2, h3, _⟩ := H
  exact ⟨oe, vs, h1, h2.1, h3⟩

/-- an exception that has landed: the frame goes on -/
theorem ExcB.land {g : Gx} {n : Nat} {q : Bool} {A : Around} {outer : List Env} {env : Env} {ρ ρ' : Env'} {σ σ' : Sto} {h B h' : Heap} {x c : Addr} (C : Cx g n q A (env :: outer) env) (hf : env.frame = some env.locals) (H : St g (env :: outer) env ρ σ h)
    (e : ExcB g (env :: outer) (owned env) σ h σ' B h' x c) (l : Loc g.base B h' env ρ') : Step (env :: outer) (owned env) σ h σ' h' ∧ St g (env :: outer) env ρ' σ' h' := by
  obtain ⟨st, ff, nx, _⟩ := e.fly
  have inB : ∀ a, σ' a ≠ none → ∃ o, B.get? a = some o := fun a hz => by
    cases z : σ' a with
    | none => exact absurd z hz
    | some ao =>
      have := e.sim a ao z
      cases ao with
      | list xs => obtain ⟨vs, ⟨m, h1⟩, _⟩ := this; exact ⟨_, h1⟩
      | raw o => exact ⟨o, this.1⟩
  have nf : ∀ a, σ' a ≠ none → a ∉ frs (env :: outer) := fun a hz m => by
    obtain ⟨o, h1⟩ := inB a hz
    rw [e.nofr a m] at h1; cases h1
  have hL : env.locals ∈ frs (env :: outer) := List.mem_filterMap.mpr ⟨env, .head _, hf⟩
  refine ⟨⟨fun b o e1 n1 n2 n3 => st b o (e.other b o e1 n1 n2 n3), e.frame, fun b o e1 n2 => ?_, e.new, e.dom⟩, ⟨⟨fun b o z => st b o (e.stays b o z), funFrames_base e.stays ff, e.sim.keeps st, fun a hz => ⟨?_, nf a hz⟩, e.dicts⟩, ⟨?_, fun y k => ?_⟩, ?_⟩⟩
  · by_cases m : b ∈ frs (env :: outer)
    · obtain ⟨sl, h1⟩ := e.frame b o e1 m n2; exact ⟨_, h1⟩
    · cases z : σ b with
      | none => exact ⟨o, st b o (e.other b o e1 m n2 z)⟩
      | some ao =>
        obtain ⟨o', h1⟩ := inB b (e.dom b (by rw [z]; simp))
        exact ⟨o', st b o' h1⟩
  · cases z : g.base.get? a with
    | none => rfl
    | some o =>
      exfalso
      refine hz (e.new a ?_ ?_ ?_)
      · cases w : σ a with
        | none => rfl
        | some ao => rw [(H.hp.fresh a (by rw [w]; simp)).1] at z; cases z
      · intro hm
        rcases hm with rfl | ⟨y, _, h1⟩
        · rw [C.nbase] at z; cases z
        · rw [C.cbase y a h1] at z; cases z
      · rw [H.hp.stays a o z]; simp
  · obtain ⟨m, h1, h2⟩ := l.ns
    exact ⟨m, h1, fun y p e1 e2 => let ⟨v, h3, h4⟩ := h2 y p e1 e2; ⟨v, h3, h4.keeps st⟩⟩
  · obtain ⟨c', ov, h1, ⟨o, h2, h3⟩, h4⟩ := l.cell y k
    exact ⟨c', ov, h1, ⟨o, st _ _ h2, h3⟩, fun p e1 => let ⟨v, h5, h6⟩ := h4 p e1; ⟨v, h5, h6.keeps st⟩⟩
  · cases z : σ' env.locals with
    | none => rfl
    | some ao => exact absurd hL (nf _ (by rw [z]; simp))

/-- the handler's name goes -/
noncomputable def unL (ρ : Env') (n : Str) : Env' := fun y => if y = n then none else ρ y
noncomputable def tTry (n : Str) (cls : List Addr) (tb th : TS) : TS := fun ρ σ Q X => tb ρ σ Q (fun c ρ' σ' => c ∈ cls ∧ ∀ a, σ' a = none → th (setL ρ' n (.exc a c)) σ' (fun fl ρ'' σ'' => Q fl (unL ρ'' n) σ'') (fun _ _ _ => False))

section
variable {g : Gx} {n : Nat} {sc : Scope}
theorem nameGoes {q : Bool} {A A' : Around} {fr : List Env} {env : Env} {s : Shared} {ρ : Env'} {σ : Sto} {x : Str} {pos : Pos} {E : Value → Shared → Prop} {Q : Unit → Shared → Prop} (C : Cx g n q A' fr env) (H : St g fr env ρ σ s.heap)
    (hx : env.kindOf x = some .local) (k : ∀ h' tk, Step fr (owned env) σ s.heap σ h' → St g fr env (unL ρ x) σ h' → Q () { s with heap := h', toks := tk }) : wpAny g.M A (do bindName env x .none; unbindBehindTheSuite env x pos) Q E s := by
  obtain ⟨hp, ⟨⟨m, hn, hm⟩, hc⟩, nl⟩ := H
  have hLd : ∀ o, s.heap.get? env.locals = some o → ¬ Firm o := fun o e => by
    obtain ⟨o', es, ep, ho, hd, _⟩ := hn
    rw [e] at ho; cases ho; exact notFirm_dict hd
  refine wpAny_nameGoes_keeps hx hn (by rw [C.kind]; rfl) fun h' v' hn' hs' => ?_
  have hsz : ∃ o', h'.get? env.locals = some o' ∧ ((∃ es n, o'.data = .dict es n) ∨ ((∃ ov, o'.data = .cell ov) ∧ env.locals ∉ frs fr)) := by
    obtain ⟨o', es, ep, ho, hd, _⟩ := hn'
    exact ⟨o', ho, .inl ⟨es, ep, hd⟩⟩
  obtain ⟨S1, H1, R1⟩ := turned (own := owned env) hp (.inl rfl) hs' hsz C.nbase nl hLd
  have un : ∀ y p', unL ρ x y = some p' → y ≠ x ∧ ρ y = some p' := fun y p' e => by
    unfold unL at e
    split at e
    · cases e
    · exact ⟨by assumption, e⟩
  refine k h' _ S1 ⟨H1, ⟨⟨_, hn', fun y p' e k' => ?_⟩, fun y k' => ?_⟩, nl⟩
  · obtain ⟨ne, e⟩ := un y p' e
    obtain ⟨v, h1, r⟩ := hm y p' e k'
    exact ⟨v, by rw [if_neg ne]; exact h1, R1 r⟩
  obtain ⟨c, ov, h1, h2, h3⟩ := hc y k'
  have hcl : c ≠ env.locals := by
    rintro rfl
    obtain ⟨o, ho, hd⟩ := h2
    obtain ⟨o', es, ep, ho', hd', _⟩ := hn
    rw [ho] at ho'; cases ho'; rw [hd] at hd'; cases hd'
  exact ⟨c, ov, h1, h2.sameBut hs' hcl, fun p' e => let ⟨v, h4, r⟩ := h3 p' (un y p' e).2; ⟨v, h4, R1 r⟩⟩

theorem sound_try {q : Bool} {body : List Stmt} {hb : List Stmt} {b₀ : Stmt} {cn nm : Str} {np hpos pos : Pos} {D : Addr} {cls : List Addr} {tb th : TS} (h1 : SoundSs g n q sc body tb) (h2 : SoundSs g n false sc (b₀ :: hb) th)
    (hcn : sc.names.lookup cn = some .globalImplicit) (hcd : (cn == ("__debug__" : Str)) = false) (hD : GlobAt g cn (.ref D)) (hnm : sc.names.lookup nm = some .local)
    (hm : ∀ c ∈ cls, exmOne g.K (.ref c) (.ref D) = some true) : SoundS g n q sc (.Try body [.ExceptHandler (some (.Name cn np)) (some nm) (b₀ :: hb) hpos] [] [] pos) (tTry nm cls tb th) := by
  intro A outer env C hsc hf s ρ σ Q X H ht
  have hnm' : env.kindOf nm = some .local := by subst hsc; exact hnm
  refine wpAny_Try_except (wpAny_mono (h1 A outer env C hsc hf s ρ σ Q _ H ht) (fun f s' hp => ?_) fun v s' hp => ?_)
  · cases f with
    | next => exact wpAny_execs_nil hp
    | _ => exact hp
  · obtain ⟨h', tk, x, c, ρ', σ', B, rfl, rfl, e, l, hc, hx⟩ := hp
    refine Fly.note (s := { s with heap := h', toks := tk }) C.frames hf e.fly fun h₂ H2 u2 => ?_
    refine Held.land (s := { s with heap := h₂, toks := tk }) H2 fun h₃ H3 u3 => ?_
    have u03 := u2.trans u3
    have e3 := e.turn u03 H3.fly
    have l3 := l.turn u03
    obtain ⟨S3, St3⟩ := ExcB.land C hf H e3 l3
    have Cm : Cx g n false (A.mark (some (.ref x))) (env :: outer) env := ⟨C.frames, C.room, fun z => Bool.noConfusion z, C.kind, C.globals, C.builtins, C.inj, C.nbase, C.cbase, C.code⟩
    refine wpAny_handleBy_cons (codeAny_handlers_test (name_glob (s := { s with heap := h₃, toks := tk }) Cm St3 (by rw [hsc]; exact hcn) hcd hD ?_)) (by intro z; cases z)
    obtain ⟨o, vs, ho, hcl, hd⟩ := H3.obj
    have LT : Looks g.M h₃ (typeOf (.ref x)) (.ref c) := hcl ▸ (Looks.ld ho).andThen .now
    have KI : Frag.In g.K h₃ := fun a o z => St3.hp.stays a o (g.inK a o z)
    refine (exm_one KI LT (hm c hc)).here (s := { s with heap := h₃, toks := tk }) ?_
    show codeAny _ _ _ _ _
    refine codeAny_handlers_suite_as (Flown.land (s := { s with heap := h₃, toks := tk }) H3 fun h₄ H4 u4 => ?_)
    have e4 := e3.turn u4 H4.fly
    have l4 := l3.turn u4
    obtain ⟨S4, St4⟩ := ExcB.land C hf H e4 l4
    obtain ⟨o, vs, ho, hcl, hd⟩ := H4.obj
    have hσx : σ' x = none := by
      cases z : σ' x with
      | none => rfl
      | some ao =>
        have nx := H4.2.2.1
        have := e4.sim x ao z
        cases ao with
        | list xs => obtain ⟨vs, ⟨m, h1⟩, _⟩ := this; rw [nx] at h1; cases h1
        | raw o => rw [nx] at this; cases this.1
    refine store (s := { s with heap := h₄, toks := tk }) Cm St4 (.inl hnm') (.exc ho hcl hd) fun h₅ tk₅ S5 St5 => ?_
    refine wpAny_mono (h2 (A.mark (some (.ref x))) outer env Cm hsc hf { s with heap := h₅, toks := tk₅ } _ σ' _ _ St5 (hx x hσx)) (fun f s₆ hp => ?_) fun v s₆ hp => ?_
    · obtain ⟨h₆, tk₆, fl, ρ₆, σ₆, rfl, S6, St6, rf, hq⟩ := hp
      refine nameGoes (s := { s with heap := h₆, toks := tk₆ }) C St6 hnm' fun h₇ tk₇ S7 St7 => ?_
      refine ⟨h₇, tk₇, fl, unL ρ₆ nm, σ₆, rfl, S4.trans (S5.trans (S6.trans S7)), St7, ?_, hq⟩
      cases rf with
      | next => exact .next
      | brk => exact .brk
      | cont => exact .cont
      | ret r => exact .ret (r.mono fun b o e f => S7.other b o e (St6.hp.firm e f).1 (fun z => by
          rcases z with rfl | ⟨y, z1, z2⟩
          · obtain ⟨m, ⟨o', es, ep, q1, q2, _⟩, _⟩ := St6.loc.ns
            rw [e] at q1; cases q1
            exact notFirm_dict q2 f
          · obtain ⟨c', ov, q1, ⟨o', q2, q3⟩, _⟩ := St6.loc.cell y z1
            rw [q1] at z2; cases z2
            rw [e] at q2; cases q2
            exact notFirm_cell q3 f) (St6.hp.firm e f).2)
    · obtain ⟨_, _, _, _, _, _, _, _, _, _, _, z⟩ := hp
      exact z.elim
end
end Mine

set_option autoImplicit false
set_option linter.unusedVariables false
set_option maxRecDepth 100000
namespace Mine
open PySem PyProof.Rows PySem.Calls PySem.W Builtin Builtin.ObjectAttr Builtin.Getset_descriptor

/-- an own exception class, as far as isinstance asks -/
structure ExcK (K : Frag) (c : Addr) : Prop where
  ga : findIn K (.ref c) "__getattribute__" = some (some (.builtin "BaseException.__getattribute__"))
  gn : findIn K (.ref c) "__getattr__" = some none
  cl : findIn K (.ref c) "__class__" = some (some (.builtin "object.__class__"))
  mo : mroIn K c (.type "object") = some true
  mb : mroIn K c (.type "BaseException") = some true
  is : (clsIn K c).isSome = true

section
variable {prog : Program} {w : World} {A : Around} {E : Value → Shared → Prop} {h : Heap} {g : Array GenState} {d : Drawn} {t : Nat} {os : OsState} {a c : Addr} {o : Obj} {K : Frag}

theorem exc_class_get {R : Result → Shared → Prop} (X : K.In h) (F' : ExcK K c) (hx : h.get? a = some o) (hc : o.cls = .ref c) (hq : R (.ok (.ret (.ref c))) ⟨h, g, d, t, os⟩) :
    codeAny (model prog w) A (.call (.builtin "getset_descriptor.__get__") ⟨[.builtin "object.__class__", .ref a, .ref c], []⟩) R ⟨h, g, d, t, os⟩ := by
  have hT5 : (⟨h, g, d, t, os⟩ : Shared).TypeIs (.builtin "object.__class__") "getset_descriptor" := F.typeOf_object_class
  have L1 := looks_mroIn (M := model prog w) X F'.mo
  have L0 : Looks (model prog w) h (typeOf (.ref a)) (.ref c) := hc ▸ (Looks.ld hx).andThen .now
  refine codeAny_call_builtin F.slot_gs_get.plain F.entry_gs_get (F.slot_gs_get.check _ _ _ _ _ _ _ _ hT5 (F.args_gs_get _ _ _) ?_)
  unfold Builtin.«getset_descriptor.__get__» descrGet
  rw [dga_obj]
  refine wpAny_bind (wpAny_pure ?_)
  unfold descrGetter descrCheckInstance descrNameAndClass isInstance
  simp only [KF.owner_class]
  repeat lk
  refine ⟨Code.quiet_builtin _ (by decide +kernel), codeAny_builtin KF.entry_class ?_⟩
  unfold Builtin.«object.__class__» shownTypeOf
  repeat lk
  exact hq

theorem exc_check_ga {M : Model} {nameV : Value} {Q : Unit → Shared → Prop} (X : K.In h) (F' : ExcK K c) (hx : h.get? a = some o) (hc : o.cls = .ref c) (hq : Q () ⟨h, g, d, t, os⟩) : wpAny M A (checkBuiltinCall "BaseException.__getattribute__" ⟨[.ref a, nameV], []⟩) Q E ⟨h, g, d, t, os⟩ := by
  have hk : builtinKind "BaseException.__getattribute__" = some .slot := by decide +kernel
  have hsplit : splitId "BaseException.__getattribute__" = some ("BaseException", "__getattribute__") := by decide +kernel
  have L1 := looks_mroIn (M := M) X F'.mb
  have L0 : Looks M h (typeOf (.ref a)) (.ref c) := hc ▸ (Looks.ld hx).andThen .now
  have LI : Looks M h (isInstance (.ref a) (.type "BaseException")) true := L0.andThen L1
  have ha := F.args_bexc_ga (.ref a) nameV
  simp only [checkBuiltinCall, hk, hsplit]
  refine wpAny_bind (LI.at ?_)
  repeat (first | assumption | wp_step)

theorem exc_class_entry {tk : Tok} {Q : Fin → Shared → Prop} (X : K.In h) (F' : ExcK K c) (hx : h.get? a = some o) (hc : o.cls = .ref c) (hq : Q (.done (.ret (.ref c))) ⟨h, g, d, t, os⟩) :
    wpAny (model prog w) A (Builtin.«object.__getattribute__» ⟨[.ref a, .str "__class__" tk], []⟩) Q E ⟨h, g, d, t, os⟩ := by
  have hT5 : (⟨h, g, d, t, os⟩ : Shared).TypeIs (.builtin "object.__class__") "getset_descriptor" := F.typeOf_object_class
  have f5 := F.typeOf_object_class
  have f6 := F.slot_gs_get.lookup
  have f7 := F.slot_gs_set.lookup
  have L1 := looks_findIn (M := model prog w) X F'.cl
  repeat (any_goals (first | assumption | (with_reducible refine wpAny_loadPart_at hx ?_; rw [hc]) | with_reducible refine Looks.at L1 ?_ | wp_step))
  refine exc_class_get X F' hx hc ?_
  repeat (any_goals (first | assumption | wp_step))

theorem exc_class_call {tk : Tok} {R : Result → Shared → Prop} (X : K.In h) (F' : ExcK K c) (hx : h.get? a = some o) (hc : o.cls = .ref c) (hq : R (.ok (.ret (.ref c))) ⟨h, g, d, t, os⟩) :
    codeAny (model prog w) A (.call (.builtin "BaseException.__getattribute__") ⟨[.ref a, .str "__class__" tk], []⟩) R ⟨h, g, d, t, os⟩ :=
  codeAny_call_builtin F.attr_ValueError.ga.plain F.entry_bexc_ga (exc_check_ga X F' hx hc (exc_class_entry X F' hx hc hq))

theorem exc_class_by {tk : Tok} {Q : Value → Shared → Prop} (X : K.In h) (F' : ExcK K c) (hx : h.get? a = some o) (hc : o.cls = .ref c) (hq : Q (.ref c) ⟨h, g, d, t, os⟩) :
    wpAny (model prog w) A (getAttrBy (.ref a) (.str "__class__" tk) false) Q E ⟨h, g, d, t, os⟩ := by
  have f3 := F.attr_ValueError.ga.bind (.ref a)
  have hx0 : (false && onTheHeap (Value.builtin "BaseException.__getattribute__")) = false := rfl
  have hx2 : (Value.builtin "BaseException.__getattribute__" == Value.builtin "object.__getattribute__") = false := by decide +kernel
  have hx1 : (onTheHeap (Value.ref c) && Value.builtin "BaseException.__getattribute__" == Value.builtin "object.__getattribute__") = false := by rw [hx2]; rfl
  have L1 := looks_findIn (M := model prog w) X F'.ga
  have L2 := looks_findIn (M := model prog w) X F'.gn
  repeat (any_goals (first | assumption | (with_reducible refine wpAny_loadPart_at hx ?_; rw [hc]) | with_reducible refine Looks.at L1 ?_ | with_reducible refine Looks.at L2 ?_ | wp_step))
  refine exc_class_call X F' hx hc ?_
  repeat (any_goals (first | assumption | wp_step))

theorem exc_class_attr {Q : Option Value → Shared → Prop} (X : K.In h) (F' : ExcK K c) (hx : h.get? a = some o) (hc : o.cls = .ref c) (hq : Q (some (.ref c)) ⟨h, g, d, t + 1, os⟩) : wpAny (model prog w) A (getAttr? (.ref a) "__class__") Q E ⟨h, g, d, t, os⟩ := by
  unfold getAttr? getAttrBy?
  repeat (any_goals (first | assumption | with_reducible apply exc_class_by X F' hx hc | wp_step))
end

theorem kitx_exc {K : Frag} {a c : Addr} (F' : ExcK K c) : KitX K (.ref a) (.ref c) (fun h => ∃ o, h.get? a = some o ∧ o.cls = .ref c) where
  ty := fun M h X ⟨o, h1, h2⟩ => h2 ▸ (Looks.ld h1).andThen .now
  it := fun M h X _ => by
    obtain ⟨cd, hcd⟩ := Option.isSome_iff_exists.mp F'.is
    unfold clsIn at hcd
    split at hcd
    · rename_i c' d' cd' sl' ho
      intro A' Q' E' s' k q
      unfold isType loadHead
      exact wpAny_bind (wpAny_loadPart (k _ _ (X _ _ ho)) (wpAny_pure q))
    · cases hcd
  ne := fun h tp dd its n sl X htp => by
    obtain ⟨cd, hcd⟩ := Option.isSome_iff_exists.mp F'.is
    refine Bool.eq_false_iff.mpr fun q => ?_
    have e : c = tp := Value.ref.inj (beq_iff_eq.mp q)
    subst e
    unfold clsIn at hcd
    split at hcd
    · rename_i c' d' cd' sl' ho
      have z := (X _ _ ho).symm.trans htp
      cases z
    · cases hcd
  ca := fun {_ _ _ _ _ s} X ⟨o, h1, h2⟩ k => by obtain ⟨h, g, d, t, os⟩ := s; exact exc_class_attr X F' h1 h2 k
end Mine

set_option autoImplicit false
set_option linter.unusedVariables false
set_option maxRecDepth 100000
namespace Mine
open PySem PyProof.Rows PySem.Calls PySem.W

inductive Ty where
  | none | bool | int | str | tup | list | dict
  | exc (c : Addr)
noncomputable def Ty.val : Ty → Value
  | .none => .type "NoneType"
  | .bool => .type "bool"
  | .int => .type "int"
  | .str => .type "str"
  | .tup => .type "tuple"
  | .list => .type "list"
  | .dict => .type "dict"
  | .exc c => .ref c
noncomputable def tyOf (σ : Sto) : PV → Option Ty
  | .none => some .none
  | .bool _ => some .bool
  | .int _ => some .int
  | .str _ => some .str
  | .tup _ => some .tup
  | .lst _ _ => some .list
  | .exc _ c => some (.exc c)
  | .rng _ _ => Option.none
  | .ref a => match σ a with
    | some (.list _) => some .list
    | some (.raw ⟨.type "dict", _, _, _⟩) => some .dict
    | _ => Option.none
noncomputable def tIsinst (te : TE) (ok : Ty → Option Bool) : TE := fun ρ σ Q X => te ρ σ (fun p σ' => ∃ ty b, tyOf σ' p = some ty ∧ ok ty = some b ∧ Q (.bool b) σ') X

theorem isinst_any {g : Gx} {A : Around} {fr : List Env} {σ : Sto} {s : Shared} {v cv : Value} {p : PV} {ty : Ty} {b : Bool} {Q : Value → Shared → Prop} {E : Value → Shared → Prop} (H : Hp g.base fr σ s.heap) (r : Rep g.base s.heap v p) (ht : tyOf σ p = some ty)
    (hk : kitOne g.K ty.val cv = some b) (hE : ∀ c, ty = .exc c → ExcK g.K c) (h : ∀ tk, Q (.bool b) { s with toks := tk }) : wpAny g.M A (call (.builtin "isinstance") [v, cv]) Q E s := by
  have X : Frag.In g.K s.heap := fun a o z => H.stays a o (g.inK a o z)
  cases p with
  | none => cases ht; obtain rfl := inv_none r; exact kia_one kitx_none X trivial hk (by simp) h
  | bool b => cases ht; obtain rfl := inv_bool r; exact kia_one kitx_bool X trivial hk (by simp) h
  | int i => cases ht; obtain ⟨t, rfl⟩ := inv_int r; exact kia_one kitx_int X trivial hk (by simp) h
  | str x => cases ht; obtain ⟨t, rfl⟩ := inv_str r; exact kia_one kitx_str X trivial hk (by simp) h
  | tup xs => cases ht; obtain ⟨a, o, vs, n, rfl, ho, hc, hd, rs⟩ := inv_tup r; exact kia_one kitx_tuple X ⟨_, ho, hc⟩ hk (by simp) h
  | lst a ns => cases ht; obtain ⟨rfl, vs, ⟨o, h3, h4, h5⟩, _⟩ := inv_lst r; exact kia_one kitx_list X ⟨o, H.stays _ _ h3, h4⟩ hk (by simp) h
  | exc a c => cases ht; obtain ⟨o, rfl, ho, hc⟩ := inv_exc r; exact kia_one (kitx_exc (hE _ rfl)) X ⟨_, ho, hc⟩ hk (by simp) h
  | rng lo hi => cases ht
  | ref a =>
    obtain rfl := inv_ref r
    unfold tyOf at ht
    dsimp only at ht
    split at ht
    · rename_i xs e
      cases ht
      obtain ⟨vs, ⟨m, h1⟩, _⟩ := H.sim a _ e
      exact kia_one kitx_list X ⟨_, h1, rfl⟩ hk (by simp) h
    · rename_i d da sl e
      cases ht
      have := H.sim a _ e
      exact kia_one kitx_dict X ⟨_, this.1, rfl⟩ hk (by simp) h
    · cases ht

section
variable {g : Gx} {n : Nat} {q : Bool} {sc : Scope}
theorem sound_isinst {e : Expr} {te : TE} {ok : Ty → Option Bool} {cn : Str} {cv : Value} {np cp pos : Pos} (he : SoundE g n q sc e te) (hx : sc.names.lookup ("isinstance" : Str) = some .globalImplicit) (hg : GlobAt g "isinstance" (.builtin "isinstance"))
    (hc : sc.names.lookup cn = some .globalImplicit) (hcd : (cn == ("__debug__" : Str)) = false) (hcg : GlobAt g cn cv) (hok : ∀ ty b, ok ty = some b → kitOne g.K ty.val cv = some b) (hE : ∀ c b, ok (.exc c) = some b → ExcK g.K c)
    (hns : ∀ env : Env, starEach [e, .Name cn cp] env = [(false, eval e env), (false, eval (.Name cn cp) env)]) : SoundE g n q sc (.Call (.Name "isinstance" np) [e, .Name cn cp] [] pos) (tIsinst te ok) := by
  intro A fr env C hsc s ρ σ Q X H ht
  refine wpAny_Call_ofName (name_glob C H (by rw [hsc]; exact hx) (by decide) hg ?_)
  refine callWith_builtin (by rw [hns]; rfl) ?_
  rw [hns]
  show wpAny _ _ (evalArgs _ true ((false, eval e env) :: (false, eval (.Name cn cp) env) :: []) []) _ _ _
  refine Calls.evalArgs_plain (spliced_cons (bindE (he A fr env C hsc s ρ σ _ X H ht) fun v h₁ tk p σ₁ S1 Sm1 r hq => ?_))
  have H1 := H.step S1 Sm1
  refine spliced_cons (name_glob (s := { s with heap := h₁, toks := tk }) C H1 (by rw [hsc]; exact hc) hcd hcg (spliced_nil ?_))
  obtain ⟨ty, b, h1, h2, h3⟩ := hq
  refine isinst_any (s := { s with heap := h₁, toks := tk }) H1.hp r h1 (hok ty b h2) (fun c e => by subst e; exact hE c b h2) fun tk' => ?_
  exact ⟨h₁, tk', _, σ₁, rfl, S1, Sm1, .bool b, h3⟩

noncomputable def okInt : Ty → Option Bool
  | .exc _ => Option.none
  | .int => some true
  | .bool => some true
  | _ => some false
noncomputable def okBool : Ty → Option Bool
  | .exc _ => Option.none
  | .bool => some true
  | _ => some false
noncomputable def okList : Ty → Option Bool
  | .exc _ => Option.none
  | .list => some true
  | _ => some false
theorem okInt_ok {K : Frag} : ∀ ty b, okInt ty = some b → kitOne K ty.val (.type "int") = some b := by
  intro ty b e
  cases ty <;> cases e <;> rfl
theorem okBool_ok {K : Frag} : ∀ ty b, okBool ty = some b → kitOne K ty.val (.type "bool") = some b := by
  intro ty b e
  cases ty <;> cases e <;> rfl
theorem okList_ok {K : Frag} : ∀ ty b, okList ty = some b → kitOne K ty.val (.type "list") = some b := by
  intro ty b e
  cases ty <;> cases e <;> rfl
end
end Mine

set_option autoImplicit false
set_option linter.unusedVariables false
set_option maxRecDepth 100000
namespace Mine
open PySem PyProof.Rows PySem.Calls PySem.W

/-! slices -/
noncomputable abbrev TP := Env' → Sto → (Option Int → Sto → Prop) → (Addr → Sto → Prop) → Prop
noncomputable def SoundP (g : Gx) (n : Nat) (q : Bool) (sc : Scope) (e : Option Expr) (t : TP) : Prop :=
  ∀ (A : Around) (fr : List Env) (env : Env), Cx g n q A fr env → env.scope = sc → ∀ (s : Shared) (ρ : Env') (σ : Sto) (Q : Option Int → Sto → Prop) (X : Addr → Sto → Prop),
    St g fr env ρ σ s.heap → t ρ σ Q X → wpAny g.M A (evalPart e env) (fun v s' => ∃ h' tk i σ', s' = { s with heap := h', toks := tk } ∧ Step fr nobody σ s.heap σ' h' ∧ Sim g.base h' σ' ∧ IsPart v i ∧ Q i σ') (PostX g fr σ s X) s
noncomputable def tPnone : TP := fun _ σ Q _ => Q none σ
noncomputable def tPsome (t : TE) : TP := fun ρ σ Q X => t ρ σ (fun p σ' => ∃ i, p = .int i ∧ Q (some i) σ') X
noncomputable def cutL (xs : List PV) (lo hi : Option Int) : List PV := (xs.take (hi.elim xs.length Int.toNat)).drop (lo.elim 0 Int.toNat)
noncomputable def partOk : Option Int → Prop
  | none => True
  | some i => 0 ≤ i
noncomputable def tSlice (te : TE) (tl tu : TP) : TE := fun ρ σ Q X => te ρ σ (fun p σ₁ => tl ρ σ₁ (fun lo σ₂ => tu ρ σ₂ (fun hi σ₃ => ∃ xs, partOk lo ∧ partOk hi ∧ LR p ∧ itemsOf σ₃ p = some xs ∧ xs.length ≤ sizeLine ∧
  ∀ a, σ₃ a = none → Q (.ref a) (upd σ₃ a (.list (cutL xs lo hi)))) X) X) X

theorem cut_same {α : Type} (items : List α) (a b : Nat) : (items.drop (min a items.length)).take (min b items.length - min a items.length) = (items.take b).drop a := by
  rw [List.drop_take]
  by_cases h : a ≤ items.length
  · rw [Nat.min_eq_left h, List.take_eq_take_min (i := b - a), List.length_drop, Nat.sub_min_sub_right]
  · have h' : items.length ≤ a := Nat.le_of_not_le h
    rw [Nat.min_eq_right h', List.drop_of_length_le (Nat.le_refl _), List.drop_of_length_le h', List.take_nil, List.take_nil]
theorem clip_same {n : Nat} {d : Nat} (hd : min d n = d) {o : Option Int} (h : partOk o) : o.elim d (clipAt n) = min (o.elim d Int.toNat) n := by
  cases o with
  | none => exact hd.symm
  | some i => have := clipAt_nat n i.toNat; rw [Int.toNat_of_nonneg h] at this; exact this
theorem slice_vals {α : Type} (items : List α) (lo hi : Option Int) (h1 : partOk lo) (h2 : partOk hi) :
    (items.drop (lo.elim 0 (clipAt items.length))).take (hi.elim items.length (clipAt items.length) - lo.elim 0 (clipAt items.length)) = (items.take (hi.elim items.length Int.toNat)).drop (lo.elim 0 Int.toNat) := by
  rw [clip_same (Nat.zero_min _) h1, clip_same (Nat.min_self _) h2]
  exact cut_same _ _ _

section
variable {g : Gx} {n : Nat} {q : Bool} {sc : Scope}
theorem part_none : SoundP g n q sc none tPnone := by
  intro A fr env C hsc s ρ σ Q X H ht
  rw [evalPart_none]
  exact wpAny_pure ⟨s.heap, s.toks, none, σ, rfl, Step.refl, H.hp.sim, .none, ht⟩
theorem part_some {e : Expr} {t : TE} (he : SoundE g n q sc e t) : SoundP g n q sc (some e) (tPsome t) := by
  intro A fr env C hsc s ρ σ Q X H ht
  refine wpAny_mono (he A fr env C hsc s ρ σ _ X H ht) (fun v s' hp => ?_) fun _ _ x => x
  obtain ⟨h', tk, p, σ', rfl, S1, Sm1, r, i, rfl, hq⟩ := hp
  obtain ⟨t, rfl⟩ := inv_int r
  exact ⟨h', tk, some i, σ', rfl, S1, Sm1, .int i t, hq⟩

theorem sound_slice {e : Expr} {lower upper : Option Expr} {p pos : Pos} {te : TE} {tl tu : TP} (he : SoundE g n q sc e te) (hl : SoundP g n q sc lower tl) (hu : SoundP g n q sc upper tu) (htmp : ∀ o r, letTemporaryGo e o r = pure ()) :
    SoundE g n q sc (.Subscript e (.Slice lower upper none p) pos) (tSlice te tl tu) := by
  intro A fr env C hsc s ρ σ Q X H ht
  refine wpAny_Subscript_list_slice (bindE (he A fr env C hsc s ρ σ _ X H ht) fun o h₁ tk₁ po σ₁ S1 Sm1 r hq => ?_) htmp
  have H1 := H.step S1 Sm1
  refine wpAny_mono (hl A fr env C hsc { s with heap := h₁, toks := tk₁ } ρ σ₁ _ X H1 hq) (fun vl s₂ hp => ?_) fun _ _ x => x.up S1
  obtain ⟨h₂, tk₂, lo, σ₂, rfl, S2, Sm2, pl, hq⟩ := hp
  have H2 := H1.step S2 Sm2
  refine wpAny_mono (hu A fr env C hsc { s with heap := h₂, toks := tk₂ } ρ σ₂ _ X H2 hq) (fun vu s₃ hp => ?_) fun _ _ x => x.up (S1.trans S2)
  obtain ⟨h₃, tk₃, hi, σ₃, rfl, S3, Sm3, pu, hq⟩ := hp
  have H3 := H2.step S3 Sm3
  have r3 := S3.rep H2.hp (S2.rep H1.hp r)
  obtain ⟨xs, k1, k2, kp, hxs, hle, hQ⟩ := hq
  obtain ⟨l, rfl, vs, hl, rs⟩ := list_of H3.hp r3 hxs kp
  refine ⟨l, vs.toArray, lo, hi, rfl, hl, by rw [List.size_toArray, rs.length]; exact hle, pl, pu, ?_⟩
  rw [slicePick_plain]
  simp only [List.size_toArray]
  rw [slice_vals vs lo hi k1 k2]
  have rs' : Reps g.base h₃ ((vs.take (hi.elim vs.length Int.toNat)).drop (lo.elim 0 Int.toNat)) (cutL xs lo hi) := by unfold cutL; rw [← rs.length]; exact (rs.take _).drop _
  generalize (vs.take (hi.elim vs.length Int.toNat)).drop (lo.elim 0 Int.toNat) = ws at rs' ⊢
  have kp : ∀ b o, h₃.get? b = some o → ((h₃.push { cls := .type "slice", data := .fields #[vl, vu, .none] }).push { cls := .type "list", data := .seq ws.toArray }).get? b = some o := fun b o e => Heap.get?_push_of_some _ (Heap.get?_push_of_some _ e)
  have hl' := Heap.get?_push_size (h₃.push { cls := .type "slice", data := .fields #[vl, vu, .none] }) (o := { cls := .type "list", data := .seq ws.toArray }) rfl
  rw [Heap.size_push] at hl'
  obtain ⟨z1, z2, z3⟩ := addList (fr := fr) (own := nobody) (xs := cutL xs lo hi) Sm3 kp (fresh_size (b := h₃.objs.size + 1) (Nat.le_succ _)) ⟨_, hl'⟩ (rs'.keeps kp)
  exact ⟨_, tk₃, _, _, rfl, S1.trans (S2.trans (S3.trans z2)), z3, .ref _, hQ _ z1⟩

/-! unpacking -/
noncomputable def tUnpack (xs : List Str) (te : TE) : TS := fun ρ σ Q X => te ρ σ (fun p σ' => ∃ ps, p = .tup ps ∧ ps.length = xs.length ∧ Q .next (bindP xs ps ρ) σ') (fun c σ' => X c ρ σ')

theorem assign_names {A : Around} {outer : List Env} {env : Env} {E : Value → Shared → Prop} (C : Cx g n q A (env :: outer) env) : ∀ (nps : List (Str × Pos)) (vals : List Value) (ps : List PV) (s : Shared) (ρ : Env') (σ : Sto) (Q : Unit → Shared → Prop),
    (∀ x ∈ nps, env.kindOf x.1 = some .local ∨ env.kindOf x.1 = some .cell) → St g (env :: outer) env ρ σ s.heap → Reps g.base s.heap vals ps → ps.length = nps.length →
    (∀ h' tk, Step (env :: outer) (owned env) σ s.heap σ h' → St g (env :: outer) env (bindP (nps.map (·.1)) ps ρ) σ h' → Q () { s with heap := h', toks := tk }) →
    wpAny g.M A (assignInOrder ((assignEach (nps.map fun x => Expr.Name x.1 x.2) env).map (·.2)) vals) Q E s
  | [], vals, ps, s, ρ, σ, Q, hk, H, R, hl, k => by
    cases R with
    | nil => exact wpAny_pure (k s.heap s.toks Step.refl H)
    | cons a r => simp at hl
  | (x, px) :: nps, vals, ps, s, ρ, σ, Q, hk, H, R, hl, k => by
    cases R with
    | nil => simp at hl
    | cons a r =>
      rename_i v vs p ps
      show wpAny _ _ (do holding vs (assign (.Name x px) env v); assignInOrder ((assignEach (nps.map fun x => Expr.Name x.1 x.2) env).map (·.2)) vs) _ _ _
      refine wpAny_bind (wpAny_holding (wpAny_assign_Name (store C H (hk (x, px) (.head _)) a fun h₁ tk₁ S1 H1 => ?_)))
      have r1 : Reps g.base h₁ vs ps := r.mono fun b o e f => S1.other b o e (H.hp.firm e f).1 (fun z => by
          rcases z with rfl | ⟨y, z1, z2⟩
          · obtain ⟨m, ⟨o', es, ep, q1, q2, _⟩, _⟩ := H.loc.ns
            rw [e] at q1; cases q1
            exact notFirm_dict q2 f
          · obtain ⟨c', ov, q1, ⟨o', q2, q3⟩, _⟩ := H.loc.cell y z1
            rw [q1] at z2; cases z2
            rw [e] at q2; cases q2
            exact notFirm_cell q3 f) (H.hp.firm e f).2
      refine assign_names C nps vs ps { s with heap := h₁, toks := tk₁ } (setL ρ x p) σ Q (fun y hy => hk y (.tail _ hy)) H1 r1 (by simpa using hl) fun h' tk S2 H2 => ?_
      exact k h' tk (S1.trans S2) H2

theorem assignEach_names (env : Env) : ∀ nps : List (Str × Pos), (assignEach (nps.map fun x => Expr.Name x.1 x.2) env).length = nps.length ∧ (assignEach (nps.map fun x => Expr.Name x.1 x.2) env).findIdx? (·.1) = none
  | [] => ⟨rfl, rfl⟩
  | (x, p) :: r => by
    have ih := assignEach_names env r
    show ((false, assign (.Name x p) env) :: assignEach (r.map fun x => Expr.Name x.1 x.2) env).length = _ ∧ ((false, assign (.Name x p) env) :: assignEach (r.map fun x => Expr.Name x.1 x.2) env).findIdx? (·.1) = none
    refine ⟨by simp [ih.1], ?_⟩
    rw [List.findIdx?_cons]
    simp [ih.2]

theorem sound_unpack {nps : List (Str × Pos)} {k : Nat} {tpos pos : Pos} {e : Expr} {te : TE} (he : SoundE g n true sc e te) (hk : ∀ x ∈ nps, sc.names.lookup x.1 = some .local ∨ sc.names.lookup x.1 = some .cell)
    (hs : ∀ env : Env, env.scope = sc → swapsWithSole [.Tuple (nps.map fun x => Expr.Name x.1 x.2) k tpos] e pos.line env = pure false) (hw : ∀ env : Env, env.scope = sc → swappedStores [.Tuple (nps.map fun x => Expr.Name x.1 x.2) k tpos] e env = pure none) :
    SoundS g n true sc (.Assign [.Tuple (nps.map fun x => Expr.Name x.1 x.2) k tpos] e pos) (tUnpack (nps.map (·.1)) te) := by
  intro A outer env C hsc hf s ρ σ Q X H ht
  refine Assign_Tuple (stmtE H hf (he A _ env C hsc s ρ σ _ _ H ht) fun v h₁ tk p σ₁ S1 H1 r hq => ?_) (hs env hsc) (hw env hsc)
  obtain ⟨ps, rfl, hl, hq⟩ := hq
  · obtain ⟨a, o, vs, nn, rfl, ho, hc, hd, rs⟩ := inv_tup r
    have hl' : ps.length = nps.length := by simpa using hl
    refine wpAny_assign_Tuple (s := { s with heap := h₁, toks := tk }) (C.quiet rfl) ⟨o, ho, hc, nn, hd⟩ (by rw [(assignEach_names env nps).1, List.size_toArray, rs.length, hl']) (assignEach_names env nps).2 fun h₂ hx₂ => ?_
    have kp : ∀ b o, h₁.get? b = some o → h₂.get? b = some o := fun b o e => hx₂ b o (Nat.ne_of_lt (Heap.lt_size e)) e
    refine assign_names C nps _ ps { s with heap := h₂, toks := tk } ρ σ₁ _ (fun x hx => by subst hsc; exact hk x hx) (H1.keeps kp) (by simpa using rs.keeps kp) hl' fun h₃ tk₃ S3 H3 => ?_
    exact ⟨h₃, tk₃, .next, _, σ₁, rfl, (noOwn S1).trans ((Step.keeps kp).trans S3), H3, .next, hq⟩

/-! an empty dict -/
end
end Mine

set_option autoImplicit false
set_option linter.unusedVariables false
set_option maxRecDepth 100000
namespace Mine
open PySem PyProof.Rows PySem.Calls PySem.W

/-- a definition of the program, as the top has left it -/
noncomputable def DefAt (g : Gx) (d : DefRec) : Prop := ∃ f o pm code doc, g.mg d.name = some (.ref f) ∧ g.base.get? f = some o ∧ o.data = .func (docDef d.name d.params d.body d.scope pm code doc) ∧ g.base.CodeRec code d.name
noncomputable def HasF (g : Gx) (n : Nat) (q : Bool) (x : Str) (T : TF) : Prop := ∃ f o fd, g.mg x = some (.ref f) ∧ g.base.get? f = some o ∧ o.data = .func fd ∧ SoundF g n q f T

theorem has_def {g : Gx} {n : Nat} {q : Bool} {d : DefRec} {x : Str} {names : List Str} {tb : TS} (D : DefAt g d) (hn : d.name = x)
    (hbind : ∀ (pm code doc : Value) (vals : List Value), vals.length = names.length → bindArgs (docDef d.name d.params d.body d.scope pm code doc) ⟨vals, []⟩ = pure (names.zip vals))
    (hk1 : ∀ y ∈ names, d.scope.names.lookup y = some .local ∨ d.scope.names.lookup y = some .cell) (hco : d.scope.isCoroutine = false) (hgen : d.scope.isGenerator = false) (hk : d.scope.kind = .function)
    (hbody : SoundSs g n q d.scope d.body tb) (hlam : (d.scope.names.lookup lamName == some .cell) = false := by decide +kernel) : HasF g (n + 1) q x (tFun names tb) := by
  obtain ⟨f, o, pm, code, doc, h1, h2, h3, h4⟩ := D
  refine ⟨f, o, _, hn ▸ h1, h2, h3, ?_⟩
  exact (sound_fun (fd := docDef d.name d.params d.body d.scope pm code doc) h2 h3 rfl rfl h4 rfl rfl (hbind pm code doc) hk1 (fun L y e => cellsFrom_some _ _ _ (.inl e)) hco hgen hk (fun h => by rw [show d.scope.names.lookup lamName = some .cell from h] at hlam; cases hlam) hbody).call

section
variable {g : Gx} {n : Nat} {q : Bool} {sc : Scope}
theorem sound_callF {m : Nat} {x : Str} {np pos : Pos} {es : List Expr} {ts : TEs} {T : TF} (hT : HasF g m q x T) (hes : SoundEs g n q sc es ts) (hx : sc.names.lookup x = some .globalImplicit) (hd : (x == ("__debug__" : Str)) = false) (hm : m ≤ n) :
    SoundE g n q sc (.Call (.Name x np) es [] pos) (tCall ts T) := by
  obtain ⟨f, o, fd, h1, h2, h3, h4⟩ := hT
  exact sound_call hx hd (.inl h1) h2 h3 hes h4 hm
end

theorem len1 {vals : List Value} (h : vals.length = 1) : ∃ a, vals = [a] := List.length_eq_one_iff.mp h
theorem len_s {vals : List Value} {n : Nat} (h : vals.length = n + 1) : ∃ a r, vals = a :: r ∧ r.length = n := by
  cases vals with
  | nil => cases h
  | cons a r => exact ⟨a, r, rfl, Nat.succ.inj h⟩
theorem len2 {vals : List Value} (h : vals.length = 2) : ∃ a b, vals = [a, b] := by obtain ⟨a, r, rfl, h1⟩ := len_s h; obtain ⟨b, rfl⟩ := len1 h1; exact ⟨a, b, rfl⟩
theorem len3 {vals : List Value} (h : vals.length = 3) : ∃ a b c, vals = [a, b, c] := by obtain ⟨a, r, rfl, h1⟩ := len_s h; obtain ⟨b, c, rfl⟩ := len2 h1; exact ⟨a, b, c, rfl⟩
theorem len4 {vals : List Value} (h : vals.length = 4) : ∃ a b c d, vals = [a, b, c, d] := by obtain ⟨a, r, rfl, h1⟩ := len_s h; obtain ⟨b, c, d, rfl⟩ := len3 h1; exact ⟨a, b, c, d, rfl⟩
theorem glob_free {p : Program} {loose : List Str} {mean : ExcName → Option Value} {g : Gx} (T : Top p loose mean g.mg g.mb g.base) {x : Str} {v : Value}
    (h : (startupNames.contains x || loose.contains x || ((recsOf p).map (·.name)).contains x || ((litsOf p).map (·.1)).contains x || ((clssOf p loose).map (·.name)).contains x) = false) (hn : (x == ("__name__" : Str)) = false) (hb : bootBuiltins x = some v) : GlobAt g x v := by
  simp only [Bool.or_eq_false_iff, List.contains_eq_mem, decide_eq_false_iff_not] at h
  obtain ⟨⟨⟨⟨h1, h2⟩, h3⟩, h4⟩, h5⟩ := h
  refine .inr ⟨T.free x h1 h2 h3 h4 h5, ?_⟩
  rw [T.builtins x (by intro e; rw [e] at hn; simp at hn)]
  exact hb
theorem def_at {p : Program} {loose : List Str} {mean : ExcName → Option Value} {g : Gx} (T : Top p loose mean g.mg g.mb g.base) {d : DefRec} (h : d ∈ recsOf p) : DefAt g d := by
  obtain ⟨a, o, pm, code, doc, h1, h2, h3, h4⟩ := T.fn d h
  exact ⟨a, o, pm, code, doc, h1, h2, h3, h4⟩
theorem cls_at {g : Gx} {x : Str} {v : Value} (h : nsIn g.K mainGlobals x = some (some v)) : g.mg x = some v := mg_of (K := g.K) g.inK g.hg h
end Mine

set_option autoImplicit false
set_option linter.unusedVariables false
set_option maxRecDepth 100000
namespace Mine
open PySem PyProof.Rows PySem.Calls PySem.W

noncomputable def envFor (sc : Scope) : Env := { scope := sc, locals := 0, globals := 0, cells := [], qual := "", func := none, code := .none, frame := none, builtins := 0 }
theorem relabel_eq {scope : Scope} {env env' : Env} (h : env.scope = env'.scope) : relabel scope env = relabel scope env' := by
  unfold relabel Env.kindOf
  rw [h]
theorem compOk {sc scope : Scope} {x : Str} {cs : List Str} (h1 : scope.kind = .function) (h2 : ∀ y ∈ scope.names, y.2 ≠ .cell) (h3 : ∀ y ∈ scope.names, y.2 = .free → sc.names.lookup y.1 = some .cell)
    (h4 : ∀ y ∈ scope.names, y.2 = .local → scope.names.lookup y.1 = some .local) (h5 : scope.names.lookup x = some .local) (h6 : ∀ y ∈ cs, (relabel scope (envFor sc)).names.lookup y ≠ some .local) : CompOk sc (relabel scope (envFor sc)) scope x cs :=
  ⟨fun env h => relabel_eq h, h1, h2, h3, h4, h5, h6⟩

theorem slot_append : Slot "list" "append" "list.append" := PySem.F.slot_list_append
theorem slot_insert : Slot "list" "insert" "list.insert" := PySem.F.slot_list_insert
theorem ty_append : typeOf (.builtin "list.append") = pure (.type "method_descriptor") := by show builtinType _ = _; rw [builtinType_eq_fast]; kernel_rfl
theorem ty_insert : typeOf (.builtin "list.insert") = pure (.type "method_descriptor") := by show builtinType _ = _; rw [builtinType_eq_fast]; kernel_rfl
end Mine
namespace Mine
open PySem PyProof.Rows PySem.Calls PySem.W
theorem swapsTrue {elt : Expr} {gs : List Comprehension} {scope sc : Scope} {pos py : Pos} {y : Str} {line : Nat}
    (h : ((envFor sc).blockKind == .function && (envFor sc).kindOf y == some .local && py.line == pos.line && !(scope.names.any fun (n, k) => n == y && (k == .local || k == .cell))) = true) :
    ∀ env : Env, env.scope = sc → swapsWith (.ListComp elt gs scope pos) (some (.Name y py)) line env = pure true := by
  intro env hs
  have e1 : env.blockKind = (envFor sc).blockKind := by unfold Env.blockKind; rw [hs]; rfl
  have e2 : env.kindOf y = (envFor sc).kindOf y := by unfold Env.kindOf; rw [hs]; rfl
  show (pure (env.blockKind == .function && env.kindOf y == some .local && py.line == pos.line && !(scope.names.any fun (n, k) => n == y && (k == .local || k == .cell))) : Sem Bool) = pure true
  rw [e1, e2, h]
end Mine

set_option autoImplicit false
set_option linter.unusedVariables false
namespace Mine
open PySem PyProof.Rows PySem.Calls

/-! the plain side: transformers, step by step -/
theorem setL_same {ρ : Env'} {x : Str} {p : PV} : setL ρ x p x = some p := by unfold setL; rw [if_pos rfl]
theorem setL_other {ρ : Env'} {x y : Str} {p : PV} {r : Option PV} (h : (y == x) = false) (e : ρ y = r) : setL ρ x p y = r := by
  unfold setL
  rw [if_neg (by intro z; subst z; simp at h)]
  exact e
theorem compR_same {cs : List Str} {ρ : Env'} {x : Str} {p : PV} : compR cs ρ x p x = some p := by unfold compR; rw [if_pos rfl]
theorem compR_other {cs : List Str} {ρ : Env'} {x y : Str} {p : PV} {r : Option PV} (h : (y == x) = false) (hc : cs.contains y = true) (e : ρ y = r) : compR cs ρ x p y = r := by
  unfold compR
  rw [if_neg (by intro z; subst z; simp at h), if_pos (by simpa using hc)]
  exact e
theorem upd_same {σ : Sto} {a : Addr} {o : AO} : upd σ a o a = some o := by unfold upd; rw [if_pos rfl]
theorem upd_other {σ : Sto} {a b : Addr} {o : AO} {r : Option AO} (h : b ≠ a) (e : σ b = r) : upd σ a o b = r := by unfold upd; rw [if_neg h]; exact e
theorem upd_none {σ : Sto} {a b : Addr} {o : AO} (h : upd σ a o b = none) : b ≠ a ∧ σ b = none := by
  unfold upd at h
  split at h
  · cases h
  · exact ⟨by assumption, h⟩
theorem upd_upd {σ : Sto} {a : Addr} {o o' : AO} : upd (upd σ a o) a o' = upd σ a o' := by
  funext b
  unfold upd
  split <;> rfl

section
variable {ρ : Env'} {σ : Sto} {Q : PV → Sto → Prop} {X : Addr → Sto → Prop} {QS : Fl → Env' → Sto → Prop} {XS : Addr → Env' → Sto → Prop} {QB : Bool → Sto → Prop} {QL : List PV → Sto → Prop}
theorem i_seq {a b : TS} (h : a ρ σ (fun f ρ' σ' => match f with | .next => b ρ' σ' QS XS | f => QS f ρ' σ') XS) : tSeq a b ρ σ QS XS := h
theorem i_nil (h : QS .next ρ σ) : tNil ρ σ QS XS := h
theorem i_set {x : Str} {e : TE} (h : e ρ σ (fun p σ' => QS .next (setL ρ x p) σ') (fun c σ' => XS c ρ σ')) : tSet x e ρ σ QS XS := h
theorem i_if {b : TB} {t e : TS} (h : b ρ σ (fun r σ' => if r = true then t ρ σ' QS XS else e ρ σ' QS XS) (fun c σ' => XS c ρ σ')) : tIf b t e ρ σ QS XS := h
theorem i_ret {e : TE} (h : e ρ σ (fun p σ' => QS (.ret p) ρ σ') (fun c σ' => XS c ρ σ')) : tRet e ρ σ QS XS := h
theorem i_expr {e : TE} (h : e ρ σ (fun _ σ' => QS .next ρ σ') (fun c σ' => XS c ρ σ')) : tExpr e ρ σ QS XS := h
theorem i_raise {c : Addr} {ts : TEs} (h : ts ρ σ (fun ps σ' => ps.length ≤ sizeLine ∧ XS c ρ σ') (fun c' σ' => XS c' ρ σ')) : tRaise c ts ρ σ QS XS := h
theorem i_name {x : Str} {p : PV} (h : ρ x = some p) (hq : Q p σ) : tName x ρ σ Q X := by unfold tName; rw [h]; exact hq
theorem i_const {p : PV} (hq : Q p σ) : tConst p ρ σ Q X := hq
theorem i_bin {op : Operator} {l r : TE} (h : l ρ σ (fun a σ₁ => r ρ σ₁ (fun b σ₂ => opP op a b σ₂ Q) X) X) : tBin op l r ρ σ Q X := h
theorem i_add {x y : Int} (h : Q (.int (x + y)) σ) : opP .Add (.int x) (.int y) σ Q := .inl ⟨x, y, rfl, rfl, h⟩
theorem i_sub {x y : Int} (h : Q (.int (x - y)) σ) : opP .Sub (.int x) (.int y) σ Q := ⟨x, y, rfl, rfl, h⟩
theorem i_mul {x y : Int} (hb : (-(2 ^ 64) < x ∧ x < 2 ^ 64) ∨ (-(2 ^ 64) < y ∧ y < 2 ^ 64)) (h : Q (.int (x * y)) σ) : opP .Mult (.int x) (.int y) σ Q := ⟨x, y, rfl, rfl, hb, h⟩
theorem i_div {x y : Int} (h0 : y ≠ 0) (h1 : y.natAbs < 1073741824) (h : Q (.int (x.fdiv y)) σ) : opP .FloorDiv (.int x) (.int y) σ Q := ⟨x, y, rfl, rfl, h0, h1, h⟩
theorem i_mod {x y : Int} (h0 : y ≠ 0) (h : Q (.int (x.fmod y)) σ) : opP .Mod (.int x) (.int y) σ Q := ⟨x, y, rfl, rfl, h0, h⟩
theorem i_divp {x y : Int} (h0 : 0 < y) (h1 : y < 1073741824) (h : Q (.int (x / y)) σ) : opP .FloorDiv (.int x) (.int y) σ Q := i_div (by omega) (by omega) (by rw [Int.fdiv_eq_ediv_of_nonneg x (by omega)]; exact h)
theorem i_modp {x y : Int} (h0 : 0 < y) (h : Q (.int (x % y)) σ) : opP .Mod (.int x) (.int y) σ Q := i_mod (by omega) (by rw [Int.fmod_eq_emod_of_nonneg x (by omega)]; exact h)
theorem i_cat {x y : Addr} {xs ys : List PV} (h1 : σ x = some (.list xs)) (h2 : σ y = some (.list ys)) (h3 : (xs ++ ys).length ≤ 1000000) (h : ∀ c, σ c = none → Q (.ref c) (upd σ c (.list (xs ++ ys)))) : opP .Add (.ref x) (.ref y) σ Q := .inr ⟨x, y, xs, ys, rfl, rfl, h1, h2, h3, h⟩
theorem i_neg {e : TE} (h : e ρ σ (fun a σ₁ => match a with | .int x => Q (.int (-x)) σ₁ | _ => False) X) : tNeg e ρ σ Q X := h
theorem i_cmp {op : CmpOp} {l r : TE} (h : l ρ σ (fun a σ₁ => r ρ σ₁ (fun b σ₂ => cmpP op σ₂ a b fun c => Q (.bool c) σ₂) X) X) : tCmp op l r ρ σ Q X := h
theorem i_cmpB {op : CmpOp} {l r : TE} (h : l ρ σ (fun a σ₁ => r ρ σ₁ (fun b σ₂ => cmpP op σ₂ a b fun c => QB c σ₂) X) X) : tCmpB op l r ρ σ QB X := h
theorem i_chainB {op op' : CmpOp} {l m r : TE} (h : l ρ σ (fun a σ₁ => m ρ σ₁ (fun b σ₂ => cmpP op σ₂ a b fun c => if c = true then r ρ σ₂ (fun d σ₃ => cmpP op' σ₃ b d fun e => QB e σ₃) X else QB false σ₂) X) X) : tChainB op op' l m r ρ σ QB X := h
variable {k : Bool → Prop}
theorem i_lt {x y : Int} (h : k (decide (x < y))) : cmpP .Lt σ (.int x) (.int y) k := .inl ⟨x, y, rfl, rfl, h⟩
theorem i_lt2 {x1 x2 y1 y2 : Int} (h : k (decide (x1 < y1 ∨ x1 = y1 ∧ x2 < y2))) : cmpP .Lt σ (.tup [.int x1, .int x2]) (.tup [.int y1, .int y2]) k := .inr ⟨_, _, _, _, rfl, rfl, h⟩
theorem i_le {x y : Int} (h : k (decide (x ≤ y))) : cmpP .LtE σ (.int x) (.int y) k := ⟨x, y, rfl, rfl, h⟩
theorem i_gt {x y : Int} (h : k (decide (x > y))) : cmpP .Gt σ (.int x) (.int y) k := ⟨x, y, rfl, rfl, h⟩
theorem i_eqi {x y : Int} (h : k (decide (x = y))) : cmpP .Eq σ (.int x) (.int y) k := .inl ⟨x, y, rfl, rfl, h⟩
theorem i_nei {x y : Int} (h : k (!decide (x = y))) : cmpP .NotEq σ (.int x) (.int y) k := .inl ⟨x, y, rfl, rfl, h⟩
theorem i_eqs {x y : Str} (h : k (decide (x = y))) : cmpP .Eq σ (.str x) (.str y) k := .inr (.inl ⟨x, y, rfl, rfl, h⟩)
theorem i_is {a : PV} (h : k (isNone a)) : cmpP .Is σ a .none k := ⟨rfl, h⟩
theorem i_isnot {a : PV} (h : k (!isNone a)) : cmpP .IsNot σ a .none k := ⟨rfl, h⟩
theorem i_not {b : TB} (h : b ρ σ (fun r σ' => QB (!r) σ') X) : tNot b ρ σ QB X := h
theorem i_and {b c : TB} (h : b ρ σ (fun r σ' => if r = true then c ρ σ' QB X else QB false σ') X) : tAnd b c ρ σ QB X := h
theorem i_or {b c : TB} (h : b ρ σ (fun r σ' => if r = true then QB true σ' else c ρ σ' QB X) X) : tOr b c ρ σ QB X := h
theorem i_true (h : QB true σ) : tTrue ρ σ QB X := h
theorem i_false (h : QB false σ) : tFalse ρ σ QB X := h
theorem i_test {e : TE} (h : e ρ σ (fun p σ' => match p with | .bool b => QB b σ' | _ => False) X) : tTest e ρ σ QB X := h
theorem i_andE {a b : TE} (h : a ρ σ (fun p σ' => match p with | .bool true => b ρ σ' Q X | .bool false => Q (.bool false) σ' | _ => False) X) : tAndE a b ρ σ Q X := h
theorem i_tup {ts : TEs} (h : ts ρ σ (fun ps σ' => ps.length ≤ 1000000 ∧ Q (.tup ps) σ') X) : tTup ts ρ σ Q X := h
theorem i_list {ts : TEs} (h : ts ρ σ (fun ps σ' => ps.length ≤ 1000000 ∧ ∀ c, σ' c = none → Q (.ref c) (upd σ' c (.list ps))) X) : tList ts ρ σ Q X := h
theorem i_enil (h : QL [] σ) : tEnil ρ σ QL X := h
theorem i_econs {e : TE} {es : TEs} (h : e ρ σ (fun p σ₁ => es ρ σ₁ (fun ps σ₂ => QL (p :: ps) σ₂) X) X) : tEcons e es ρ σ QL X := h
theorem i_call {ts : TEs} {T : TF} (h : ts ρ σ (fun ps σ₁ => T ps σ₁ Q X) X) : tCall ts T ρ σ Q X := h
theorem i_item {a i : TE} (h : a ρ σ (fun p σ₁ => i ρ σ₁ (fun j σ₂ => getP σ₂ p j fun x => Q x σ₂) X) X) : tItem a i ρ σ Q X := h
theorem i_isinst {te : TE} {ok : Ty → Option Bool} (h : te ρ σ (fun p σ' => ∃ ty b, tyOf σ' p = some ty ∧ ok ty = some b ∧ Q (.bool b) σ') X) : tIsinst te ok ρ σ Q X := h
theorem i_len {p : PV} {xs : List PV} (h0 : NR p) (h1 : itemsOf σ p = some xs) (h2 : xs.length < 2 ^ 62) (h : Q (.int xs.length) σ) : lenF [p] σ Q X := ⟨p, xs, rfl, h0, h1, h2, h⟩
theorem i_range {n : Int} (h : Q (.rng 0 n) σ) : rangeF [.int n] σ Q X := ⟨n, rfl, h⟩
theorem i_listF {a : Addr} {xs : List PV} (h1 : σ a = some (.list xs)) (h2 : xs.length ≤ 1000000) (h : ∀ c, σ c = none → Q (.ref c) (upd σ c (.list xs))) : listF [.ref a] σ Q X := .inl ⟨a, xs, rfl, h1, h2, h⟩
theorem i_tupleF {a : Addr} {xs : List PV} (h1 : σ a = some (.list xs)) (h2 : xs.length ≤ 1000000) (h : Q (.tup xs) σ) : tupleF [.ref a] σ Q X := ⟨a, xs, rfl, h1, h2, h⟩
theorem i_get {a x : PV} {i : Int} {xs : List PV} {kk : PV → Prop} (h0 : 0 ≤ i) (h1 : i < 2 ^ 62) (h2 : itemsOf σ a = some xs) (h3 : NR a) (h4 : xs[i.toNat]? = some x) (h : kk x) : getP σ a (.int i) kk :=
  ⟨i, rfl, by omega, h1, xs, h2, h3, .inl ⟨h0, x, h4, h⟩⟩
theorem i_getn {a x : PV} {i : Int} {xs : List PV} {kk : PV → Prop} (h0 : i < 0) (h1 : -(2 ^ 62) < i) (h2 : itemsOf σ a = some xs) (h3 : NR a) (h5 : 0 ≤ i + xs.length) (h4 : xs[(i + xs.length).toNat]? = some x) (h : kk x) : getP σ a (.int i) kk :=
  ⟨i, rfl, h1, by omega, xs, h2, h3, .inr ⟨h0, h5, x, h4, h⟩⟩
theorem i_meth {T : Addr → TF} {o : TE} {ts : TEs} (h : o ρ σ (fun p σ₁ => match p with | .ref a => (∃ xs, σ₁ a = some (.list xs)) ∧ ts ρ σ₁ (fun ps σ₂ => T a ps σ₂ Q X) X | _ => False) X) : tMeth T o ts ρ σ Q X := h
theorem i_append {a : Addr} {v : PV} {xs : List PV} (h1 : σ a = some (.list xs)) (h2 : xs.length ≤ 1000000) (h : Q .none (upd σ a (.list (xs ++ [v])))) : appendF a [v] σ Q X := ⟨v, xs, rfl, h1, h2, h⟩
theorem i_insert {a : Addr} {i : Int} {v : PV} {xs : List PV} (h0 : 0 ≤ i) (h3 : i < 2 ^ 62) (h1 : σ a = some (.list xs)) (h2 : xs.length ≤ 1000000) (h : Q .none (upd σ a (.list (xs.take i.toNat ++ v :: xs.drop i.toNat)))) : insertF a [.int i, v] σ Q X := ⟨i, v, xs, rfl, h0, h3, h1, h2, h⟩
theorem i_store {o i v : TE} (h : v ρ σ (fun p σ₁ => o ρ σ₁ (fun a σ₂ => i ρ σ₂ (fun j σ₃ => setP σ₃ a j p fun σ₄ => QS .next ρ σ₄) (fun c σ' => XS c ρ σ')) (fun c σ' => XS c ρ σ')) (fun c σ' => XS c ρ σ')) : tStore o i v ρ σ QS XS := h
theorem i_setP {a : Addr} {i : Int} {v : PV} {xs : List PV} {kk : Sto → Prop} (h0 : 0 ≤ i) (h1 : σ a = some (.list xs)) (h2 : i < xs.length) (h3 : xs.length ≤ 1000000) (h : kk (upd σ a (.list (xs.set i.toNat v)))) : setP σ (.ref a) (.int i) v kk := ⟨a, i, xs, rfl, rfl, h0, h1, h2, h3, h⟩
theorem i_unpack {xs : List Str} {te : TE} (h : te ρ σ (fun p σ' => ∃ ps, p = .tup ps ∧ ps.length = xs.length ∧ QS .next (bindP xs ps ρ) σ') (fun c σ' => XS c ρ σ')) : tUnpack xs te ρ σ QS XS := h
theorem i_slice {te : TE} {tl tu : TP} (h : te ρ σ (fun p σ₁ => tl ρ σ₁ (fun lo σ₂ => tu ρ σ₂ (fun hi σ₃ => ∃ xs, partOk lo ∧ partOk hi ∧ LR p ∧ itemsOf σ₃ p = some xs ∧ xs.length ≤ sizeLine ∧
  ∀ a, σ₃ a = none → Q (.ref a) (upd σ₃ a (.list (cutL xs lo hi)))) X) X) X) : tSlice te tl tu ρ σ Q X := h
theorem i_pnone {QP : Option Int → Sto → Prop} (h : QP none σ) : tPnone ρ σ QP X := h
theorem i_psome {QP : Option Int → Sto → Prop} {t : TE} (h : t ρ σ (fun p σ' => ∃ i, p = .int i ∧ QP (some i) σ') X) : tPsome t ρ σ QP X := h
theorem i_fun {names : List Str} {tb : TS} {ps : List PV} (h0 : ps.length = names.length) (h : tb (bindP names ps fun _ => none) σ (fun fl _ σ' => match fl with | .ret p => Q p σ' | .next => Q .none σ' | _ => False) (fun c _ σ' => X c σ')) : tFun names tb ps σ Q X := ⟨h0, h⟩
theorem i_try {n : Str} {cls : List Addr} {tb th : TS} (h : tb ρ σ QS (fun c ρ' σ' => c ∈ cls ∧ ∀ a, σ' a = none → th (setL ρ' n (.exc a c)) σ' (fun fl ρ'' σ'' => QS fl (unL ρ'' n) σ'') (fun _ _ _ => False))) : tTry n cls tb th ρ σ QS XS := h
theorem i_for {x : Str} {ti : TE} {tb : TS} (h : ti ρ σ (fun p σ₁ => ∃ xs, itemsOf σ₁ p = some xs ∧ iterOk p ∧ forL x tb (fun σ' => itemsOf σ' p = some xs) xs ρ σ₁ QS XS) (fun c σ' => XS c ρ σ')) : tFor x ti tb ρ σ QS XS := h
theorem i_comp {x : Str} {cs : List Str} {ti : TE} {tt : TB} {te : TE} (h : ti ρ σ (fun p σ₁ => ∃ xs, itemsOf σ₁ p = some xs ∧ iterOk p ∧ xs.length ≤ sizeLine ∧
  compL x cs tt te (fun σ' => itemsOf σ' p = some xs) ρ xs [] σ₁ (fun ys σ₂ => ∀ a, σ₂ a = none → Q (.ref a) (upd σ₂ a (.list ys)))) X) : tComp x cs ti tt te ρ σ Q X := h
end
theorem ite_t {A B : Prop} (h : A) : if true = true then A else B := by rw [if_pos rfl]; exact h
theorem ite_f {A B : Prop} (h : B) : if false = true then A else B := by rw [if_neg (by decide)]; exact h
theorem ite_d {p A B : Prop} [Decidable p] (h1 : p → A) (h2 : ¬ p → B) : if decide p = true then A else B := by
  by_cases h : p
  · rw [if_pos (by simpa using h)]; exact h1 h
  · rw [if_neg (by simpa using h)]; exact h2 h
theorem ite_nd {p A B : Prop} [Decidable p] (h1 : ¬ p → A) (h2 : p → B) : if (!decide p) = true then A else B := by
  by_cases h : p
  · rw [if_neg (by simpa using h)]; exact h2 h
  · rw [if_pos (by simpa using h)]; exact h1 h
end Mine
namespace Mine
open PySem PyProof.Rows PySem.Calls
section
variable {ρ : Env'} {σ : Sto} {Q : PV → Sto → Prop} {X : Addr → Sto → Prop} {QS : Fl → Env' → Sto → Prop} {XS : Addr → Env' → Sto → Prop}
noncomputable abbrev env0 : Env' := fun _ => none
noncomputable abbrev funQ (Q : PV → Sto → Prop) : Fl → Env' → Sto → Prop := fun fl _ σ' => match fl with | .ret p => Q p σ' | .next => Q .none σ' | _ => False
noncomputable abbrev funX (X : Addr → Sto → Prop) : Addr → Env' → Sto → Prop := fun c _ σ' => X c σ'
theorem i_fun1 {x1 : Str} {tb : TS} {p1 : PV} (h : tb (setL env0 x1 p1) σ (funQ Q) (funX X)) : tFun [x1] tb [p1] σ Q X := ⟨rfl, h⟩
theorem i_fun2 {x1 x2 : Str} {tb : TS} {p1 p2 : PV} (h : tb (setL (setL env0 x1 p1) x2 p2) σ (funQ Q) (funX X)) : tFun [x1, x2] tb [p1, p2] σ Q X := ⟨rfl, h⟩
theorem i_fun3 {x1 x2 x3 : Str} {tb : TS} {p1 p2 p3 : PV} (h : tb (setL (setL (setL env0 x1 p1) x2 p2) x3 p3) σ (funQ Q) (funX X)) : tFun [x1, x2, x3] tb [p1, p2, p3] σ Q X := ⟨rfl, h⟩
theorem i_fun4 {x1 x2 x3 x4 : Str} {tb : TS} {p1 p2 p3 p4 : PV} (h : tb (setL (setL (setL (setL env0 x1 p1) x2 p2) x3 p3) x4 p4) σ (funQ Q) (funX X)) : tFun [x1, x2, x3, x4] tb [p1, p2, p3, p4] σ Q X := ⟨rfl, h⟩
end
end Mine
namespace Mine
open PySem PyProof.Rows PySem.Calls
noncomputable def Ext (σ σ' : Sto) : Prop := ∀ a o, σ a = some o → σ' a = some o
theorem Ext.refl {σ : Sto} : Ext σ σ := fun _ _ e => e
theorem Ext.trans {σ σ₁ σ₂ : Sto} (x : Ext σ σ₁) (y : Ext σ₁ σ₂) : Ext σ σ₂ := fun a o e => y a o (x a o e)
theorem Ext.upd {σ : Sto} {a : Addr} {o : AO} (h : σ a = none) : Ext σ (upd σ a o) := fun b o' e => by
  refine upd_other ?_ e
  rintro rfl
  rw [h] at e; cases e
theorem Ext.upd' {σ σ' : Sto} {a : Addr} {o : AO} (x : Ext σ σ') (h : σ a = none) : Ext σ (Mine.upd σ' a o) := fun b o' e => by
  refine upd_other ?_ (x b o' e)
  rintro rfl
  rw [h] at e; cases e
theorem Ext.ty {σ σ' : Sto} (x : Ext σ σ') {p : PV} {t : Ty} (h : tyOf σ p = some t) : tyOf σ' p = some t := by
  cases p with
  | ref a =>
    unfold tyOf at h ⊢
    dsimp only at h ⊢
    split at h
    · rename_i e; rw [x a _ e]; exact h
    · rename_i e; rw [x a _ e]; exact h
    · cases h
  | _ => exact h
theorem forL_step {x : Str} {tb : TS} {ok : Sto → Prop} {Q : Fl → Env' → Sto → Prop} {X : Addr → Env' → Sto → Prop} (I : List PV → Env' → Sto → Prop) (J : PV → Env' → Sto → Prop)
    (step : ∀ p ps ρ σ (Qb : Fl → Env' → Sto → Prop), I (p :: ps) ρ σ → (∀ ρ' σ', ok σ' → I ps ρ' σ' → Qb .next ρ' σ') → (∀ v ρ' σ', J v ρ' σ' → Qb (.ret v) ρ' σ') → tb (setL ρ x p) σ Qb X)
    (fin : ∀ ρ σ, I [] ρ σ → Q .next ρ σ) (ret : ∀ v ρ σ, J v ρ σ → Q (.ret v) ρ σ) : ∀ xs ρ σ, I xs ρ σ → forL x tb ok xs ρ σ Q X
  | [], ρ, σ, h => fin ρ σ h
  | p :: ps, ρ, σ, h => by
    unfold forL
    exact step p ps ρ σ _ h (fun ρ' σ' h1 h2 => ⟨h1, forL_step I J step fin ret ps ρ' σ' h2⟩) fun v ρ' σ' h1 => ret v ρ' σ' h1
theorem compL_all {x : Str} {cs : List Str} {te : TE} {ok : Sto → Prop} {ρ : Env'} {σ : Sto} {Q : List PV → Sto → Prop} (P : PV → PV → Prop) (hok : ok σ) : ∀ (xs acc : List PV),
    (∀ p ∈ xs, ∀ Q' : PV → Sto → Prop, (∀ y, P p y → Q' y σ) → te (compR cs ρ x p) σ Q' nope) →
    (∀ ys, Paired P xs ys → Q (acc ++ ys) σ) → compL x cs tTrue te ok ρ xs acc σ Q
  | [], acc, _, hq => by
    have := hq [] .nil
    rw [List.append_nil] at this
    exact this
  | p :: ps, acc, h, hq => by
    show (if true = true then te (compR cs ρ x p) σ (fun y σ₂ => ok σ₂ ∧ compL x cs tTrue te ok ρ ps (acc ++ [y]) σ₂ Q) nope else ok σ ∧ compL x cs tTrue te ok ρ ps acc σ Q)
    refine ite_t (h p (.head _) _ fun y hy => ⟨hok, ?_⟩)
    refine compL_all P hok ps (acc ++ [y]) (fun p' hp' => h p' (.tail _ hp')) fun ys hys => ?_
    have := hq (y :: ys) (.cons hy hys)
    rwa [List.append_assoc]
end Mine
namespace Mine
open PySem PyProof.Rows PySem.Calls
section
variable {σ : Sto} {Q : PV → Sto → Prop} {X : Addr → Sto → Prop} {kk : PV → Prop}
theorem ite_nt {A B : Prop} (h : A) : if (!false) = true then A else B := ite_t h
theorem ite_nf {A B : Prop} (h : B) : if (!true) = true then A else B := ite_f h
theorem i_g0 {a : PV} {xs : List PV} (h : kk a) : getP σ (.tup (a :: xs)) (.int 0) kk := i_get (by decide) (by decide) rfl trivial rfl h
theorem i_g1 {a b : PV} {xs : List PV} (h : kk b) : getP σ (.tup (a :: b :: xs)) (.int 1) kk := i_get (by decide) (by decide) rfl trivial rfl h
theorem i_g2 {a b c : PV} {xs : List PV} (h : kk c) : getP σ (.tup (a :: b :: c :: xs)) (.int 2) kk := i_get (by decide) (by decide) rfl trivial rfl h
end
end Mine
namespace Mine
theorem al {σ σ1 : Sto} {w : PySem.Addr} {o : AO} (h : upd σ w o = σ1) (hw : σ w = none) : Ext σ σ1 ∧ σ1 w = some o := by subst h; exact ⟨Ext.upd hw, upd_same⟩
end Mine

set_option autoImplicit false
set_option linter.unusedVariables false
namespace Mine
open PySem
/-- a value that reads as data of no great depth -/
noncomputable def Flat (k : Nat) (σ : Sto) (p : PV) : Prop := ∃ d, DataOf σ p d ∧ d.canLay0 = true ∧ d.depth ≤ k
theorem flat_int {k : Nat} {σ : Sto} {i : Int} : Flat k σ (.int i) := ⟨_, .int i, rfl, Nat.zero_le _⟩
theorem flats {k : Nat} {σ : Sto} : ∀ {xs : List PV}, (∀ x ∈ xs, Flat k σ x) → ∃ ds, DatasOf σ xs ds ∧ PyData.canLayAll0 ds = true ∧ PyData.depthAll ds ≤ k
  | [], _ => ⟨[], .nil, rfl, Nat.zero_le _⟩
  | x :: xs, h => by
    obtain ⟨d, h1, h2, h3⟩ := h x (.head _)
    obtain ⟨ds, h4, h5, h6⟩ := flats fun y hy => h y (.tail _ hy)
    exact ⟨d :: ds, .cons h1 h4, by simp [PyData.canLayAll0, h2, h5], by simp [PyData.depthAll]; omega⟩
theorem flat_tup {k : Nat} {σ : Sto} {xs : List PV} (h : ∀ x ∈ xs, Flat k σ x) : Flat (k + 1) σ (.tup xs) := by
  obtain ⟨ds, h1, h2, h3⟩ := flats h
  exact ⟨.tuple ds, .tup h1, by simpa [PyData.canLay0] using h2, by simp [PyData.depth]; omega⟩
theorem Flat.mono {k k' : Nat} {σ : Sto} {p : PV} (h : Flat k σ p) (hk : k ≤ k') : Flat k' σ p := let ⟨d, h1, h2, h3⟩ := h; ⟨d, h1, h2, Nat.le_trans h3 hk⟩
end Mine
namespace Mine
open PySem
theorem i_eqss {σ : Sto} {x : Str} {k : Bool → Prop} (h : k true) : cmpP .Eq σ (.str x) (.str x) k := by
  refine i_eqs ?_
  rw [show decide (x = x) = true from by simp]
  exact h
end Mine

set_option autoImplicit false
set_option linter.unusedVariables false
set_option maxRecDepth 100000
namespace Mine
open PySem PyProof.Rows PySem.Calls PySem.W
/-! all, sorted, len(set(..)), exchanged stores -/
section
variable {g : Gx} {n : Nat} {q : Bool} {sc : Scope}
end
end Mine

set_option autoImplicit false
set_option linter.unusedVariables false
namespace Mine
open PySem
section
variable {ρ : Env'} {σ : Sto} {Q : PV → Sto → Prop} {X : Addr → Sto → Prop} {QS : Fl → Env' → Sto → Prop} {XS : Addr → Env' → Sto → Prop}
theorem i_while {b : TB} {t : TS} (Inv : Nat → Env' → Sto → Prop) (J : PV → Env' → Sto → Prop) (m : Nat) (h0 : Inv m ρ σ)
    (step : ∀ m ρ σ (Qb : Fl → Env' → Sto → Prop), Inv m ρ σ → (∀ m' ρ' σ', m' < m → Inv m' ρ' σ' → Qb .next ρ' σ') → (∀ v ρ' σ', J v ρ' σ' → Qb (.ret v) ρ' σ') → b ρ σ (fun r σ' => if r = true then t ρ σ' Qb XS else QS .next ρ σ') (fun c σ' => XS c ρ σ'))
    (ret : ∀ v ρ σ, J v ρ σ → QS (.ret v) ρ σ) : tWhile b t ρ σ QS XS :=
  ⟨Inv, ⟨m, h0⟩, fun m ρ σ h => step m ρ σ _ h (fun m' _ _ h1 h2 => ⟨m', h1, h2⟩) ret⟩
theorem compL_filt {x : Str} {cs : List Str} {tt : TB} {te : TE} {ok : Sto → Prop} {QL : List PV → Sto → Prop} (sel : PV → Bool) (f : PV → PV) (hok : ok σ) : ∀ (xs acc : List PV),
    (∀ p ∈ xs, ∀ QB : Bool → Sto → Prop, QB (sel p) σ → tt (compR cs ρ x p) σ QB nope) →
    (∀ p ∈ xs, sel p = true → ∀ Q' : PV → Sto → Prop, Q' (f p) σ → te (compR cs ρ x p) σ Q' nope) →
    QL (acc ++ (xs.filter sel).map f) σ → compL x cs tt te ok ρ xs acc σ QL
  | [], acc, _, _, hq => by simpa [compL] using hq
  | p :: ps, acc, h1, h2, hq => by
    unfold compL
    refine h1 p (.head _) _ ?_
    cases hs : sel p with
    | true =>
      refine ite_t (h2 p (.head _) hs _ ⟨hok, ?_⟩)
      refine compL_filt sel f hok ps (acc ++ [f p]) (fun p' hp' => h1 p' (.tail _ hp')) (fun p' hp' => h2 p' (.tail _ hp')) ?_
      rw [List.filter_cons_of_pos hs, List.map_cons] at hq
      simpa using hq
    | false =>
      refine ite_f ⟨hok, ?_⟩
      refine compL_filt sel f hok ps acc (fun p' hp' => h1 p' (.tail _ hp')) (fun p' hp' => h2 p' (.tail _ hp')) ?_
      rw [List.filter_cons_of_neg (by simp [hs])] at hq
      exact hq
end
end Mine

set_option autoImplicit false
set_option linter.unusedVariables false
namespace Mine
open PySem PyProof.Rows PySem.Calls
section
variable {g : Gx} {n : Nat} {q : Bool}
end
end Mine

set_option autoImplicit false
set_option linter.unusedVariables false
namespace Mine
open PySem PyProof.Rows PySem.Calls
noncomputable def sumF : TF := fun ps σ Q _ => ∃ (a : Addr) (ns : List Int), ps = [.ref a] ∧ σ a = some (.list (ns.map .int)) ∧ Q (.int ns.sum) σ
noncomputable def minLF : TF := fun ps σ Q _ => ∃ (a : Addr) (ns : List Int), ps = [.ref a] ∧ σ a = some (.list (ns.map .int)) ∧ ns ≠ [] ∧ ∀ m ∈ ns, (∀ x ∈ ns, m ≤ x) → Q (.int m) σ
noncomputable def maxLF : TF := fun ps σ Q _ => ∃ (a : Addr) (ns : List Int), ps = [.ref a] ∧ σ a = some (.list (ns.map .int)) ∧ ns ≠ [] ∧ ∀ m ∈ ns, (∀ x ∈ ns, x ≤ m) → Q (.int m) σ
theorem pre_sum (ns : List Int) : ∀ k, k ≤ ns.length → preSum (fun i => ns.getD i 0) k = (ns.take k).sum
  | 0, _ => by simp [preSum]
  | k + 1, h => by
    have hk : k < ns.length := h
    show preSum (fun i => ns.getD i 0) k + ns.getD k 0 = _
    rw [pre_sum ns k (Nat.le_of_lt hk), List.take_succ_eq_append_getElem hk, List.sum_append]
    simp [List.getD, hk]
section
variable {g : Gx} {n : Nat} {q : Bool} {sc : Scope}
theorem int_at {base h : Heap} {vs : List Value} {ns : List Int} (rs : Reps base h vs (ns.map .int)) (i : Nat) (v : Value) (hv : vs.toArray[i]? = some v) : ∃ t, v = .int (ns.getD i 0) t := by
  obtain ⟨x, hx, rx⟩ := rs.get' (k := i) (v := v) (by simpa using hv)
  rw [List.getElem?_map] at hx
  cases hb : ns[i]? with
  | none => rw [hb] at hx; cases hx
  | some b =>
    rw [hb] at hx; cases hx
    obtain ⟨t, rfl⟩ := inv_int rx
    exact ⟨t, by simp [List.getD, hb]⟩
theorem fp_lt {h : Heap} {a : Addr} {o : Obj} (ha : a < h.objs.size) : ∀ b ∈ [h.objs.size, a], b < (h.push o).objs.size := fun b hb => by
  rw [Heap.size_push]
  rcases List.mem_cons.mp hb with rfl | hb
  · exact Nat.lt_succ_self _
  · rw [List.mem_singleton.mp hb]; exact Nat.lt_succ_of_lt ha
theorem kept_size {h h' : Heap} {o' : Obj} (hk : ∀ b o, b ∉ [h.objs.size] → (h.push o').get? b = some o → h'.get? b = some o) : ∀ b o, h.get? b = some o → h'.get? b = some o := fun b o e =>
  hk b o (by have := Heap.lt_size e; simp; exact Nat.ne_of_lt this) (Heap.get?_push_of_some _ e)
theorem bi_sum (hqt : q = true) : SoundBI g n q (.builtin "sum") sumF := by
  intro A fr s vals ps σ Q X hfr hroom hq H R ht
  obtain ⟨a, ns, rfl, e, hQ⟩ := ht
  obtain ⟨v, rfl, r⟩ := reps_one R
  obtain rfl := inv_ref r
  obtain ⟨vs, hl, rs⟩ := H.sim _ _ e
  have hlt : a < s.heap.objs.size := by obtain ⟨m, h1⟩ := hl; exact Heap.lt_size h1
  have hlen : vs.length = ns.length := by simpa using rs.length
  have W : Walks g.prog g.w A.in1 s.heap.objs.size _ _ _ _ _ := Walks.list (A := A.in1) (hq hqt) s.heap.objs.size a (Nat.ne_of_lt hlt) vs.toArray
  refine call_sum_walkG (wpAny_pyIter_list hl.isList ⟨_, _, _, _, _, _, fun i => ns.getD i 0, rfl, W, And.intro ⟨_, Heap.get?_push_size _ rfl, rfl, rfl⟩ ?_, fp_lt hlt, int_at rs, fun h' tk t' hk => ?_⟩)
  · exact (hl.at fun o e => Heap.get?_push_of_some _ e).isList
  · have kp := kept_size hk
    refine ⟨h', tk, _, σ, rfl, Step.keeps kp, H.sim.keeps kp, .int _ _, ?_⟩
    rw [List.size_toArray, hlen, pre_sum ns _ (Nat.le_refl _), List.take_length]
    exact hQ
theorem bi_minL (hqt : q = true) : SoundBI g n q (.builtin "min") minLF := by
  intro A fr s vals ps σ Q X hfr hroom hq H R ht
  obtain ⟨a, ns, rfl, e, hne, hQ⟩ := ht
  obtain ⟨v, rfl, r⟩ := reps_one R
  obtain rfl := inv_ref r
  obtain ⟨vs, hl, rs⟩ := H.sim _ _ e
  have hlt : a < s.heap.objs.size := by obtain ⟨m, h1⟩ := hl; exact Heap.lt_size h1
  have hlen : vs.length = ns.length := by simpa using rs.length
  have hpos := List.length_pos_iff.mpr hne
  have W : Walks g.prog g.w A.in1 s.heap.objs.size _ _ _ _ _ := Walks.list (A := A.in1) (hq hqt) s.heap.objs.size a (Nat.ne_of_lt hlt) vs.toArray
  refine call_min_walk (wpAny_pyIter_list hl.isList ⟨_, _, _, _, _, _, _, rfl, W, And.intro ⟨_, Heap.get?_push_size _ rfl, rfl, rfl⟩ ?_, fp_lt hlt, by rw [List.size_toArray, hlen]; exact hpos, CmpOf.ints_lt (fun i => ns.getD i 0) (int_at rs), fun v h' tk hv hk => ?_⟩)
  · exact (hl.at fun o e => Heap.get?_push_of_some _ e).isList
  · have kp := kept_size hk
    obtain ⟨t, rfl⟩ := int_at rs _ _ hv
    rw [List.size_toArray, hlen]
    obtain ⟨b1, b2⟩ := argBest_lt (fun i => ns.getD i 0) (ns.length - 1)
    generalize argBest (fun i j => decide (ns.getD i 0 < ns.getD j 0)) (ns.length - 1) = k at b1 b2 ⊢
    have hk' : k < ns.length := by omega
    refine ⟨h', tk, _, σ, rfl, Step.keeps kp, H.sim.keeps kp, .int _ _, hQ _ ?_ fun x hx => ?_⟩
    · rw [show ns.getD k 0 = ns[k] by simp [List.getD, hk']]
      exact List.getElem_mem _
    · obtain ⟨i, hi, rfl⟩ := List.getElem_of_mem hx
      have := b2 i (by omega)
      simpa [List.getD, hi] using this
theorem bi_maxL (hqt : q = true) : SoundBI g n q (.builtin "max") maxLF := by
  intro A fr s vals ps σ Q X hfr hroom hq H R ht
  obtain ⟨a, ns, rfl, e, hne, hQ⟩ := ht
  obtain ⟨v, rfl, r⟩ := reps_one R
  obtain rfl := inv_ref r
  obtain ⟨vs, hl, rs⟩ := H.sim _ _ e
  have hlt : a < s.heap.objs.size := by obtain ⟨m, h1⟩ := hl; exact Heap.lt_size h1
  have hlen : vs.length = ns.length := by simpa using rs.length
  have hpos := List.length_pos_iff.mpr hne
  have W : Walks g.prog g.w A.in1 s.heap.objs.size _ _ _ _ _ := Walks.list (A := A.in1) (hq hqt) s.heap.objs.size a (Nat.ne_of_lt hlt) vs.toArray
  refine call_max_walk (wpAny_pyIter_list hl.isList ⟨_, _, _, _, _, _, _, rfl, W, And.intro ⟨_, Heap.get?_push_size _ rfl, rfl, rfl⟩ ?_, fp_lt hlt, by rw [List.size_toArray, hlen]; exact hpos, CmpOf.ints_gt (fun i => ns.getD i 0) (int_at rs), fun v h' tk hv hk => ?_⟩)
  · exact (hl.at fun o e => Heap.get?_push_of_some _ e).isList
  · have kp := kept_size hk
    obtain ⟨t, rfl⟩ := int_at rs _ _ hv
    rw [List.size_toArray, hlen]
    obtain ⟨b1, b2⟩ := argBest_gt (fun i => ns.getD i 0) (ns.length - 1)
    generalize argBest (fun i j => decide (ns.getD i 0 > ns.getD j 0)) (ns.length - 1) = k at b1 b2 ⊢
    have hk' : k < ns.length := by omega
    refine ⟨h', tk, _, σ, rfl, Step.keeps kp, H.sim.keeps kp, .int _ _, hQ _ ?_ fun x hx => ?_⟩
    · rw [show ns.getD k 0 = ns[k] by simp [List.getD, hk']]
      exact List.getElem_mem _
    · obtain ⟨i, hi, rfl⟩ := List.getElem_of_mem hx
      have := b2 i (by omega)
      simpa [List.getD, hi] using this
end
section
variable {ρ : Env'} {σ : Sto} {Q : PV → Sto → Prop} {X : Addr → Sto → Prop}
theorem i_sum {a : Addr} {ns : List Int} (h1 : σ a = some (.list (ns.map .int))) (h : Q (.int ns.sum) σ) : sumF [.ref a] σ Q X := ⟨a, ns, rfl, h1, h⟩
theorem i_maxL {a : Addr} {ns : List Int} (h1 : σ a = some (.list (ns.map .int))) (h2 : ns ≠ []) (h : ∀ m ∈ ns, (∀ x ∈ ns, x ≤ m) → Q (.int m) σ) : maxLF [.ref a] σ Q X := ⟨a, ns, rfl, h1, h2, h⟩
theorem i_minL {a : Addr} {ns : List Int} (h1 : σ a = some (.list (ns.map .int))) (h2 : ns ≠ []) (h : ∀ m ∈ ns, (∀ x ∈ ns, m ≤ x) → Q (.int m) σ) : minLF [.ref a] σ Q X := ⟨a, ns, rfl, h1, h2, h⟩
end
end Mine

set_option autoImplicit false
set_option linter.unusedVariables false
namespace Mine
open PySem PyProof.Rows PySem.Calls
section
variable {g : Gx} {fr : List Env} {env : Env} {ρ : Env'} {σ : Sto} {w : Addr} {zs : List PV} {h h' : Heap} {wr : List Addr}
end
section
variable {g : Gx} {n : Nat} {sc : Scope}
end
section
variable {ρ : Env'} {σ : Sto} {QS : Fl → Env' → Sto → Prop} {XS : Addr → Env' → Sto → Prop}
end
theorem swapsFalse {elt : Expr} {gs : List Comprehension} {scope sc : Scope} {pos py : Pos} {y : Str} {line : Nat}
    (h : ((envFor sc).blockKind == .function && (envFor sc).kindOf y == some .local && py.line == pos.line && !(scope.names.any fun (n, k) => n == y && (k == .local || k == .cell))) = false) :
    ∀ env : Env, env.scope = sc → swapsWith (.ListComp elt gs scope pos) (some (.Name y py)) line env = pure false := by
  intro env hs
  have e1 : env.blockKind = (envFor sc).blockKind := by unfold Env.blockKind; rw [hs]; rfl
  have e2 : env.kindOf y = (envFor sc).kindOf y := by unfold Env.kindOf; rw [hs]; rfl
  show (pure (env.blockKind == .function && env.kindOf y == some .local && py.line == pos.line && !(scope.names.any fun (n, k) => n == y && (k == .local || k == .cell))) : Sem Bool) = pure false
  rw [e1, e2, h]
end Mine

set_option autoImplicit false
set_option linter.unusedVariables false
set_option maxRecDepth 100000
namespace Mine
open PySem PyProof.Rows PySem.Calls PySem.W

/-! min with a key that gives pairs -/
noncomputable abbrev Grown (h h' : Heap) : Prop := ∀ b o, h.get? b = some o → h'.get? b = some o
noncomputable def PairAt (h : Heap) (r : Value) : Prop := ∃ a o n x1 x2 t1 t2, r = .ref a ∧ h.get? a = some o ∧ o.cls = .type "tuple" ∧ o.data = .seq #[.int x1 t1, .int x2 t2] n
theorem PairAt.but {h h' : Heap} {r : Value} {I : Addr} {oI : Obj} (p : PairAt h r) (hI : h.get? I = some oI) (hc : oI.cls ≠ .type "tuple") (k : ∀ b o, b ≠ I → h.get? b = some o → h'.get? b = some o) : PairAt h' r := by
  obtain ⟨a, o, n, x1, x2, t1, t2, rfl, h1, h2, h3⟩ := p
  refine ⟨a, o, n, x1, x2, t1, t2, rfl, k a o ?_ h1, h2, h3⟩
  rintro rfl
  rw [hI] at h1; cases h1; exact hc h2
theorem PairAt.grown {h h' : Heap} {r : Value} (p : PairAt h r) (k : Grown h h') : PairAt h' r := by
  obtain ⟨a, o, n, x1, x2, t1, t2, rfl, h1, h2, h3⟩ := p
  exact ⟨a, o, n, x1, x2, t1, t2, rfl, k _ _ h1, h2, h3⟩
section
variable {prog : Program} {w : World} {A : Around} {E : Value → Shared → Prop} {s : Shared} {h2 : Heap} {l f I S : Addr} {vs : List Value} {R : Result → Shared → Prop} {Q : Value → Shared → Prop}
theorem mk_loop (hh : A.handled = none) (hu : A.in1.units < cLine) (hl : h2.IsList l vs.toArray) (hlI : l ≠ I) (hI : h2.get? I = none) (hS : h2.get? S = none) (hSI : S ≠ I)
    (turn : ∀ v ∈ vs, ∀ (h : Heap) (tk : Nat), Grown h2 h → wpAny (model prog w) A.in1 (call (.ref f) [v]) (fun r s' => ∃ h' tk', s' = { s with heap := h', toks := tk' } ∧ Grown h h' ∧ PairAt h' r) (fun _ _ => False) { s with heap := h, toks := tk })
    (hR : ∀ v ∈ vs, ∀ h' tk', Grown h2 h' → R (.ok (.ret v)) { s with heap := h', toks := tk' }) :
    ∀ (r j : Nat) (h : Heap) (tk : Nat) (vb tb : Value) (c : Nat), vs.length - (j + 1) = r → j + 1 ≤ vs.length → Grown h2 h → h.get? S = some (seqObj "list" #[vb, tb] c) → h.IsListIter I l (j + 1) → vb ∈ vs → PairAt h tb →
      codeAny (model prog w) A (.builtin "min.loop" ⟨[.ref I, .ref f, .ref S], []⟩) R { s with heap := h, toks := tk } := by
  have hname : (toString "min" ++ toString ".loop" : String) = "min.loop" := by decide
  have W := Walks.list (prog := prog) (w := w) (A := A.in1) hh I l hlI vs.toArray
  have hsz : vs.toArray.size = vs.length := List.size_toArray ..
  have gr : ∀ {h h' : Heap} {X : Addr}, h2.get? X = none → Grown h2 h → (∀ b o, b ≠ X → h.get? b = some o → h'.get? b = some o) → Grown h2 h' := fun hX g k b o e => k b o (by rintro rfl; rw [hX] at e; cases e) (g b o e)
  intro r
  induction r with
  | zero =>
    intro j h tk vb tb c hr hj G gS hit hvb hp
    have hin : j + 1 = vs.length := by omega
    refine codeAny_builtin PySem.F.entry_min_loop ?_
    rw [Around.under_plainId PySem.F.plain_min_loop _]
    show wpAny _ A.in1 (seqItems? (.ref S) >>= _) _ _ _
    refine wpAny_bind (wpAny_seqItems gS rfl ?_)
    show wpAny _ A.in1 (tryCatch (pyNext (.ref I)) _ >>= _) _ _ _
    refine wpAny_bind (wpAny_tryCatch (W.done _ _ _ ⟨by rw [hsz, ← hin]; exact hit, hl.at fun o e => G _ o e⟩ fun h' tk' hk' => ?_))
    have gS' := hk' S _ (by simpa using hSI) gS
    have s1 := Heap.SameBut.update h' S (Obj.mapSeq fun _ => (#[] : Array Value))
    show wpAny _ A.in1 (updateSeq S (fun _ => #[]) >>= _) _ _ _
    refine wpAny_bind ?_
    refine wpAny_updateSeq gS' rfl (wpAny_bind (wpAny_letGo (wpAny_pure ?_)))
    refine hR vb hvb _ _ (gr hS (gr hI G fun b o n e => hk' b o (by simpa using n) e) fun b o n e => (s1.2 b n).trans e)
  | succ r ih =>
    intro j h tk vb tb c hr hj G gS hit hvb hp
    have hlt : j + 1 < vs.length := by omega
    refine codeAny_builtin PySem.F.entry_min_loop ?_
    rw [Around.under_plainId PySem.F.plain_min_loop _]
    show wpAny _ A.in1 (seqItems? (.ref S) >>= _) _ _ _
    refine wpAny_bind (wpAny_seqItems gS rfl ?_)
    show wpAny _ A.in1 (tryCatch (pyNext (.ref I)) _ >>= _) _ _ _
    refine wpAny_bind (wpAny_tryCatch (W.item (j + 1) _ _ _ (by rw [hsz]; exact hlt) ⟨hit, hl.at fun o e => G _ o e⟩ fun v h' tk' hP hst' hk' => ?_))
    have hv : vs[j + 1]? = some v := by simpa using hP
    have hvm : v ∈ vs := List.mem_of_getElem? hv
    obtain ⟨oI, hoI, hoc, hod⟩ := id hit
    obtain ⟨oI', hoI', hoc', hod'⟩ := id hst'.1
    have k1 : ∀ b o, b ≠ I → h.get? b = some o → h'.get? b = some o := fun b o n e => hk' b o (by simpa using n) e
    have G1 := gr hI G k1
    have gS1 := k1 S _ hSI gS
    have hp1 := hp.but hoI (by rw [hoc]; intro q; injection q with q; exact absurd q (by decide)) k1
    show wpAny _ A.in1 (tryCatch (holding [v] (call (.ref f) [v])) _ >>= _) _ _ _
    refine wpAny_bind (wpAny_tryCatch (wpAny_holding (wpAny_mono (turn v hvm h' tk' G1) (fun x s'' he => ?_) fun _ _ hF => hF.elim)))
    obtain ⟨h3, tk3, rfl, g3, hx⟩ := he
    have G3 : Grown h2 h3 := fun b o e => g3 _ _ (G1 b o e)
    have gS3 := g3 _ _ gS1
    have hp3 := hp1.grown g3
    have hit3 : h3.IsListIter I l (j + 1 + 1) := ⟨oI', g3 _ _ hoI', hoc', hod'⟩
    obtain ⟨a1, o1, n1, x1, x2, t1, t2, rfl, q1, q2, q3⟩ := id hx
    obtain ⟨a2, o2, n2, y1, y2, u1, u2, rfl, r1, r2, r3⟩ := id hp3
    show wpAny _ A.in1 (tryCatch (holding [v, .ref a1] (richCompare .Lt (.ref a1) (.ref a2) >>= _)) _ >>= _) _ _ _
    refine wpAny_bind (wpAny_tryCatch (wpAny_holding (wpAny_bind (rich_lt2 hu q1 q2 q3 r1 r2 r3 ?_))))
    refine wpAny_bind (wpAny_holding (wpAny_truthy_bool ?_))
    refine wpAny_bind (wpAny_letGo (wpAny_pure ?_))
    by_cases hb' : x1 < y1 ∨ x1 = y1 ∧ x2 < y2
    · have s1 := Heap.SameBut.update h3 S (Obj.mapSeq fun _ => #[v, .ref a1])
      obtain ⟨c2, hc2⟩ : ∃ c2, (h3.update S (Obj.mapSeq fun _ => #[v, .ref a1])).get? S = some (seqObj "list" #[v, .ref a1] c2) := ⟨_, get?_update_seq gS3 fun _ => #[v, .ref a1]⟩
      simp only [hb', decide_true, if_true]
      refine wpAny_bind ?_
      refine wpAny_updateSeq gS3 rfl (wpAny_bind (wpAny_letGo ?_))
      rw [hname]
      have k2 : ∀ b o, b ≠ S → h3.get? b = some o → (h3.update S (Obj.mapSeq fun _ => #[v, .ref a1])).get? b = some o := fun b o n e => (s1.2 b n).trans e
      refine wpAny_pure ⟨plainId_quiet PySem.F.plain_min_loop _, ih (j + 1) _ _ v (.ref a1) c2 (by omega) hlt (gr hS G3 k2) hc2 ⟨oI', (s1.2 I hSI.symm).trans (g3 _ _ hoI'), hoc', hod'⟩ hvm (hx.but gS3 (by intro q; injection q with q; exact absurd q (by decide)) k2)⟩
    · simp only [hb', decide_false, Bool.false_eq_true, if_false]
      refine wpAny_bind (wpAny_letGo ?_)
      rw [hname]
      exact wpAny_pure ⟨plainId_quiet PySem.F.plain_min_loop _, ih (j + 1) _ _ vb (.ref a2) c (by omega) hlt G3 gS3 hit3 hvb hp3⟩
theorem mk_min (hh : A.handled = none) (hu : A.in1.units < cLine) (hl : s.heap.IsList l vs.toArray) (hne : 0 < vs.length)
    (turn : ∀ v ∈ vs, ∀ (h : Heap) (tk : Nat), Grown s.heap h → wpAny (model prog w) A.in1 (call (.ref f) [v]) (fun r s' => ∃ h' tk', s' = { s with heap := h', toks := tk' } ∧ Grown h h' ∧ PairAt h' r) (fun _ _ => False) { s with heap := h, toks := tk })
    (hQ : ∀ v ∈ vs, ∀ h' tk', Grown s.heap h' → Q v { s with heap := h', toks := tk' }) :
    wpAny (model prog w) A (call (.builtin "min") [.ref l] [(Str.ofString "key", .ref f)]) Q E s := by
  have hname : (toString "min" ++ toString ".loop" : String) = "min.loop" := by decide
  obtain ⟨ol, hol, _⟩ := id hl
  have hll : l < s.heap.objs.size := Heap.lt_size hol
  refine kmk_tree PySem.F.kind_min PySem.F.plain_min PySem.F.entry_min (kmk_min_key _ _) ?_
  show wpAny _ A.in1 (Builtin.Builtins.bindParams "min" ["key", "default"] 0 ⟨[], [(Str.ofString "key", .ref f)]⟩ >>= _) _ _ s
  refine wpAny_bind (wpAny_of_eq (show Builtin.Builtins.bindParams "min" ["key", "default"] 0 ⟨[], [(Str.ofString "key", .ref f)]⟩ = pure [some (.ref f), none] from rfl) ?_)
  refine wpAny_bind (wpAny_pure ?_)
  refine wpAny_bind (wpAny_pyIter_list hl ?_)
  refine wpAny_bind (wpAny_newList ?_ (Nat.zero_le _))
  rw [hname]
  generalize hIo : ({ cls := .type "list_iterator", data := .fields #[.ref l, .int 0 0] } : Obj) = oi
  have hcI : oi.cls = .type "list_iterator" := by rw [← hIo]
  have hdI : oi.data = .fields #[.ref l, .int 0 0] := by rw [← hIo]
  have hS : (s.heap.push oi).objs.size = s.heap.objs.size + 1 := size_push' ..
  have hlI : l ≠ s.heap.objs.size := Nat.ne_of_lt hll
  have hSI : (s.heap.push oi).objs.size ≠ s.heap.objs.size := by rw [hS]; exact Nat.ne_of_gt (Nat.lt_succ_self _)
  have nI : s.heap.get? s.heap.objs.size = none := Heap.get?_none_of_le (Nat.le_refl _)
  have nS : s.heap.get? (s.heap.push oi).objs.size = none := Heap.get?_none_of_le (by rw [hS]; exact Nat.le_succ _)
  refine wpAny_pure ⟨plainId_quiet PySem.F.plain_min_loop _, ?_⟩
  have G0 : Grown s.heap ((s.heap.push oi).push (seqObj "list" #[] 0)) := fun b o e => Heap.get?_push_of_some _ (Heap.get?_push_of_some _ e)
  have gI : ((s.heap.push oi).push (seqObj "list" #[] 0)).get? s.heap.objs.size = some oi := Heap.get?_push_of_some _ (Heap.get?_push_size _ (by rw [← hIo]; rfl))
  have gS : ((s.heap.push oi).push (seqObj "list" #[] 0)).get? (s.heap.push oi).objs.size = some (seqObj "list" #[] 0) := Heap.get?_push_size _ rfl
  generalize (s.heap.push oi).objs.size = S at hSI nS gS ⊢
  generalize s.heap.objs.size = I at hlI hSI nI gI ⊢
  generalize (s.heap.push oi).push (seqObj "list" #[] 0) = h0 at G0 gI gS ⊢
  have W := Walks.list (prog := prog) (w := w) (A := A.in1) hh I l hlI vs.toArray
  have hsz : vs.toArray.size = vs.length := List.size_toArray ..
  refine codeAny_builtin PySem.F.entry_min_loop ?_
  rw [Around.under_plainId PySem.F.plain_min_loop _]
  show wpAny _ A.in1 (seqItems? (.ref S) >>= _) _ _ _
  refine wpAny_bind (wpAny_seqItems gS rfl ?_)
  show wpAny _ A.in1 (tryCatch (pyNext (.ref I)) _ >>= _) _ _ _
  refine wpAny_bind (wpAny_tryCatch (W.item 0 _ _ _ (by rw [hsz]; exact hne) ⟨⟨_, gI, hcI, hdI⟩, hl.at fun o e => G0 _ o e⟩ fun v h' tk' hP hst' hk' => ?_))
  have hv : vs[0]? = some v := by simpa using hP
  have hvm : v ∈ vs := List.mem_of_getElem? hv
  obtain ⟨oI', hoI', hoc', hod'⟩ := id hst'.1
  have k1 : ∀ b o, b ≠ I → h0.get? b = some o → h'.get? b = some o := fun b o n e => hk' b o (by simpa using n) e
  have G1 : Grown s.heap h' := fun b o e => k1 b o (by rintro rfl; rw [nI] at e; cases e) (G0 b o e)
  have gS1 := k1 S _ hSI gS
  show wpAny _ A.in1 (tryCatch (holding [v] (call (.ref f) [v])) _ >>= _) _ _ _
  refine wpAny_bind (wpAny_tryCatch (wpAny_holding (wpAny_mono (turn v hvm h' tk' G1) (fun x s'' he => ?_) fun _ _ hF => hF.elim)))
  obtain ⟨h3, tk3, rfl, g3, hx⟩ := he
  have G3 : Grown s.heap h3 := fun b o e => g3 _ _ (G1 b o e)
  have gS3 := g3 _ _ gS1
  have s1 := Heap.SameBut.update h3 S (Obj.mapSeq fun _ => #[v, x])
  obtain ⟨c2, hc2⟩ : ∃ c2, (h3.update S (Obj.mapSeq fun _ => #[v, x])).get? S = some (seqObj "list" #[v, x] c2) := ⟨_, get?_update_seq gS3 fun _ => #[v, x]⟩
  have k2 : ∀ b o, b ≠ S → h3.get? b = some o → (h3.update S (Obj.mapSeq fun _ => #[v, x])).get? b = some o := fun b o n e => (s1.2 b n).trans e
  show wpAny _ A.in1 (updateSeq S (fun _ => #[v, x]) >>= _) _ _ _
  refine wpAny_bind ?_
  refine wpAny_updateSeq gS3 rfl ?_
  rw [hname]
  exact wpAny_pure ⟨plainId_quiet PySem.F.plain_min_loop _, mk_loop hh hu hl hlI nI nS hSI turn hQ _ 0 _ _ v x c2 rfl hne (fun b o e => k2 b o (by rintro rfl; rw [nS] at e; cases e) (G3 b o e)) hc2 ⟨oI', (s1.2 I hSI.symm).trans (g3 _ _ hoI'), hoc', hod'⟩ hvm (hx.but gS3 (by intro q; injection q with q; exact absurd q (by decide)) k2)⟩
end
end Mine

set_option autoImplicit false
set_option linter.unusedVariables false
set_option maxRecDepth 100000
namespace Mine
open PySem PyProof.Rows PySem.Calls PySem.W

/-- the table of codes of the function that makes the lambda: empty, or with the lambda's code -/
noncomputable def LamOk (P : Addr) (lpos : Pos) (qual : Str) (σ : Sto) : Prop :=
  σ P = some (.raw (tabObj #[])) ∨ ∃ c' oc vs t, σ P = some (.raw (tabObj #[rawInt lpos.line, rawInt lpos.col, .ref c'])) ∧ σ c' = some (.raw oc) ∧ oc.data = .fields vs ∧ vs[1]? = some (.str qual t)
/-- all but the table stays -/
noncomputable def ButP (P : Addr) (σ σ' : Sto) : Prop := ∀ b o, b ≠ P → σ b = some o → σ' b = some o
noncomputable def tMinKey (P : Addr) (lpos : Pos) (qual pn : Str) (ts : TEs) : TE := fun ρ σ Q X => ts ρ σ (fun ps σ₁ => ∃ (l : Addr) (xs : List Int) (ka : Addr) (rest ks : List PV), ps = [.ref l] ∧ σ₁ l = some (.list (xs.map .int)) ∧ xs ≠ [] ∧ ρ pn = some (.tup (.ref ka :: rest)) ∧ σ₁ ka = some (.list ks) ∧
  (∀ x ∈ xs, 0 ≤ x ∧ x < 1000 ∧ ∃ a b, ks[x.toNat]? = some (.tup [.int a, .int b])) ∧ LamOk P lpos qual σ₁ ∧ ∀ x ∈ xs, ∀ σ₂, LamOk P lpos qual σ₂ → ButP P σ₁ σ₂ → Q (.int x) σ₂) X
section
variable {M : Model} {A : Around} {E : Value → Shared → Prop} {s : Shared} {qual : Str} {params : Arguments} {body : Expr} {scope : Scope} {env : Env} {c P : Addr} {pos : Pos} {mg : Str → Option Value} {q : Str × Addr} {clos : List (Str × Addr)} {Q : Value → Shared → Prop}
theorem mk_lam1 (hcl : closureFor scope env = pure (q :: clos)) (hge0 : env.globals = mainGlobals) (hg : s.heap.Ns mainGlobals mg) (hcode : env.code = .ref c) (C : CodeHd s.heap c P) (hP : s.heap.get? P = some (tabObj #[])) (ht : TriplesOk []) (hnf : codeAmong pos [] = none) (hgP : mainGlobals ≠ P) (hb : s.heap.BuiltinsAt mg P)
    (h : ∀ c' oc ctv h' tk, Heap.ExtBut P s.heap h' → s.heap.get? c' = none → h'.get? c' = some oc → oc.cls = .type "code" → (∃ vs t, oc.data = .fields vs ∧ vs[1]? = some (.str qual t)) → h'.get? P = some (tabObj #[rawInt pos.line, rawInt pos.col, .ref c']) →
      Q (.ref h'.objs.size) { s with heap := h'.push (kla_obj "<lambda>" qual params body scope (q :: clos) ((mg "__name__").getD .none) c' ctv), toks := tk }) :
    wpAny M A (makeFunction "<lambda>" qual params (.expr body) scope env [] [] [] pos pos.line) Q E s := by
  obtain ⟨bm, ob, hbm, hne0, _, hneP, hbo, hcls, hdict, hdata⟩ := hb
  rw [makeFunction_eq]
  simp only [List.zip_nil_right, List.filterMap_nil, List.isEmpty_nil, if_true, pure_bind]
  unfold makeTail
  rw [hcl, hge0]
  refine wpAny_bind (wpAny_pure ?_)
  simp only [List.isEmpty_cons, Bool.false_eq_true, if_false]
  refine wpAny_bind (wpAny_newTextTuple ?_)
  refine wpAny_bind (wpAny_functionCodeX hcode ((C.keeps fun b o e => Heap.get?_push_of_some _ e).code (Heap.get?_push_of_some _ hP) ht) ((C.keeps fun b o e => Heap.get?_push_of_some _ e).tab (Heap.get?_push_of_some _ hP)) hnf fun c' h' tk hx hge hlt _ hrec htb hcc => ?_)
  have hg' := (hg.push _).extBut hx hgP
  have hx' : Heap.ExtBut P s.heap h' := fun b o hb' e => hx b o hb' (Heap.get?_push_of_some _ e)
  have hge' : s.heap.objs.size ≤ c' := Nat.le_trans (by rw [Heap.size_push]; omega) hge
  refine wpAny_bind (wpAny_builtinsFor hg' hbm hne0 (hx' _ _ hneP hbo) hcls hdict hdata ?_)
  refine wpAny_bind (wpAny_nsGet hg' ?_)
  obtain ⟨P', _, _, ⟨⟨oc, vs0, e1, e2, _⟩, _⟩⟩ := hcc
  obtain ⟨c2, oc2, vs, t, e3, e4, e5, e6⟩ := hrec
  cases e3
  rw [e1] at e4; cases e4
  exact wpAny_bind (wpAny_pure (wpAny_newObj_type (h c' oc _ h' tk hx' (Heap.get?_none_of_le hge') e1 e2 ⟨vs, t, e5, e6⟩ htb.2) (by size_fits)))
end
section
variable {base h h2 : Heap} {fr : List Env} {σ : Sto} {P c' : Addr} {od od' oc : Obj}
theorem newLam (H : Hp base fr σ h) (e : σ P = some (.raw od)) (kp : ∀ b o, b ≠ P → h.get? b = some o → h2.get? b = some o) (hP : h2.get? P = some od') (rP : RawOk od') (hn : h.get? c' = none) (hc : h2.get? c' = some oc) (rc : RawOk oc) :
    Step fr nobody σ h (upd (upd σ P (.raw od')) c' (.raw oc)) h2 ∧ Sim base h2 (upd (upd σ P (.raw od')) c' (.raw oc)) := by
  have hcs : σ c' = none := by
    cases z : σ c' with
    | none => rfl
    | some ao =>
      have := H.sim c' ao z
      cases ao with
      | list xs => obtain ⟨vs, ⟨m, h1⟩, _⟩ := this; rw [hn] at h1; cases h1
      | raw o => rw [hn] at this; cases this.1
  have hcP : P ≠ c' := by rintro rfl; rw [e] at hcs; cases hcs
  have hp0 := H.sim P _ e
  have firm : ∀ b o, h.get? b = some o → Firm o → h2.get? b = some o := fun b o eb f => kp b o (by rintro rfl; rw [(H.firm eb f).2] at e; cases e) eb
  refine ⟨⟨fun b o eb _ _ n => kp b o (by rintro rfl; rw [n] at e; cases e) eb, fun b o eb m _ => ⟨o.slots, kp b o (by rintro rfl; exact (H.fresh b (by rw [e]; simp)).2 m) eb⟩, fun b o eb _ => ?_, fun a n _ q => ?_, fun a n => ?_⟩, fun a ao ea => ?_⟩
  · by_cases q : b = P
    · subst q; exact ⟨_, hP⟩
    · exact ⟨o, kp b o q eb⟩
  · have q1 : a ≠ c' := by rintro rfl; exact q hn
    have q2 : a ≠ P := by rintro rfl; rw [n] at e; cases e
    unfold upd; rw [if_neg q1, if_neg q2]; exact n
  · unfold upd
    split
    · simp
    · split
      · simp
      · exact n
  · unfold upd at ea
    split at ea
    · rename_i q; subst q; cases ea; exact ⟨hc, rc⟩
    · split at ea
      · rename_i q; subst q; cases ea; exact ⟨hP, rP⟩
      · rename_i q
        have := H.sim a ao ea
        cases ao with
        | list ys => obtain ⟨vs, ⟨m, h1⟩, r⟩ := this; exact ⟨vs, ⟨m, kp a _ q h1⟩, r.mono firm⟩
        | raw o => exact ⟨kp a o q this.1, this.2⟩
end
/-- the key: the first of the pair, at the house -/
noncomputable abbrev keyE (pn y : Str) (k0 : Nat) (p1 p2 p3 p4 p5 : Pos) : Expr := .Subscript (.Subscript (.Name pn p1) (.Constant (.int 0) k0 p2) p3) (.Name y p4) p5
structure LamShape (pn y : Str) (params : Arguments) (lsc : Scope) (body : Expr) (qual : Str) : Prop where
  kind : lsc.kind = .function
  co : lsc.isCoroutine = false
  gen : lsc.isGenerator = false
  nocell : ∀ x ∈ lsc.names, x.2 ≠ .cell
  loc : lsc.names.lookup y = some .local
  free : lsc.names.lookup pn = some .free
  clos : ∀ (env : Env) (cp : Addr), env.cells.lookup pn = some cp → closureFor lsc env = pure [(pn, cp)]
  bind : ∀ (cl : List (Str × Addr)) (pm cv ct v : Value), bindArgs (kla_fn "<lambda>" qual params body lsc cl pm cv ct) ⟨[v], []⟩ = pure [(y, v)]
  defs : ∀ env, defaultsOf params env = ([], [])
  dp : (pn == ("__debug__" : Str)) = false
  dy : (y == ("__debug__" : Str)) = false
  dc : (pn == ("__classdict__" : Str)) = false
section
variable {g : Gx} {A : Around} {s : Shared} {fr : List Env} {σ : Sto} {f cp ka : Addr} {pn y qual : Str} {params : Arguments} {lsc : Scope} {k0 : Nat} {p1 p2 p3 p4 p5 : Pos} {pm cv ctv pv : Value} {rest ks : List PV} {x a b : Int} {t : Tok}
theorem lam_call {E : Value → Shared → Prop} (L : LamShape pn y params lsc (keyE pn y k0 p1 p2 p3 p4 p5) qual) (H : Hp g.base fr σ s.heap) (hroom : A.depth < recursionLimit)
    (ho : s.heap.get? f = some { cls := .type "function", data := .func (kla_fn "<lambda>" qual params (keyE pn y k0 p1 p2 p3 p4 p5) lsc [(pn, cp)] pm cv ctv) }) (hcd : s.heap.CodeRec cv qual) (hcell : s.heap.IsCell cp (some pv))
    (rp : Rep g.base s.heap pv (.tup (.ref ka :: rest))) (hks : σ ka = some (.list ks)) (hx0 : 0 ≤ x) (hx1 : x < 1000) (hx : ks[x.toNat]? = some (.tup [.int a, .int b]))
    (hs1 : ∀ l j t, subscripted (.Constant (.int 0) k0 p2) false (.ref l) (.int j t) = operate [.ref l, .int j t] (getItem (.ref l) (.int j t))) (hs2 : ∀ l j t, subscripted (.Name y p4) false (.ref l) (.int j t) = operate [.ref l, .int j t] (getItem (.ref l) (.int j t))) :
    wpAny g.M A (call (.ref f) [.int x t]) (fun r s' => ∃ h' tk', s' = { s with heap := h', toks := tk' } ∧ Grown s.heap h' ∧ PairAt h' r) E s := by
  refine wpAny_call (kla_callFunE hroom ho rfl L.co L.gen rfl hcd ?_)
  rw [L.bind]
  refine wpAny_pure (wpAny_newFunctionEnv L.nocell (fun z hz => by rw [List.mem_singleton.mp hz]; exact L.loc) (fun h₁ hns hsb => ⟨((g.nolimit).keeps H.stays).fresh _ hsb, ?_⟩) L.kind)
  have kp : Grown s.heap h₁ := fun b o e => hsb.extBut b o (Nat.ne_of_lt (Heap.lt_size e)) (Heap.get?_push_of_some _ e)
  have H1 : Hp g.base fr σ h₁ := H.step (Step.keeps kp) (H.sim.keeps kp)
  refine kla_codeExpr ?_
  refine Subscript_ (Subscript_ ?_)
  obtain ⟨oc, hoc, hdc⟩ := hcell
  refine wpAny_Name (wpAny_loadName_free (c := cp) (v := pv) L.kind L.free ?_ ⟨oc, kp _ _ hoc, hdc⟩ ?_ L.dc) L.dp
  · show [(pn, cp)].lookup pn = some cp
    simp [List.lookup]
  refine wpAny_Constant_int ?_
  refine item_any (g := g) (fr := fr) (σ := σ) (k := fun z => z = .ref ka) H1 (rp.keeps kp) (.int 0 _) (i_g0 rfl) (fun w z rw' hz => ?_) hs1
  subst hz
  refine wpAny_Name (wpAny_loadName_local (v := .int x t) L.kind L.loc hns (by show [(y, Value.int x t)].reverse.lookup y = _; simp [List.lookup]) ?_) L.dy
  refine item_any (g := g) (fr := fr) (σ := σ) (k := fun z => z = .tup [.int a, .int b]) H1 rw' (.int x t) (i_get hx0 (by omega) (by unfold itemsOf; simp only [hks]) trivial hx rfl) (fun w2 z2 rw2 hz2 => ?_) hs2
  subst hz2
  obtain ⟨a', o', n', t1, t2, rfl, q1, q2, q3⟩ := inv_pair rw2
  exact ⟨_, _, rfl, kp, a', o', n', _, _, t1, t2, rfl, q1, q2, q3⟩
end
end Mine

set_option autoImplicit false
set_option linter.unusedVariables false
set_option maxRecDepth 100000
namespace Mine
open PySem PyProof.Rows PySem.Calls PySem.W
/-- what the module holds for making functions -/
noncomputable def ModOk (g : Gx) : Prop := ∃ bm ob, g.mg "__builtins__" = some (.ref bm) ∧ bm ≠ builtinsNs ∧ bm ≠ mainGlobals ∧ g.base.get? bm = some ob ∧ ob.cls = .type "module" ∧ ob.dict = some builtinsNs ∧ ob.data = .plain
section
variable {g : Gx} {n : Nat} {sc lsc : Scope} {e : Expr} {np pos lpos kpos p1 p2 p3 p4 p5 : Pos} {ts : TEs} {P c : Addr} {y qual : Str} {params : Arguments} {k0 : Nat}
theorem sound_minkey (hx : sc.names.lookup ("min" : Str) = some .globalImplicit) (hg : GlobAt g "min" (.builtin "min")) (hes : SoundEs g n true sc [e] ts) (he : ∀ (env : Env) (pos : Pos), backTo pos (starEach [e] env) = (false, eval e env) :: backTo pos (starEach [] env)) (hpn : sc.names.lookup lamName = some .cell)
    (L : LamShape lamName y params lsc (keyE lamName y k0 p1 p2 p3 p4 p5) qual) (hc : g.lam = .ref c) (hlq : g.lamq ++ "<lambda>" = qual) (hC : CodeHd g.base c P) (hM : ModOk g)
    (hs1 : ∀ l j t, subscripted (.Constant (.int 0) k0 p2) false (.ref l) (.int j t) = operate [.ref l, .int j t] (getItem (.ref l) (.int j t))) (hs2 : ∀ l j t, subscripted (.Name y p4) false (.ref l) (.int j t) = operate [.ref l, .int j t] (getItem (.ref l) (.int j t))) :
    SoundE g n true sc (.Call (.Name "min" np) [e] [⟨some "key", .Lambda params (keyE lamName y k0 p1 p2 p3 p4 p5) lsc lpos, kpos⟩] pos) (tMinKey P lpos qual lamName ts) := by
  intro A fr env C hsc s ρ σ Q X H ht
  have t0 : TriplesOk [] := trivial
  have t1 : ∀ c' : Addr, TriplesOk [rawInt lpos.line, rawInt lpos.col, .ref c'] := fun _ => trivial
  have a0 : codeAmong lpos [] = none := rfl
  have a1 : ∀ c' : Addr, codeAmong lpos [rawInt lpos.line, rawInt lpos.col, .ref c'] = some (.ref c') := fun c' => codeAmong_snoc [] trivial rfl
  refine wpAny_Call_ofName (name_glob C H (by rw [hsc]; exact hx) (by decide) hg ?_)
  refine callWith_kw ?_ (he env pos) (hes.1 env pos) rfl rfl
  refine wpAny_mono (hes.2 A fr env C hsc pos s ρ σ _ X H ht) (fun vs s' hp => ?_) fun _ _ x => x
  obtain ⟨h₁, tk₁, ps, σ₁, rfl, S1, Sm1, rs, hq⟩ := hp
  obtain ⟨l, xs, ka, rest, ks, rfl, hl, hne, hρ, hks, hall, hlam, hQ⟩ := hq
  obtain ⟨v, rfl, r⟩ := reps_one rs
  obtain rfl := inv_ref r
  have H1 := H.step S1 Sm1
  have hkind : env.kindOf lamName = some .cell := by unfold Env.kindOf; rw [hsc]; exact hpn
  obtain ⟨cp, ov, hcp, hcell, hrep⟩ := H1.loc.cell lamName hkind
  obtain ⟨pv, rfl, rp⟩ := hrep _ hρ
  obtain ⟨hcode, hqual⟩ := C.code hkind
  rw [hc] at hcode
  refine kws_cons (kla_eval (L.defs env) ?_)
  rw [hqual, hlq]
  have hPn : ∀ o, σ₁ P = some o → g.base.get? P = none := fun o z => (H1.hp.fresh P (by rw [z]; simp)).1
  have hPs : ∃ od, σ₁ P = some (.raw od) := by
    rcases hlam with z | ⟨_, _, _, _, z, _⟩
    · exact ⟨_, z⟩
    · exact ⟨_, z⟩
  obtain ⟨od0, hod0⟩ := hPs
  have hPb := hPn _ hod0
  have hgP : mainGlobals ≠ P := fun z => by
    obtain ⟨o, es, ep, z1, _⟩ := g.hg
    rw [z, hPb] at z1; cases z1
  have hB : h₁.BuiltinsAt g.mg P := by
    obtain ⟨bm, ob, z1, z2, z3, z4, z5, z6, z7⟩ := hM
    exact ⟨bm, ob, z1, z2, z3, (fun z => by rw [z, hPb] at z4; cases z4), H1.hp.stays _ _ z4, z5, z6, z7⟩
  have hl' : ∀ σ2, ButP P σ₁ σ2 → σ2 l = some (.list (xs.map .int)) := fun σ2 b => b l _ (by rintro rfl; rw [hl] at hod0; cases hod0) hl
  have hk' : ∀ σ2, ButP P σ₁ σ2 → σ2 ka = some (.list ks) := fun σ2 b => b ka _ (by rintro rfl; rw [hks] at hod0; cases hod0) hks
  have go : ∀ (f : Addr) (pm cv ctv : Value) (h2 : Heap) (σ2 : Sto) (tk : Nat), Step fr nobody σ₁ h₁ σ2 h2 → Sim g.base h2 σ2 → LamOk P lpos qual σ2 → ButP P σ₁ σ2 → h2.CodeRec cv qual →
      h2.get? f = some { cls := .type "function", data := .func (kla_fn "<lambda>" qual params (keyE lamName y k0 p1 p2 p3 p4 p5) lsc [(lamName, cp)] pm cv ctv) } →
      wpAny g.M A (call (.builtin "min") [.ref l] [(Str.ofString "key", .ref f)]) (PostE g fr σ s Q) (PostX g fr σ s X) { s with heap := h2, toks := tk } := fun f pm cv ctv h2 σ2 tk S2 Sm2 hlam2 hbut hcd hf => by
    have H2 := H1.hp.step S2 Sm2
    obtain ⟨vs, hpl, rsl⟩ := Sm2 l _ (hl' σ2 hbut)
    have hlen2 : vs.length = xs.length := by simpa using rsl.length
    have at' : ∀ v ∈ vs, ∃ x t, x ∈ xs ∧ v = .int x t := fun v hv => by
      obtain ⟨i, hi⟩ := List.mem_iff_getElem?.mp hv
      obtain ⟨z, hz, rz⟩ := rsl.get' hi
      rw [List.getElem?_map] at hz
      cases hb : xs[i]? with
      | none => rw [hb] at hz; cases hz
      | some b =>
        rw [hb] at hz; cases hz
        obtain ⟨t, rfl⟩ := inv_int rz
        exact ⟨b, t, List.mem_of_getElem? hb, rfl⟩
    have hroom : A.in1.depth < recursionLimit := C.room.lt
    have hunits : A.in1.units < cLine := by
      have := C.room.units
      show A.units + _ < cLine
      omega
    have hcell2 : h2.IsCell cp (some pv) := by
      obtain ⟨o, z1, z2⟩ := hcell
      exact ⟨o, S2.other cp o z1 (IsCell.notFr H1.hp ⟨o, z1, z2⟩) id (IsCell.notIn H1.hp.sim ⟨o, z1, z2⟩), z2⟩
    have rp2 := S2.rep H1.hp rp
    refine mk_min (C.quiet rfl) hunits hpl.isList (by rw [hlen2]; exact List.length_pos_iff.mpr hne) (fun v hv h' tk' G => ?_) fun v hv h' tk' G => ?_
    · obtain ⟨x, t, hxm, rfl⟩ := at' v hv
      obtain ⟨x0, x1, a, b, hab⟩ := hall x hxm
      obtain ⟨o, z1, z2⟩ := hcell2
      exact lam_call (s := { s with heap := h', toks := tk' }) L (H2.step (Step.keeps G) (Sm2.keeps G)) hroom (G _ _ hf) (hcd.keeps G) ⟨o, G _ _ z1, z2⟩ (rp2.keeps G) (hk' σ2 hbut) x0 x1 hab hs1 hs2
    · obtain ⟨x, t, hxm, rfl⟩ := at' v hv
      exact ⟨h', tk', .int x, σ2, rfl, S1.trans (S2.trans (Step.keeps G)), Sm2.keeps G, .int x t, hQ x hxm σ2 hlam2 hbut⟩
  rcases id hlam with hP | ⟨c', oc, vs, t, hP, hc', hd, hv⟩
  · refine mk_lam1 (L.clos env cp hcp) C.globals (g.hg.keeps H1.hp.stays) hcode (hC.keeps H1.hp.stays) (H1.hp.sim P _ hP).1 t0 a0 hgP hB fun c' oc ctv h' tk hx' hcn hoc hcls hdv htb => ?_
    obtain ⟨vs, t, hd, hv⟩ := hdv
    have kp : ∀ b o, b ≠ P → h₁.get? b = some o → (h'.push (kla_obj "<lambda>" qual params (keyE lamName y k0 p1 p2 p3 p4 p5) lsc [(lamName, cp)] ((g.mg "__name__").getD .none) c' ctv)).get? b = some o := fun b o nb eb => Heap.get?_push_of_some _ (hx' b o nb eb)
    have gc := Heap.get?_push_of_some (kla_obj "<lambda>" qual params (keyE lamName y k0 p1 p2 p3 p4 p5) lsc [(lamName, cp)] ((g.mg "__name__").getD .none) c' ctv) hoc
    have gP := Heap.get?_push_of_some (kla_obj "<lambda>" qual params (keyE lamName y k0 p1 p2 p3 p4 p5) lsc [(lamName, cp)] ((g.mg "__name__").getD .none) c' ctv) htb
    obtain ⟨S2, Sm2⟩ := newLam H1.hp hP kp gP (.inr (.inr ⟨⟨_, rfl⟩, .inl rfl⟩)) hcn gc (.inr (.inr ⟨⟨_, hd⟩, .inr hcls⟩))
    have hcP : P ≠ c' := by
      rintro rfl
      have := (H1.hp.sim P _ hP).1
      rw [hcn] at this; cases this
    have hcs : σ₁ c' = none := by
      cases z : σ₁ c' with
      | none => rfl
      | some ao =>
        have := H1.hp.sim c' ao z
        cases ao with
        | list xs => obtain ⟨vs, ⟨m, h1⟩, _⟩ := this; rw [hcn] at h1; cases h1
        | raw o => rw [hcn] at this; cases this.1
    refine kws_nil ?_
    refine go _ _ _ _ _ _ _ S2 Sm2 (.inr ⟨c', oc, vs, t, ?_, ?_, hd, hv⟩) (fun b o nb eb => ?_) ⟨c', oc, vs, t, rfl, gc, hd, hv⟩ (Heap.get?_push_size _ rfl)
    · unfold upd; rw [if_neg hcP, if_pos rfl]
    · unfold upd; rw [if_pos rfl]
    · unfold upd; rw [if_neg (by rintro rfl; rw [hcs] at eb; cases eb), if_neg nb]; exact eb
  · refine kla_makeFunctionHit (cv := .ref c') (L.clos env cp hcp) C.globals (g.hg.keeps H1.hp.stays) hcode (hC.keeps H1.hp.stays) (H1.hp.sim P _ hP).1 (t1 c') (a1 c') hB fun ctv h' tk hk hsz => ?_
    have kp : Grown h₁ (h'.push { cls := .type "function", data := .func (kla_fn "<lambda>" qual params (keyE lamName y k0 p1 p2 p3 p4 p5) lsc [(lamName, cp)] ((g.mg "__name__").getD .none) (.ref c') ctv) }) := fun b o eb => Heap.get?_push_of_some _ (hk b o eb)
    refine kws_nil ?_
    exact go _ _ _ _ _ _ _ (Step.keeps kp) (H1.hp.sim.keeps kp) hlam (fun b o _ eb => eb) ⟨c', oc, vs, t, rfl, kp _ _ (H1.hp.sim c' _ hc').1, hd, hv⟩ (Heap.get?_push_size _ rfl)
end
theorem clos_of {lsc : Scope} {a b : Str} {env : Env} {cp : Addr} (hn : lsc.names = [(a, .local), (b, .free)]) (h : env.cells.lookup b = some cp) : closureFor lsc env = pure [(b, cp)] := by
  unfold closureFor
  rw [hn]
  simp [cellOf, h]
end Mine

set_option autoImplicit false
set_option linter.unusedVariables false
set_option maxRecDepth 100000
namespace Mine
open PySem PyProof.Rows PySem.Calls PySem.W
theorem hide_other {h : Heap} {P b : Addr} (n : b ≠ P) : (h.hide P).get? b = h.get? b := (Heap.SameBut.update h P _).2 b n
theorem hide_at {h : Heap} {P : Addr} : (h.hide P).get? P = none := hideAll_none (h := h) [P] (.head _)
theorem of_hide {h : Heap} {P b : Addr} {o : Obj} (e : (h.hide P).get? b = some o) : h.get? b = some o ∧ b ≠ P := by
  have n : b ≠ P := by rintro rfl; rw [hide_at] at e; cases e
  exact ⟨by rw [hide_other n] at e; exact e, n⟩
/-- the same, the table of codes hidden -/
structure HidOf (P : Addr) (g0 g : Gx) : Prop where
  mg : g.mg = g0.mg
  mb : g.mb = g0.mb
  base : g.base = g0.base.hide P
  tab : g0.base.get? P = some (tabObj #[])
section
variable {P : Addr} {g0 g : Gx}
theorem HidOf.get (H : HidOf P g0 g) {b : Addr} {o : Obj} (h : g0.base.get? b = some o) (n : o ≠ tabObj #[]) : g.base.get? b = some o := by
  rw [H.base, hide_other]
  · exact h
  · rintro rfl; rw [H.tab] at h; cases h; exact n rfl
theorem ns_hid {h : Heap} {a : Addr} {m : Str → Option Value} (n : h.Ns a m) (t : h.get? P = some (tabObj #[])) : (h.hide P).Ns a m := by
  obtain ⟨o, es, ep, h1, h2, h3⟩ := n
  refine ⟨o, es, ep, ?_, h2, h3⟩
  rw [hide_other]
  · exact h1
  · rintro rfl; rw [t] at h1; cases h1; cases h2
theorem nolimit_hid {h : Heap} (n : h.NoLimit) (t : h.get? P = some (tabObj #[])) : (h.hide P).NoLimit := by
  obtain ⟨mc, h1, h2⟩ := n
  exact ⟨mc, ns_hid h1 t, h2⟩
theorem glob_hid (H : HidOf P g0 g) {x : Str} {v : Value} (h : GlobAt g0 x v) : GlobAt g x v := by
  unfold GlobAt at h ⊢
  rw [H.mg, H.mb]; exact h
theorem def_hid (H : HidOf P g0 g) {d : DefRec} (h : DefAt g0 d) : DefAt g d := by
  obtain ⟨f, o, pm, code, doc, h1, h2, h3, c, oc, vs, t, h4, h5, h6, h7⟩ := h
  refine ⟨f, o, pm, code, doc, by rw [H.mg]; exact h1, H.get h2 ?_, h3, c, oc, vs, t, h4, H.get h5 ?_, h6, h7⟩
  · rintro rfl; cases h3
  · rintro rfl; cases h6; simp at h7
theorem read_hid (H : HidOf P g0 g) {p : Program} {loose : List Str} {mean : ExcName → Option Value} (T : Top p loose mean g0.mg g0.mb g0.base) : TopRead p loose g.mg g.mb g.base :=
  ⟨g.hg, g.hb, g.nolimit, by rw [H.mb]; exact T.builtins, by rw [H.mg]; exact T.free⟩
theorem mod_hid (H : HidOf P g0 g) {p : Program} {loose : List Str} {mean : ExcName → Option Value} (T : Top p loose mean g0.mg g0.mb g0.base) : ModOk g := by
  obtain ⟨bm, ob, b1, b2, b3, b4, b5, b6⟩ := T.bmain
  have hbG : bm ≠ mainGlobals := fun q => by
    obtain ⟨o, es, ep, e, hd, _⟩ := T.g
    rw [q, e] at b3; cases b3; rw [hd] at b6; cases b6
  refine ⟨bm, ob, by rw [H.mg]; exact b1, b2, hbG, H.get b3 ?_, b4, b5, b6⟩
  rintro rfl; cases b4
end
/-- the function that makes the lambda -/
noncomputable def DefAtL (g : Gx) (d : DefRec) : Prop := ∃ f o pm doc, g.mg d.name = some (.ref f) ∧ g.base.get? f = some o ∧ o.data = .func (docDef d.name d.params d.body d.scope pm g.lam doc) ∧ g.base.CodeRec g.lam d.name
noncomputable def codeOf : Data → Value
  | .func fd => fd.code
  | _ => .none
theorem def_best {g : Gx} {d : DefRec} {f c : Addr} {o : Obj} (D : DefAt g d) (h1 : g.mg d.name = some (.ref f)) (h2 : g.base.get? f = some o) (h3 : codeOf o.data = .ref c) (hl : g.lam = .ref c) : DefAtL g d := by
  obtain ⟨f', o', pm, code, doc, k1, k2, k3, k4⟩ := D
  rw [h1] at k1; cases k1
  rw [h2] at k2; cases k2
  have e : codeOf o.data = code := by rw [k3]; rfl
  rw [h3] at e
  subst e
  rw [← hl] at k3 k4
  exact ⟨f, o, pm, doc, h1, h2, k3, k4⟩
theorem has_defL {g : Gx} {n : Nat} {q : Bool} {d : DefRec} {x : Str} {names : List Str} {tb : TS} (D : DefAtL g d) (hlq : d.name ++ ".<locals>." = g.lamq) (hn : d.name = x)
    (hbind : ∀ (pm code doc : Value) (vals : List Value), vals.length = names.length → bindArgs (docDef d.name d.params d.body d.scope pm code doc) ⟨vals, []⟩ = pure (names.zip vals))
    (hk1 : ∀ y ∈ names, d.scope.names.lookup y = some .local ∨ d.scope.names.lookup y = some .cell) (hco : d.scope.isCoroutine = false) (hgen : d.scope.isGenerator = false) (hk : d.scope.kind = .function)
    (hbody : SoundSs g n q d.scope d.body tb) : HasF g (n + 1) q x (tFun names tb) := by
  obtain ⟨f, o, pm, doc, h1, h2, h3, h4⟩ := D
  refine ⟨f, o, _, hn ▸ h1, h2, h3, ?_⟩
  exact (sound_fun (fd := docDef d.name d.params d.body d.scope pm g.lam doc) h2 h3 rfl rfl h4 rfl rfl (hbind pm g.lam doc) hk1 (fun L y e => cellsFrom_some _ _ _ (.inl e)) hco hgen hk (fun _ => ⟨rfl, hlq⟩) hbody).call
/-- the start: the table alone -/
noncomputable def sto0 (P : Addr) : Sto := fun a => if a = P then some (.raw (tabObj #[])) else none
theorem sto0_at {P : Addr} : sto0 P P = some (.raw (tabObj #[])) := if_pos rfl
theorem sto0_ne {P a : Addr} (h : a ≠ P) : sto0 P a = none := if_neg h
theorem hp_startL {base : Heap} {P : Addr} (t : base.get? P = some (tabObj #[])) : Hp (base.hide P) [] (sto0 P) base := by
  refine ⟨fun _ _ e => (of_hide e).1, trivial, fun a ao e => ?_, fun a e => ⟨?_, fun m => by cases m⟩, fun b m => by cases m⟩
  · unfold sto0 at e
    split at e
    · rename_i z; subst z; cases e; exact ⟨t, .inr (.inr ⟨⟨_, rfl⟩, .inl rfl⟩)⟩
    · cases e
  · unfold sto0 at e
    split at e
    · rename_i z; subst z; exact hide_at
    · exact absurd rfl e
end Mine

set_option autoImplicit false
namespace Mine
open PySem PyProof.Rows PySem.Calls PySem.W
section
variable {p : Program} {w : World} {m n b : Nat} {a : Option Value} {s : Shared} {st : SharedT} {t : Thread}
theorem q_go {s' : Shared} {c : Code} {q : Pos} {B : List Frame} (h : PySem.W.Fast.tw15667345088766844465 PySem.W.Fast.tw14364793385576792824 p w m a n s t = some (s', ⟨PySem.W.Fast.tw11892475500146522536 PySem.W.Fast.tw14364793385576792824 c, c, q, B⟩)) : topGo treeTable p w m a n s t = some (s', ⟨denote treeTable c, c, q, B⟩) := by
  rw [PySem.W.Fast.te15667345088766844465, PySem.W.Fast.te14364793385576792824, PySem.W.Fast.te11892475500146522536]; exact h
theorem q_run {r : Option (Flow × Shared × Code × Pos)} (h : PySem.W.Fast.tw14374325043358763698 PySem.W.Fast.tw14364793385576792824 p w m a b n s t = r) : segRun treeTable p w m a b n s t = r := by
  rw [PySem.W.Fast.te14374325043358763698, PySem.W.Fast.te14364793385576792824]; exact h
theorem q_seg {r : Option (Flow × SharedT × Code × Pos)} (h : PySem.W.Fast.tw10110043849684766642 PySem.W.Fast.tw14364793385576792824 p w m a b n st t = r) : segRunT treeTable p w m a b n st t = r := by
  rw [PySem.W.Fast.te10110043849684766642, PySem.W.Fast.te14364793385576792824]; exact h
theorem q_top {r : Option Shared} (h : PySem.W.Fast.tw14082659384304107361 PySem.W.Fast.tw14364793385576792824 p w m a n s t = r) : topRun treeTable p w m a n s t = r := by
  rw [PySem.W.Fast.te14082659384304107361, PySem.W.Fast.te14364793385576792824]; exact h
end
theorem rest_eq {tb : String → Option Builtin} {p : Program} {w : World} {m n : Nat} {a : Option Value} {s r : Shared} {l l' : List Stmt} {env : Env} {c : Code} {q : Pos} {B : List Frame} (e : l = l') (k : topRun tb p w m a n s (restOf l' env c q B) = some r) : topRun tb p w m a n s (restOf l env c q B) = some r := by rw [e]; exact k
theorem seen_eq {q : Program} {loose mods : List Str} {Xt : Shared → Bool} {s : Shared} (h1 : seen ((recsOf q).map (·.name)) (ownsOf q) [] { s with gens := #[] } = expectedOf q) (h2 : s.heap.bltView = bltViewBooted)
    (h3 : (s.heap.keysOk (looseW q loose) ((recsOf q).map (·.name)) ((litsOf q).map (·.1)) ((clssOf q (looseW q loose)).map (·.name)) && s.heap.accountedOkI mods && s.heap.isNs mainGlobals && s.heap.isNs builtinsNs && tablesOk q s.heap && Xt s && (if true then s.gens.size == 0 else !leftWithCleanup s.gens)) = true)
    (h4 : tabsOk q s = true) (h5 : pinSeenD q (drecsOf q) s = pinGoodD (drecsOf q)) (h6 : plainSeenE q (looseW q loose) s = plainGoodE q (looseW q loose)) (h7 : plainSeenD q loose s = plainGoodD q loose) (h8 : wideSeen q s = wideGood q) (h9 : clsSeenW q loose s = clsGoodW q loose) :
    openSeen q loose mods Xt true s = openGood q loose := by
  unfold openSeen openGood
  exact looks_pair h1 (looks_pair h2 (looks_pair h3 (looks_pair h4 (looks_pair h5 (looks_pair h6 (looks_pair h7 (looks_pair h8 h9)))))))
theorem left_of {p q : Program} {loose : List Str} {Xt : Shared → Bool} {α : Type} {Yf : Shared → α} {Ya : World → α} {N : Nat} {H₀ H₁ : Params → Heap} {gs₀ gs₁ : Array GenState} {d₀ d₁ : Drawn} {k₀ k₁ : Nat} {m₀ : Nat} {ann : Option Value} {M : Nat}
    (open_ : ∀ w : World, (fencedOpening treeTable p w N).map (fun s => (s.heap, s.gens, s.drawn, s.toks)) = some (H₀ w.params, gs₀, d₀, k₀))
    (size : ∀ w : World, ((H₀ w.params).isNs mainGlobals && gs₀.size == 0, (H₀ w.params).objs.size, (H₀ w.params).nsMap mainGlobals "__annotations__") = (true, m₀, ann))
    (run : ∀ (w : World) (os : OsState), topRun treeTable p w m₀ ann M ⟨H₀ w.params, gs₀, d₀, k₀, os⟩ (topStub p) = some ⟨H₁ w.params, gs₁, d₁, k₁, os⟩) (le : Nat.ble M N = true)
    (l0 : ∀ (w : World) (os : OsState), (staticsOk (importedModules p.main.body) (H₀ w.params) (H₁ w.params) && namesBound p (H₁ w.params) && gensDone ⟨H₁ w.params, gs₁, d₁, k₁, os⟩ && laidKept (H₀ w.params) (H₁ w.params)) = true)
    (l1 : ∀ (w : World) (os : OsState), openSeen q loose (importedModules p.main.body) Xt true ⟨H₁ w.params, gs₁, d₁, k₁, os⟩ = openGood q loose) (l2 : ∀ (w : World) (os : OsState), Yf ⟨H₁ w.params, gs₁, d₁, k₁, os⟩ = Ya w) : LeftO p q loose Xt Yf Ya N true :=
  LeftO.of_pieces open_ size run le fun w => funext fun os => looks_pair (l0 w os) (looks_pair (l1 w os) (l2 w os))
set_option maxRecDepth 100000
noncomputable def fnS (i : Nat) : Stmt := (PySem.Challenge.pw_uf030027_07.main.body[i]?).getD (.Pass ⟨0, 0, 0, 0⟩)
noncomputable def fnA : Stmt → Arguments | .FunctionDef _ a _ _ _ _ _ _ _ _ => a | _ => ⟨[], [], Option.none, [], [], Option.none, []⟩
noncomputable def fnB : Stmt → List Stmt | .FunctionDef _ _ b _ _ _ _ _ _ _ => b | _ => []
noncomputable def fnC : Stmt → Scope | .FunctionDef _ _ _ _ _ _ s _ _ _ => s | _ => ⟨.function, [], false, false, []⟩
noncomputable def o0 (_ : Params) : Obj := ⟨(.type "tuple"), Option.none, (.seq #[] 0), #[]⟩
noncomputable def o1 (_ : Params) : Obj := ⟨.none, Option.none, (.fields #[]), #[]⟩
noncomputable def o2 (_ : Params) : Obj := ⟨(.type "code"), Option.none, (.fields #[(.str "<module>" 182), (.str "<module>" 183), (.str "/claim/cut.py" 184), (.int 1 0), (.int 0 0), (.int 0 0), (.int 0 0), (.int 0 0), (.ref 11), (.bool false), (.int 181 0), (.ref 12), .none, .none, .none, .none, (.int 185 0), (.int 1 0), (.str "/claim/cut.py" 186)]), #[]⟩
noncomputable def o3 (_ : Params) : Obj := ⟨(.type "frame"), Option.none, .plain, #[(Option.some (.ref 13)), (Option.some (.ref 3)), (Option.some (.ref 3)), Option.none, (Option.some (.str "__main__" 164)), Option.none, (Option.some (.ref 0))]⟩
noncomputable def hpA (P : Params) : Heap := ⟨#[boot_o_0 P, boot_o_1 P, boot_o_2 P, boot_o_3 P, boot_o_4 P, boot_o_5 P, boot_o_6 P, boot_o_7 P, boot_o_8 P, boot_o_9 P, boot_o_10 P, o0 P, o1 P, o2 P, o3 P], ⟨[], [], [], 0, [], [], false, #[], [], 0, false, false, false, 0, [2000, 10, 10], false, 0, true, [], [], 0, false⟩⟩
noncomputable def tr0 (P : Params) : BT := (.node (boot_o_0 P) (.node (boot_o_1 P) (.node (boot_o_3 P) (.node (boot_o_7 P) .nil .nil) (.node (o0 P) .nil .nil)) (.node (boot_o_5 P) (.node (boot_o_9 P) .nil .nil) (.node (o2 P) .nil .nil))) (.node (boot_o_2 P) (.node (boot_o_4 P) (.node (boot_o_8 P) .nil .nil) (.node (o1 P) .nil .nil)) (.node (boot_o_6 P) (.node (boot_o_10 P) .nil .nil) (.node (o3 P) .nil .nil))))
noncomputable def S0 (w : World) (os : OsState) : SharedT := ⟨tr0 w.params, 15, ⟨[], [], [], 0, [], [], false, #[], [], 0, false, false, false, 0, [2000, 10, 10], false, 0, true, [], [], 0, false⟩, #[], ⟨0, 0, 0, 0⟩, 187, os⟩
noncomputable def enQ : Env := { scope := PySem.Challenge.pw_uf030027_07.main.scope, locals := mainNs, globals := mainNs, cells := [], code := (.ref 13), frame := some 14 }
noncomputable abbrev bdQ : List Stmt := behindTheImports PySem.Challenge.pw_uf030027_07
noncomputable abbrev cdQ : Code := .body bdQ enQ
noncomputable abbrev ps0 : Pos := ⟨0, 0, 0, 0⟩
noncomputable abbrev an0 : Option Value := (Option.some (.ref 6))
noncomputable def o4 (P : Params) : Obj := ⟨(.type "dict"), Option.none, (.dict #[⟨(PyData.keyHash P "__name__"), (.str "__name__" 165), (.str "clearday.errors" 187)⟩, ⟨(PyData.keyHash P "__doc__"), (.str "__doc__" 166), .none⟩, ⟨(PyData.keyHash P "__package__"), (.str "__package__" 167), .none⟩, ⟨(PyData.keyHash P "__loader__"), (.str "__loader__" 168), (.builtin "__main__.__loader__#opaque")⟩, ⟨(PyData.keyHash P "__spec__"), (.str "__spec__" 169), .none⟩, ⟨(PyData.keyHash P "__annotations__"), (.str "__annotations__" 170), (.ref 6)⟩, ⟨(PyData.keyHash P "__builtins__"), (.str "__builtins__" 171), (.ref 4)⟩, ⟨(PyData.keyHash P "__file__"), (.str "__file__" 173), (.str "/claim/cut.py" 172)⟩, ⟨(PyData.keyHash P "__cached__"), (.str "__cached__" 174), .none⟩, ⟨(PyData.keyHash P "DebtError"), (.str "DebtError" 206), (.ref 24)⟩] 10), #[]⟩
noncomputable def o5 (_ : Params) : Obj := ⟨.none, Option.none, (.fields #[(.int 2 0), (.int 0 0), (.ref 20)]), #[]⟩
noncomputable def o6 (_ : Params) : Obj := ⟨(.type "tuple"), Option.none, (.seq #[(.type "ValueError")] 0), #[]⟩
noncomputable def o7 (_ : Params) : Obj := ⟨(.type "builtin_function_or_method"), Option.none, (.fields #[(.builtin "type.__prepare__"), (.type "type")]), #[]⟩
noncomputable def o8 (P : Params) : Obj := ⟨(.type "dict"), Option.none, (.dict #[⟨(PyData.keyHash P "__module__"), (.str "__module__" 196), (.str "clearday.errors" 187)⟩, ⟨(PyData.keyHash P "__qualname__"), (.str "__qualname__" 198), (.str "DebtError" 197)⟩, ⟨(PyData.keyHash P "__firstlineno__"), (.str "__firstlineno__" 200), (.int 2 199)⟩, ⟨(PyData.keyHash P "__static_attributes__"), (.str "__static_attributes__" 201), (.ref 22)⟩] 4), #[]⟩
noncomputable def o9 (_ : Params) : Obj := ⟨(.type "tuple"), Option.none, (.seq #[] 0), #[]⟩
noncomputable def o10 (_ : Params) : Obj := ⟨.none, Option.none, (.fields #[]), #[]⟩
noncomputable def o11 (_ : Params) : Obj := ⟨(.type "code"), Option.none, (.fields #[(.str "DebtError" 191), (.str "DebtError" 192), (.str "/claim/cut.py" 193), (.int 2 0), (.int 0 0), (.int 0 0), (.int 0 0), (.int 0 0), (.ref 18), (.bool false), (.int 181 0), (.ref 19), .none, .none, .none, .none, (.int 194 0), (.int 2 0), (.str "/claim/cut.py" 195)]), #[]⟩
noncomputable def o12 (_ : Params) : Obj := ⟨(.type "frame"), Option.none, .plain, #[(Option.some (.ref 20)), (Option.some (.ref 3)), (Option.some (.ref 17)), Option.none, (Option.some (.str "clearday.errors" 187)), Option.none, (Option.some (.ref 0))]⟩
noncomputable def o13 (_ : Params) : Obj := ⟨(.type "tuple"), Option.none, (.seq #[] 0), #[]⟩
noncomputable def o14 (P : Params) : Obj := ⟨(.type "dict"), Option.none, (.dict #[⟨(PyData.keyHash P "__module__"), (.str "__module__" 196), (.str "clearday.errors" 187)⟩, ⟨(PyData.keyHash P "__firstlineno__"), (.str "__firstlineno__" 200), (.int 2 199)⟩, ⟨(PyData.keyHash P "__static_attributes__"), (.str "__static_attributes__" 201), (.ref 22)⟩, ⟨(PyData.keyHash P "__weakref__"), (.str "__weakref__" 203), (.ref 25)⟩, ⟨(PyData.keyHash P "__doc__"), (.str "__doc__" 204), .none⟩] 3), #[]⟩
noncomputable def o15 (_ : Params) : Obj := ⟨(.type "type"), Option.none, (.cls ⟨"DebtError", [(.type "ValueError")], [(.ref 24), (.type "ValueError"), (.type "Exception"), (.type "BaseException"), (.type "object")], 23, "DebtError", true, [], [], false, Option.none, false⟩), #[(Option.some (.ref 15)), Option.none, (Option.some (.str "DebtError" 189)), (Option.some (.str "DebtError" 197)), (Option.some (.builtin "ValueError.__new__")), (Option.some (.bool true))]⟩
noncomputable def o16 (_ : Params) : Obj := ⟨(.type "getset_descriptor"), Option.none, (.fields #[(.str "__weakref__" 202), (.ref 24), (.builtin "ExceptionGroup.__weakref__"), .none]), #[]⟩
noncomputable def o17 (_ : Params) : Obj := ⟨(.type "super"), Option.none, (.fields #[(.ref 24), (.ref 24), (.ref 24)]), #[]⟩
noncomputable def o18 (_ : Params) : Obj := ⟨(.type "builtin_function_or_method"), Option.none, (.fields #[(.builtin "object.__init_subclass__"), (.ref 24)]), #[]⟩
noncomputable def tr1 (P : Params) : BT := (.node (boot_o_0 P) (.node (boot_o_1 P) (.node (o4 P) (.node (boot_o_7 P) (.node (o6 P) .nil .nil) (.node (o14 P) .nil .nil)) (.node (o0 P) (.node (o10 P) .nil .nil) (.node (o18 P) .nil .nil))) (.node (boot_o_5 P) (.node (boot_o_9 P) (.node (o8 P) .nil .nil) (.node (o16 P) .nil .nil)) (.node (o2 P) (.node (o12 P) .nil .nil) .nil))) (.node (boot_o_2 P) (.node (boot_o_4 P) (.node (boot_o_8 P) (.node (o7 P) .nil .nil) (.node (o15 P) .nil .nil)) (.node (o5 P) (.node (o11 P) .nil .nil) .nil)) (.node (boot_o_6 P) (.node (boot_o_10 P) (.node (o9 P) .nil .nil) (.node (o17 P) .nil .nil)) (.node (o3 P) (.node (o13 P) .nil .nil) .nil))))
noncomputable def S1 (w : World) (os : OsState) : SharedT := ⟨tr1 w.params, 28, ⟨[], [], [], 0, [], [], false, #[], [], 0, false, false, false, 0, [2000, 10, 10], false, 0, true, [], [], 0, false⟩, #[], ⟨0, 0, 0, 0⟩, 207, os⟩
noncomputable def ss0 : List Stmt := (bdQ.drop 0).take 2
noncomputable def o19 (P : Params) : Obj := ⟨(.type "dict"), Option.none, (.dict #[⟨(PyData.keyHash P "__name__"), (.str "__name__" 165), (.str "clearday.errors" 187)⟩, ⟨(PyData.keyHash P "__doc__"), (.str "__doc__" 166), .none⟩, ⟨(PyData.keyHash P "__package__"), (.str "__package__" 167), .none⟩, ⟨(PyData.keyHash P "__loader__"), (.str "__loader__" 168), (.builtin "__main__.__loader__#opaque")⟩, ⟨(PyData.keyHash P "__spec__"), (.str "__spec__" 169), .none⟩, ⟨(PyData.keyHash P "__annotations__"), (.str "__annotations__" 170), (.ref 6)⟩, ⟨(PyData.keyHash P "__builtins__"), (.str "__builtins__" 171), (.ref 4)⟩, ⟨(PyData.keyHash P "__file__"), (.str "__file__" 173), (.str "/claim/cut.py" 172)⟩, ⟨(PyData.keyHash P "__cached__"), (.str "__cached__" 174), .none⟩, ⟨(PyData.keyHash P "DebtError"), (.str "DebtError" 206), (.ref 24)⟩, ⟨(PyData.keyHash P "BadCount"), (.str "BadCount" 222), (.ref 37)⟩] 11), #[]⟩
noncomputable def o20 (_ : Params) : Obj := ⟨.none, Option.none, (.fields #[(.int 2 0), (.int 0 0), (.ref 20), (.int 4 0), (.int 0 0), (.ref 33)]), #[]⟩
noncomputable def o21 (_ : Params) : Obj := ⟨(.type "type"), Option.none, (.cls ⟨"DebtError", [(.type "ValueError")], [(.ref 24), (.type "ValueError"), (.type "Exception"), (.type "BaseException"), (.type "object")], 23, "DebtError", true, [], [(.ref 37)], false, Option.none, false⟩), #[(Option.some (.ref 15)), Option.none, (Option.some (.str "DebtError" 189)), (Option.some (.str "DebtError" 197)), (Option.some (.builtin "ValueError.__new__")), (Option.some (.bool true))]⟩
noncomputable def o22 (_ : Params) : Obj := ⟨(.type "tuple"), Option.none, (.seq #[(.ref 24)] 0), #[]⟩
noncomputable def o23 (_ : Params) : Obj := ⟨(.type "builtin_function_or_method"), Option.none, (.fields #[(.builtin "type.__prepare__"), (.type "type")]), #[]⟩
noncomputable def o24 (P : Params) : Obj := ⟨(.type "dict"), Option.none, (.dict #[⟨(PyData.keyHash P "__module__"), (.str "__module__" 214), (.str "clearday.errors" 187)⟩, ⟨(PyData.keyHash P "__qualname__"), (.str "__qualname__" 216), (.str "BadCount" 215)⟩, ⟨(PyData.keyHash P "__firstlineno__"), (.str "__firstlineno__" 218), (.int 4 217)⟩, ⟨(PyData.keyHash P "__static_attributes__"), (.str "__static_attributes__" 219), (.ref 35)⟩] 4), #[]⟩
noncomputable def o25 (_ : Params) : Obj := ⟨(.type "tuple"), Option.none, (.seq #[] 0), #[]⟩
noncomputable def o26 (_ : Params) : Obj := ⟨.none, Option.none, (.fields #[]), #[]⟩
noncomputable def o27 (_ : Params) : Obj := ⟨(.type "code"), Option.none, (.fields #[(.str "BadCount" 209), (.str "BadCount" 210), (.str "/claim/cut.py" 211), (.int 4 0), (.int 0 0), (.int 0 0), (.int 0 0), (.int 0 0), (.ref 31), (.bool false), (.int 181 0), (.ref 32), .none, .none, .none, .none, (.int 212 0), (.int 4 0), (.str "/claim/cut.py" 213)]), #[]⟩
noncomputable def o28 (_ : Params) : Obj := ⟨(.type "frame"), Option.none, .plain, #[(Option.some (.ref 33)), (Option.some (.ref 3)), (Option.some (.ref 30)), Option.none, (Option.some (.str "clearday.errors" 187)), Option.none, (Option.some (.ref 0))]⟩
noncomputable def o29 (_ : Params) : Obj := ⟨(.type "tuple"), Option.none, (.seq #[] 0), #[]⟩
noncomputable def o30 (P : Params) : Obj := ⟨(.type "dict"), Option.none, (.dict #[⟨(PyData.keyHash P "__module__"), (.str "__module__" 214), (.str "clearday.errors" 187)⟩, ⟨(PyData.keyHash P "__firstlineno__"), (.str "__firstlineno__" 218), (.int 4 217)⟩, ⟨(PyData.keyHash P "__static_attributes__"), (.str "__static_attributes__" 219), (.ref 35)⟩, ⟨(PyData.keyHash P "__doc__"), (.str "__doc__" 220), .none⟩] 2), #[]⟩
noncomputable def o31 (_ : Params) : Obj := ⟨(.type "type"), Option.none, (.cls ⟨"BadCount", [(.ref 24)], [(.ref 37), (.ref 24), (.type "ValueError"), (.type "Exception"), (.type "BaseException"), (.type "object")], 36, "BadCount", true, [], [], false, Option.none, false⟩), #[(Option.some (.ref 28)), Option.none, (Option.some (.str "BadCount" 207)), (Option.some (.str "BadCount" 215)), (Option.some (.builtin "ValueError.__new__")), (Option.some (.bool true))]⟩
noncomputable def o32 (_ : Params) : Obj := ⟨(.type "super"), Option.none, (.fields #[(.ref 37), (.ref 37), (.ref 37)]), #[]⟩
noncomputable def o33 (_ : Params) : Obj := ⟨(.type "builtin_function_or_method"), Option.none, (.fields #[(.builtin "object.__init_subclass__"), (.ref 37)]), #[]⟩
noncomputable def tr2 (P : Params) : BT := (.node (boot_o_0 P) (.node (boot_o_1 P) (.node (o19 P) (.node (boot_o_7 P) (.node (o6 P) (.node (o25 P) .nil .nil) .nil) (.node (o14 P) (.node (o33 P) .nil .nil) .nil)) (.node (o0 P) (.node (o10 P) (.node (o29 P) .nil .nil) .nil) (.node (o18 P) .nil .nil))) (.node (boot_o_5 P) (.node (boot_o_9 P) (.node (o8 P) (.node (o27 P) .nil .nil) .nil) (.node (o16 P) .nil .nil)) (.node (o2 P) (.node (o12 P) (.node (o31 P) .nil .nil) .nil) (.node (o23 P) .nil .nil)))) (.node (boot_o_2 P) (.node (boot_o_4 P) (.node (boot_o_8 P) (.node (o7 P) (.node (o26 P) .nil .nil) .nil) (.node (o21 P) .nil .nil)) (.node (o20 P) (.node (o11 P) (.node (o30 P) .nil .nil) .nil) (.node (o22 P) .nil .nil))) (.node (boot_o_6 P) (.node (boot_o_10 P) (.node (o9 P) (.node (o28 P) .nil .nil) .nil) (.node (o17 P) .nil .nil)) (.node (o3 P) (.node (o13 P) (.node (o32 P) .nil .nil) .nil) (.node (o24 P) .nil .nil)))))
noncomputable def S2 (w : World) (os : OsState) : SharedT := ⟨tr2 w.params, 40, ⟨[], [], [], 0, [], [], false, #[], [], 0, false, false, false, 0, [2000, 10, 10], false, 0, true, [], [], 0, false⟩, #[], ⟨0, 0, 0, 0⟩, 223, os⟩
noncomputable def ss1 : List Stmt := (bdQ.drop 2).take 1
noncomputable def o34 (P : Params) : Obj := ⟨(.type "dict"), Option.none, (.dict #[⟨(PyData.keyHash P "__name__"), (.str "__name__" 165), (.str "clearday.errors" 187)⟩, ⟨(PyData.keyHash P "__doc__"), (.str "__doc__" 166), .none⟩, ⟨(PyData.keyHash P "__package__"), (.str "__package__" 167), .none⟩, ⟨(PyData.keyHash P "__loader__"), (.str "__loader__" 168), (.builtin "__main__.__loader__#opaque")⟩, ⟨(PyData.keyHash P "__spec__"), (.str "__spec__" 169), .none⟩, ⟨(PyData.keyHash P "__annotations__"), (.str "__annotations__" 170), (.ref 6)⟩, ⟨(PyData.keyHash P "__builtins__"), (.str "__builtins__" 171), (.ref 4)⟩, ⟨(PyData.keyHash P "__file__"), (.str "__file__" 173), (.str "/claim/cut.py" 172)⟩, ⟨(PyData.keyHash P "__cached__"), (.str "__cached__" 174), .none⟩, ⟨(PyData.keyHash P "DebtError"), (.str "DebtError" 206), (.ref 24)⟩, ⟨(PyData.keyHash P "BadCount"), (.str "BadCount" 222), (.ref 37)⟩, ⟨(PyData.keyHash P "BadDebt"), (.str "BadDebt" 238), (.ref 49)⟩] 12), #[]⟩
noncomputable def o35 (_ : Params) : Obj := ⟨.none, Option.none, (.fields #[(.int 2 0), (.int 0 0), (.ref 20), (.int 4 0), (.int 0 0), (.ref 33), (.int 6 0), (.int 0 0), (.ref 45)]), #[]⟩
noncomputable def o36 (_ : Params) : Obj := ⟨(.type "type"), Option.none, (.cls ⟨"DebtError", [(.type "ValueError")], [(.ref 24), (.type "ValueError"), (.type "Exception"), (.type "BaseException"), (.type "object")], 23, "DebtError", true, [], [(.ref 37), (.ref 49)], false, Option.none, false⟩), #[(Option.some (.ref 15)), Option.none, (Option.some (.str "DebtError" 189)), (Option.some (.str "DebtError" 197)), (Option.some (.builtin "ValueError.__new__")), (Option.some (.bool true))]⟩
noncomputable def o37 (_ : Params) : Obj := ⟨(.type "tuple"), Option.none, (.seq #[(.ref 24)] 0), #[]⟩
noncomputable def o38 (_ : Params) : Obj := ⟨(.type "builtin_function_or_method"), Option.none, (.fields #[(.builtin "type.__prepare__"), (.type "type")]), #[]⟩
noncomputable def o39 (P : Params) : Obj := ⟨(.type "dict"), Option.none, (.dict #[⟨(PyData.keyHash P "__module__"), (.str "__module__" 230), (.str "clearday.errors" 187)⟩, ⟨(PyData.keyHash P "__qualname__"), (.str "__qualname__" 232), (.str "BadDebt" 231)⟩, ⟨(PyData.keyHash P "__firstlineno__"), (.str "__firstlineno__" 234), (.int 6 233)⟩, ⟨(PyData.keyHash P "__static_attributes__"), (.str "__static_attributes__" 235), (.ref 47)⟩] 4), #[]⟩
noncomputable def o40 (_ : Params) : Obj := ⟨(.type "tuple"), Option.none, (.seq #[] 0), #[]⟩
noncomputable def o41 (_ : Params) : Obj := ⟨.none, Option.none, (.fields #[]), #[]⟩
noncomputable def o42 (_ : Params) : Obj := ⟨(.type "code"), Option.none, (.fields #[(.str "BadDebt" 225), (.str "BadDebt" 226), (.str "/claim/cut.py" 227), (.int 6 0), (.int 0 0), (.int 0 0), (.int 0 0), (.int 0 0), (.ref 43), (.bool false), (.int 181 0), (.ref 44), .none, .none, .none, .none, (.int 228 0), (.int 6 0), (.str "/claim/cut.py" 229)]), #[]⟩
noncomputable def o43 (_ : Params) : Obj := ⟨(.type "frame"), Option.none, .plain, #[(Option.some (.ref 45)), (Option.some (.ref 3)), (Option.some (.ref 42)), Option.none, (Option.some (.str "clearday.errors" 187)), Option.none, (Option.some (.ref 0))]⟩
noncomputable def o44 (_ : Params) : Obj := ⟨(.type "tuple"), Option.none, (.seq #[] 0), #[]⟩
noncomputable def o45 (P : Params) : Obj := ⟨(.type "dict"), Option.none, (.dict #[⟨(PyData.keyHash P "__module__"), (.str "__module__" 230), (.str "clearday.errors" 187)⟩, ⟨(PyData.keyHash P "__firstlineno__"), (.str "__firstlineno__" 234), (.int 6 233)⟩, ⟨(PyData.keyHash P "__static_attributes__"), (.str "__static_attributes__" 235), (.ref 47)⟩, ⟨(PyData.keyHash P "__doc__"), (.str "__doc__" 236), .none⟩] 2), #[]⟩
noncomputable def o46 (_ : Params) : Obj := ⟨(.type "type"), Option.none, (.cls ⟨"BadDebt", [(.ref 24)], [(.ref 49), (.ref 24), (.type "ValueError"), (.type "Exception"), (.type "BaseException"), (.type "object")], 48, "BadDebt", true, [], [], false, Option.none, false⟩), #[(Option.some (.ref 40)), Option.none, (Option.some (.str "BadDebt" 223)), (Option.some (.str "BadDebt" 231)), (Option.some (.builtin "ValueError.__new__")), (Option.some (.bool true))]⟩
noncomputable def o47 (_ : Params) : Obj := ⟨(.type "super"), Option.none, (.fields #[(.ref 49), (.ref 49), (.ref 49)]), #[]⟩
noncomputable def o48 (_ : Params) : Obj := ⟨(.type "builtin_function_or_method"), Option.none, (.fields #[(.builtin "object.__init_subclass__"), (.ref 49)]), #[]⟩
noncomputable def tr3 (P : Params) : BT := (.node (boot_o_0 P) (.node (boot_o_1 P) (.node (o34 P) (.node (boot_o_7 P) (.node (o6 P) (.node (o25 P) .nil .nil) (.node (o44 P) .nil .nil)) (.node (o14 P) (.node (o33 P) .nil .nil) .nil)) (.node (o0 P) (.node (o10 P) (.node (o29 P) .nil .nil) (.node (o48 P) .nil .nil)) (.node (o18 P) (.node (o40 P) .nil .nil) .nil))) (.node (boot_o_5 P) (.node (boot_o_9 P) (.node (o8 P) (.node (o27 P) .nil .nil) (.node (o46 P) .nil .nil)) (.node (o16 P) (.node (o38 P) .nil .nil) .nil)) (.node (o2 P) (.node (o12 P) (.node (o31 P) .nil .nil) .nil) (.node (o23 P) (.node (o42 P) .nil .nil) .nil)))) (.node (boot_o_2 P) (.node (boot_o_4 P) (.node (boot_o_8 P) (.node (o7 P) (.node (o26 P) .nil .nil) (.node (o45 P) .nil .nil)) (.node (o36 P) (.node (o37 P) .nil .nil) .nil)) (.node (o35 P) (.node (o11 P) (.node (o30 P) .nil .nil) .nil) (.node (o22 P) (.node (o41 P) .nil .nil) .nil))) (.node (boot_o_6 P) (.node (boot_o_10 P) (.node (o9 P) (.node (o28 P) .nil .nil) (.node (o47 P) .nil .nil)) (.node (o17 P) (.node (o39 P) .nil .nil) .nil)) (.node (o3 P) (.node (o13 P) (.node (o32 P) .nil .nil) .nil) (.node (o24 P) (.node (o43 P) .nil .nil) .nil)))))
noncomputable def S3 (w : World) (os : OsState) : SharedT := ⟨tr3 w.params, 52, ⟨[], [], [], 0, [], [], false, #[], [], 0, false, false, false, 0, [2000, 10, 10], false, 0, true, [], [], 0, false⟩, #[], ⟨0, 0, 0, 0⟩, 239, os⟩
noncomputable def ss2 : List Stmt := (bdQ.drop 3).take 1
noncomputable def o49 (P : Params) : Obj := ⟨(.type "dict"), Option.none, (.dict #[⟨(PyData.keyHash P "__name__"), (.str "__name__" 165), (.str "clearday.errors" 187)⟩, ⟨(PyData.keyHash P "__doc__"), (.str "__doc__" 166), .none⟩, ⟨(PyData.keyHash P "__package__"), (.str "__package__" 167), .none⟩, ⟨(PyData.keyHash P "__loader__"), (.str "__loader__" 168), (.builtin "__main__.__loader__#opaque")⟩, ⟨(PyData.keyHash P "__spec__"), (.str "__spec__" 169), .none⟩, ⟨(PyData.keyHash P "__annotations__"), (.str "__annotations__" 170), (.ref 6)⟩, ⟨(PyData.keyHash P "__builtins__"), (.str "__builtins__" 171), (.ref 4)⟩, ⟨(PyData.keyHash P "__file__"), (.str "__file__" 173), (.str "/claim/cut.py" 172)⟩, ⟨(PyData.keyHash P "__cached__"), (.str "__cached__" 174), .none⟩, ⟨(PyData.keyHash P "DebtError"), (.str "DebtError" 206), (.ref 24)⟩, ⟨(PyData.keyHash P "BadCount"), (.str "BadCount" 222), (.ref 37)⟩, ⟨(PyData.keyHash P "BadDebt"), (.str "BadDebt" 238), (.ref 49)⟩, ⟨(PyData.keyHash P "BadCut"), (.str "BadCut" 254), (.ref 61)⟩] 13), #[]⟩
noncomputable def o50 (_ : Params) : Obj := ⟨.none, Option.none, (.fields #[(.int 2 0), (.int 0 0), (.ref 20), (.int 4 0), (.int 0 0), (.ref 33), (.int 6 0), (.int 0 0), (.ref 45), (.int 8 0), (.int 0 0), (.ref 57)]), #[]⟩
noncomputable def o51 (_ : Params) : Obj := ⟨(.type "type"), Option.none, (.cls ⟨"DebtError", [(.type "ValueError")], [(.ref 24), (.type "ValueError"), (.type "Exception"), (.type "BaseException"), (.type "object")], 23, "DebtError", true, [], [(.ref 37), (.ref 49), (.ref 61)], false, Option.none, false⟩), #[(Option.some (.ref 15)), Option.none, (Option.some (.str "DebtError" 189)), (Option.some (.str "DebtError" 197)), (Option.some (.builtin "ValueError.__new__")), (Option.some (.bool true))]⟩
noncomputable def o52 (_ : Params) : Obj := ⟨(.type "tuple"), Option.none, (.seq #[(.ref 24)] 0), #[]⟩
noncomputable def o53 (_ : Params) : Obj := ⟨(.type "builtin_function_or_method"), Option.none, (.fields #[(.builtin "type.__prepare__"), (.type "type")]), #[]⟩
noncomputable def o54 (P : Params) : Obj := ⟨(.type "dict"), Option.none, (.dict #[⟨(PyData.keyHash P "__module__"), (.str "__module__" 246), (.str "clearday.errors" 187)⟩, ⟨(PyData.keyHash P "__qualname__"), (.str "__qualname__" 248), (.str "BadCut" 247)⟩, ⟨(PyData.keyHash P "__firstlineno__"), (.str "__firstlineno__" 250), (.int 8 249)⟩, ⟨(PyData.keyHash P "__static_attributes__"), (.str "__static_attributes__" 251), (.ref 59)⟩] 4), #[]⟩
noncomputable def o55 (_ : Params) : Obj := ⟨(.type "tuple"), Option.none, (.seq #[] 0), #[]⟩
noncomputable def o56 (_ : Params) : Obj := ⟨.none, Option.none, (.fields #[]), #[]⟩
noncomputable def o57 (_ : Params) : Obj := ⟨(.type "code"), Option.none, (.fields #[(.str "BadCut" 241), (.str "BadCut" 242), (.str "/claim/cut.py" 243), (.int 8 0), (.int 0 0), (.int 0 0), (.int 0 0), (.int 0 0), (.ref 55), (.bool false), (.int 181 0), (.ref 56), .none, .none, .none, .none, (.int 244 0), (.int 8 0), (.str "/claim/cut.py" 245)]), #[]⟩
noncomputable def o58 (_ : Params) : Obj := ⟨(.type "frame"), Option.none, .plain, #[(Option.some (.ref 57)), (Option.some (.ref 3)), (Option.some (.ref 54)), Option.none, (Option.some (.str "clearday.errors" 187)), Option.none, (Option.some (.ref 0))]⟩
noncomputable def o59 (_ : Params) : Obj := ⟨(.type "tuple"), Option.none, (.seq #[] 0), #[]⟩
noncomputable def o60 (P : Params) : Obj := ⟨(.type "dict"), Option.none, (.dict #[⟨(PyData.keyHash P "__module__"), (.str "__module__" 246), (.str "clearday.errors" 187)⟩, ⟨(PyData.keyHash P "__firstlineno__"), (.str "__firstlineno__" 250), (.int 8 249)⟩, ⟨(PyData.keyHash P "__static_attributes__"), (.str "__static_attributes__" 251), (.ref 59)⟩, ⟨(PyData.keyHash P "__doc__"), (.str "__doc__" 252), .none⟩] 2), #[]⟩
noncomputable def o61 (_ : Params) : Obj := ⟨(.type "type"), Option.none, (.cls ⟨"BadCut", [(.ref 24)], [(.ref 61), (.ref 24), (.type "ValueError"), (.type "Exception"), (.type "BaseException"), (.type "object")], 60, "BadCut", true, [], [], false, Option.none, false⟩), #[(Option.some (.ref 52)), Option.none, (Option.some (.str "BadCut" 239)), (Option.some (.str "BadCut" 247)), (Option.some (.builtin "ValueError.__new__")), (Option.some (.bool true))]⟩
noncomputable def o62 (_ : Params) : Obj := ⟨(.type "super"), Option.none, (.fields #[(.ref 61), (.ref 61), (.ref 61)]), #[]⟩
noncomputable def o63 (_ : Params) : Obj := ⟨(.type "builtin_function_or_method"), Option.none, (.fields #[(.builtin "object.__init_subclass__"), (.ref 61)]), #[]⟩
noncomputable def tr4 (P : Params) : BT := (.node (boot_o_0 P) (.node (boot_o_1 P) (.node (o49 P) (.node (boot_o_7 P) (.node (o6 P) (.node (o25 P) (.node (o63 P) .nil .nil) .nil) (.node (o44 P) .nil .nil)) (.node (o14 P) (.node (o33 P) .nil .nil) (.node (o55 P) .nil .nil))) (.node (o0 P) (.node (o10 P) (.node (o29 P) .nil .nil) (.node (o48 P) .nil .nil)) (.node (o18 P) (.node (o40 P) .nil .nil) (.node (o59 P) .nil .nil)))) (.node (boot_o_5 P) (.node (boot_o_9 P) (.node (o8 P) (.node (o27 P) .nil .nil) (.node (o46 P) .nil .nil)) (.node (o16 P) (.node (o38 P) .nil .nil) (.node (o57 P) .nil .nil))) (.node (o2 P) (.node (o12 P) (.node (o31 P) .nil .nil) (.node (o53 P) .nil .nil)) (.node (o23 P) (.node (o42 P) .nil .nil) (.node (o61 P) .nil .nil))))) (.node (boot_o_2 P) (.node (boot_o_4 P) (.node (boot_o_8 P) (.node (o7 P) (.node (o26 P) .nil .nil) (.node (o45 P) .nil .nil)) (.node (o51 P) (.node (o37 P) .nil .nil) (.node (o56 P) .nil .nil))) (.node (o50 P) (.node (o11 P) (.node (o30 P) .nil .nil) (.node (o52 P) .nil .nil)) (.node (o22 P) (.node (o41 P) .nil .nil) (.node (o60 P) .nil .nil)))) (.node (boot_o_6 P) (.node (boot_o_10 P) (.node (o9 P) (.node (o28 P) .nil .nil) (.node (o47 P) .nil .nil)) (.node (o17 P) (.node (o39 P) .nil .nil) (.node (o58 P) .nil .nil))) (.node (o3 P) (.node (o13 P) (.node (o32 P) .nil .nil) (.node (o54 P) .nil .nil)) (.node (o24 P) (.node (o43 P) .nil .nil) (.node (o62 P) .nil .nil))))))
noncomputable def S4 (w : World) (os : OsState) : SharedT := ⟨tr4 w.params, 64, ⟨[], [], [], 0, [], [], false, #[], [], 0, false, false, false, 0, [2000, 10, 10], false, 0, true, [], [], 0, false⟩, #[], ⟨0, 0, 0, 0⟩, 255, os⟩
noncomputable def ss3 : List Stmt := (bdQ.drop 4).take 1
noncomputable def o64 (P : Params) : Obj := ⟨(.type "dict"), Option.none, (.dict #[⟨(PyData.keyHash P "__name__"), (.str "__name__" 165), (.str "clearday.errors" 187)⟩, ⟨(PyData.keyHash P "__doc__"), (.str "__doc__" 166), .none⟩, ⟨(PyData.keyHash P "__package__"), (.str "__package__" 167), .none⟩, ⟨(PyData.keyHash P "__loader__"), (.str "__loader__" 168), (.builtin "__main__.__loader__#opaque")⟩, ⟨(PyData.keyHash P "__spec__"), (.str "__spec__" 169), .none⟩, ⟨(PyData.keyHash P "__annotations__"), (.str "__annotations__" 170), (.ref 6)⟩, ⟨(PyData.keyHash P "__builtins__"), (.str "__builtins__" 171), (.ref 4)⟩, ⟨(PyData.keyHash P "__file__"), (.str "__file__" 173), (.str "/claim/cut.py" 172)⟩, ⟨(PyData.keyHash P "__cached__"), (.str "__cached__" 174), .none⟩, ⟨(PyData.keyHash P "DebtError"), (.str "DebtError" 206), (.ref 24)⟩, ⟨(PyData.keyHash P "BadCount"), (.str "BadCount" 222), (.ref 37)⟩, ⟨(PyData.keyHash P "BadDebt"), (.str "BadDebt" 238), (.ref 49)⟩, ⟨(PyData.keyHash P "BadCut"), (.str "BadCut" 254), (.ref 61)⟩, ⟨(PyData.keyHash P "Uneven"), (.str "Uneven" 270), (.ref 73)⟩] 14), #[]⟩
noncomputable def o65 (_ : Params) : Obj := ⟨.none, Option.none, (.fields #[(.int 2 0), (.int 0 0), (.ref 20), (.int 4 0), (.int 0 0), (.ref 33), (.int 6 0), (.int 0 0), (.ref 45), (.int 8 0), (.int 0 0), (.ref 57), (.int 10 0), (.int 0 0), (.ref 69)]), #[]⟩
noncomputable def o66 (_ : Params) : Obj := ⟨(.type "type"), Option.none, (.cls ⟨"DebtError", [(.type "ValueError")], [(.ref 24), (.type "ValueError"), (.type "Exception"), (.type "BaseException"), (.type "object")], 23, "DebtError", true, [], [(.ref 37), (.ref 49), (.ref 61), (.ref 73)], false, Option.none, false⟩), #[(Option.some (.ref 15)), Option.none, (Option.some (.str "DebtError" 189)), (Option.some (.str "DebtError" 197)), (Option.some (.builtin "ValueError.__new__")), (Option.some (.bool true))]⟩
noncomputable def o67 (_ : Params) : Obj := ⟨(.type "tuple"), Option.none, (.seq #[(.ref 24)] 0), #[]⟩
noncomputable def o68 (_ : Params) : Obj := ⟨(.type "builtin_function_or_method"), Option.none, (.fields #[(.builtin "type.__prepare__"), (.type "type")]), #[]⟩
noncomputable def o69 (P : Params) : Obj := ⟨(.type "dict"), Option.none, (.dict #[⟨(PyData.keyHash P "__module__"), (.str "__module__" 262), (.str "clearday.errors" 187)⟩, ⟨(PyData.keyHash P "__qualname__"), (.str "__qualname__" 264), (.str "Uneven" 263)⟩, ⟨(PyData.keyHash P "__firstlineno__"), (.str "__firstlineno__" 266), (.int 10 265)⟩, ⟨(PyData.keyHash P "__static_attributes__"), (.str "__static_attributes__" 267), (.ref 71)⟩] 4), #[]⟩
noncomputable def o70 (_ : Params) : Obj := ⟨(.type "tuple"), Option.none, (.seq #[] 0), #[]⟩
noncomputable def o71 (_ : Params) : Obj := ⟨.none, Option.none, (.fields #[]), #[]⟩
noncomputable def o72 (_ : Params) : Obj := ⟨(.type "code"), Option.none, (.fields #[(.str "Uneven" 257), (.str "Uneven" 258), (.str "/claim/cut.py" 259), (.int 10 0), (.int 0 0), (.int 0 0), (.int 0 0), (.int 0 0), (.ref 67), (.bool false), (.int 181 0), (.ref 68), .none, .none, .none, .none, (.int 260 0), (.int 10 0), (.str "/claim/cut.py" 261)]), #[]⟩
noncomputable def o73 (_ : Params) : Obj := ⟨(.type "frame"), Option.none, .plain, #[(Option.some (.ref 69)), (Option.some (.ref 3)), (Option.some (.ref 66)), Option.none, (Option.some (.str "clearday.errors" 187)), Option.none, (Option.some (.ref 0))]⟩
noncomputable def o74 (_ : Params) : Obj := ⟨(.type "tuple"), Option.none, (.seq #[] 0), #[]⟩
noncomputable def o75 (P : Params) : Obj := ⟨(.type "dict"), Option.none, (.dict #[⟨(PyData.keyHash P "__module__"), (.str "__module__" 262), (.str "clearday.errors" 187)⟩, ⟨(PyData.keyHash P "__firstlineno__"), (.str "__firstlineno__" 266), (.int 10 265)⟩, ⟨(PyData.keyHash P "__static_attributes__"), (.str "__static_attributes__" 267), (.ref 71)⟩, ⟨(PyData.keyHash P "__doc__"), (.str "__doc__" 268), .none⟩] 2), #[]⟩
noncomputable def o76 (_ : Params) : Obj := ⟨(.type "type"), Option.none, (.cls ⟨"Uneven", [(.ref 24)], [(.ref 73), (.ref 24), (.type "ValueError"), (.type "Exception"), (.type "BaseException"), (.type "object")], 72, "Uneven", true, [], [], false, Option.none, false⟩), #[(Option.some (.ref 64)), Option.none, (Option.some (.str "Uneven" 255)), (Option.some (.str "Uneven" 263)), (Option.some (.builtin "ValueError.__new__")), (Option.some (.bool true))]⟩
noncomputable def o77 (_ : Params) : Obj := ⟨(.type "super"), Option.none, (.fields #[(.ref 73), (.ref 73), (.ref 73)]), #[]⟩
noncomputable def o78 (_ : Params) : Obj := ⟨(.type "builtin_function_or_method"), Option.none, (.fields #[(.builtin "object.__init_subclass__"), (.ref 73)]), #[]⟩
noncomputable def tr5 (P : Params) : BT := (.node (boot_o_0 P) (.node (boot_o_1 P) (.node (o64 P) (.node (boot_o_7 P) (.node (o6 P) (.node (o25 P) (.node (o63 P) .nil .nil) .nil) (.node (o44 P) .nil .nil)) (.node (o14 P) (.node (o33 P) (.node (o74 P) .nil .nil) .nil) (.node (o55 P) .nil .nil))) (.node (o0 P) (.node (o10 P) (.node (o29 P) (.node (o70 P) .nil .nil) .nil) (.node (o48 P) .nil .nil)) (.node (o18 P) (.node (o40 P) (.node (o78 P) .nil .nil) .nil) (.node (o59 P) .nil .nil)))) (.node (boot_o_5 P) (.node (boot_o_9 P) (.node (o8 P) (.node (o27 P) (.node (o68 P) .nil .nil) .nil) (.node (o46 P) .nil .nil)) (.node (o16 P) (.node (o38 P) (.node (o76 P) .nil .nil) .nil) (.node (o57 P) .nil .nil))) (.node (o2 P) (.node (o12 P) (.node (o31 P) (.node (o72 P) .nil .nil) .nil) (.node (o53 P) .nil .nil)) (.node (o23 P) (.node (o42 P) .nil .nil) (.node (o61 P) .nil .nil))))) (.node (boot_o_2 P) (.node (boot_o_4 P) (.node (boot_o_8 P) (.node (o7 P) (.node (o26 P) (.node (o67 P) .nil .nil) .nil) (.node (o45 P) .nil .nil)) (.node (o66 P) (.node (o37 P) (.node (o75 P) .nil .nil) .nil) (.node (o56 P) .nil .nil))) (.node (o65 P) (.node (o11 P) (.node (o30 P) (.node (o71 P) .nil .nil) .nil) (.node (o52 P) .nil .nil)) (.node (o22 P) (.node (o41 P) .nil .nil) (.node (o60 P) .nil .nil)))) (.node (boot_o_6 P) (.node (boot_o_10 P) (.node (o9 P) (.node (o28 P) (.node (o69 P) .nil .nil) .nil) (.node (o47 P) .nil .nil)) (.node (o17 P) (.node (o39 P) (.node (o77 P) .nil .nil) .nil) (.node (o58 P) .nil .nil))) (.node (o3 P) (.node (o13 P) (.node (o32 P) (.node (o73 P) .nil .nil) .nil) (.node (o54 P) .nil .nil)) (.node (o24 P) (.node (o43 P) .nil .nil) (.node (o62 P) .nil .nil))))))
noncomputable def S5 (w : World) (os : OsState) : SharedT := ⟨tr5 w.params, 76, ⟨[], [], [], 0, [], [], false, #[], [], 0, false, false, false, 0, [2000, 10, 10], false, 0, true, [], [], 0, false⟩, #[], ⟨0, 0, 0, 0⟩, 271, os⟩
noncomputable def ss4 : List Stmt := (bdQ.drop 5).take 1
noncomputable def o79 (P : Params) : Obj := ⟨(.type "dict"), Option.none, (.dict #[⟨(PyData.keyHash P "__name__"), (.str "__name__" 165), (.str "clearday.errors" 187)⟩, ⟨(PyData.keyHash P "__doc__"), (.str "__doc__" 166), .none⟩, ⟨(PyData.keyHash P "__package__"), (.str "__package__" 167), .none⟩, ⟨(PyData.keyHash P "__loader__"), (.str "__loader__" 168), (.builtin "__main__.__loader__#opaque")⟩, ⟨(PyData.keyHash P "__spec__"), (.str "__spec__" 169), .none⟩, ⟨(PyData.keyHash P "__annotations__"), (.str "__annotations__" 170), (.ref 6)⟩, ⟨(PyData.keyHash P "__builtins__"), (.str "__builtins__" 171), (.ref 4)⟩, ⟨(PyData.keyHash P "__file__"), (.str "__file__" 173), (.str "/claim/cut.py" 172)⟩, ⟨(PyData.keyHash P "__cached__"), (.str "__cached__" 174), .none⟩, ⟨(PyData.keyHash P "DebtError"), (.str "DebtError" 206), (.ref 24)⟩, ⟨(PyData.keyHash P "BadCount"), (.str "BadCount" 222), (.ref 37)⟩, ⟨(PyData.keyHash P "BadDebt"), (.str "BadDebt" 238), (.ref 49)⟩, ⟨(PyData.keyHash P "BadCut"), (.str "BadCut" 254), (.ref 61)⟩, ⟨(PyData.keyHash P "Uneven"), (.str "Uneven" 270), (.ref 73)⟩, ⟨(PyData.keyHash P "BadPrices"), (.str "BadPrices" 286), (.ref 85)⟩] 15), #[]⟩
noncomputable def o80 (_ : Params) : Obj := ⟨.none, Option.none, (.fields #[(.int 2 0), (.int 0 0), (.ref 20), (.int 4 0), (.int 0 0), (.ref 33), (.int 6 0), (.int 0 0), (.ref 45), (.int 8 0), (.int 0 0), (.ref 57), (.int 10 0), (.int 0 0), (.ref 69), (.int 12 0), (.int 0 0), (.ref 81)]), #[]⟩
noncomputable def o81 (_ : Params) : Obj := ⟨(.type "type"), Option.none, (.cls ⟨"DebtError", [(.type "ValueError")], [(.ref 24), (.type "ValueError"), (.type "Exception"), (.type "BaseException"), (.type "object")], 23, "DebtError", true, [], [(.ref 37), (.ref 49), (.ref 61), (.ref 73), (.ref 85)], false, Option.none, false⟩), #[(Option.some (.ref 15)), Option.none, (Option.some (.str "DebtError" 189)), (Option.some (.str "DebtError" 197)), (Option.some (.builtin "ValueError.__new__")), (Option.some (.bool true))]⟩
noncomputable def o82 (_ : Params) : Obj := ⟨(.type "tuple"), Option.none, (.seq #[(.ref 24)] 0), #[]⟩
noncomputable def o83 (_ : Params) : Obj := ⟨(.type "builtin_function_or_method"), Option.none, (.fields #[(.builtin "type.__prepare__"), (.type "type")]), #[]⟩
noncomputable def o84 (P : Params) : Obj := ⟨(.type "dict"), Option.none, (.dict #[⟨(PyData.keyHash P "__module__"), (.str "__module__" 278), (.str "clearday.errors" 187)⟩, ⟨(PyData.keyHash P "__qualname__"), (.str "__qualname__" 280), (.str "BadPrices" 279)⟩, ⟨(PyData.keyHash P "__firstlineno__"), (.str "__firstlineno__" 282), (.int 12 281)⟩, ⟨(PyData.keyHash P "__static_attributes__"), (.str "__static_attributes__" 283), (.ref 83)⟩] 4), #[]⟩
noncomputable def o85 (_ : Params) : Obj := ⟨(.type "tuple"), Option.none, (.seq #[] 0), #[]⟩
noncomputable def o86 (_ : Params) : Obj := ⟨.none, Option.none, (.fields #[]), #[]⟩
noncomputable def o87 (_ : Params) : Obj := ⟨(.type "code"), Option.none, (.fields #[(.str "BadPrices" 273), (.str "BadPrices" 274), (.str "/claim/cut.py" 275), (.int 12 0), (.int 0 0), (.int 0 0), (.int 0 0), (.int 0 0), (.ref 79), (.bool false), (.int 181 0), (.ref 80), .none, .none, .none, .none, (.int 276 0), (.int 12 0), (.str "/claim/cut.py" 277)]), #[]⟩
noncomputable def o88 (_ : Params) : Obj := ⟨(.type "frame"), Option.none, .plain, #[(Option.some (.ref 81)), (Option.some (.ref 3)), (Option.some (.ref 78)), Option.none, (Option.some (.str "clearday.errors" 187)), Option.none, (Option.some (.ref 0))]⟩
noncomputable def o89 (_ : Params) : Obj := ⟨(.type "tuple"), Option.none, (.seq #[] 0), #[]⟩
noncomputable def o90 (P : Params) : Obj := ⟨(.type "dict"), Option.none, (.dict #[⟨(PyData.keyHash P "__module__"), (.str "__module__" 278), (.str "clearday.errors" 187)⟩, ⟨(PyData.keyHash P "__firstlineno__"), (.str "__firstlineno__" 282), (.int 12 281)⟩, ⟨(PyData.keyHash P "__static_attributes__"), (.str "__static_attributes__" 283), (.ref 83)⟩, ⟨(PyData.keyHash P "__doc__"), (.str "__doc__" 284), .none⟩] 2), #[]⟩
noncomputable def o91 (_ : Params) : Obj := ⟨(.type "type"), Option.none, (.cls ⟨"BadPrices", [(.ref 24)], [(.ref 85), (.ref 24), (.type "ValueError"), (.type "Exception"), (.type "BaseException"), (.type "object")], 84, "BadPrices", true, [], [], false, Option.none, false⟩), #[(Option.some (.ref 76)), Option.none, (Option.some (.str "BadPrices" 271)), (Option.some (.str "BadPrices" 279)), (Option.some (.builtin "ValueError.__new__")), (Option.some (.bool true))]⟩
noncomputable def o92 (_ : Params) : Obj := ⟨(.type "super"), Option.none, (.fields #[(.ref 85), (.ref 85), (.ref 85)]), #[]⟩
noncomputable def o93 (_ : Params) : Obj := ⟨(.type "builtin_function_or_method"), Option.none, (.fields #[(.builtin "object.__init_subclass__"), (.ref 85)]), #[]⟩
noncomputable def tr6 (P : Params) : BT := (.node (boot_o_0 P) (.node (boot_o_1 P) (.node (o79 P) (.node (boot_o_7 P) (.node (o6 P) (.node (o25 P) (.node (o63 P) .nil .nil) .nil) (.node (o44 P) (.node (o85 P) .nil .nil) .nil)) (.node (o14 P) (.node (o33 P) (.node (o74 P) .nil .nil) .nil) (.node (o55 P) (.node (o93 P) .nil .nil) .nil))) (.node (o0 P) (.node (o10 P) (.node (o29 P) (.node (o70 P) .nil .nil) .nil) (.node (o48 P) (.node (o89 P) .nil .nil) .nil)) (.node (o18 P) (.node (o40 P) (.node (o78 P) .nil .nil) .nil) (.node (o59 P) .nil .nil)))) (.node (boot_o_5 P) (.node (boot_o_9 P) (.node (o8 P) (.node (o27 P) (.node (o68 P) .nil .nil) .nil) (.node (o46 P) (.node (o87 P) .nil .nil) .nil)) (.node (o16 P) (.node (o38 P) (.node (o76 P) .nil .nil) .nil) (.node (o57 P) .nil .nil))) (.node (o2 P) (.node (o12 P) (.node (o31 P) (.node (o72 P) .nil .nil) .nil) (.node (o53 P) (.node (o91 P) .nil .nil) .nil)) (.node (o23 P) (.node (o42 P) (.node (o83 P) .nil .nil) .nil) (.node (o61 P) .nil .nil))))) (.node (boot_o_2 P) (.node (boot_o_4 P) (.node (boot_o_8 P) (.node (o7 P) (.node (o26 P) (.node (o67 P) .nil .nil) .nil) (.node (o45 P) (.node (o86 P) .nil .nil) .nil)) (.node (o81 P) (.node (o37 P) (.node (o75 P) .nil .nil) .nil) (.node (o56 P) .nil .nil))) (.node (o80 P) (.node (o11 P) (.node (o30 P) (.node (o71 P) .nil .nil) .nil) (.node (o52 P) (.node (o90 P) .nil .nil) .nil)) (.node (o22 P) (.node (o41 P) (.node (o82 P) .nil .nil) .nil) (.node (o60 P) .nil .nil)))) (.node (boot_o_6 P) (.node (boot_o_10 P) (.node (o9 P) (.node (o28 P) (.node (o69 P) .nil .nil) .nil) (.node (o47 P) (.node (o88 P) .nil .nil) .nil)) (.node (o17 P) (.node (o39 P) (.node (o77 P) .nil .nil) .nil) (.node (o58 P) .nil .nil))) (.node (o3 P) (.node (o13 P) (.node (o32 P) (.node (o73 P) .nil .nil) .nil) (.node (o54 P) (.node (o92 P) .nil .nil) .nil)) (.node (o24 P) (.node (o43 P) (.node (o84 P) .nil .nil) .nil) (.node (o62 P) .nil .nil))))))
noncomputable def S6 (w : World) (os : OsState) : SharedT := ⟨tr6 w.params, 88, ⟨[], [], [], 0, [], [], false, #[], [], 0, false, false, false, 0, [2000, 10, 10], false, 0, true, [], [], 0, false⟩, #[], ⟨0, 0, 0, 0⟩, 287, os⟩
noncomputable def ss5 : List Stmt := (bdQ.drop 6).take 1
noncomputable def o94 (P : Params) : Obj := ⟨(.type "dict"), Option.none, (.dict #[⟨(PyData.keyHash P "__name__"), (.str "__name__" 165), (.str "clearday.errors" 187)⟩, ⟨(PyData.keyHash P "__doc__"), (.str "__doc__" 166), .none⟩, ⟨(PyData.keyHash P "__package__"), (.str "__package__" 167), .none⟩, ⟨(PyData.keyHash P "__loader__"), (.str "__loader__" 168), (.builtin "__main__.__loader__#opaque")⟩, ⟨(PyData.keyHash P "__spec__"), (.str "__spec__" 169), .none⟩, ⟨(PyData.keyHash P "__annotations__"), (.str "__annotations__" 170), (.ref 6)⟩, ⟨(PyData.keyHash P "__builtins__"), (.str "__builtins__" 171), (.ref 4)⟩, ⟨(PyData.keyHash P "__file__"), (.str "__file__" 173), (.str "/claim/cut.py" 172)⟩, ⟨(PyData.keyHash P "__cached__"), (.str "__cached__" 174), .none⟩, ⟨(PyData.keyHash P "DebtError"), (.str "DebtError" 206), (.ref 24)⟩, ⟨(PyData.keyHash P "BadCount"), (.str "BadCount" 222), (.ref 37)⟩, ⟨(PyData.keyHash P "BadDebt"), (.str "BadDebt" 238), (.ref 49)⟩, ⟨(PyData.keyHash P "BadCut"), (.str "BadCut" 254), (.ref 61)⟩, ⟨(PyData.keyHash P "Uneven"), (.str "Uneven" 270), (.ref 73)⟩, ⟨(PyData.keyHash P "BadPrices"), (.str "BadPrices" 286), (.ref 85)⟩, ⟨(PyData.keyHash P "NotBest"), (.str "NotBest" 302), (.ref 97)⟩] 16), #[]⟩
noncomputable def o95 (_ : Params) : Obj := ⟨.none, Option.none, (.fields #[(.int 2 0), (.int 0 0), (.ref 20), (.int 4 0), (.int 0 0), (.ref 33), (.int 6 0), (.int 0 0), (.ref 45), (.int 8 0), (.int 0 0), (.ref 57), (.int 10 0), (.int 0 0), (.ref 69), (.int 12 0), (.int 0 0), (.ref 81), (.int 14 0), (.int 0 0), (.ref 93)]), #[]⟩
noncomputable def o96 (_ : Params) : Obj := ⟨(.type "type"), Option.none, (.cls ⟨"DebtError", [(.type "ValueError")], [(.ref 24), (.type "ValueError"), (.type "Exception"), (.type "BaseException"), (.type "object")], 23, "DebtError", true, [], [(.ref 37), (.ref 49), (.ref 61), (.ref 73), (.ref 85), (.ref 97)], false, Option.none, false⟩), #[(Option.some (.ref 15)), Option.none, (Option.some (.str "DebtError" 189)), (Option.some (.str "DebtError" 197)), (Option.some (.builtin "ValueError.__new__")), (Option.some (.bool true))]⟩
noncomputable def o97 (_ : Params) : Obj := ⟨(.type "tuple"), Option.none, (.seq #[(.ref 24)] 0), #[]⟩
noncomputable def o98 (_ : Params) : Obj := ⟨(.type "builtin_function_or_method"), Option.none, (.fields #[(.builtin "type.__prepare__"), (.type "type")]), #[]⟩
noncomputable def o99 (P : Params) : Obj := ⟨(.type "dict"), Option.none, (.dict #[⟨(PyData.keyHash P "__module__"), (.str "__module__" 294), (.str "clearday.errors" 187)⟩, ⟨(PyData.keyHash P "__qualname__"), (.str "__qualname__" 296), (.str "NotBest" 295)⟩, ⟨(PyData.keyHash P "__firstlineno__"), (.str "__firstlineno__" 298), (.int 14 297)⟩, ⟨(PyData.keyHash P "__static_attributes__"), (.str "__static_attributes__" 299), (.ref 95)⟩] 4), #[]⟩
noncomputable def o100 (_ : Params) : Obj := ⟨(.type "tuple"), Option.none, (.seq #[] 0), #[]⟩
noncomputable def o101 (_ : Params) : Obj := ⟨.none, Option.none, (.fields #[]), #[]⟩
noncomputable def o102 (_ : Params) : Obj := ⟨(.type "code"), Option.none, (.fields #[(.str "NotBest" 289), (.str "NotBest" 290), (.str "/claim/cut.py" 291), (.int 14 0), (.int 0 0), (.int 0 0), (.int 0 0), (.int 0 0), (.ref 91), (.bool false), (.int 181 0), (.ref 92), .none, .none, .none, .none, (.int 292 0), (.int 14 0), (.str "/claim/cut.py" 293)]), #[]⟩
noncomputable def o103 (_ : Params) : Obj := ⟨(.type "frame"), Option.none, .plain, #[(Option.some (.ref 93)), (Option.some (.ref 3)), (Option.some (.ref 90)), Option.none, (Option.some (.str "clearday.errors" 187)), Option.none, (Option.some (.ref 0))]⟩
noncomputable def o104 (_ : Params) : Obj := ⟨(.type "tuple"), Option.none, (.seq #[] 0), #[]⟩
noncomputable def o105 (P : Params) : Obj := ⟨(.type "dict"), Option.none, (.dict #[⟨(PyData.keyHash P "__module__"), (.str "__module__" 294), (.str "clearday.errors" 187)⟩, ⟨(PyData.keyHash P "__firstlineno__"), (.str "__firstlineno__" 298), (.int 14 297)⟩, ⟨(PyData.keyHash P "__static_attributes__"), (.str "__static_attributes__" 299), (.ref 95)⟩, ⟨(PyData.keyHash P "__doc__"), (.str "__doc__" 300), .none⟩] 2), #[]⟩
noncomputable def o106 (_ : Params) : Obj := ⟨(.type "type"), Option.none, (.cls ⟨"NotBest", [(.ref 24)], [(.ref 97), (.ref 24), (.type "ValueError"), (.type "Exception"), (.type "BaseException"), (.type "object")], 96, "NotBest", true, [], [], false, Option.none, false⟩), #[(Option.some (.ref 88)), Option.none, (Option.some (.str "NotBest" 287)), (Option.some (.str "NotBest" 295)), (Option.some (.builtin "ValueError.__new__")), (Option.some (.bool true))]⟩
noncomputable def o107 (_ : Params) : Obj := ⟨(.type "super"), Option.none, (.fields #[(.ref 97), (.ref 97), (.ref 97)]), #[]⟩
noncomputable def o108 (_ : Params) : Obj := ⟨(.type "builtin_function_or_method"), Option.none, (.fields #[(.builtin "object.__init_subclass__"), (.ref 97)]), #[]⟩
noncomputable def tr7 (P : Params) : BT := (.node (boot_o_0 P) (.node (boot_o_1 P) (.node (o94 P) (.node (boot_o_7 P) (.node (o6 P) (.node (o25 P) (.node (o63 P) .nil .nil) (.node (o104 P) .nil .nil)) (.node (o44 P) (.node (o85 P) .nil .nil) .nil)) (.node (o14 P) (.node (o33 P) (.node (o74 P) .nil .nil) .nil) (.node (o55 P) (.node (o93 P) .nil .nil) .nil))) (.node (o0 P) (.node (o10 P) (.node (o29 P) (.node (o70 P) .nil .nil) (.node (o108 P) .nil .nil)) (.node (o48 P) (.node (o89 P) .nil .nil) .nil)) (.node (o18 P) (.node (o40 P) (.node (o78 P) .nil .nil) .nil) (.node (o59 P) (.node (o100 P) .nil .nil) .nil)))) (.node (boot_o_5 P) (.node (boot_o_9 P) (.node (o8 P) (.node (o27 P) (.node (o68 P) .nil .nil) (.node (o106 P) .nil .nil)) (.node (o46 P) (.node (o87 P) .nil .nil) .nil)) (.node (o16 P) (.node (o38 P) (.node (o76 P) .nil .nil) .nil) (.node (o57 P) (.node (o98 P) .nil .nil) .nil))) (.node (o2 P) (.node (o12 P) (.node (o31 P) (.node (o72 P) .nil .nil) .nil) (.node (o53 P) (.node (o91 P) .nil .nil) .nil)) (.node (o23 P) (.node (o42 P) (.node (o83 P) .nil .nil) .nil) (.node (o61 P) (.node (o102 P) .nil .nil) .nil))))) (.node (boot_o_2 P) (.node (boot_o_4 P) (.node (boot_o_8 P) (.node (o7 P) (.node (o26 P) (.node (o67 P) .nil .nil) (.node (o105 P) .nil .nil)) (.node (o45 P) (.node (o86 P) .nil .nil) .nil)) (.node (o96 P) (.node (o37 P) (.node (o75 P) .nil .nil) .nil) (.node (o56 P) (.node (o97 P) .nil .nil) .nil))) (.node (o95 P) (.node (o11 P) (.node (o30 P) (.node (o71 P) .nil .nil) .nil) (.node (o52 P) (.node (o90 P) .nil .nil) .nil)) (.node (o22 P) (.node (o41 P) (.node (o82 P) .nil .nil) .nil) (.node (o60 P) (.node (o101 P) .nil .nil) .nil)))) (.node (boot_o_6 P) (.node (boot_o_10 P) (.node (o9 P) (.node (o28 P) (.node (o69 P) .nil .nil) (.node (o107 P) .nil .nil)) (.node (o47 P) (.node (o88 P) .nil .nil) .nil)) (.node (o17 P) (.node (o39 P) (.node (o77 P) .nil .nil) .nil) (.node (o58 P) (.node (o99 P) .nil .nil) .nil))) (.node (o3 P) (.node (o13 P) (.node (o32 P) (.node (o73 P) .nil .nil) .nil) (.node (o54 P) (.node (o92 P) .nil .nil) .nil)) (.node (o24 P) (.node (o43 P) (.node (o84 P) .nil .nil) .nil) (.node (o62 P) (.node (o103 P) .nil .nil) .nil))))))
noncomputable def S7 (w : World) (os : OsState) : SharedT := ⟨tr7 w.params, 100, ⟨[], [], [], 0, [], [], false, #[], [], 0, false, false, false, 0, [2000, 10, 10], false, 0, true, [], [], 0, false⟩, #[], ⟨0, 0, 0, 0⟩, 303, os⟩
noncomputable def ss6 : List Stmt := (bdQ.drop 7).take 1
noncomputable def o109 (P : Params) : Obj := ⟨(.type "dict"), Option.none, (.dict #[⟨(PyData.keyHash P "__name__"), (.str "__name__" 165), (.str "clearday.errors" 187)⟩, ⟨(PyData.keyHash P "__doc__"), (.str "__doc__" 166), .none⟩, ⟨(PyData.keyHash P "__package__"), (.str "__package__" 167), .none⟩, ⟨(PyData.keyHash P "__loader__"), (.str "__loader__" 168), (.builtin "__main__.__loader__#opaque")⟩, ⟨(PyData.keyHash P "__spec__"), (.str "__spec__" 169), .none⟩, ⟨(PyData.keyHash P "__annotations__"), (.str "__annotations__" 170), (.ref 6)⟩, ⟨(PyData.keyHash P "__builtins__"), (.str "__builtins__" 171), (.ref 4)⟩, ⟨(PyData.keyHash P "__file__"), (.str "__file__" 173), (.str "/claim/cut.py" 172)⟩, ⟨(PyData.keyHash P "__cached__"), (.str "__cached__" 174), .none⟩, ⟨(PyData.keyHash P "DebtError"), (.str "DebtError" 206), (.ref 24)⟩, ⟨(PyData.keyHash P "BadCount"), (.str "BadCount" 222), (.ref 37)⟩, ⟨(PyData.keyHash P "BadDebt"), (.str "BadDebt" 238), (.ref 49)⟩, ⟨(PyData.keyHash P "BadCut"), (.str "BadCut" 254), (.ref 61)⟩, ⟨(PyData.keyHash P "Uneven"), (.str "Uneven" 270), (.ref 73)⟩, ⟨(PyData.keyHash P "BadPrices"), (.str "BadPrices" 286), (.ref 85)⟩, ⟨(PyData.keyHash P "NotBest"), (.str "NotBest" 302), (.ref 97)⟩, ⟨(PyData.keyHash P "NoDebt"), (.str "NoDebt" 318), (.ref 109)⟩] 17), #[]⟩
noncomputable def o110 (_ : Params) : Obj := ⟨.none, Option.none, (.fields #[(.int 2 0), (.int 0 0), (.ref 20), (.int 4 0), (.int 0 0), (.ref 33), (.int 6 0), (.int 0 0), (.ref 45), (.int 8 0), (.int 0 0), (.ref 57), (.int 10 0), (.int 0 0), (.ref 69), (.int 12 0), (.int 0 0), (.ref 81), (.int 14 0), (.int 0 0), (.ref 93), (.int 16 0), (.int 0 0), (.ref 105)]), #[]⟩
noncomputable def o111 (_ : Params) : Obj := ⟨(.type "type"), Option.none, (.cls ⟨"DebtError", [(.type "ValueError")], [(.ref 24), (.type "ValueError"), (.type "Exception"), (.type "BaseException"), (.type "object")], 23, "DebtError", true, [], [(.ref 37), (.ref 49), (.ref 61), (.ref 73), (.ref 85), (.ref 97), (.ref 109)], false, Option.none, false⟩), #[(Option.some (.ref 15)), Option.none, (Option.some (.str "DebtError" 189)), (Option.some (.str "DebtError" 197)), (Option.some (.builtin "ValueError.__new__")), (Option.some (.bool true))]⟩
noncomputable def o112 (_ : Params) : Obj := ⟨(.type "tuple"), Option.none, (.seq #[(.ref 24)] 0), #[]⟩
noncomputable def o113 (_ : Params) : Obj := ⟨(.type "builtin_function_or_method"), Option.none, (.fields #[(.builtin "type.__prepare__"), (.type "type")]), #[]⟩
noncomputable def o114 (P : Params) : Obj := ⟨(.type "dict"), Option.none, (.dict #[⟨(PyData.keyHash P "__module__"), (.str "__module__" 310), (.str "clearday.errors" 187)⟩, ⟨(PyData.keyHash P "__qualname__"), (.str "__qualname__" 312), (.str "NoDebt" 311)⟩, ⟨(PyData.keyHash P "__firstlineno__"), (.str "__firstlineno__" 314), (.int 16 313)⟩, ⟨(PyData.keyHash P "__static_attributes__"), (.str "__static_attributes__" 315), (.ref 107)⟩] 4), #[]⟩
noncomputable def o115 (_ : Params) : Obj := ⟨(.type "tuple"), Option.none, (.seq #[] 0), #[]⟩
noncomputable def o116 (_ : Params) : Obj := ⟨.none, Option.none, (.fields #[]), #[]⟩
noncomputable def o117 (_ : Params) : Obj := ⟨(.type "code"), Option.none, (.fields #[(.str "NoDebt" 305), (.str "NoDebt" 306), (.str "/claim/cut.py" 307), (.int 16 0), (.int 0 0), (.int 0 0), (.int 0 0), (.int 0 0), (.ref 103), (.bool false), (.int 181 0), (.ref 104), .none, .none, .none, .none, (.int 308 0), (.int 16 0), (.str "/claim/cut.py" 309)]), #[]⟩
noncomputable def o118 (_ : Params) : Obj := ⟨(.type "frame"), Option.none, .plain, #[(Option.some (.ref 105)), (Option.some (.ref 3)), (Option.some (.ref 102)), Option.none, (Option.some (.str "clearday.errors" 187)), Option.none, (Option.some (.ref 0))]⟩
noncomputable def o119 (_ : Params) : Obj := ⟨(.type "tuple"), Option.none, (.seq #[] 0), #[]⟩
noncomputable def o120 (P : Params) : Obj := ⟨(.type "dict"), Option.none, (.dict #[⟨(PyData.keyHash P "__module__"), (.str "__module__" 310), (.str "clearday.errors" 187)⟩, ⟨(PyData.keyHash P "__firstlineno__"), (.str "__firstlineno__" 314), (.int 16 313)⟩, ⟨(PyData.keyHash P "__static_attributes__"), (.str "__static_attributes__" 315), (.ref 107)⟩, ⟨(PyData.keyHash P "__doc__"), (.str "__doc__" 316), .none⟩] 2), #[]⟩
noncomputable def o121 (_ : Params) : Obj := ⟨(.type "type"), Option.none, (.cls ⟨"NoDebt", [(.ref 24)], [(.ref 109), (.ref 24), (.type "ValueError"), (.type "Exception"), (.type "BaseException"), (.type "object")], 108, "NoDebt", true, [], [], false, Option.none, false⟩), #[(Option.some (.ref 100)), Option.none, (Option.some (.str "NoDebt" 303)), (Option.some (.str "NoDebt" 311)), (Option.some (.builtin "ValueError.__new__")), (Option.some (.bool true))]⟩
noncomputable def o122 (_ : Params) : Obj := ⟨(.type "super"), Option.none, (.fields #[(.ref 109), (.ref 109), (.ref 109)]), #[]⟩
noncomputable def o123 (_ : Params) : Obj := ⟨(.type "builtin_function_or_method"), Option.none, (.fields #[(.builtin "object.__init_subclass__"), (.ref 109)]), #[]⟩
noncomputable def tr8 (P : Params) : BT := (.node (boot_o_0 P) (.node (boot_o_1 P) (.node (o109 P) (.node (boot_o_7 P) (.node (o6 P) (.node (o25 P) (.node (o63 P) .nil .nil) (.node (o104 P) .nil .nil)) (.node (o44 P) (.node (o85 P) .nil .nil) (.node (o123 P) .nil .nil))) (.node (o14 P) (.node (o33 P) (.node (o74 P) .nil .nil) (.node (o115 P) .nil .nil)) (.node (o55 P) (.node (o93 P) .nil .nil) .nil))) (.node (o0 P) (.node (o10 P) (.node (o29 P) (.node (o70 P) .nil .nil) (.node (o108 P) .nil .nil)) (.node (o48 P) (.node (o89 P) .nil .nil) .nil)) (.node (o18 P) (.node (o40 P) (.node (o78 P) .nil .nil) (.node (o119 P) .nil .nil)) (.node (o59 P) (.node (o100 P) .nil .nil) .nil)))) (.node (boot_o_5 P) (.node (boot_o_9 P) (.node (o8 P) (.node (o27 P) (.node (o68 P) .nil .nil) (.node (o106 P) .nil .nil)) (.node (o46 P) (.node (o87 P) .nil .nil) .nil)) (.node (o16 P) (.node (o38 P) (.node (o76 P) .nil .nil) (.node (o117 P) .nil .nil)) (.node (o57 P) (.node (o98 P) .nil .nil) .nil))) (.node (o2 P) (.node (o12 P) (.node (o31 P) (.node (o72 P) .nil .nil) (.node (o113 P) .nil .nil)) (.node (o53 P) (.node (o91 P) .nil .nil) .nil)) (.node (o23 P) (.node (o42 P) (.node (o83 P) .nil .nil) (.node (o121 P) .nil .nil)) (.node (o61 P) (.node (o102 P) .nil .nil) .nil))))) (.node (boot_o_2 P) (.node (boot_o_4 P) (.node (boot_o_8 P) (.node (o7 P) (.node (o26 P) (.node (o67 P) .nil .nil) (.node (o105 P) .nil .nil)) (.node (o45 P) (.node (o86 P) .nil .nil) .nil)) (.node (o111 P) (.node (o37 P) (.node (o75 P) .nil .nil) (.node (o116 P) .nil .nil)) (.node (o56 P) (.node (o97 P) .nil .nil) .nil))) (.node (o110 P) (.node (o11 P) (.node (o30 P) (.node (o71 P) .nil .nil) (.node (o112 P) .nil .nil)) (.node (o52 P) (.node (o90 P) .nil .nil) .nil)) (.node (o22 P) (.node (o41 P) (.node (o82 P) .nil .nil) (.node (o120 P) .nil .nil)) (.node (o60 P) (.node (o101 P) .nil .nil) .nil)))) (.node (boot_o_6 P) (.node (boot_o_10 P) (.node (o9 P) (.node (o28 P) (.node (o69 P) .nil .nil) (.node (o107 P) .nil .nil)) (.node (o47 P) (.node (o88 P) .nil .nil) .nil)) (.node (o17 P) (.node (o39 P) (.node (o77 P) .nil .nil) (.node (o118 P) .nil .nil)) (.node (o58 P) (.node (o99 P) .nil .nil) .nil))) (.node (o3 P) (.node (o13 P) (.node (o32 P) (.node (o73 P) .nil .nil) (.node (o114 P) .nil .nil)) (.node (o54 P) (.node (o92 P) .nil .nil) .nil)) (.node (o24 P) (.node (o43 P) (.node (o84 P) .nil .nil) (.node (o122 P) .nil .nil)) (.node (o62 P) (.node (o103 P) .nil .nil) .nil))))))
noncomputable def S8 (w : World) (os : OsState) : SharedT := ⟨tr8 w.params, 112, ⟨[], [], [], 0, [], [], false, #[], [], 0, false, false, false, 0, [2000, 10, 10], false, 0, true, [], [], 0, false⟩, #[], ⟨0, 0, 0, 0⟩, 319, os⟩
noncomputable def ss7 : List Stmt := (bdQ.drop 8).take 1
noncomputable def o124 (P : Params) : Obj := ⟨(.type "dict"), Option.none, (.dict #[⟨(PyData.keyHash P "__name__"), (.str "__name__" 165), (.str "clearday.errors" 187)⟩, ⟨(PyData.keyHash P "__doc__"), (.str "__doc__" 166), .none⟩, ⟨(PyData.keyHash P "__package__"), (.str "__package__" 167), .none⟩, ⟨(PyData.keyHash P "__loader__"), (.str "__loader__" 168), (.builtin "__main__.__loader__#opaque")⟩, ⟨(PyData.keyHash P "__spec__"), (.str "__spec__" 169), .none⟩, ⟨(PyData.keyHash P "__annotations__"), (.str "__annotations__" 170), (.ref 6)⟩, ⟨(PyData.keyHash P "__builtins__"), (.str "__builtins__" 171), (.ref 4)⟩, ⟨(PyData.keyHash P "__file__"), (.str "__file__" 173), (.str "/claim/cut.py" 172)⟩, ⟨(PyData.keyHash P "__cached__"), (.str "__cached__" 174), .none⟩, ⟨(PyData.keyHash P "DebtError"), (.str "DebtError" 206), (.ref 24)⟩, ⟨(PyData.keyHash P "BadCount"), (.str "BadCount" 222), (.ref 37)⟩, ⟨(PyData.keyHash P "BadDebt"), (.str "BadDebt" 238), (.ref 49)⟩, ⟨(PyData.keyHash P "BadCut"), (.str "BadCut" 254), (.ref 61)⟩, ⟨(PyData.keyHash P "Uneven"), (.str "Uneven" 270), (.ref 73)⟩, ⟨(PyData.keyHash P "BadPrices"), (.str "BadPrices" 286), (.ref 85)⟩, ⟨(PyData.keyHash P "NotBest"), (.str "NotBest" 302), (.ref 97)⟩, ⟨(PyData.keyHash P "NoDebt"), (.str "NoDebt" 318), (.ref 109)⟩, ⟨(PyData.keyHash P "NoHouse"), (.str "NoHouse" 334), (.ref 121)⟩] 18), #[]⟩
noncomputable def o125 (_ : Params) : Obj := ⟨.none, Option.none, (.fields #[(.int 2 0), (.int 0 0), (.ref 20), (.int 4 0), (.int 0 0), (.ref 33), (.int 6 0), (.int 0 0), (.ref 45), (.int 8 0), (.int 0 0), (.ref 57), (.int 10 0), (.int 0 0), (.ref 69), (.int 12 0), (.int 0 0), (.ref 81), (.int 14 0), (.int 0 0), (.ref 93), (.int 16 0), (.int 0 0), (.ref 105), (.int 18 0), (.int 0 0), (.ref 117)]), #[]⟩
noncomputable def o126 (_ : Params) : Obj := ⟨(.type "type"), Option.none, (.cls ⟨"DebtError", [(.type "ValueError")], [(.ref 24), (.type "ValueError"), (.type "Exception"), (.type "BaseException"), (.type "object")], 23, "DebtError", true, [], [(.ref 37), (.ref 49), (.ref 61), (.ref 73), (.ref 85), (.ref 97), (.ref 109), (.ref 121)], false, Option.none, false⟩), #[(Option.some (.ref 15)), Option.none, (Option.some (.str "DebtError" 189)), (Option.some (.str "DebtError" 197)), (Option.some (.builtin "ValueError.__new__")), (Option.some (.bool true))]⟩
noncomputable def o127 (_ : Params) : Obj := ⟨(.type "tuple"), Option.none, (.seq #[(.ref 24)] 0), #[]⟩
noncomputable def o128 (_ : Params) : Obj := ⟨(.type "builtin_function_or_method"), Option.none, (.fields #[(.builtin "type.__prepare__"), (.type "type")]), #[]⟩
noncomputable def o129 (P : Params) : Obj := ⟨(.type "dict"), Option.none, (.dict #[⟨(PyData.keyHash P "__module__"), (.str "__module__" 326), (.str "clearday.errors" 187)⟩, ⟨(PyData.keyHash P "__qualname__"), (.str "__qualname__" 328), (.str "NoHouse" 327)⟩, ⟨(PyData.keyHash P "__firstlineno__"), (.str "__firstlineno__" 330), (.int 18 329)⟩, ⟨(PyData.keyHash P "__static_attributes__"), (.str "__static_attributes__" 331), (.ref 119)⟩] 4), #[]⟩
noncomputable def o130 (_ : Params) : Obj := ⟨(.type "tuple"), Option.none, (.seq #[] 0), #[]⟩
noncomputable def o131 (_ : Params) : Obj := ⟨.none, Option.none, (.fields #[]), #[]⟩
noncomputable def o132 (_ : Params) : Obj := ⟨(.type "code"), Option.none, (.fields #[(.str "NoHouse" 321), (.str "NoHouse" 322), (.str "/claim/cut.py" 323), (.int 18 0), (.int 0 0), (.int 0 0), (.int 0 0), (.int 0 0), (.ref 115), (.bool false), (.int 181 0), (.ref 116), .none, .none, .none, .none, (.int 324 0), (.int 18 0), (.str "/claim/cut.py" 325)]), #[]⟩
noncomputable def o133 (_ : Params) : Obj := ⟨(.type "frame"), Option.none, .plain, #[(Option.some (.ref 117)), (Option.some (.ref 3)), (Option.some (.ref 114)), Option.none, (Option.some (.str "clearday.errors" 187)), Option.none, (Option.some (.ref 0))]⟩
noncomputable def o134 (_ : Params) : Obj := ⟨(.type "tuple"), Option.none, (.seq #[] 0), #[]⟩
noncomputable def o135 (P : Params) : Obj := ⟨(.type "dict"), Option.none, (.dict #[⟨(PyData.keyHash P "__module__"), (.str "__module__" 326), (.str "clearday.errors" 187)⟩, ⟨(PyData.keyHash P "__firstlineno__"), (.str "__firstlineno__" 330), (.int 18 329)⟩, ⟨(PyData.keyHash P "__static_attributes__"), (.str "__static_attributes__" 331), (.ref 119)⟩, ⟨(PyData.keyHash P "__doc__"), (.str "__doc__" 332), .none⟩] 2), #[]⟩
noncomputable def o136 (_ : Params) : Obj := ⟨(.type "type"), Option.none, (.cls ⟨"NoHouse", [(.ref 24)], [(.ref 121), (.ref 24), (.type "ValueError"), (.type "Exception"), (.type "BaseException"), (.type "object")], 120, "NoHouse", true, [], [], false, Option.none, false⟩), #[(Option.some (.ref 112)), Option.none, (Option.some (.str "NoHouse" 319)), (Option.some (.str "NoHouse" 327)), (Option.some (.builtin "ValueError.__new__")), (Option.some (.bool true))]⟩
noncomputable def o137 (_ : Params) : Obj := ⟨(.type "super"), Option.none, (.fields #[(.ref 121), (.ref 121), (.ref 121)]), #[]⟩
noncomputable def o138 (_ : Params) : Obj := ⟨(.type "builtin_function_or_method"), Option.none, (.fields #[(.builtin "object.__init_subclass__"), (.ref 121)]), #[]⟩
noncomputable def tr9 (P : Params) : BT := (.node (boot_o_0 P) (.node (boot_o_1 P) (.node (o124 P) (.node (boot_o_7 P) (.node (o6 P) (.node (o25 P) (.node (o63 P) .nil .nil) (.node (o104 P) .nil .nil)) (.node (o44 P) (.node (o85 P) .nil .nil) (.node (o123 P) .nil .nil))) (.node (o14 P) (.node (o33 P) (.node (o74 P) .nil .nil) (.node (o115 P) .nil .nil)) (.node (o55 P) (.node (o93 P) .nil .nil) (.node (o134 P) .nil .nil)))) (.node (o0 P) (.node (o10 P) (.node (o29 P) (.node (o70 P) .nil .nil) (.node (o108 P) .nil .nil)) (.node (o48 P) (.node (o89 P) .nil .nil) (.node (o130 P) .nil .nil))) (.node (o18 P) (.node (o40 P) (.node (o78 P) .nil .nil) (.node (o119 P) .nil .nil)) (.node (o59 P) (.node (o100 P) .nil .nil) (.node (o138 P) .nil .nil))))) (.node (boot_o_5 P) (.node (boot_o_9 P) (.node (o8 P) (.node (o27 P) (.node (o68 P) .nil .nil) (.node (o106 P) .nil .nil)) (.node (o46 P) (.node (o87 P) .nil .nil) (.node (o128 P) .nil .nil))) (.node (o16 P) (.node (o38 P) (.node (o76 P) .nil .nil) (.node (o117 P) .nil .nil)) (.node (o57 P) (.node (o98 P) .nil .nil) (.node (o136 P) .nil .nil)))) (.node (o2 P) (.node (o12 P) (.node (o31 P) (.node (o72 P) .nil .nil) (.node (o113 P) .nil .nil)) (.node (o53 P) (.node (o91 P) .nil .nil) (.node (o132 P) .nil .nil))) (.node (o23 P) (.node (o42 P) (.node (o83 P) .nil .nil) (.node (o121 P) .nil .nil)) (.node (o61 P) (.node (o102 P) .nil .nil) .nil))))) (.node (boot_o_2 P) (.node (boot_o_4 P) (.node (boot_o_8 P) (.node (o7 P) (.node (o26 P) (.node (o67 P) .nil .nil) (.node (o105 P) .nil .nil)) (.node (o45 P) (.node (o86 P) .nil .nil) (.node (o127 P) .nil .nil))) (.node (o126 P) (.node (o37 P) (.node (o75 P) .nil .nil) (.node (o116 P) .nil .nil)) (.node (o56 P) (.node (o97 P) .nil .nil) (.node (o135 P) .nil .nil)))) (.node (o125 P) (.node (o11 P) (.node (o30 P) (.node (o71 P) .nil .nil) (.node (o112 P) .nil .nil)) (.node (o52 P) (.node (o90 P) .nil .nil) (.node (o131 P) .nil .nil))) (.node (o22 P) (.node (o41 P) (.node (o82 P) .nil .nil) (.node (o120 P) .nil .nil)) (.node (o60 P) (.node (o101 P) .nil .nil) .nil)))) (.node (boot_o_6 P) (.node (boot_o_10 P) (.node (o9 P) (.node (o28 P) (.node (o69 P) .nil .nil) (.node (o107 P) .nil .nil)) (.node (o47 P) (.node (o88 P) .nil .nil) (.node (o129 P) .nil .nil))) (.node (o17 P) (.node (o39 P) (.node (o77 P) .nil .nil) (.node (o118 P) .nil .nil)) (.node (o58 P) (.node (o99 P) .nil .nil) (.node (o137 P) .nil .nil)))) (.node (o3 P) (.node (o13 P) (.node (o32 P) (.node (o73 P) .nil .nil) (.node (o114 P) .nil .nil)) (.node (o54 P) (.node (o92 P) .nil .nil) (.node (o133 P) .nil .nil))) (.node (o24 P) (.node (o43 P) (.node (o84 P) .nil .nil) (.node (o122 P) .nil .nil)) (.node (o62 P) (.node (o103 P) .nil .nil) .nil))))))
noncomputable def S9 (w : World) (os : OsState) : SharedT := ⟨tr9 w.params, 124, ⟨[], [], [], 0, [], [], false, #[], [], 0, false, false, false, 0, [2000, 10, 10], false, 0, true, [], [], 0, false⟩, #[], ⟨0, 0, 0, 0⟩, 335, os⟩
noncomputable def ss8 : List Stmt := (bdQ.drop 9).take 1
noncomputable def o139 (P : Params) : Obj := ⟨(.type "dict"), Option.none, (.dict #[⟨(PyData.keyHash P "__name__"), (.str "__name__" 165), (.str "clearday.best" 383)⟩, ⟨(PyData.keyHash P "__doc__"), (.str "__doc__" 166), .none⟩, ⟨(PyData.keyHash P "__package__"), (.str "__package__" 167), .none⟩, ⟨(PyData.keyHash P "__loader__"), (.str "__loader__" 168), (.builtin "__main__.__loader__#opaque")⟩, ⟨(PyData.keyHash P "__spec__"), (.str "__spec__" 169), .none⟩, ⟨(PyData.keyHash P "__annotations__"), (.str "__annotations__" 170), (.ref 6)⟩, ⟨(PyData.keyHash P "__builtins__"), (.str "__builtins__" 171), (.ref 4)⟩, ⟨(PyData.keyHash P "__file__"), (.str "__file__" 173), (.str "/claim/cut.py" 172)⟩, ⟨(PyData.keyHash P "__cached__"), (.str "__cached__" 174), .none⟩, ⟨(PyData.keyHash P "DebtError"), (.str "DebtError" 206), (.ref 24)⟩, ⟨(PyData.keyHash P "BadCount"), (.str "BadCount" 222), (.ref 37)⟩, ⟨(PyData.keyHash P "BadDebt"), (.str "BadDebt" 238), (.ref 49)⟩, ⟨(PyData.keyHash P "BadCut"), (.str "BadCut" 254), (.ref 61)⟩, ⟨(PyData.keyHash P "Uneven"), (.str "Uneven" 270), (.ref 73)⟩, ⟨(PyData.keyHash P "BadPrices"), (.str "BadPrices" 286), (.ref 85)⟩, ⟨(PyData.keyHash P "NotBest"), (.str "NotBest" 302), (.ref 97)⟩, ⟨(PyData.keyHash P "NoDebt"), (.str "NoDebt" 318), (.ref 109)⟩, ⟨(PyData.keyHash P "NoHouse"), (.str "NoHouse" 334), (.ref 121)⟩, ⟨(PyData.keyHash P "BadAmount"), (.str "BadAmount" 350), (.ref 133)⟩, ⟨(PyData.keyHash P "is_number"), (.str "is_number" 359), (.ref 142)⟩, ⟨(PyData.keyHash P "balances"), (.str "balances" 365), (.ref 147)⟩, ⟨(PyData.keyHash P "need_cut"), (.str "need_cut" 376), (.ref 154)⟩, ⟨(PyData.keyHash P "even"), (.str "even" 382), (.ref 159)⟩, ⟨(PyData.keyHash P "steps"), (.str "steps" 395), (.ref 166)⟩] 24), #[]⟩
noncomputable def o140 (_ : Params) : Obj := ⟨.none, Option.none, (.fields #[(.int 2 0), (.int 0 0), (.ref 20), (.int 4 0), (.int 0 0), (.ref 33), (.int 6 0), (.int 0 0), (.ref 45), (.int 8 0), (.int 0 0), (.ref 57), (.int 10 0), (.int 0 0), (.ref 69), (.int 12 0), (.int 0 0), (.ref 81), (.int 14 0), (.int 0 0), (.ref 93), (.int 16 0), (.int 0 0), (.ref 105), (.int 18 0), (.int 0 0), (.ref 117), (.int 20 0), (.int 0 0), (.ref 129), (.int 23 0), (.int 0 0), (.ref 141), (.int 25 0), (.int 0 0), (.ref 146), (.int 32 0), (.int 0 0), (.ref 153), (.int 38 0), (.int 0 0), (.ref 158), (.int 43 0), (.int 0 0), (.ref 165)]), #[]⟩
noncomputable def o141 (_ : Params) : Obj := ⟨(.type "type"), Option.none, (.cls ⟨"DebtError", [(.type "ValueError")], [(.ref 24), (.type "ValueError"), (.type "Exception"), (.type "BaseException"), (.type "object")], 23, "DebtError", true, [], [(.ref 37), (.ref 49), (.ref 61), (.ref 73), (.ref 85), (.ref 97), (.ref 109), (.ref 121), (.ref 133)], false, Option.none, false⟩), #[(Option.some (.ref 15)), Option.none, (Option.some (.str "DebtError" 189)), (Option.some (.str "DebtError" 197)), (Option.some (.builtin "ValueError.__new__")), (Option.some (.bool true))]⟩
noncomputable def o142 (_ : Params) : Obj := ⟨(.type "tuple"), Option.none, (.seq #[(.ref 24)] 0), #[]⟩
noncomputable def o143 (_ : Params) : Obj := ⟨(.type "builtin_function_or_method"), Option.none, (.fields #[(.builtin "type.__prepare__"), (.type "type")]), #[]⟩
noncomputable def o144 (P : Params) : Obj := ⟨(.type "dict"), Option.none, (.dict #[⟨(PyData.keyHash P "__module__"), (.str "__module__" 342), (.str "clearday.errors" 187)⟩, ⟨(PyData.keyHash P "__qualname__"), (.str "__qualname__" 344), (.str "BadAmount" 343)⟩, ⟨(PyData.keyHash P "__firstlineno__"), (.str "__firstlineno__" 346), (.int 20 345)⟩, ⟨(PyData.keyHash P "__static_attributes__"), (.str "__static_attributes__" 347), (.ref 131)⟩] 4), #[]⟩
noncomputable def o145 (_ : Params) : Obj := ⟨(.type "tuple"), Option.none, (.seq #[] 0), #[]⟩
noncomputable def o146 (_ : Params) : Obj := ⟨.none, Option.none, (.fields #[]), #[]⟩
noncomputable def o147 (_ : Params) : Obj := ⟨(.type "code"), Option.none, (.fields #[(.str "BadAmount" 337), (.str "BadAmount" 338), (.str "/claim/cut.py" 339), (.int 20 0), (.int 0 0), (.int 0 0), (.int 0 0), (.int 0 0), (.ref 127), (.bool false), (.int 181 0), (.ref 128), .none, .none, .none, .none, (.int 340 0), (.int 20 0), (.str "/claim/cut.py" 341)]), #[]⟩
noncomputable def o148 (_ : Params) : Obj := ⟨(.type "frame"), Option.none, .plain, #[(Option.some (.ref 129)), (Option.some (.ref 3)), (Option.some (.ref 126)), Option.none, (Option.some (.str "clearday.errors" 187)), Option.none, (Option.some (.ref 0))]⟩
noncomputable def o149 (_ : Params) : Obj := ⟨(.type "tuple"), Option.none, (.seq #[] 0), #[]⟩
noncomputable def o150 (P : Params) : Obj := ⟨(.type "dict"), Option.none, (.dict #[⟨(PyData.keyHash P "__module__"), (.str "__module__" 342), (.str "clearday.errors" 187)⟩, ⟨(PyData.keyHash P "__firstlineno__"), (.str "__firstlineno__" 346), (.int 20 345)⟩, ⟨(PyData.keyHash P "__static_attributes__"), (.str "__static_attributes__" 347), (.ref 131)⟩, ⟨(PyData.keyHash P "__doc__"), (.str "__doc__" 348), .none⟩] 2), #[]⟩
noncomputable def o151 (_ : Params) : Obj := ⟨(.type "type"), Option.none, (.cls ⟨"BadAmount", [(.ref 24)], [(.ref 133), (.ref 24), (.type "ValueError"), (.type "Exception"), (.type "BaseException"), (.type "object")], 132, "BadAmount", true, [], [], false, Option.none, false⟩), #[(Option.some (.ref 124)), Option.none, (Option.some (.str "BadAmount" 335)), (Option.some (.str "BadAmount" 343)), (Option.some (.builtin "ValueError.__new__")), (Option.some (.bool true))]⟩
noncomputable def o152 (_ : Params) : Obj := ⟨(.type "super"), Option.none, (.fields #[(.ref 133), (.ref 133), (.ref 133)]), #[]⟩
noncomputable def o153 (_ : Params) : Obj := ⟨(.type "builtin_function_or_method"), Option.none, (.fields #[(.builtin "object.__init_subclass__"), (.ref 133)]), #[]⟩
noncomputable def o154 (_ : Params) : Obj := ⟨(.type "tuple"), Option.none, (.seq #[] 0), #[]⟩
noncomputable def o155 (_ : Params) : Obj := ⟨.none, Option.none, (.fields #[]), #[]⟩
noncomputable def o156 (_ : Params) : Obj := ⟨(.type "tuple"), Option.none, (.seq #[(.str "value" 356)] 0), #[]⟩
noncomputable def o157 (_ : Params) : Obj := ⟨(.type "tuple"), Option.none, (.seq #[] 0), #[]⟩
noncomputable def o158 (_ : Params) : Obj := ⟨.none, Option.none, (.func ⟨"is_number", "is_number", (fnA (fnS 12)), (.stmts (fnB (fnS 12))), (fnC (fnS 12)), 0, [], .none, .none, .none, .none, Option.none, .none, .none, 0⟩), #[]⟩
noncomputable def o159 (_ : Params) : Obj := ⟨(.type "code"), Option.none, (.fields #[(.str "is_number" 353), (.str "is_number" 354), (.str "/claim/cut.py" 355), (.int 23 0), (.int 1 0), (.int 0 0), (.int 0 0), (.int 3 0), (.ref 136), (.bool true), (.int 181 0), (.ref 137), .none, (.ref 138), (.ref 139), (.ref 140), (.int 357 0), (.int 23 0), (.str "/claim/cut.py" 358)]), #[]⟩
noncomputable def o160 (_ : Params) : Obj := ⟨(.type "function"), Option.none, (.func ⟨"is_number", "is_number", (fnA (fnS 12)), (.stmts (fnB (fnS 12))), (fnC (fnS 12)), 3, [], .none, .none, .none, (.str "clearday.books" 351), Option.none, (.ref 141), .none, 0⟩), #[]⟩
noncomputable def o161 (_ : Params) : Obj := ⟨(.type "tuple"), Option.none, (.seq #[] 0), #[]⟩
noncomputable def o162 (_ : Params) : Obj := ⟨.none, Option.none, (.fields #[]), #[]⟩
noncomputable def o163 (_ : Params) : Obj := ⟨.none, Option.none, (.func ⟨"balances", "balances", (fnA (fnS 13)), (.stmts (fnB (fnS 13))), (fnC (fnS 13)), 0, [], .none, .none, .none, .none, Option.none, .none, .none, 0⟩), #[]⟩
noncomputable def o164 (_ : Params) : Obj := ⟨(.type "code"), Option.none, (.fields #[(.str "balances" 360), (.str "balances" 361), (.str "/claim/cut.py" 362), (.int 25 0), (.int 2 0), (.int 0 0), (.int 0 0), (.int 3 0), (.ref 143), (.bool true), (.int 181 0), (.ref 144), .none, .none, .none, (.ref 145), (.int 363 0), (.int 25 0), (.str "/claim/cut.py" 364)]), #[]⟩
noncomputable def o165 (_ : Params) : Obj := ⟨(.type "function"), Option.none, (.func ⟨"balances", "balances", (fnA (fnS 13)), (.stmts (fnB (fnS 13))), (fnC (fnS 13)), 3, [], .none, .none, .none, (.str "clearday.books" 351), Option.none, (.ref 146), .none, 0⟩), #[]⟩
noncomputable def o166 (_ : Params) : Obj := ⟨(.type "tuple"), Option.none, (.seq #[] 0), #[]⟩
noncomputable def o167 (_ : Params) : Obj := ⟨.none, Option.none, (.fields #[]), #[]⟩
noncomputable def o168 (_ : Params) : Obj := ⟨(.type "tuple"), Option.none, (.seq #[(.str "debts" 371), (.str "cut" 372), (.str "number" 373)] 0), #[]⟩
noncomputable def o169 (_ : Params) : Obj := ⟨(.type "tuple"), Option.none, (.seq #[] 0), #[]⟩
noncomputable def o170 (_ : Params) : Obj := ⟨.none, Option.none, (.func ⟨"need_cut", "need_cut", (fnA (fnS 15)), (.stmts (fnB (fnS 15))), (fnC (fnS 15)), 0, [], .none, .none, .none, .none, Option.none, .none, .none, 0⟩), #[]⟩
noncomputable def o171 (_ : Params) : Obj := ⟨(.type "code"), Option.none, (.fields #[(.str "need_cut" 368), (.str "need_cut" 369), (.str "/claim/cut.py" 370), (.int 32 0), (.int 2 0), (.int 0 0), (.int 0 0), (.int 3 0), (.ref 148), (.bool true), (.int 181 0), (.ref 149), .none, (.ref 150), (.ref 151), (.ref 152), (.int 374 0), (.int 32 0), (.str "/claim/cut.py" 375)]), #[]⟩
noncomputable def o172 (_ : Params) : Obj := ⟨(.type "function"), Option.none, (.func ⟨"need_cut", "need_cut", (fnA (fnS 15)), (.stmts (fnB (fnS 15))), (fnC (fnS 15)), 3, [], .none, .none, .none, (.str "clearday.cuts" 366), Option.none, (.ref 153), .none, 0⟩), #[]⟩
noncomputable def o173 (_ : Params) : Obj := ⟨(.type "tuple"), Option.none, (.seq #[] 0), #[]⟩
noncomputable def o174 (_ : Params) : Obj := ⟨.none, Option.none, (.fields #[]), #[]⟩
noncomputable def o175 (_ : Params) : Obj := ⟨.none, Option.none, (.func ⟨"even", "even", (fnA (fnS 16)), (.stmts (fnB (fnS 16))), (fnC (fnS 16)), 0, [], .none, .none, .none, .none, Option.none, .none, .none, 0⟩), #[]⟩
noncomputable def o176 (_ : Params) : Obj := ⟨(.type "code"), Option.none, (.fields #[(.str "even" 377), (.str "even" 378), (.str "/claim/cut.py" 379), (.int 38 0), (.int 3 0), (.int 0 0), (.int 0 0), (.int 3 0), (.ref 155), (.bool true), (.int 181 0), (.ref 156), .none, .none, .none, (.ref 157), (.int 380 0), (.int 38 0), (.str "/claim/cut.py" 381)]), #[]⟩
noncomputable def o177 (_ : Params) : Obj := ⟨(.type "function"), Option.none, (.func ⟨"even", "even", (fnA (fnS 16)), (.stmts (fnB (fnS 16))), (fnC (fnS 16)), 3, [], .none, .none, .none, (.str "clearday.cuts" 366), Option.none, (.ref 158), .none, 0⟩), #[]⟩
noncomputable def o178 (_ : Params) : Obj := ⟨(.type "tuple"), Option.none, (.seq #[] 0), #[]⟩
noncomputable def o179 (_ : Params) : Obj := ⟨.none, Option.none, (.fields #[]), #[]⟩
noncomputable def o180 (_ : Params) : Obj := ⟨(.type "tuple"), Option.none, (.seq #[(.str "debts" 388), (.str "cut" 389), (.str "found" 390), (.str "number" 391), (.str "debt" 392)] 0), #[]⟩
noncomputable def o181 (_ : Params) : Obj := ⟨(.type "tuple"), Option.none, (.seq #[] 0), #[]⟩
noncomputable def o182 (_ : Params) : Obj := ⟨.none, Option.none, (.func ⟨"steps", "steps", (fnA (fnS 18)), (.stmts (fnB (fnS 18))), (fnC (fnS 18)), 0, [], .none, .none, .none, .none, Option.none, .none, .none, 0⟩), #[]⟩
noncomputable def o183 (_ : Params) : Obj := ⟨(.type "code"), Option.none, (.fields #[(.str "steps" 385), (.str "steps" 386), (.str "/claim/cut.py" 387), (.int 43 0), (.int 2 0), (.int 0 0), (.int 0 0), (.int 3 0), (.ref 160), (.bool true), (.int 181 0), (.ref 161), .none, (.ref 162), (.ref 163), (.ref 164), (.int 393 0), (.int 43 0), (.str "/claim/cut.py" 394)]), #[]⟩
noncomputable def o184 (_ : Params) : Obj := ⟨(.type "function"), Option.none, (.func ⟨"steps", "steps", (fnA (fnS 18)), (.stmts (fnB (fnS 18))), (fnC (fnS 18)), 3, [], .none, .none, .none, (.str "clearday.best" 383), Option.none, (.ref 165), .none, 0⟩), #[]⟩
noncomputable def tr10 (P : Params) : BT := (.node (boot_o_0 P) (.node (boot_o_1 P) (.node (o139 P) (.node (boot_o_7 P) (.node (o6 P) (.node (o25 P) (.node (o63 P) (.node (o145 P) .nil .nil) .nil) (.node (o104 P) (.node (o177 P) .nil .nil) .nil)) (.node (o44 P) (.node (o85 P) (.node (o161 P) .nil .nil) .nil) (.node (o123 P) .nil .nil))) (.node (o14 P) (.node (o33 P) (.node (o74 P) (.node (o153 P) .nil .nil) .nil) (.node (o115 P) .nil .nil)) (.node (o55 P) (.node (o93 P) (.node (o169 P) .nil .nil) .nil) (.node (o134 P) .nil .nil)))) (.node (o0 P) (.node (o10 P) (.node (o29 P) (.node (o70 P) (.node (o149 P) .nil .nil) .nil) (.node (o108 P) (.node (o181 P) .nil .nil) .nil)) (.node (o48 P) (.node (o89 P) (.node (o165 P) .nil .nil) .nil) (.node (o130 P) .nil .nil))) (.node (o18 P) (.node (o40 P) (.node (o78 P) (.node (o157 P) .nil .nil) .nil) (.node (o119 P) .nil .nil)) (.node (o59 P) (.node (o100 P) (.node (o173 P) .nil .nil) .nil) (.node (o138 P) .nil .nil))))) (.node (boot_o_5 P) (.node (boot_o_9 P) (.node (o8 P) (.node (o27 P) (.node (o68 P) (.node (o147 P) .nil .nil) .nil) (.node (o106 P) (.node (o179 P) .nil .nil) .nil)) (.node (o46 P) (.node (o87 P) (.node (o163 P) .nil .nil) .nil) (.node (o128 P) .nil .nil))) (.node (o16 P) (.node (o38 P) (.node (o76 P) (.node (o155 P) .nil .nil) .nil) (.node (o117 P) .nil .nil)) (.node (o57 P) (.node (o98 P) (.node (o171 P) .nil .nil) .nil) (.node (o136 P) .nil .nil)))) (.node (o2 P) (.node (o12 P) (.node (o31 P) (.node (o72 P) (.node (o151 P) .nil .nil) .nil) (.node (o113 P) (.node (o183 P) .nil .nil) .nil)) (.node (o53 P) (.node (o91 P) (.node (o167 P) .nil .nil) .nil) (.node (o132 P) .nil .nil))) (.node (o23 P) (.node (o42 P) (.node (o83 P) (.node (o159 P) .nil .nil) .nil) (.node (o121 P) .nil .nil)) (.node (o61 P) (.node (o102 P) (.node (o175 P) .nil .nil) .nil) (.node (o143 P) .nil .nil)))))) (.node (boot_o_2 P) (.node (boot_o_4 P) (.node (boot_o_8 P) (.node (o7 P) (.node (o26 P) (.node (o67 P) (.node (o146 P) .nil .nil) .nil) (.node (o105 P) (.node (o178 P) .nil .nil) .nil)) (.node (o45 P) (.node (o86 P) (.node (o162 P) .nil .nil) .nil) (.node (o127 P) .nil .nil))) (.node (o141 P) (.node (o37 P) (.node (o75 P) (.node (o154 P) .nil .nil) .nil) (.node (o116 P) .nil .nil)) (.node (o56 P) (.node (o97 P) (.node (o170 P) .nil .nil) .nil) (.node (o135 P) .nil .nil)))) (.node (o140 P) (.node (o11 P) (.node (o30 P) (.node (o71 P) (.node (o150 P) .nil .nil) .nil) (.node (o112 P) (.node (o182 P) .nil .nil) .nil)) (.node (o52 P) (.node (o90 P) (.node (o166 P) .nil .nil) .nil) (.node (o131 P) .nil .nil))) (.node (o22 P) (.node (o41 P) (.node (o82 P) (.node (o158 P) .nil .nil) .nil) (.node (o120 P) .nil .nil)) (.node (o60 P) (.node (o101 P) (.node (o174 P) .nil .nil) .nil) (.node (o142 P) .nil .nil))))) (.node (boot_o_6 P) (.node (boot_o_10 P) (.node (o9 P) (.node (o28 P) (.node (o69 P) (.node (o148 P) .nil .nil) .nil) (.node (o107 P) (.node (o180 P) .nil .nil) .nil)) (.node (o47 P) (.node (o88 P) (.node (o164 P) .nil .nil) .nil) (.node (o129 P) .nil .nil))) (.node (o17 P) (.node (o39 P) (.node (o77 P) (.node (o156 P) .nil .nil) .nil) (.node (o118 P) .nil .nil)) (.node (o58 P) (.node (o99 P) (.node (o172 P) .nil .nil) .nil) (.node (o137 P) .nil .nil)))) (.node (o3 P) (.node (o13 P) (.node (o32 P) (.node (o73 P) (.node (o152 P) .nil .nil) .nil) (.node (o114 P) (.node (o184 P) .nil .nil) .nil)) (.node (o54 P) (.node (o92 P) (.node (o168 P) .nil .nil) .nil) (.node (o133 P) .nil .nil))) (.node (o24 P) (.node (o43 P) (.node (o84 P) (.node (o160 P) .nil .nil) .nil) (.node (o122 P) .nil .nil)) (.node (o62 P) (.node (o103 P) (.node (o176 P) .nil .nil) .nil) (.node (o144 P) .nil .nil)))))))
noncomputable def S10 (w : World) (os : OsState) : SharedT := ⟨tr10 w.params, 167, ⟨[], [], [], 0, [], [], false, #[], [], 0, false, false, false, 0, [2000, 10, 10], false, 0, true, [], [], 0, false⟩, #[], ⟨0, 0, 0, 0⟩, 396, os⟩
noncomputable def ss9 : List Stmt := (bdQ.drop 10).take 9
noncomputable def o185 (P : Params) : Obj := ⟨(.type "dict"), Option.none, (.dict #[⟨(PyData.keyHash P "__name__"), (.str "__name__" 165), (.str "law_uf030027_07" 448)⟩, ⟨(PyData.keyHash P "__doc__"), (.str "__doc__" 166), .none⟩, ⟨(PyData.keyHash P "__package__"), (.str "__package__" 167), .none⟩, ⟨(PyData.keyHash P "__loader__"), (.str "__loader__" 168), (.builtin "__main__.__loader__#opaque")⟩, ⟨(PyData.keyHash P "__spec__"), (.str "__spec__" 169), .none⟩, ⟨(PyData.keyHash P "__annotations__"), (.str "__annotations__" 170), (.ref 6)⟩, ⟨(PyData.keyHash P "__builtins__"), (.str "__builtins__" 171), (.ref 4)⟩, ⟨(PyData.keyHash P "__file__"), (.str "__file__" 173), (.str "/claim/cut.py" 172)⟩, ⟨(PyData.keyHash P "__cached__"), (.str "__cached__" 174), .none⟩, ⟨(PyData.keyHash P "DebtError"), (.str "DebtError" 206), (.ref 24)⟩, ⟨(PyData.keyHash P "BadCount"), (.str "BadCount" 222), (.ref 37)⟩, ⟨(PyData.keyHash P "BadDebt"), (.str "BadDebt" 238), (.ref 49)⟩, ⟨(PyData.keyHash P "BadCut"), (.str "BadCut" 254), (.ref 61)⟩, ⟨(PyData.keyHash P "Uneven"), (.str "Uneven" 270), (.ref 73)⟩, ⟨(PyData.keyHash P "BadPrices"), (.str "BadPrices" 286), (.ref 85)⟩, ⟨(PyData.keyHash P "NotBest"), (.str "NotBest" 302), (.ref 97)⟩, ⟨(PyData.keyHash P "NoDebt"), (.str "NoDebt" 318), (.ref 109)⟩, ⟨(PyData.keyHash P "NoHouse"), (.str "NoHouse" 334), (.ref 121)⟩, ⟨(PyData.keyHash P "BadAmount"), (.str "BadAmount" 350), (.ref 133)⟩, ⟨(PyData.keyHash P "is_number"), (.str "is_number" 359), (.ref 142)⟩, ⟨(PyData.keyHash P "balances"), (.str "balances" 365), (.ref 147)⟩, ⟨(PyData.keyHash P "need_cut"), (.str "need_cut" 376), (.ref 154)⟩, ⟨(PyData.keyHash P "even"), (.str "even" 382), (.ref 159)⟩, ⟨(PyData.keyHash P "steps"), (.str "steps" 395), (.ref 166)⟩, ⟨(PyData.keyHash P "cheapest"), (.str "cheapest" 401), (.ref 171)⟩, ⟨(PyData.keyHash P "row_to"), (.str "row_to" 410), (.ref 178)⟩, ⟨(PyData.keyHash P "surplus"), (.str "surplus" 416), (.ref 183)⟩, ⟨(PyData.keyHash P "best"), (.str "best" 422), (.ref 188)⟩, ⟨(PyData.keyHash P "need_even"), (.str "need_even" 431), (.ref 195)⟩, ⟨(PyData.keyHash P "better"), (.str "better" 441), (.ref 202)⟩, ⟨(PyData.keyHash P "prices"), (.str "prices" 447), (.ref 207)⟩, ⟨(PyData.keyHash P "_law_cell_at"), (.str "_law_cell_at" 457), (.ref 214)⟩, ⟨(PyData.keyHash P "_law_whole"), (.str "_law_whole" 464), (.ref 221)⟩, ⟨(PyData.keyHash P "_law_debt"), (.str "_law_debt" 478), (.ref 228)⟩, ⟨(PyData.keyHash P "_law_count"), (.str "_law_count" 486), (.ref 235)⟩, ⟨(PyData.keyHash P "_law_debts"), (.str "_law_debts" 492), (.ref 240)⟩, ⟨(PyData.keyHash P "_law_balances"), (.str "_law_balances" 498), (.ref 245)⟩] 37), #[]⟩
noncomputable def o186 (_ : Params) : Obj := ⟨.none, Option.none, (.fields #[(.int 2 0), (.int 0 0), (.ref 20), (.int 4 0), (.int 0 0), (.ref 33), (.int 6 0), (.int 0 0), (.ref 45), (.int 8 0), (.int 0 0), (.ref 57), (.int 10 0), (.int 0 0), (.ref 69), (.int 12 0), (.int 0 0), (.ref 81), (.int 14 0), (.int 0 0), (.ref 93), (.int 16 0), (.int 0 0), (.ref 105), (.int 18 0), (.int 0 0), (.ref 117), (.int 20 0), (.int 0 0), (.ref 129), (.int 23 0), (.int 0 0), (.ref 141), (.int 25 0), (.int 0 0), (.ref 146), (.int 32 0), (.int 0 0), (.ref 153), (.int 38 0), (.int 0 0), (.ref 158), (.int 43 0), (.int 0 0), (.ref 165), (.int 52 0), (.int 0 0), (.ref 170), (.int 68 0), (.int 0 0), (.ref 177), (.int 74 0), (.int 0 0), (.ref 182), (.int 76 0), (.int 0 0), (.ref 187), (.int 90 0), (.int 0 0), (.ref 194), (.int 93 0), (.int 0 0), (.ref 201), (.int 99 0), (.int 0 0), (.ref 206), (.int 112 0), (.int 0 0), (.ref 213), (.int 116 0), (.int 0 0), (.ref 220), (.int 118 0), (.int 0 0), (.ref 227), (.int 131 0), (.int 0 0), (.ref 234), (.int 138 0), (.int 0 0), (.ref 239), (.int 152 0), (.int 0 0), (.ref 244)]), #[]⟩
noncomputable def o187 (_ : Params) : Obj := ⟨(.type "tuple"), Option.none, (.seq #[] 0), #[]⟩
noncomputable def o188 (_ : Params) : Obj := ⟨.none, Option.none, (.fields #[]), #[]⟩
noncomputable def o189 (_ : Params) : Obj := ⟨.none, Option.none, (.func ⟨"cheapest", "cheapest", (fnA (fnS 19)), (.stmts (fnB (fnS 19))), (fnC (fnS 19)), 0, [], .none, .none, .none, .none, Option.none, .none, .none, 0⟩), #[]⟩
noncomputable def o190 (_ : Params) : Obj := ⟨(.type "code"), Option.none, (.fields #[(.str "cheapest" 396), (.str "cheapest" 397), (.str "/claim/cut.py" 398), (.int 52 0), (.int 3 0), (.int 0 0), (.int 0 0), (.int 3 0), (.ref 167), (.bool true), (.int 181 0), (.ref 168), .none, .none, .none, (.ref 169), (.int 399 0), (.int 52 0), (.str "/claim/cut.py" 400)]), #[]⟩
noncomputable def o191 (_ : Params) : Obj := ⟨(.type "function"), Option.none, (.func ⟨"cheapest", "cheapest", (fnA (fnS 19)), (.stmts (fnB (fnS 19))), (fnC (fnS 19)), 3, [], .none, .none, .none, (.str "clearday.best" 383), Option.none, (.ref 170), .none, 0⟩), #[]⟩
noncomputable def o192 (_ : Params) : Obj := ⟨(.type "tuple"), Option.none, (.seq #[] 0), #[]⟩
noncomputable def o193 (_ : Params) : Obj := ⟨.none, Option.none, (.fields #[]), #[]⟩
noncomputable def o194 (_ : Params) : Obj := ⟨(.type "tuple"), Option.none, (.seq #[(.str "last" 405), (.str "house" 406), (.str "row" 407)] 0), #[]⟩
noncomputable def o195 (_ : Params) : Obj := ⟨(.type "tuple"), Option.none, (.seq #[] 0), #[]⟩
noncomputable def o196 (_ : Params) : Obj := ⟨.none, Option.none, (.func ⟨"row_to", "row_to", (fnA (fnS 20)), (.stmts (fnB (fnS 20))), (fnC (fnS 20)), 0, [], .none, .none, .none, .none, Option.none, .none, .none, 0⟩), #[]⟩
noncomputable def o197 (_ : Params) : Obj := ⟨(.type "code"), Option.none, (.fields #[(.str "row_to" 402), (.str "row_to" 403), (.str "/claim/cut.py" 404), (.int 68 0), (.int 2 0), (.int 0 0), (.int 0 0), (.int 3 0), (.ref 172), (.bool true), (.int 181 0), (.ref 173), .none, (.ref 174), (.ref 175), (.ref 176), (.int 408 0), (.int 68 0), (.str "/claim/cut.py" 409)]), #[]⟩
noncomputable def o198 (_ : Params) : Obj := ⟨(.type "function"), Option.none, (.func ⟨"row_to", "row_to", (fnA (fnS 20)), (.stmts (fnB (fnS 20))), (fnC (fnS 20)), 3, [], .none, .none, .none, (.str "clearday.best" 383), Option.none, (.ref 177), .none, 0⟩), #[]⟩
noncomputable def o199 (_ : Params) : Obj := ⟨(.type "tuple"), Option.none, (.seq #[] 0), #[]⟩
noncomputable def o200 (_ : Params) : Obj := ⟨.none, Option.none, (.fields #[]), #[]⟩
noncomputable def o201 (_ : Params) : Obj := ⟨.none, Option.none, (.func ⟨"surplus", "surplus", (fnA (fnS 21)), (.stmts (fnB (fnS 21))), (fnC (fnS 21)), 0, [], .none, .none, .none, .none, Option.none, .none, .none, 0⟩), #[]⟩
noncomputable def o202 (_ : Params) : Obj := ⟨(.type "code"), Option.none, (.fields #[(.str "surplus" 411), (.str "surplus" 412), (.str "/claim/cut.py" 413), (.int 74 0), (.int 3 0), (.int 0 0), (.int 0 0), (.int 3 0), (.ref 179), (.bool true), (.int 181 0), (.ref 180), .none, .none, .none, (.ref 181), (.int 414 0), (.int 74 0), (.str "/claim/cut.py" 415)]), #[]⟩
noncomputable def o203 (_ : Params) : Obj := ⟨(.type "function"), Option.none, (.func ⟨"surplus", "surplus", (fnA (fnS 21)), (.stmts (fnB (fnS 21))), (fnC (fnS 21)), 3, [], .none, .none, .none, (.str "clearday.best" 383), Option.none, (.ref 182), .none, 0⟩), #[]⟩
noncomputable def o204 (_ : Params) : Obj := ⟨(.type "tuple"), Option.none, (.seq #[] 0), #[]⟩
noncomputable def o205 (_ : Params) : Obj := ⟨.none, Option.none, (.fields #[]), #[]⟩
noncomputable def o206 (_ : Params) : Obj := ⟨.none, Option.none, (.func ⟨"best", "best", (fnA (fnS 22)), (.stmts (fnB (fnS 22))), (fnC (fnS 22)), 0, [], .none, .none, .none, .none, Option.none, .none, .none, 0⟩), #[]⟩
noncomputable def o207 (_ : Params) : Obj := ⟨(.type "code"), Option.none, (.fields #[(.str "best" 417), (.str "best" 418), (.str "/claim/cut.py" 419), (.int 76 0), (.int 2 0), (.int 0 0), (.int 0 0), (.int 3 0), (.ref 184), (.bool true), (.int 181 0), (.ref 185), .none, .none, .none, (.ref 186), (.int 420 0), (.int 76 0), (.str "/claim/cut.py" 421)]), #[]⟩
noncomputable def o208 (_ : Params) : Obj := ⟨(.type "function"), Option.none, (.func ⟨"best", "best", (fnA (fnS 22)), (.stmts (fnB (fnS 22))), (fnC (fnS 22)), 3, [], .none, .none, .none, (.str "clearday.best" 383), Option.none, (.ref 187), .none, 0⟩), #[]⟩
noncomputable def o209 (_ : Params) : Obj := ⟨(.type "tuple"), Option.none, (.seq #[] 0), #[]⟩
noncomputable def o210 (_ : Params) : Obj := ⟨.none, Option.none, (.fields #[]), #[]⟩
noncomputable def o211 (_ : Params) : Obj := ⟨(.type "tuple"), Option.none, (.seq #[(.str "count" 426), (.str "debts" 427), (.str "cut" 428)] 0), #[]⟩
noncomputable def o212 (_ : Params) : Obj := ⟨(.type "tuple"), Option.none, (.seq #[] 0), #[]⟩
noncomputable def o213 (_ : Params) : Obj := ⟨.none, Option.none, (.func ⟨"need_even", "need_even", (fnA (fnS 23)), (.stmts (fnB (fnS 23))), (fnC (fnS 23)), 0, [], .none, .none, .none, .none, Option.none, .none, .none, 0⟩), #[]⟩
noncomputable def o214 (_ : Params) : Obj := ⟨(.type "code"), Option.none, (.fields #[(.str "need_even" 423), (.str "need_even" 424), (.str "/claim/cut.py" 425), (.int 90 0), (.int 3 0), (.int 0 0), (.int 0 0), (.int 3 0), (.ref 189), (.bool true), (.int 181 0), (.ref 190), .none, (.ref 191), (.ref 192), (.ref 193), (.int 429 0), (.int 90 0), (.str "/claim/cut.py" 430)]), #[]⟩
noncomputable def o215 (_ : Params) : Obj := ⟨(.type "function"), Option.none, (.func ⟨"need_even", "need_even", (fnA (fnS 23)), (.stmts (fnB (fnS 23))), (fnC (fnS 23)), 3, [], .none, .none, .none, (.str "clearday.best" 383), Option.none, (.ref 194), .none, 0⟩), #[]⟩
noncomputable def o216 (_ : Params) : Obj := ⟨(.type "tuple"), Option.none, (.seq #[] 0), #[]⟩
noncomputable def o217 (_ : Params) : Obj := ⟨.none, Option.none, (.fields #[]), #[]⟩
noncomputable def o218 (_ : Params) : Obj := ⟨(.type "tuple"), Option.none, (.seq #[(.str "count" 435), (.str "debts" 436), (.str "cut" 437), (.str "found" 438)] 0), #[]⟩
noncomputable def o219 (_ : Params) : Obj := ⟨(.type "tuple"), Option.none, (.seq #[] 0), #[]⟩
noncomputable def o220 (_ : Params) : Obj := ⟨.none, Option.none, (.func ⟨"better", "better", (fnA (fnS 24)), (.stmts (fnB (fnS 24))), (fnC (fnS 24)), 0, [], .none, .none, .none, .none, Option.none, .none, .none, 0⟩), #[]⟩
noncomputable def o221 (_ : Params) : Obj := ⟨(.type "code"), Option.none, (.fields #[(.str "better" 432), (.str "better" 433), (.str "/claim/cut.py" 434), (.int 93 0), (.int 3 0), (.int 0 0), (.int 0 0), (.int 3 0), (.ref 196), (.bool true), (.int 181 0), (.ref 197), .none, (.ref 198), (.ref 199), (.ref 200), (.int 439 0), (.int 93 0), (.str "/claim/cut.py" 440)]), #[]⟩
noncomputable def o222 (_ : Params) : Obj := ⟨(.type "function"), Option.none, (.func ⟨"better", "better", (fnA (fnS 24)), (.stmts (fnB (fnS 24))), (fnC (fnS 24)), 3, [], .none, .none, .none, (.str "clearday.best" 383), Option.none, (.ref 201), .none, 0⟩), #[]⟩
noncomputable def o223 (_ : Params) : Obj := ⟨(.type "tuple"), Option.none, (.seq #[] 0), #[]⟩
noncomputable def o224 (_ : Params) : Obj := ⟨.none, Option.none, (.fields #[]), #[]⟩
noncomputable def o225 (_ : Params) : Obj := ⟨.none, Option.none, (.func ⟨"prices", "prices", (fnA (fnS 25)), (.stmts (fnB (fnS 25))), (fnC (fnS 25)), 0, [], .none, .none, .none, .none, Option.none, .none, .none, 0⟩), #[]⟩
noncomputable def o226 (_ : Params) : Obj := ⟨(.type "code"), Option.none, (.fields #[(.str "prices" 442), (.str "prices" 443), (.str "/claim/cut.py" 444), (.int 99 0), (.int 3 0), (.int 0 0), (.int 0 0), (.int 3 0), (.ref 203), (.bool true), (.int 181 0), (.ref 204), .none, .none, .none, (.ref 205), (.int 445 0), (.int 99 0), (.str "/claim/cut.py" 446)]), #[]⟩
noncomputable def o227 (_ : Params) : Obj := ⟨(.type "function"), Option.none, (.func ⟨"prices", "prices", (fnA (fnS 25)), (.stmts (fnB (fnS 25))), (fnC (fnS 25)), 3, [], .none, .none, .none, (.str "clearday.best" 383), Option.none, (.ref 206), .none, 0⟩), #[]⟩
noncomputable def o228 (_ : Params) : Obj := ⟨(.type "tuple"), Option.none, (.seq #[] 0), #[]⟩
noncomputable def o229 (_ : Params) : Obj := ⟨.none, Option.none, (.fields #[]), #[]⟩
noncomputable def o230 (_ : Params) : Obj := ⟨(.type "tuple"), Option.none, (.seq #[(.str "_law_script" 453), (.str "_law_k" 454)] 0), #[]⟩
noncomputable def o231 (_ : Params) : Obj := ⟨(.type "tuple"), Option.none, (.seq #[] 0), #[]⟩
noncomputable def o232 (_ : Params) : Obj := ⟨.none, Option.none, (.func ⟨"_law_cell_at", "_law_cell_at", (fnA (fnS 27)), (.stmts (fnB (fnS 27))), (fnC (fnS 27)), 0, [], .none, .none, .none, .none, Option.none, .none, .none, 0⟩), #[]⟩
noncomputable def o233 (_ : Params) : Obj := ⟨(.type "code"), Option.none, (.fields #[(.str "_law_cell_at" 450), (.str "_law_cell_at" 451), (.str "/claim/cut.py" 452), (.int 112 0), (.int 2 0), (.int 0 0), (.int 0 0), (.int 3 0), (.ref 208), (.bool true), (.int 181 0), (.ref 209), .none, (.ref 210), (.ref 211), (.ref 212), (.int 455 0), (.int 112 0), (.str "/claim/cut.py" 456)]), #[]⟩
noncomputable def o234 (_ : Params) : Obj := ⟨(.type "function"), Option.none, (.func ⟨"_law_cell_at", "_law_cell_at", (fnA (fnS 27)), (.stmts (fnB (fnS 27))), (fnC (fnS 27)), 3, [], .none, .none, .none, (.str "law_uf030027_07" 448), Option.none, (.ref 213), .none, 0⟩), #[]⟩
noncomputable def o235 (_ : Params) : Obj := ⟨(.type "tuple"), Option.none, (.seq #[] 0), #[]⟩
noncomputable def o236 (_ : Params) : Obj := ⟨.none, Option.none, (.fields #[]), #[]⟩
noncomputable def o237 (_ : Params) : Obj := ⟨(.type "tuple"), Option.none, (.seq #[(.str "_law_found" 461)] 0), #[]⟩
noncomputable def o238 (_ : Params) : Obj := ⟨(.type "tuple"), Option.none, (.seq #[] 0), #[]⟩
noncomputable def o239 (_ : Params) : Obj := ⟨.none, Option.none, (.func ⟨"_law_whole", "_law_whole", (fnA (fnS 28)), (.stmts (fnB (fnS 28))), (fnC (fnS 28)), 0, [], .none, .none, .none, .none, Option.none, .none, .none, 0⟩), #[]⟩
noncomputable def o240 (_ : Params) : Obj := ⟨(.type "code"), Option.none, (.fields #[(.str "_law_whole" 458), (.str "_law_whole" 459), (.str "/claim/cut.py" 460), (.int 116 0), (.int 1 0), (.int 0 0), (.int 0 0), (.int 3 0), (.ref 215), (.bool true), (.int 181 0), (.ref 216), .none, (.ref 217), (.ref 218), (.ref 219), (.int 462 0), (.int 116 0), (.str "/claim/cut.py" 463)]), #[]⟩
noncomputable def o241 (_ : Params) : Obj := ⟨(.type "function"), Option.none, (.func ⟨"_law_whole", "_law_whole", (fnA (fnS 28)), (.stmts (fnB (fnS 28))), (fnC (fnS 28)), 3, [], .none, .none, .none, (.str "law_uf030027_07" 448), Option.none, (.ref 220), .none, 0⟩), #[]⟩
noncomputable def o242 (_ : Params) : Obj := ⟨(.type "tuple"), Option.none, (.seq #[] 0), #[]⟩
noncomputable def o243 (_ : Params) : Obj := ⟨.none, Option.none, (.fields #[]), #[]⟩
noncomputable def o244 (_ : Params) : Obj := ⟨(.type "tuple"), Option.none, (.seq #[(.str "_law_cell" 468), (.str "_law_k" 469), (.str "_law_count_here" 470), (.str "_law_mixed" 471), (.str "_law_debtor" 472), (.str "_law_creditor" 473), (.str "_law_kind_here" 474), (.str "_law_amount" 475)] 0), #[]⟩
noncomputable def o245 (_ : Params) : Obj := ⟨(.type "tuple"), Option.none, (.seq #[] 0), #[]⟩
noncomputable def o246 (_ : Params) : Obj := ⟨.none, Option.none, (.func ⟨"_law_debt", "_law_debt", (fnA (fnS 29)), (.stmts (fnB (fnS 29))), (fnC (fnS 29)), 0, [], .none, .none, .none, .none, Option.none, .none, .none, 0⟩), #[]⟩
noncomputable def o247 (_ : Params) : Obj := ⟨(.type "code"), Option.none, (.fields #[(.str "_law_debt" 465), (.str "_law_debt" 466), (.str "/claim/cut.py" 467), (.int 118 0), (.int 3 0), (.int 0 0), (.int 0 0), (.int 3 0), (.ref 222), (.bool true), (.int 181 0), (.ref 223), .none, (.ref 224), (.ref 225), (.ref 226), (.int 476 0), (.int 118 0), (.str "/claim/cut.py" 477)]), #[]⟩
noncomputable def o248 (_ : Params) : Obj := ⟨(.type "function"), Option.none, (.func ⟨"_law_debt", "_law_debt", (fnA (fnS 29)), (.stmts (fnB (fnS 29))), (fnC (fnS 29)), 3, [], .none, .none, .none, (.str "law_uf030027_07" 448), Option.none, (.ref 227), .none, 0⟩), #[]⟩
noncomputable def o249 (_ : Params) : Obj := ⟨(.type "tuple"), Option.none, (.seq #[] 0), #[]⟩
noncomputable def o250 (_ : Params) : Obj := ⟨.none, Option.none, (.fields #[]), #[]⟩
noncomputable def o251 (_ : Params) : Obj := ⟨(.type "tuple"), Option.none, (.seq #[(.str "_law_script" 482), (.str "_law_cell" 483)] 0), #[]⟩
noncomputable def o252 (_ : Params) : Obj := ⟨(.type "tuple"), Option.none, (.seq #[] 0), #[]⟩
noncomputable def o253 (_ : Params) : Obj := ⟨.none, Option.none, (.func ⟨"_law_count", "_law_count", (fnA (fnS 30)), (.stmts (fnB (fnS 30))), (fnC (fnS 30)), 0, [], .none, .none, .none, .none, Option.none, .none, .none, 0⟩), #[]⟩
noncomputable def o254 (_ : Params) : Obj := ⟨(.type "code"), Option.none, (.fields #[(.str "_law_count" 479), (.str "_law_count" 480), (.str "/claim/cut.py" 481), (.int 131 0), (.int 1 0), (.int 0 0), (.int 0 0), (.int 3 0), (.ref 229), (.bool true), (.int 181 0), (.ref 230), .none, (.ref 231), (.ref 232), (.ref 233), (.int 484 0), (.int 131 0), (.str "/claim/cut.py" 485)]), #[]⟩
noncomputable def o255 (_ : Params) : Obj := ⟨(.type "function"), Option.none, (.func ⟨"_law_count", "_law_count", (fnA (fnS 30)), (.stmts (fnB (fnS 30))), (fnC (fnS 30)), 3, [], .none, .none, .none, (.str "law_uf030027_07" 448), Option.none, (.ref 234), .none, 0⟩), #[]⟩
noncomputable def o256 (_ : Params) : Obj := ⟨(.type "tuple"), Option.none, (.seq #[] 0), #[]⟩
noncomputable def o257 (_ : Params) : Obj := ⟨.none, Option.none, (.fields #[]), #[]⟩
noncomputable def o258 (_ : Params) : Obj := ⟨.none, Option.none, (.func ⟨"_law_debts", "_law_debts", (fnA (fnS 31)), (.stmts (fnB (fnS 31))), (fnC (fnS 31)), 0, [], .none, .none, .none, .none, Option.none, .none, .none, 0⟩), #[]⟩
noncomputable def o259 (_ : Params) : Obj := ⟨(.type "code"), Option.none, (.fields #[(.str "_law_debts" 487), (.str "_law_debts" 488), (.str "/claim/cut.py" 489), (.int 138 0), (.int 3 0), (.int 0 0), (.int 0 0), (.int 3 0), (.ref 236), (.bool true), (.int 181 0), (.ref 237), .none, .none, .none, (.ref 238), (.int 490 0), (.int 138 0), (.str "/claim/cut.py" 491)]), #[]⟩
noncomputable def o260 (_ : Params) : Obj := ⟨(.type "function"), Option.none, (.func ⟨"_law_debts", "_law_debts", (fnA (fnS 31)), (.stmts (fnB (fnS 31))), (fnC (fnS 31)), 3, [], .none, .none, .none, (.str "law_uf030027_07" 448), Option.none, (.ref 239), .none, 0⟩), #[]⟩
noncomputable def o261 (_ : Params) : Obj := ⟨(.type "tuple"), Option.none, (.seq #[] 0), #[]⟩
noncomputable def o262 (_ : Params) : Obj := ⟨.none, Option.none, (.fields #[]), #[]⟩
noncomputable def o263 (_ : Params) : Obj := ⟨.none, Option.none, (.func ⟨"_law_balances", "_law_balances", (fnA (fnS 32)), (.stmts (fnB (fnS 32))), (fnC (fnS 32)), 0, [], .none, .none, .none, .none, Option.none, .none, .none, 0⟩), #[]⟩
noncomputable def o264 (_ : Params) : Obj := ⟨(.type "code"), Option.none, (.fields #[(.str "_law_balances" 493), (.str "_law_balances" 494), (.str "/claim/cut.py" 495), (.int 152 0), (.int 2 0), (.int 0 0), (.int 0 0), (.int 3 0), (.ref 241), (.bool true), (.int 181 0), (.ref 242), .none, .none, .none, (.ref 243), (.int 496 0), (.int 152 0), (.str "/claim/cut.py" 497)]), #[]⟩
noncomputable def o265 (_ : Params) : Obj := ⟨(.type "function"), Option.none, (.func ⟨"_law_balances", "_law_balances", (fnA (fnS 32)), (.stmts (fnB (fnS 32))), (fnC (fnS 32)), 3, [], .none, .none, .none, (.str "law_uf030027_07" 448), Option.none, (.ref 244), .none, 0⟩), #[]⟩
noncomputable def tr11 (P : Params) : BT := (.node (boot_o_0 P) (.node (boot_o_1 P) (.node (o185 P) (.node (boot_o_7 P) (.node (o6 P) (.node (o25 P) (.node (o63 P) (.node (o145 P) .nil .nil) (.node (o211 P) .nil .nil)) (.node (o104 P) (.node (o177 P) .nil .nil) (.node (o243 P) .nil .nil))) (.node (o44 P) (.node (o85 P) (.node (o161 P) .nil .nil) (.node (o227 P) .nil .nil)) (.node (o123 P) (.node (o195 P) .nil .nil) (.node (o259 P) .nil .nil)))) (.node (o14 P) (.node (o33 P) (.node (o74 P) (.node (o153 P) .nil .nil) (.node (o219 P) .nil .nil)) (.node (o115 P) (.node (o187 P) .nil .nil) (.node (o251 P) .nil .nil))) (.node (o55 P) (.node (o93 P) (.node (o169 P) .nil .nil) (.node (o235 P) .nil .nil)) (.node (o134 P) (.node (o203 P) .nil .nil) .nil)))) (.node (o0 P) (.node (o10 P) (.node (o29 P) (.node (o70 P) (.node (o149 P) .nil .nil) (.node (o215 P) .nil .nil)) (.node (o108 P) (.node (o181 P) .nil .nil) (.node (o247 P) .nil .nil))) (.node (o48 P) (.node (o89 P) (.node (o165 P) .nil .nil) (.node (o231 P) .nil .nil)) (.node (o130 P) (.node (o199 P) .nil .nil) (.node (o263 P) .nil .nil)))) (.node (o18 P) (.node (o40 P) (.node (o78 P) (.node (o157 P) .nil .nil) (.node (o223 P) .nil .nil)) (.node (o119 P) (.node (o191 P) .nil .nil) (.node (o255 P) .nil .nil))) (.node (o59 P) (.node (o100 P) (.node (o173 P) .nil .nil) (.node (o239 P) .nil .nil)) (.node (o138 P) (.node (o207 P) .nil .nil) .nil))))) (.node (boot_o_5 P) (.node (boot_o_9 P) (.node (o8 P) (.node (o27 P) (.node (o68 P) (.node (o147 P) .nil .nil) (.node (o213 P) .nil .nil)) (.node (o106 P) (.node (o179 P) .nil .nil) (.node (o245 P) .nil .nil))) (.node (o46 P) (.node (o87 P) (.node (o163 P) .nil .nil) (.node (o229 P) .nil .nil)) (.node (o128 P) (.node (o197 P) .nil .nil) (.node (o261 P) .nil .nil)))) (.node (o16 P) (.node (o38 P) (.node (o76 P) (.node (o155 P) .nil .nil) (.node (o221 P) .nil .nil)) (.node (o117 P) (.node (o189 P) .nil .nil) (.node (o253 P) .nil .nil))) (.node (o57 P) (.node (o98 P) (.node (o171 P) .nil .nil) (.node (o237 P) .nil .nil)) (.node (o136 P) (.node (o205 P) .nil .nil) .nil)))) (.node (o2 P) (.node (o12 P) (.node (o31 P) (.node (o72 P) (.node (o151 P) .nil .nil) (.node (o217 P) .nil .nil)) (.node (o113 P) (.node (o183 P) .nil .nil) (.node (o249 P) .nil .nil))) (.node (o53 P) (.node (o91 P) (.node (o167 P) .nil .nil) (.node (o233 P) .nil .nil)) (.node (o132 P) (.node (o201 P) .nil .nil) (.node (o265 P) .nil .nil)))) (.node (o23 P) (.node (o42 P) (.node (o83 P) (.node (o159 P) .nil .nil) (.node (o225 P) .nil .nil)) (.node (o121 P) (.node (o193 P) .nil .nil) (.node (o257 P) .nil .nil))) (.node (o61 P) (.node (o102 P) (.node (o175 P) .nil .nil) (.node (o241 P) .nil .nil)) (.node (o143 P) (.node (o209 P) .nil .nil) .nil)))))) (.node (boot_o_2 P) (.node (boot_o_4 P) (.node (boot_o_8 P) (.node (o7 P) (.node (o26 P) (.node (o67 P) (.node (o146 P) .nil .nil) (.node (o212 P) .nil .nil)) (.node (o105 P) (.node (o178 P) .nil .nil) (.node (o244 P) .nil .nil))) (.node (o45 P) (.node (o86 P) (.node (o162 P) .nil .nil) (.node (o228 P) .nil .nil)) (.node (o127 P) (.node (o196 P) .nil .nil) (.node (o260 P) .nil .nil)))) (.node (o141 P) (.node (o37 P) (.node (o75 P) (.node (o154 P) .nil .nil) (.node (o220 P) .nil .nil)) (.node (o116 P) (.node (o188 P) .nil .nil) (.node (o252 P) .nil .nil))) (.node (o56 P) (.node (o97 P) (.node (o170 P) .nil .nil) (.node (o236 P) .nil .nil)) (.node (o135 P) (.node (o204 P) .nil .nil) .nil)))) (.node (o186 P) (.node (o11 P) (.node (o30 P) (.node (o71 P) (.node (o150 P) .nil .nil) (.node (o216 P) .nil .nil)) (.node (o112 P) (.node (o182 P) .nil .nil) (.node (o248 P) .nil .nil))) (.node (o52 P) (.node (o90 P) (.node (o166 P) .nil .nil) (.node (o232 P) .nil .nil)) (.node (o131 P) (.node (o200 P) .nil .nil) (.node (o264 P) .nil .nil)))) (.node (o22 P) (.node (o41 P) (.node (o82 P) (.node (o158 P) .nil .nil) (.node (o224 P) .nil .nil)) (.node (o120 P) (.node (o192 P) .nil .nil) (.node (o256 P) .nil .nil))) (.node (o60 P) (.node (o101 P) (.node (o174 P) .nil .nil) (.node (o240 P) .nil .nil)) (.node (o142 P) (.node (o208 P) .nil .nil) .nil))))) (.node (boot_o_6 P) (.node (boot_o_10 P) (.node (o9 P) (.node (o28 P) (.node (o69 P) (.node (o148 P) .nil .nil) (.node (o214 P) .nil .nil)) (.node (o107 P) (.node (o180 P) .nil .nil) (.node (o246 P) .nil .nil))) (.node (o47 P) (.node (o88 P) (.node (o164 P) .nil .nil) (.node (o230 P) .nil .nil)) (.node (o129 P) (.node (o198 P) .nil .nil) (.node (o262 P) .nil .nil)))) (.node (o17 P) (.node (o39 P) (.node (o77 P) (.node (o156 P) .nil .nil) (.node (o222 P) .nil .nil)) (.node (o118 P) (.node (o190 P) .nil .nil) (.node (o254 P) .nil .nil))) (.node (o58 P) (.node (o99 P) (.node (o172 P) .nil .nil) (.node (o238 P) .nil .nil)) (.node (o137 P) (.node (o206 P) .nil .nil) .nil)))) (.node (o3 P) (.node (o13 P) (.node (o32 P) (.node (o73 P) (.node (o152 P) .nil .nil) (.node (o218 P) .nil .nil)) (.node (o114 P) (.node (o184 P) .nil .nil) (.node (o250 P) .nil .nil))) (.node (o54 P) (.node (o92 P) (.node (o168 P) .nil .nil) (.node (o234 P) .nil .nil)) (.node (o133 P) (.node (o202 P) .nil .nil) .nil))) (.node (o24 P) (.node (o43 P) (.node (o84 P) (.node (o160 P) .nil .nil) (.node (o226 P) .nil .nil)) (.node (o122 P) (.node (o194 P) .nil .nil) (.node (o258 P) .nil .nil))) (.node (o62 P) (.node (o103 P) (.node (o176 P) .nil .nil) (.node (o242 P) .nil .nil)) (.node (o144 P) (.node (o210 P) .nil .nil) .nil)))))))
noncomputable def S11 (w : World) (os : OsState) : SharedT := ⟨tr11 w.params, 246, ⟨[], [], [], 0, [], [], false, #[], [], 0, false, false, false, 0, [2000, 10, 10], false, 0, true, [], [], 0, false⟩, #[], ⟨0, 0, 0, 0⟩, 499, os⟩
noncomputable def ss10 : List Stmt := (bdQ.drop 19).take 14
noncomputable def o266 (P : Params) : Obj := ⟨(.type "dict"), Option.none, (.dict #[⟨(PyData.keyHash P "__name__"), (.str "__name__" 165), (.str "law_uf030027_07" 448)⟩, ⟨(PyData.keyHash P "__doc__"), (.str "__doc__" 166), .none⟩, ⟨(PyData.keyHash P "__package__"), (.str "__package__" 167), .none⟩, ⟨(PyData.keyHash P "__loader__"), (.str "__loader__" 168), (.builtin "__main__.__loader__#opaque")⟩, ⟨(PyData.keyHash P "__spec__"), (.str "__spec__" 169), .none⟩, ⟨(PyData.keyHash P "__annotations__"), (.str "__annotations__" 170), (.ref 6)⟩, ⟨(PyData.keyHash P "__builtins__"), (.str "__builtins__" 171), (.ref 4)⟩, ⟨(PyData.keyHash P "__file__"), (.str "__file__" 173), (.str "/claim/cut.py" 172)⟩, ⟨(PyData.keyHash P "__cached__"), (.str "__cached__" 174), .none⟩, ⟨(PyData.keyHash P "DebtError"), (.str "DebtError" 206), (.ref 24)⟩, ⟨(PyData.keyHash P "BadCount"), (.str "BadCount" 222), (.ref 37)⟩, ⟨(PyData.keyHash P "BadDebt"), (.str "BadDebt" 238), (.ref 49)⟩, ⟨(PyData.keyHash P "BadCut"), (.str "BadCut" 254), (.ref 61)⟩, ⟨(PyData.keyHash P "Uneven"), (.str "Uneven" 270), (.ref 73)⟩, ⟨(PyData.keyHash P "BadPrices"), (.str "BadPrices" 286), (.ref 85)⟩, ⟨(PyData.keyHash P "NotBest"), (.str "NotBest" 302), (.ref 97)⟩, ⟨(PyData.keyHash P "NoDebt"), (.str "NoDebt" 318), (.ref 109)⟩, ⟨(PyData.keyHash P "NoHouse"), (.str "NoHouse" 334), (.ref 121)⟩, ⟨(PyData.keyHash P "BadAmount"), (.str "BadAmount" 350), (.ref 133)⟩, ⟨(PyData.keyHash P "is_number"), (.str "is_number" 359), (.ref 142)⟩, ⟨(PyData.keyHash P "balances"), (.str "balances" 365), (.ref 147)⟩, ⟨(PyData.keyHash P "need_cut"), (.str "need_cut" 376), (.ref 154)⟩, ⟨(PyData.keyHash P "even"), (.str "even" 382), (.ref 159)⟩, ⟨(PyData.keyHash P "steps"), (.str "steps" 395), (.ref 166)⟩, ⟨(PyData.keyHash P "cheapest"), (.str "cheapest" 401), (.ref 171)⟩, ⟨(PyData.keyHash P "row_to"), (.str "row_to" 410), (.ref 178)⟩, ⟨(PyData.keyHash P "surplus"), (.str "surplus" 416), (.ref 183)⟩, ⟨(PyData.keyHash P "best"), (.str "best" 422), (.ref 188)⟩, ⟨(PyData.keyHash P "need_even"), (.str "need_even" 431), (.ref 195)⟩, ⟨(PyData.keyHash P "better"), (.str "better" 441), (.ref 202)⟩, ⟨(PyData.keyHash P "prices"), (.str "prices" 447), (.ref 207)⟩, ⟨(PyData.keyHash P "_law_cell_at"), (.str "_law_cell_at" 457), (.ref 214)⟩, ⟨(PyData.keyHash P "_law_whole"), (.str "_law_whole" 464), (.ref 221)⟩, ⟨(PyData.keyHash P "_law_debt"), (.str "_law_debt" 478), (.ref 228)⟩, ⟨(PyData.keyHash P "_law_count"), (.str "_law_count" 486), (.ref 235)⟩, ⟨(PyData.keyHash P "_law_debts"), (.str "_law_debts" 492), (.ref 240)⟩, ⟨(PyData.keyHash P "_law_balances"), (.str "_law_balances" 498), (.ref 245)⟩, ⟨(PyData.keyHash P "_law_ring_by"), (.str "_law_ring_by" 504), (.ref 250)⟩, ⟨(PyData.keyHash P "_law_even_cut"), (.str "_law_even_cut" 510), (.ref 255)⟩, ⟨(PyData.keyHash P "_law_is_even"), (.str "_law_is_even" 516), (.ref 260)⟩, ⟨(PyData.keyHash P "_law_is_cut"), (.str "_law_is_cut" 525), (.ref 267)⟩, ⟨(PyData.keyHash P "_law_bad_cut"), (.str "_law_bad_cut" 537), (.ref 274)⟩, ⟨(PyData.keyHash P "_law_shows"), (.str "_law_shows" 551), (.ref 281)⟩, ⟨(PyData.keyHash P "_law_settles"), (.str "_law_settles" 557), (.ref 286)⟩, ⟨(PyData.keyHash P "_law_kind"), (.str "_law_kind" 565), (.ref 293)⟩, ⟨(PyData.keyHash P "_law_priced"), (.str "_law_priced" 575), (.ref 300)⟩, ⟨(PyData.keyHash P "_law_bettered"), (.str "_law_bettered" 585), (.ref 307)⟩, ⟨(PyData.keyHash P "_law_is_priced"), (.str "_law_is_priced" 596), (.ref 314)⟩, ⟨(PyData.keyHash P "law"), (.str "law" 602), (.ref 319)⟩] 49), #[]⟩
noncomputable def o267 (_ : Params) : Obj := ⟨.none, Option.none, (.fields #[(.int 2 0), (.int 0 0), (.ref 20), (.int 4 0), (.int 0 0), (.ref 33), (.int 6 0), (.int 0 0), (.ref 45), (.int 8 0), (.int 0 0), (.ref 57), (.int 10 0), (.int 0 0), (.ref 69), (.int 12 0), (.int 0 0), (.ref 81), (.int 14 0), (.int 0 0), (.ref 93), (.int 16 0), (.int 0 0), (.ref 105), (.int 18 0), (.int 0 0), (.ref 117), (.int 20 0), (.int 0 0), (.ref 129), (.int 23 0), (.int 0 0), (.ref 141), (.int 25 0), (.int 0 0), (.ref 146), (.int 32 0), (.int 0 0), (.ref 153), (.int 38 0), (.int 0 0), (.ref 158), (.int 43 0), (.int 0 0), (.ref 165), (.int 52 0), (.int 0 0), (.ref 170), (.int 68 0), (.int 0 0), (.ref 177), (.int 74 0), (.int 0 0), (.ref 182), (.int 76 0), (.int 0 0), (.ref 187), (.int 90 0), (.int 0 0), (.ref 194), (.int 93 0), (.int 0 0), (.ref 201), (.int 99 0), (.int 0 0), (.ref 206), (.int 112 0), (.int 0 0), (.ref 213), (.int 116 0), (.int 0 0), (.ref 220), (.int 118 0), (.int 0 0), (.ref 227), (.int 131 0), (.int 0 0), (.ref 234), (.int 138 0), (.int 0 0), (.ref 239), (.int 152 0), (.int 0 0), (.ref 244), (.int 158 0), (.int 0 0), (.ref 249), (.int 172 0), (.int 0 0), (.ref 254), (.int 184 0), (.int 0 0), (.ref 259), (.int 187 0), (.int 0 0), (.ref 266), (.int 194 0), (.int 0 0), (.ref 273), (.int 205 0), (.int 0 0), (.ref 280), (.int 214 0), (.int 0 0), (.ref 285), (.int 230 0), (.int 0 0), (.ref 292), (.int 253 0), (.int 0 0), (.ref 299), (.int 258 0), (.int 0 0), (.ref 306), (.int 263 0), (.int 0 0), (.ref 313), (.int 270 0), (.int 0 0), (.ref 318)]), #[]⟩
noncomputable def o268 (_ : Params) : Obj := ⟨(.type "tuple"), Option.none, (.seq #[] 0), #[]⟩
noncomputable def o269 (_ : Params) : Obj := ⟨.none, Option.none, (.fields #[]), #[]⟩
noncomputable def o270 (_ : Params) : Obj := ⟨.none, Option.none, (.func ⟨"_law_ring_by", "_law_ring_by", (fnA (fnS 33)), (.stmts (fnB (fnS 33))), (fnC (fnS 33)), 0, [], .none, .none, .none, .none, Option.none, .none, .none, 0⟩), #[]⟩
noncomputable def o271 (_ : Params) : Obj := ⟨(.type "code"), Option.none, (.fields #[(.str "_law_ring_by" 499), (.str "_law_ring_by" 500), (.str "/claim/cut.py" 501), (.int 158 0), (.int 3 0), (.int 0 0), (.int 0 0), (.int 3 0), (.ref 246), (.bool true), (.int 181 0), (.ref 247), .none, .none, .none, (.ref 248), (.int 502 0), (.int 158 0), (.str "/claim/cut.py" 503)]), #[]⟩
noncomputable def o272 (_ : Params) : Obj := ⟨(.type "function"), Option.none, (.func ⟨"_law_ring_by", "_law_ring_by", (fnA (fnS 33)), (.stmts (fnB (fnS 33))), (fnC (fnS 33)), 3, [], .none, .none, .none, (.str "law_uf030027_07" 448), Option.none, (.ref 249), .none, 0⟩), #[]⟩
noncomputable def o273 (_ : Params) : Obj := ⟨(.type "tuple"), Option.none, (.seq #[] 0), #[]⟩
noncomputable def o274 (_ : Params) : Obj := ⟨.none, Option.none, (.fields #[]), #[]⟩
noncomputable def o275 (_ : Params) : Obj := ⟨.none, Option.none, (.func ⟨"_law_even_cut", "_law_even_cut", (fnA (fnS 34)), (.stmts (fnB (fnS 34))), (fnC (fnS 34)), 0, [], .none, .none, .none, .none, Option.none, .none, .none, 0⟩), #[]⟩
noncomputable def o276 (_ : Params) : Obj := ⟨(.type "code"), Option.none, (.fields #[(.str "_law_even_cut" 505), (.str "_law_even_cut" 506), (.str "/claim/cut.py" 507), (.int 172 0), (.int 2 0), (.int 0 0), (.int 0 0), (.int 3 0), (.ref 251), (.bool true), (.int 181 0), (.ref 252), .none, .none, .none, (.ref 253), (.int 508 0), (.int 172 0), (.str "/claim/cut.py" 509)]), #[]⟩
noncomputable def o277 (_ : Params) : Obj := ⟨(.type "function"), Option.none, (.func ⟨"_law_even_cut", "_law_even_cut", (fnA (fnS 34)), (.stmts (fnB (fnS 34))), (fnC (fnS 34)), 3, [], .none, .none, .none, (.str "law_uf030027_07" 448), Option.none, (.ref 254), .none, 0⟩), #[]⟩
noncomputable def o278 (_ : Params) : Obj := ⟨(.type "tuple"), Option.none, (.seq #[] 0), #[]⟩
noncomputable def o279 (_ : Params) : Obj := ⟨.none, Option.none, (.fields #[]), #[]⟩
noncomputable def o280 (_ : Params) : Obj := ⟨.none, Option.none, (.func ⟨"_law_is_even", "_law_is_even", (fnA (fnS 35)), (.stmts (fnB (fnS 35))), (fnC (fnS 35)), 0, [], .none, .none, .none, .none, Option.none, .none, .none, 0⟩), #[]⟩
noncomputable def o281 (_ : Params) : Obj := ⟨(.type "code"), Option.none, (.fields #[(.str "_law_is_even" 511), (.str "_law_is_even" 512), (.str "/claim/cut.py" 513), (.int 184 0), (.int 3 0), (.int 0 0), (.int 0 0), (.int 3 0), (.ref 256), (.bool true), (.int 181 0), (.ref 257), .none, .none, .none, (.ref 258), (.int 514 0), (.int 184 0), (.str "/claim/cut.py" 515)]), #[]⟩
noncomputable def o282 (_ : Params) : Obj := ⟨(.type "function"), Option.none, (.func ⟨"_law_is_even", "_law_is_even", (fnA (fnS 35)), (.stmts (fnB (fnS 35))), (fnC (fnS 35)), 3, [], .none, .none, .none, (.str "law_uf030027_07" 448), Option.none, (.ref 259), .none, 0⟩), #[]⟩
noncomputable def o283 (_ : Params) : Obj := ⟨(.type "tuple"), Option.none, (.seq #[] 0), #[]⟩
noncomputable def o284 (_ : Params) : Obj := ⟨.none, Option.none, (.fields #[]), #[]⟩
noncomputable def o285 (_ : Params) : Obj := ⟨(.type "tuple"), Option.none, (.seq #[(.str "_law_debts_here" 520), (.str "_law_cut" 521), (.str "_law_number" 522)] 0), #[]⟩
noncomputable def o286 (_ : Params) : Obj := ⟨(.type "tuple"), Option.none, (.seq #[] 0), #[]⟩
noncomputable def o287 (_ : Params) : Obj := ⟨.none, Option.none, (.func ⟨"_law_is_cut", "_law_is_cut", (fnA (fnS 36)), (.stmts (fnB (fnS 36))), (fnC (fnS 36)), 0, [], .none, .none, .none, .none, Option.none, .none, .none, 0⟩), #[]⟩
noncomputable def o288 (_ : Params) : Obj := ⟨(.type "code"), Option.none, (.fields #[(.str "_law_is_cut" 517), (.str "_law_is_cut" 518), (.str "/claim/cut.py" 519), (.int 187 0), (.int 2 0), (.int 0 0), (.int 0 0), (.int 3 0), (.ref 261), (.bool true), (.int 181 0), (.ref 262), .none, (.ref 263), (.ref 264), (.ref 265), (.int 523 0), (.int 187 0), (.str "/claim/cut.py" 524)]), #[]⟩
noncomputable def o289 (_ : Params) : Obj := ⟨(.type "function"), Option.none, (.func ⟨"_law_is_cut", "_law_is_cut", (fnA (fnS 36)), (.stmts (fnB (fnS 36))), (fnC (fnS 36)), 3, [], .none, .none, .none, (.str "law_uf030027_07" 448), Option.none, (.ref 266), .none, 0⟩), #[]⟩
noncomputable def o290 (_ : Params) : Obj := ⟨(.type "tuple"), Option.none, (.seq #[] 0), #[]⟩
noncomputable def o291 (_ : Params) : Obj := ⟨.none, Option.none, (.fields #[]), #[]⟩
noncomputable def o292 (_ : Params) : Obj := ⟨(.type "tuple"), Option.none, (.seq #[(.str "_law_debts_here" 529), (.str "_law_cut" 530), (.str "_law_cell" 531), (.str "_law_at" 532), (.str "_law_amount" 533), (.str "_law_odd" 534)] 0), #[]⟩
noncomputable def o293 (_ : Params) : Obj := ⟨(.type "tuple"), Option.none, (.seq #[] 0), #[]⟩
noncomputable def o294 (_ : Params) : Obj := ⟨.none, Option.none, (.func ⟨"_law_bad_cut", "_law_bad_cut", (fnA (fnS 37)), (.stmts (fnB (fnS 37))), (fnC (fnS 37)), 0, [], .none, .none, .none, .none, Option.none, .none, .none, 0⟩), #[]⟩
noncomputable def o295 (_ : Params) : Obj := ⟨(.type "code"), Option.none, (.fields #[(.str "_law_bad_cut" 526), (.str "_law_bad_cut" 527), (.str "/claim/cut.py" 528), (.int 194 0), (.int 3 0), (.int 0 0), (.int 0 0), (.int 3 0), (.ref 268), (.bool true), (.int 181 0), (.ref 269), .none, (.ref 270), (.ref 271), (.ref 272), (.int 535 0), (.int 194 0), (.str "/claim/cut.py" 536)]), #[]⟩
noncomputable def o296 (_ : Params) : Obj := ⟨(.type "function"), Option.none, (.func ⟨"_law_bad_cut", "_law_bad_cut", (fnA (fnS 37)), (.stmts (fnB (fnS 37))), (fnC (fnS 37)), 3, [], .none, .none, .none, (.str "law_uf030027_07" 448), Option.none, (.ref 273), .none, 0⟩), #[]⟩
noncomputable def o297 (_ : Params) : Obj := ⟨(.type "tuple"), Option.none, (.seq #[] 0), #[]⟩
noncomputable def o298 (_ : Params) : Obj := ⟨.none, Option.none, (.fields #[]), #[]⟩
noncomputable def o299 (_ : Params) : Obj := ⟨(.type "tuple"), Option.none, (.seq #[(.str "_law_debts_here" 541), (.str "_law_cut" 542), (.str "_law_tags" 543), (.str "_law_number" 544), (.str "_law_debtor" 545), (.str "_law_creditor" 546), (.str "_law_amount" 547), (.str "_law_lure" 548)] 0), #[]⟩
noncomputable def o300 (_ : Params) : Obj := ⟨(.type "tuple"), Option.none, (.seq #[] 0), #[]⟩
noncomputable def o301 (_ : Params) : Obj := ⟨.none, Option.none, (.func ⟨"_law_shows", "_law_shows", (fnA (fnS 38)), (.stmts (fnB (fnS 38))), (fnC (fnS 38)), 0, [], .none, .none, .none, .none, Option.none, .none, .none, 0⟩), #[]⟩
noncomputable def o302 (_ : Params) : Obj := ⟨(.type "code"), Option.none, (.fields #[(.str "_law_shows" 538), (.str "_law_shows" 539), (.str "/claim/cut.py" 540), (.int 205 0), (.int 3 0), (.int 0 0), (.int 0 0), (.int 3 0), (.ref 275), (.bool true), (.int 181 0), (.ref 276), .none, (.ref 277), (.ref 278), (.ref 279), (.int 549 0), (.int 205 0), (.str "/claim/cut.py" 550)]), #[]⟩
noncomputable def o303 (_ : Params) : Obj := ⟨(.type "function"), Option.none, (.func ⟨"_law_shows", "_law_shows", (fnA (fnS 38)), (.stmts (fnB (fnS 38))), (fnC (fnS 38)), 3, [], .none, .none, .none, (.str "law_uf030027_07" 448), Option.none, (.ref 280), .none, 0⟩), #[]⟩
noncomputable def o304 (_ : Params) : Obj := ⟨(.type "tuple"), Option.none, (.seq #[] 0), #[]⟩
noncomputable def o305 (_ : Params) : Obj := ⟨.none, Option.none, (.fields #[]), #[]⟩
noncomputable def o306 (_ : Params) : Obj := ⟨.none, Option.none, (.func ⟨"_law_settles", "_law_settles", (fnA (fnS 39)), (.stmts (fnB (fnS 39))), (fnC (fnS 39)), 0, [], .none, .none, .none, .none, Option.none, .none, .none, 0⟩), #[]⟩
noncomputable def o307 (_ : Params) : Obj := ⟨(.type "code"), Option.none, (.fields #[(.str "_law_settles" 552), (.str "_law_settles" 553), (.str "/claim/cut.py" 554), (.int 214 0), (.int 3 0), (.int 0 0), (.int 0 0), (.int 3 0), (.ref 282), (.bool true), (.int 181 0), (.ref 283), .none, .none, .none, (.ref 284), (.int 555 0), (.int 214 0), (.str "/claim/cut.py" 556)]), #[]⟩
noncomputable def o308 (_ : Params) : Obj := ⟨(.type "function"), Option.none, (.func ⟨"_law_settles", "_law_settles", (fnA (fnS 39)), (.stmts (fnB (fnS 39))), (fnC (fnS 39)), 3, [], .none, .none, .none, (.str "law_uf030027_07" 448), Option.none, (.ref 285), .none, 0⟩), #[]⟩
noncomputable def o309 (_ : Params) : Obj := ⟨(.type "tuple"), Option.none, (.seq #[] 0), #[]⟩
noncomputable def o310 (_ : Params) : Obj := ⟨.none, Option.none, (.fields #[]), #[]⟩
noncomputable def o311 (_ : Params) : Obj := ⟨(.type "tuple"), Option.none, (.seq #[(.str "_law_error" 561), (.str "_law_words" 562)] 0), #[]⟩
noncomputable def o312 (_ : Params) : Obj := ⟨(.type "tuple"), Option.none, (.seq #[] 0), #[]⟩
noncomputable def o313 (_ : Params) : Obj := ⟨.none, Option.none, (.func ⟨"_law_kind", "_law_kind", (fnA (fnS 40)), (.stmts (fnB (fnS 40))), (fnC (fnS 40)), 0, [], .none, .none, .none, .none, Option.none, .none, .none, 0⟩), #[]⟩
noncomputable def o314 (_ : Params) : Obj := ⟨(.type "code"), Option.none, (.fields #[(.str "_law_kind" 558), (.str "_law_kind" 559), (.str "/claim/cut.py" 560), (.int 230 0), (.int 1 0), (.int 0 0), (.int 0 0), (.int 3 0), (.ref 287), (.bool true), (.int 181 0), (.ref 288), .none, (.ref 289), (.ref 290), (.ref 291), (.int 563 0), (.int 230 0), (.str "/claim/cut.py" 564)]), #[]⟩
noncomputable def o315 (_ : Params) : Obj := ⟨(.type "function"), Option.none, (.func ⟨"_law_kind", "_law_kind", (fnA (fnS 40)), (.stmts (fnB (fnS 40))), (fnC (fnS 40)), 3, [], .none, .none, .none, (.str "law_uf030027_07" 448), Option.none, (.ref 292), .none, 0⟩), #[]⟩
noncomputable def o316 (_ : Params) : Obj := ⟨(.type "tuple"), Option.none, (.seq #[] 0), #[]⟩
noncomputable def o317 (_ : Params) : Obj := ⟨.none, Option.none, (.fields #[]), #[]⟩
noncomputable def o318 (_ : Params) : Obj := ⟨(.type "tuple"), Option.none, (.seq #[(.str "_law_count_here" 569), (.str "_law_debts_here" 570), (.str "_law_cut" 571), (.str "_law_error" 572)] 0), #[]⟩
noncomputable def o319 (_ : Params) : Obj := ⟨(.type "tuple"), Option.none, (.seq #[] 0), #[]⟩
noncomputable def o320 (_ : Params) : Obj := ⟨.none, Option.none, (.func ⟨"_law_priced", "_law_priced", (fnA (fnS 41)), (.stmts (fnB (fnS 41))), (fnC (fnS 41)), 0, [], .none, .none, .none, .none, Option.none, .none, .none, 0⟩), #[]⟩
noncomputable def o321 (_ : Params) : Obj := ⟨(.type "code"), Option.none, (.fields #[(.str "_law_priced" 566), (.str "_law_priced" 567), (.str "/claim/cut.py" 568), (.int 253 0), (.int 3 0), (.int 0 0), (.int 0 0), (.int 3 0), (.ref 294), (.bool true), (.int 181 0), (.ref 295), .none, (.ref 296), (.ref 297), (.ref 298), (.int 573 0), (.int 253 0), (.str "/claim/cut.py" 574)]), #[]⟩
noncomputable def o322 (_ : Params) : Obj := ⟨(.type "function"), Option.none, (.func ⟨"_law_priced", "_law_priced", (fnA (fnS 41)), (.stmts (fnB (fnS 41))), (fnC (fnS 41)), 3, [], .none, .none, .none, (.str "law_uf030027_07" 448), Option.none, (.ref 299), .none, 0⟩), #[]⟩
noncomputable def o323 (_ : Params) : Obj := ⟨(.type "tuple"), Option.none, (.seq #[] 0), #[]⟩
noncomputable def o324 (_ : Params) : Obj := ⟨.none, Option.none, (.fields #[]), #[]⟩
noncomputable def o325 (_ : Params) : Obj := ⟨(.type "tuple"), Option.none, (.seq #[(.str "_law_count_here" 579), (.str "_law_debts_here" 580), (.str "_law_cut" 581), (.str "_law_error" 582)] 0), #[]⟩
noncomputable def o326 (_ : Params) : Obj := ⟨(.type "tuple"), Option.none, (.seq #[] 0), #[]⟩
noncomputable def o327 (_ : Params) : Obj := ⟨.none, Option.none, (.func ⟨"_law_bettered", "_law_bettered", (fnA (fnS 42)), (.stmts (fnB (fnS 42))), (fnC (fnS 42)), 0, [], .none, .none, .none, .none, Option.none, .none, .none, 0⟩), #[]⟩
noncomputable def o328 (_ : Params) : Obj := ⟨(.type "code"), Option.none, (.fields #[(.str "_law_bettered" 576), (.str "_law_bettered" 577), (.str "/claim/cut.py" 578), (.int 258 0), (.int 3 0), (.int 0 0), (.int 0 0), (.int 3 0), (.ref 301), (.bool true), (.int 181 0), (.ref 302), .none, (.ref 303), (.ref 304), (.ref 305), (.int 583 0), (.int 258 0), (.str "/claim/cut.py" 584)]), #[]⟩
noncomputable def o329 (_ : Params) : Obj := ⟨(.type "function"), Option.none, (.func ⟨"_law_bettered", "_law_bettered", (fnA (fnS 42)), (.stmts (fnB (fnS 42))), (fnC (fnS 42)), 3, [], .none, .none, .none, (.str "law_uf030027_07" 448), Option.none, (.ref 306), .none, 0⟩), #[]⟩
noncomputable def o330 (_ : Params) : Obj := ⟨(.type "tuple"), Option.none, (.seq #[] 0), #[]⟩
noncomputable def o331 (_ : Params) : Obj := ⟨.none, Option.none, (.fields #[]), #[]⟩
noncomputable def o332 (_ : Params) : Obj := ⟨(.type "tuple"), Option.none, (.seq #[(.str "_law_count_here" 589), (.str "_law_debts_here" 590), (.str "_law_cut" 591), (.str "_law_tags" 592), (.str "_law_tag" 593)] 0), #[]⟩
noncomputable def o333 (_ : Params) : Obj := ⟨(.type "tuple"), Option.none, (.seq #[] 0), #[]⟩
noncomputable def o334 (_ : Params) : Obj := ⟨.none, Option.none, (.func ⟨"_law_is_priced", "_law_is_priced", (fnA (fnS 43)), (.stmts (fnB (fnS 43))), (fnC (fnS 43)), 0, [], .none, .none, .none, .none, Option.none, .none, .none, 0⟩), #[]⟩
noncomputable def o335 (_ : Params) : Obj := ⟨(.type "code"), Option.none, (.fields #[(.str "_law_is_priced" 586), (.str "_law_is_priced" 587), (.str "/claim/cut.py" 588), (.int 263 0), (.int 4 0), (.int 0 0), (.int 0 0), (.int 3 0), (.ref 308), (.bool true), (.int 181 0), (.ref 309), .none, (.ref 310), (.ref 311), (.ref 312), (.int 594 0), (.int 263 0), (.str "/claim/cut.py" 595)]), #[]⟩
noncomputable def o336 (_ : Params) : Obj := ⟨(.type "function"), Option.none, (.func ⟨"_law_is_priced", "_law_is_priced", (fnA (fnS 43)), (.stmts (fnB (fnS 43))), (fnC (fnS 43)), 3, [], .none, .none, .none, (.str "law_uf030027_07" 448), Option.none, (.ref 313), .none, 0⟩), #[]⟩
noncomputable def o337 (_ : Params) : Obj := ⟨(.type "tuple"), Option.none, (.seq #[] 0), #[]⟩
noncomputable def o338 (_ : Params) : Obj := ⟨.none, Option.none, (.fields #[]), #[]⟩
noncomputable def o339 (_ : Params) : Obj := ⟨.none, Option.none, (.func ⟨"law", "law", (fnA (fnS 44)), (.stmts (fnB (fnS 44))), (fnC (fnS 44)), 0, [], .none, .none, .none, .none, Option.none, .none, .none, 0⟩), #[]⟩
noncomputable def o340 (_ : Params) : Obj := ⟨(.type "code"), Option.none, (.fields #[(.str "law" 597), (.str "law" 598), (.str "/claim/cut.py" 599), (.int 270 0), (.int 1 0), (.int 0 0), (.int 0 0), (.int 3 0), (.ref 315), (.bool true), (.int 181 0), (.ref 316), .none, .none, .none, (.ref 317), (.int 600 0), (.int 270 0), (.str "/claim/cut.py" 601)]), #[]⟩
noncomputable def o341 (_ : Params) : Obj := ⟨(.type "function"), Option.none, (.func ⟨"law", "law", (fnA (fnS 44)), (.stmts (fnB (fnS 44))), (fnC (fnS 44)), 3, [], .none, .none, .none, (.str "law_uf030027_07" 448), Option.none, (.ref 318), .none, 0⟩), #[]⟩
noncomputable def tr12 (P : Params) : BT := (.node (boot_o_0 P) (.node (boot_o_1 P) (.node (o266 P) (.node (boot_o_7 P) (.node (o6 P) (.node (o25 P) (.node (o63 P) (.node (o145 P) (.node (o277 P) .nil .nil) .nil) (.node (o211 P) (.node (o341 P) .nil .nil) .nil)) (.node (o104 P) (.node (o177 P) (.node (o309 P) .nil .nil) .nil) (.node (o243 P) .nil .nil))) (.node (o44 P) (.node (o85 P) (.node (o161 P) (.node (o293 P) .nil .nil) .nil) (.node (o227 P) .nil .nil)) (.node (o123 P) (.node (o195 P) (.node (o325 P) .nil .nil) .nil) (.node (o259 P) .nil .nil)))) (.node (o14 P) (.node (o33 P) (.node (o74 P) (.node (o153 P) (.node (o285 P) .nil .nil) .nil) (.node (o219 P) .nil .nil)) (.node (o115 P) (.node (o187 P) (.node (o317 P) .nil .nil) .nil) (.node (o251 P) .nil .nil))) (.node (o55 P) (.node (o93 P) (.node (o169 P) (.node (o301 P) .nil .nil) .nil) (.node (o235 P) .nil .nil)) (.node (o134 P) (.node (o203 P) (.node (o333 P) .nil .nil) .nil) (.node (o269 P) .nil .nil))))) (.node (o0 P) (.node (o10 P) (.node (o29 P) (.node (o70 P) (.node (o149 P) (.node (o281 P) .nil .nil) .nil) (.node (o215 P) .nil .nil)) (.node (o108 P) (.node (o181 P) (.node (o313 P) .nil .nil) .nil) (.node (o247 P) .nil .nil))) (.node (o48 P) (.node (o89 P) (.node (o165 P) (.node (o297 P) .nil .nil) .nil) (.node (o231 P) .nil .nil)) (.node (o130 P) (.node (o199 P) (.node (o329 P) .nil .nil) .nil) (.node (o263 P) .nil .nil)))) (.node (o18 P) (.node (o40 P) (.node (o78 P) (.node (o157 P) (.node (o289 P) .nil .nil) .nil) (.node (o223 P) .nil .nil)) (.node (o119 P) (.node (o191 P) (.node (o321 P) .nil .nil) .nil) (.node (o255 P) .nil .nil))) (.node (o59 P) (.node (o100 P) (.node (o173 P) (.node (o305 P) .nil .nil) .nil) (.node (o239 P) .nil .nil)) (.node (o138 P) (.node (o207 P) (.node (o337 P) .nil .nil) .nil) (.node (o273 P) .nil .nil)))))) (.node (boot_o_5 P) (.node (boot_o_9 P) (.node (o8 P) (.node (o27 P) (.node (o68 P) (.node (o147 P) (.node (o279 P) .nil .nil) .nil) (.node (o213 P) .nil .nil)) (.node (o106 P) (.node (o179 P) (.node (o311 P) .nil .nil) .nil) (.node (o245 P) .nil .nil))) (.node (o46 P) (.node (o87 P) (.node (o163 P) (.node (o295 P) .nil .nil) .nil) (.node (o229 P) .nil .nil)) (.node (o128 P) (.node (o197 P) (.node (o327 P) .nil .nil) .nil) (.node (o261 P) .nil .nil)))) (.node (o16 P) (.node (o38 P) (.node (o76 P) (.node (o155 P) (.node (o287 P) .nil .nil) .nil) (.node (o221 P) .nil .nil)) (.node (o117 P) (.node (o189 P) (.node (o319 P) .nil .nil) .nil) (.node (o253 P) .nil .nil))) (.node (o57 P) (.node (o98 P) (.node (o171 P) (.node (o303 P) .nil .nil) .nil) (.node (o237 P) .nil .nil)) (.node (o136 P) (.node (o205 P) (.node (o335 P) .nil .nil) .nil) (.node (o271 P) .nil .nil))))) (.node (o2 P) (.node (o12 P) (.node (o31 P) (.node (o72 P) (.node (o151 P) (.node (o283 P) .nil .nil) .nil) (.node (o217 P) .nil .nil)) (.node (o113 P) (.node (o183 P) (.node (o315 P) .nil .nil) .nil) (.node (o249 P) .nil .nil))) (.node (o53 P) (.node (o91 P) (.node (o167 P) (.node (o299 P) .nil .nil) .nil) (.node (o233 P) .nil .nil)) (.node (o132 P) (.node (o201 P) (.node (o331 P) .nil .nil) .nil) (.node (o265 P) .nil .nil)))) (.node (o23 P) (.node (o42 P) (.node (o83 P) (.node (o159 P) (.node (o291 P) .nil .nil) .nil) (.node (o225 P) .nil .nil)) (.node (o121 P) (.node (o193 P) (.node (o323 P) .nil .nil) .nil) (.node (o257 P) .nil .nil))) (.node (o61 P) (.node (o102 P) (.node (o175 P) (.node (o307 P) .nil .nil) .nil) (.node (o241 P) .nil .nil)) (.node (o143 P) (.node (o209 P) (.node (o339 P) .nil .nil) .nil) (.node (o275 P) .nil .nil))))))) (.node (boot_o_2 P) (.node (boot_o_4 P) (.node (boot_o_8 P) (.node (o7 P) (.node (o26 P) (.node (o67 P) (.node (o146 P) (.node (o278 P) .nil .nil) .nil) (.node (o212 P) .nil .nil)) (.node (o105 P) (.node (o178 P) (.node (o310 P) .nil .nil) .nil) (.node (o244 P) .nil .nil))) (.node (o45 P) (.node (o86 P) (.node (o162 P) (.node (o294 P) .nil .nil) .nil) (.node (o228 P) .nil .nil)) (.node (o127 P) (.node (o196 P) (.node (o326 P) .nil .nil) .nil) (.node (o260 P) .nil .nil)))) (.node (o141 P) (.node (o37 P) (.node (o75 P) (.node (o154 P) (.node (o286 P) .nil .nil) .nil) (.node (o220 P) .nil .nil)) (.node (o116 P) (.node (o188 P) (.node (o318 P) .nil .nil) .nil) (.node (o252 P) .nil .nil))) (.node (o56 P) (.node (o97 P) (.node (o170 P) (.node (o302 P) .nil .nil) .nil) (.node (o236 P) .nil .nil)) (.node (o135 P) (.node (o204 P) (.node (o334 P) .nil .nil) .nil) (.node (o270 P) .nil .nil))))) (.node (o267 P) (.node (o11 P) (.node (o30 P) (.node (o71 P) (.node (o150 P) (.node (o282 P) .nil .nil) .nil) (.node (o216 P) .nil .nil)) (.node (o112 P) (.node (o182 P) (.node (o314 P) .nil .nil) .nil) (.node (o248 P) .nil .nil))) (.node (o52 P) (.node (o90 P) (.node (o166 P) (.node (o298 P) .nil .nil) .nil) (.node (o232 P) .nil .nil)) (.node (o131 P) (.node (o200 P) (.node (o330 P) .nil .nil) .nil) (.node (o264 P) .nil .nil)))) (.node (o22 P) (.node (o41 P) (.node (o82 P) (.node (o158 P) (.node (o290 P) .nil .nil) .nil) (.node (o224 P) .nil .nil)) (.node (o120 P) (.node (o192 P) (.node (o322 P) .nil .nil) .nil) (.node (o256 P) .nil .nil))) (.node (o60 P) (.node (o101 P) (.node (o174 P) (.node (o306 P) .nil .nil) .nil) (.node (o240 P) .nil .nil)) (.node (o142 P) (.node (o208 P) (.node (o338 P) .nil .nil) .nil) (.node (o274 P) .nil .nil)))))) (.node (boot_o_6 P) (.node (boot_o_10 P) (.node (o9 P) (.node (o28 P) (.node (o69 P) (.node (o148 P) (.node (o280 P) .nil .nil) .nil) (.node (o214 P) .nil .nil)) (.node (o107 P) (.node (o180 P) (.node (o312 P) .nil .nil) .nil) (.node (o246 P) .nil .nil))) (.node (o47 P) (.node (o88 P) (.node (o164 P) (.node (o296 P) .nil .nil) .nil) (.node (o230 P) .nil .nil)) (.node (o129 P) (.node (o198 P) (.node (o328 P) .nil .nil) .nil) (.node (o262 P) .nil .nil)))) (.node (o17 P) (.node (o39 P) (.node (o77 P) (.node (o156 P) (.node (o288 P) .nil .nil) .nil) (.node (o222 P) .nil .nil)) (.node (o118 P) (.node (o190 P) (.node (o320 P) .nil .nil) .nil) (.node (o254 P) .nil .nil))) (.node (o58 P) (.node (o99 P) (.node (o172 P) (.node (o304 P) .nil .nil) .nil) (.node (o238 P) .nil .nil)) (.node (o137 P) (.node (o206 P) (.node (o336 P) .nil .nil) .nil) (.node (o272 P) .nil .nil))))) (.node (o3 P) (.node (o13 P) (.node (o32 P) (.node (o73 P) (.node (o152 P) (.node (o284 P) .nil .nil) .nil) (.node (o218 P) .nil .nil)) (.node (o114 P) (.node (o184 P) (.node (o316 P) .nil .nil) .nil) (.node (o250 P) .nil .nil))) (.node (o54 P) (.node (o92 P) (.node (o168 P) (.node (o300 P) .nil .nil) .nil) (.node (o234 P) .nil .nil)) (.node (o133 P) (.node (o202 P) (.node (o332 P) .nil .nil) .nil) (.node (o268 P) .nil .nil)))) (.node (o24 P) (.node (o43 P) (.node (o84 P) (.node (o160 P) (.node (o292 P) .nil .nil) .nil) (.node (o226 P) .nil .nil)) (.node (o122 P) (.node (o194 P) (.node (o324 P) .nil .nil) .nil) (.node (o258 P) .nil .nil))) (.node (o62 P) (.node (o103 P) (.node (o176 P) (.node (o308 P) .nil .nil) .nil) (.node (o242 P) .nil .nil)) (.node (o144 P) (.node (o210 P) (.node (o340 P) .nil .nil) .nil) (.node (o276 P) .nil .nil))))))))
noncomputable def S12 (w : World) (os : OsState) : SharedT := ⟨tr12 w.params, 320, ⟨[], [], [], 0, [], [], false, #[], [], 0, false, false, false, 0, [2000, 10, 10], false, 0, true, [], [], 0, false⟩, #[], ⟨0, 0, 0, 0⟩, 603, os⟩
noncomputable def ss11 : List Stmt := (bdQ.drop 33).take 12
noncomputable def hpZ (P : Params) : Heap := ⟨#[boot_o_0 P, boot_o_1 P, boot_o_2 P, o266 P, boot_o_4 P, boot_o_5 P, boot_o_6 P, boot_o_7 P, boot_o_8 P, boot_o_9 P, boot_o_10 P, o0 P, o267 P, o2 P, o3 P, o6 P, o7 P, o8 P, o9 P, o10 P, o11 P, o12 P, o13 P, o14 P, o141 P, o16 P, o17 P, o18 P, o22 P, o23 P, o24 P, o25 P, o26 P, o27 P, o28 P, o29 P, o30 P, o31 P, o32 P, o33 P, o37 P, o38 P, o39 P, o40 P, o41 P, o42 P, o43 P, o44 P, o45 P, o46 P, o47 P, o48 P, o52 P, o53 P, o54 P, o55 P, o56 P, o57 P, o58 P, o59 P, o60 P, o61 P, o62 P, o63 P, o67 P, o68 P, o69 P, o70 P, o71 P, o72 P, o73 P, o74 P, o75 P, o76 P, o77 P, o78 P, o82 P, o83 P, o84 P, o85 P, o86 P, o87 P, o88 P, o89 P, o90 P, o91 P, o92 P, o93 P, o97 P, o98 P, o99 P, o100 P, o101 P, o102 P, o103 P, o104 P, o105 P, o106 P, o107 P, o108 P, o112 P, o113 P, o114 P, o115 P, o116 P, o117 P, o118 P, o119 P, o120 P, o121 P, o122 P, o123 P, o127 P, o128 P, o129 P, o130 P, o131 P, o132 P, o133 P, o134 P, o135 P, o136 P, o137 P, o138 P, o142 P, o143 P, o144 P, o145 P, o146 P, o147 P, o148 P, o149 P, o150 P, o151 P, o152 P, o153 P, o154 P, o155 P, o156 P, o157 P, o158 P, o159 P, o160 P, o161 P, o162 P, o163 P, o164 P, o165 P, o166 P, o167 P, o168 P, o169 P, o170 P, o171 P, o172 P, o173 P, o174 P, o175 P, o176 P, o177 P, o178 P, o179 P, o180 P, o181 P, o182 P, o183 P, o184 P, o187 P, o188 P, o189 P, o190 P, o191 P, o192 P, o193 P, o194 P, o195 P, o196 P, o197 P, o198 P, o199 P, o200 P, o201 P, o202 P, o203 P, o204 P, o205 P, o206 P, o207 P, o208 P, o209 P, o210 P, o211 P, o212 P, o213 P, o214 P, o215 P, o216 P, o217 P, o218 P, o219 P, o220 P, o221 P, o222 P, o223 P, o224 P, o225 P, o226 P, o227 P, o228 P, o229 P, o230 P, o231 P, o232 P, o233 P, o234 P, o235 P, o236 P, o237 P, o238 P, o239 P, o240 P, o241 P, o242 P, o243 P, o244 P, o245 P, o246 P, o247 P, o248 P, o249 P, o250 P, o251 P, o252 P, o253 P, o254 P, o255 P, o256 P, o257 P, o258 P, o259 P, o260 P, o261 P, o262 P, o263 P, o264 P, o265 P, o268 P, o269 P, o270 P, o271 P, o272 P, o273 P, o274 P, o275 P, o276 P, o277 P, o278 P, o279 P, o280 P, o281 P, o282 P, o283 P, o284 P, o285 P, o286 P, o287 P, o288 P, o289 P, o290 P, o291 P, o292 P, o293 P, o294 P, o295 P, o296 P, o297 P, o298 P, o299 P, o300 P, o301 P, o302 P, o303 P, o304 P, o305 P, o306 P, o307 P, o308 P, o309 P, o310 P, o311 P, o312 P, o313 P, o314 P, o315 P, o316 P, o317 P, o318 P, o319 P, o320 P, o321 P, o322 P, o323 P, o324 P, o325 P, o326 P, o327 P, o328 P, o329 P, o330 P, o331 P, o332 P, o333 P, o334 P, o335 P, o336 P, o337 P, o338 P, o339 P, o340 P, o341 P], ⟨[], [], [], 0, [], [], false, #[], [], 0, false, false, false, 0, [2000, 10, 10], false, 0, true, [], [], 0, false⟩⟩
noncomputable def K07 (P : Params) : Frag := [(185, o205 P), (187, o207 P), (188, o208 P), (3, o266 P), (23, o14 P), (24, o141 P), (36, o30 P), (37, o31 P), (48, o45 P), (49, o46 P), (60, o60 P), (61, o61 P), (72, o75 P), (73, o76 P), (84, o90 P), (85, o91 P), (96, o105 P), (97, o106 P), (108, o120 P), (109, o121 P), (120, o135 P), (121, o136 P), (132, o150 P), (133, o151 P)]
noncomputable def as07 : List Addr := [185, 187, 188, 3, 23, 24, 36, 37, 48, 49, 60, 61, 72, 73, 84, 85, 96, 97, 108, 109, 120, 121, 132, 133]
theorem pcA (w : World) (os : OsState) : topGo treeTable PySem.Challenge.pw_uf030027_07 w 11 an0 12 ⟨boot_heap w.params, Array.mk [], boot_drawn, boot_toks, os⟩ (topStub PySem.Challenge.pw_uf030027_07) = some (⟨hpA w.params, #[], ⟨0, 0, 0, 0⟩, 187, os⟩, ⟨denote treeTable cdQ, cdQ, ⟨0, 0, 0, 0⟩, [topFrame ps0]⟩) := q_go (by kernel_rfl)
theorem pcB (w : World) (os : OsState) : segRun treeTable PySem.Challenge.pw_uf030027_07 w 11 an0 1 1 ⟨hpA w.params, #[], ⟨0, 0, 0, 0⟩, 187, os⟩ (blockOf bdQ enQ cdQ ⟨0, 0, 0, 0⟩ [topFrame ps0]) = some (Flow.next, (S0 w os).abs, cdQ, ⟨0, 0, 0, 0⟩) := q_run (by kernel_rfl)
theorem pc0 (w : World) (os : OsState) : segRunT treeTable PySem.Challenge.pw_uf030027_07 w 11 an0 1 196 (S0 w os) (piecesOf ss0 enQ cdQ ⟨0, 0, 0, 0⟩ [topFrame ps0]) = some (Flow.next, S1 w os, cdQ, ⟨2, 0, 3, 8⟩) := q_seg (by kernel_rfl)
theorem pc1 (w : World) (os : OsState) : segRunT treeTable PySem.Challenge.pw_uf030027_07 w 11 an0 1 214 (S1 w os) (piecesOf ss1 enQ cdQ ⟨2, 0, 3, 8⟩ [topFrame ps0]) = some (Flow.next, S2 w os, cdQ, ⟨4, 0, 5, 8⟩) := q_seg (by kernel_rfl)
theorem pc2 (w : World) (os : OsState) : segRunT treeTable PySem.Challenge.pw_uf030027_07 w 11 an0 1 214 (S2 w os) (piecesOf ss2 enQ cdQ ⟨4, 0, 5, 8⟩ [topFrame ps0]) = some (Flow.next, S3 w os, cdQ, ⟨6, 0, 7, 8⟩) := q_seg (by kernel_rfl)
theorem pc3 (w : World) (os : OsState) : segRunT treeTable PySem.Challenge.pw_uf030027_07 w 11 an0 1 214 (S3 w os) (piecesOf ss3 enQ cdQ ⟨6, 0, 7, 8⟩ [topFrame ps0]) = some (Flow.next, S4 w os, cdQ, ⟨8, 0, 9, 8⟩) := q_seg (by kernel_rfl)
theorem pc4 (w : World) (os : OsState) : segRunT treeTable PySem.Challenge.pw_uf030027_07 w 11 an0 1 214 (S4 w os) (piecesOf ss4 enQ cdQ ⟨8, 0, 9, 8⟩ [topFrame ps0]) = some (Flow.next, S5 w os, cdQ, ⟨10, 0, 11, 8⟩) := q_seg (by kernel_rfl)
theorem pc5 (w : World) (os : OsState) : segRunT treeTable PySem.Challenge.pw_uf030027_07 w 11 an0 1 214 (S5 w os) (piecesOf ss5 enQ cdQ ⟨10, 0, 11, 8⟩ [topFrame ps0]) = some (Flow.next, S6 w os, cdQ, ⟨12, 0, 13, 8⟩) := q_seg (by kernel_rfl)
theorem pc6 (w : World) (os : OsState) : segRunT treeTable PySem.Challenge.pw_uf030027_07 w 11 an0 1 214 (S6 w os) (piecesOf ss6 enQ cdQ ⟨12, 0, 13, 8⟩ [topFrame ps0]) = some (Flow.next, S7 w os, cdQ, ⟨14, 0, 15, 8⟩) := q_seg (by kernel_rfl)
theorem pc7 (w : World) (os : OsState) : segRunT treeTable PySem.Challenge.pw_uf030027_07 w 11 an0 1 214 (S7 w os) (piecesOf ss7 enQ cdQ ⟨14, 0, 15, 8⟩ [topFrame ps0]) = some (Flow.next, S8 w os, cdQ, ⟨16, 0, 17, 8⟩) := q_seg (by kernel_rfl)
theorem pc8 (w : World) (os : OsState) : segRunT treeTable PySem.Challenge.pw_uf030027_07 w 11 an0 1 214 (S8 w os) (piecesOf ss8 enQ cdQ ⟨16, 0, 17, 8⟩ [topFrame ps0]) = some (Flow.next, S9 w os, cdQ, ⟨18, 0, 19, 8⟩) := q_seg (by kernel_rfl)
theorem pc9 (w : World) (os : OsState) : segRunT treeTable PySem.Challenge.pw_uf030027_07 w 11 an0 1 386 (S9 w os) (piecesOf ss9 enQ cdQ ⟨18, 0, 19, 8⟩ [topFrame ps0]) = some (Flow.next, S10 w os, cdQ, ⟨43, 0, 51, 16⟩) := q_seg (by kernel_rfl)
theorem pc10 (w : World) (os : OsState) : segRunT treeTable PySem.Challenge.pw_uf030027_07 w 11 an0 1 385 (S10 w os) (piecesOf ss10 enQ cdQ ⟨43, 0, 51, 16⟩ [topFrame ps0]) = some (Flow.next, S11 w os, cdQ, ⟨152, 0, 157, 21⟩) := q_seg (by kernel_rfl)
theorem pc11 (w : World) (os : OsState) : segRunT treeTable PySem.Challenge.pw_uf030027_07 w 11 an0 1 359 (S11 w os) (piecesOf ss11 enQ cdQ ⟨152, 0, 157, 21⟩ [topFrame ps0]) = some (Flow.next, S12 w os, cdQ, ⟨270, 0, 300, 70⟩) := q_seg (by kernel_rfl)
theorem pcZ (w : World) (os : OsState) : topRun treeTable PySem.Challenge.pw_uf030027_07 w 11 an0 2 (S12 w os).abs ⟨doneF .next, cdQ, ⟨270, 0, 300, 70⟩, [topFrame ps0]⟩ = some ⟨hpZ w.params, #[], ⟨0, 0, 0, 0⟩, 603, os⟩ := q_top (by kernel_rfl)
theorem bdE : bdQ = ss0 ++ (ss1 ++ (ss2 ++ (ss3 ++ (ss4 ++ (ss5 ++ (ss6 ++ (ss7 ++ (ss8 ++ (ss9 ++ (ss10 ++ (ss11 ++ ([])))))))))))) := by kernel_rfl
theorem rnQ (w : World) (os : OsState) : topRun treeTable PySem.Challenge.pw_uf030027_07 w 11 an0 (12 + (1 + (196 + (214 + (214 + (214 + (214 + (214 + (214 + (214 + (214 + (386 + (385 + (359 + 2)))))))))))))) ⟨boot_heap w.params, Array.mk [], boot_drawn, boot_toks, os⟩ (topStub PySem.Challenge.pw_uf030027_07) = some ⟨hpZ w.params, #[], ⟨0, 0, 0, 0⟩, 603, os⟩ := go_top (pcA w os) (piece_block (pcB w os) (rest_eq bdE (piece_app (segRun_of (pc0 w os)) (piece_app (segRun_of (pc1 w os)) (piece_app (segRun_of (pc2 w os)) (piece_app (segRun_of (pc3 w os)) (piece_app (segRun_of (pc4 w os)) (piece_app (segRun_of (pc5 w os)) (piece_app (segRun_of (pc6 w os)) (piece_app (segRun_of (pc7 w os)) (piece_app (segRun_of (pc8 w os)) (piece_app (segRun_of (pc9 w os)) (piece_app (segRun_of (pc10 w os)) (piece_app (segRun_of (pc11 w os)) (piece_nil (pcZ w os))))))))))))))))
noncomputable abbrev kp07 : List Nat := [1, 2, 3, 4, 5, 6, 7, 8, 9, 10, 12, 13, 15, 16, 18, 19, 20, 21, 22, 23, 24, 25, 27, 28, 29, 30, 31, 32, 33, 34, 35, 36, 37, 38, 39, 40, 41, 42, 43, 44]
noncomputable abbrev lo07 : List Str := []
noncomputable abbrev V07 : Program := view PySem.Challenge.pw_uf030027_07 kp07
noncomputable abbrev sZ (w : World) (os : OsState) : Shared := ⟨hpZ w.params, #[], ⟨0, 0, 0, 0⟩, 603, os⟩
noncomputable abbrev hk07 : Hook := kHook K07 as07 (fun _ => by kernel_rfl)
noncomputable abbrev xt07 (q : Program) (s : Shared) : Bool := xlAt q [] s && recOk [] s
theorem szQ (w : World) : ((boot_heap w.params).isNs mainGlobals && (Array.mk [] : Array GenState).size == 0, (boot_heap w.params).objs.size, (boot_heap w.params).nsMap mainGlobals "__annotations__") = (true, 11, an0) := by kernel_rfl
theorem lk0 (w : World) (os : OsState) : (staticsOk (importedModules PySem.Challenge.pw_uf030027_07.main.body) (boot_heap w.params) (hpZ w.params) && namesBound PySem.Challenge.pw_uf030027_07 (hpZ w.params) && gensDone (sZ w os) && laidKept (boot_heap w.params) (hpZ w.params)) = true := by kernel_rfl
theorem lk1 (w : World) (os : OsState) : seen ((recsOf V07).map (·.name)) (ownsOf V07) [] { sZ w os with gens := #[] } = expectedOf V07 := by kernel_rfl
theorem lk2 (w : World) (os : OsState) : (sZ w os).heap.bltView = bltViewBooted := by kernel_rfl
theorem lk3 (w : World) (os : OsState) : ((sZ w os).heap.keysOk (looseW V07 lo07) ((recsOf V07).map (·.name)) ((litsOf V07).map (·.1)) ((clssOf V07 (looseW V07 lo07)).map (·.name)) && (sZ w os).heap.accountedOkI (importedModules PySem.Challenge.pw_uf030027_07.main.body) && (sZ w os).heap.isNs mainGlobals && (sZ w os).heap.isNs builtinsNs && tablesOk V07 (sZ w os).heap && xt07 V07 (sZ w os) && (if true then (sZ w os).gens.size == 0 else !leftWithCleanup (sZ w os).gens)) = true := by kernel_rfl
theorem lk4 (w : World) (os : OsState) : tabsOk V07 (sZ w os) = true := by kernel_rfl
theorem lk5 (w : World) (os : OsState) : pinSeenD V07 (drecsOf V07) (sZ w os) = pinGoodD (drecsOf V07) := by kernel_rfl
theorem lk6 (w : World) (os : OsState) : plainSeenE V07 (looseW V07 lo07) (sZ w os) = plainGoodE V07 (looseW V07 lo07) := by kernel_rfl
theorem lk7 (w : World) (os : OsState) : plainSeenD V07 lo07 (sZ w os) = plainGoodD V07 lo07 := by kernel_rfl
theorem lk8 (w : World) (os : OsState) : wideSeen V07 (sZ w os) = wideGood V07 := by kernel_rfl
theorem lk9 (w : World) (os : OsState) : clsSeenW V07 lo07 (sZ w os) = clsGoodW V07 lo07 := by kernel_rfl
theorem lkY (w : World) (os : OsState) : hk07.obs (sZ w os) = hk07.val w := by kernel_rfl
theorem opQ : opening PySem.Challenge.pw_uf030027_07 = plainProg PySem.Challenge.pw_uf030027_07.main.scope.names := by kernel_rfl
theorem fnQ (s : Shared) : fenceModules? PySem.Challenge.pw_uf030027_07 s = some s := by kernel_rfl
theorem leQ : Nat.ble (12 + (1 + (196 + (214 + (214 + (214 + (214 + (214 + (214 + (214 + (214 + (386 + (385 + (359 + 2)))))))))))))) 6178 = true := by kernel_rfl
theorem lf07 : LeftO PySem.Challenge.pw_uf030027_07 V07 lo07 (xt07 V07) hk07.obs hk07.val 6178 :=
  left_of (H₀ := boot_heap) (H₁ := hpZ) (boot_open opQ (by kernel_rfl) fnQ) szQ rnQ leQ lk0 (fun w os => seen_eq (lk1 w os) (lk2 w os) (lk3 w os) (lk4 w os) (lk5 w os) (lk6 w os) (lk7 w os) (lk8 w os) (lk9 w os)) lkY
theorem saQ : OpenLaw.wellSaid PySem.Challenge.rw_uf030027_07 = true := by
  rw [PySem.W.Fast.te9446332074065402090]
  kernel_rfl
theorem dsQ : (defOf V07 (PySem.Str.ofString "law")).isSome = true := by kernel_rfl
theorem dpQ : PySem.Challenge.pw_uf030027_07.theDef (PySem.Str.ofString "law") = (defOf V07 (PySem.Str.ofString "law")).map fun x => (x.1.params, x.1.body, x.1.scope) := by kernel_rfl
theorem dkQ : (defOf V07 (PySem.Str.ofString "law")).bind (fun x => kwWritten? x.1.params.kwonlyargs x.1.params.kw_defaults) = (defOf V07 (PySem.Str.ofString "law")).map (·.2) := by kernel_rfl
theorem okQ : (chainsOk V07 && opensWell PySem.Challenge.pw_uf030027_07 && (frees PySem.Challenge.rw_uf030027_07.row.toRowW && PySem.Challenge.rw_uf030027_07.row.within.isEmpty)) = true := by kernel_rfl
theorem prQ : PySem.Challenge.rw_uf030027_07.row.toRowW.promised := by w_witness2
theorem hd07 (hc : ∀ d kwd, defOf V07 (PySem.Str.ofString "law") = some (d, kwd) → WalkO V07 lo07 (XL V07 []) hk07.says PySem.Challenge.rw_uf030027_07.row.toRowW d kwd fun f vs => PySem.call f vs) : PySem.Challenge.rw_uf030027_07.Holds := by
  obtain ⟨⟨d, kwd⟩, hdef⟩ := Option.isSome_iff_exists.mp dsQ
  have hp := dpQ
  have hk := dkQ
  rw [hdef] at hp hk
  refine holds_law saQ fun k1 => ?_
  exact holds_open (r := PySem.Challenge.rw_uf030027_07.row) (q := V07) (loose := lo07) (Xt := xt07 V07) (XP := XL V07 []) (Yf := hk07.obs) (Ya := hk07.val) (YP := hk07.says) (N := 6178) lf07 hk07.of hk07.keeps
    (fun s e => xl_of s (Bool.and_eq_true_iff.mp e).1) XL.keeps hdef hp hk (fun s e => recFacts_of (Bool.and_eq_true_iff.mp e).2) rfl k1 okQ ⟨rfl, rfl, rfl, rfl, rfl, by decide +kernel⟩ prQ (hc d kwd hdef)
noncomputable abbrev H07 : Params → Frag := K07
end Mine

namespace Mine
open PySem PyProof.Rows PySem.Calls PySem.W
set_option maxRecDepth 100000
section

set_option maxRecDepth 100000

noncomputable def fnR : Stmt → DefRec | .FunctionDef n a b _ _ _ s _ _ p => ⟨n, a, b, s, p⟩ | _ => ⟨"", default, [], default, default⟩
noncomputable def recs07 : List DefRec := List.map (fun k => fnR (fnS k)) [12, 13, 15, 16, 18, 19, 20, 21, 22, 23, 24, 25, 27, 28, 29, 30, 31, 32, 33, 34, 35, 36, 37, 38, 39, 40, 41, 42, 43, 44]
theorem recs07_eq : recsOf V07 = recs07 := by kernel_rfl
noncomputable def d07 (i : Nat) : DefRec := (recs07[i]?).getD ⟨"", default, [], default, default⟩
noncomputable abbrev c_DebtError_07 : Addr := 24
noncomputable abbrev c_BadCount_07 : Addr := 37
noncomputable abbrev c_BadDebt_07 : Addr := 49
noncomputable abbrev c_BadCut_07 : Addr := 61
noncomputable abbrev c_Uneven_07 : Addr := 73
noncomputable abbrev c_BadPrices_07 : Addr := 85
noncomputable abbrev c_NotBest_07 : Addr := 97
noncomputable abbrev c_NoDebt_07 : Addr := 109
noncomputable abbrev c_NoHouse_07 : Addr := 121
noncomputable abbrev c_BadAmount_07 : Addr := 133
noncomputable abbrev exCls : List Addr := [c_BadCount_07, c_BadDebt_07, c_BadCut_07, c_Uneven_07, c_BadPrices_07, c_NotBest_07, c_NoDebt_07, c_NoHouse_07, c_BadAmount_07]
noncomputable def okOwn (c0 : Addr) : Ty → Option Bool
  | .exc c => if c ∈ exCls then some (decide (c = c0)) else Option.none
  | _ => Option.none
noncomputable def okVal : Ty → Option Bool
  | .exc c => if c ∈ exCls then some true else Option.none
  | _ => Option.none
theorem okOwn_ok {K : Frag} {c0 : Addr} (h : ∀ c ∈ exCls, kitOne K (.ref c) (.ref c0) = some (decide (c = c0))) : ∀ ty b, okOwn c0 ty = some b → kitOne K ty.val (.ref c0) = some b := by
  intro ty b e
  cases ty with
  | exc c =>
    unfold okOwn at e
    dsimp only at e
    split at e
    · rename_i hc; cases e; exact h c hc
    · cases e
  | _ => cases e
theorem okVal_ok {K : Frag} {cv : Value} (h : ∀ c ∈ exCls, kitOne K (.ref c) cv = some true) : ∀ ty b, okVal ty = some b → kitOne K ty.val cv = some b := by
  intro ty b e
  cases ty with
  | exc c =>
    unfold okVal at e
    dsimp only at e
    split at e
    · rename_i hc; cases e; exact h c hc
    · cases e
  | _ => cases e
theorem okOwn_x {K : Frag} {c0 : Addr} (h : ∀ c ∈ exCls, ExcK K c) : ∀ c b, okOwn c0 (.exc c) = some b → ExcK K c := by
  intro c b e
  unfold okOwn at e
  dsimp only at e
  split at e
  · rename_i hc; exact h c hc
  · cases e
theorem okVal_x {K : Frag} (h : ∀ c ∈ exCls, ExcK K c) : ∀ c b, okVal (.exc c) = some b → ExcK K c := by
  intro c b e
  unfold okVal at e
  dsimp only at e
  split at e
  · rename_i hc; exact h c hc
  · cases e
noncomputable abbrev lamP : Addr := 185
noncomputable abbrev lamPos : Pos := { line := 83, col := 28, endLine := 83, endCol := 56 }
noncomputable abbrev lamQual : Str := "best.<locals>.<lambda>"
structure Fx07 (g : Gx) : Prop where
  d : ∀ i, i < 30 → DefAt g (d07 i)
  best : DefAtL g (d07 8)
  bestq : (d07 8).name ++ ".<locals>." = g.lamq
  lam : g.lam = .ref 187
  lamq : g.lamq ++ "<lambda>" = lamQual
  codeHd : CodeHd g.base 187 lamP
  modok : ModOk g
  b_isinstance : GlobAt g "isinstance" (.builtin "isinstance")
  b_len : GlobAt g "len" (.builtin "len")
  b_max : GlobAt g "max" (.builtin "max")
  b_min : GlobAt g "min" (.builtin "min")
  b_sum : GlobAt g "sum" (.builtin "sum")
  c_BadAmount : GlobAt g "BadAmount" (.ref c_BadAmount_07)
  c_BadCount : GlobAt g "BadCount" (.ref c_BadCount_07)
  c_BadCut : GlobAt g "BadCut" (.ref c_BadCut_07)
  c_BadDebt : GlobAt g "BadDebt" (.ref c_BadDebt_07)
  c_BadPrices : GlobAt g "BadPrices" (.ref c_BadPrices_07)
  c_DebtError : GlobAt g "DebtError" (.ref c_DebtError_07)
  c_NoDebt : GlobAt g "NoDebt" (.ref c_NoDebt_07)
  c_NoHouse : GlobAt g "NoHouse" (.ref c_NoHouse_07)
  c_NotBest : GlobAt g "NotBest" (.ref c_NotBest_07)
  c_Uneven : GlobAt g "Uneven" (.ref c_Uneven_07)
  c_ValueError : GlobAt g "ValueError" (.type "ValueError")
  c_bool : GlobAt g "bool" (.type "bool")
  c_int : GlobAt g "int" (.type "int")
  c_list : GlobAt g "list" (.type "list")
  c_range : GlobAt g "range" (.type "range")
  c_tuple : GlobAt g "tuple" (.type "tuple")
  o_BadCut : OwnCls "BadCut" c_BadCut_07 [.type "ValueError", .type "Exception", .type "BaseException", .type "object"] "ValueError.__new__" g.mg g.base
  o_NotBest : OwnCls "NotBest" c_NotBest_07 [.type "ValueError", .type "Exception", .type "BaseException", .type "object"] "ValueError.__new__" g.mg g.base
  o_Uneven : OwnCls "Uneven" c_Uneven_07 [.type "ValueError", .type "Exception", .type "BaseException", .type "object"] "ValueError.__new__" g.mg g.base
  i_BadAmount : ∀ c ∈ exCls, kitOne g.K (.ref c) (.ref c_BadAmount_07) = some (decide (c = c_BadAmount_07))
  i_BadCount : ∀ c ∈ exCls, kitOne g.K (.ref c) (.ref c_BadCount_07) = some (decide (c = c_BadCount_07))
  i_BadCut : ∀ c ∈ exCls, kitOne g.K (.ref c) (.ref c_BadCut_07) = some (decide (c = c_BadCut_07))
  i_BadDebt : ∀ c ∈ exCls, kitOne g.K (.ref c) (.ref c_BadDebt_07) = some (decide (c = c_BadDebt_07))
  i_BadPrices : ∀ c ∈ exCls, kitOne g.K (.ref c) (.ref c_BadPrices_07) = some (decide (c = c_BadPrices_07))
  i_NoDebt : ∀ c ∈ exCls, kitOne g.K (.ref c) (.ref c_NoDebt_07) = some (decide (c = c_NoDebt_07))
  i_NoHouse : ∀ c ∈ exCls, kitOne g.K (.ref c) (.ref c_NoHouse_07) = some (decide (c = c_NoHouse_07))
  i_NotBest : ∀ c ∈ exCls, kitOne g.K (.ref c) (.ref c_NotBest_07) = some (decide (c = c_NotBest_07))
  i_Uneven : ∀ c ∈ exCls, kitOne g.K (.ref c) (.ref c_Uneven_07) = some (decide (c = c_Uneven_07))
  i_ValueError : ∀ c ∈ exCls, kitOne g.K (.ref c) (.type "ValueError") = some true
  m : ∀ c ∈ exCls, exmOne g.K (.ref c) (.ref c_DebtError_07) = some true
  x : ∀ c ∈ exCls, ExcK g.K c
theorem all_cls {P : Addr → Prop} (h0 : P c_BadCount_07) (h1 : P c_BadDebt_07) (h2 : P c_BadCut_07) (h3 : P c_Uneven_07) (h4 : P c_BadPrices_07) (h5 : P c_NotBest_07) (h6 : P c_NoDebt_07) (h7 : P c_NoHouse_07) (h8 : P c_BadAmount_07) : ∀ c ∈ exCls, P c := by
  intro c hc
  simp only [exCls, List.mem_cons, List.not_mem_nil, or_false] at hc
  rcases hc with rfl | rfl | rfl | rfl | rfl | rfl | rfl | rfl | rfl
  · exact h0
  · exact h1
  · exact h2
  · exact h3
  · exact h4
  · exact h5
  · exact h6
  · exact h7
  · exact h8
theorem d07_mem (i : Nat) (h : i < 30) : d07 i ∈ recsOf V07 := by
  have e : recs07.length = 30 := by kernel_rfl
  rw [← e] at h
  rw [recs07_eq]
  unfold d07
  rw [List.getElem?_eq_getElem h]
  exact List.getElem_mem h
theorem fx07 {mean : ExcName → Option Value} {g0 g : Gx} {ps : Params} (T : Top V07 (looseW V07 []) mean g0.mg g0.mb g0.base) (Hd : HidOf lamP g0 g) (hK : g.K = (H07 ps).tail) (hl : g.lam = .ref 187) (hq : g.lamq = "best.<locals>.") : Fx07 g where
  d := fun i h => def_hid Hd (def_at T (d07_mem i h))
  best := def_best (def_hid Hd (def_at T (d07_mem 8 (by decide)))) (cls_at (by rw [hK]; kernel_rfl)) (g.inK 188 (o208 ps) (by rw [hK]; kernel_rfl)) (by rfl) hl
  bestq := by rw [hq]; kernel_rfl
  lam := hl
  lamq := by rw [hq]; kernel_rfl
  codeHd := ⟨o207 ps, _, _, _, _, _, _, _, _, g.inK 187 (o207 ps) (by rw [hK]; kernel_rfl), rfl, rfl, rfl, rfl, rfl, rfl, rfl, rfl, by decide⟩
  modok := mod_hid Hd T
  b_isinstance := glob_hid Hd (glob_free T (by kernel_rfl) (by decide +kernel) (by kernel_rfl))
  b_len := glob_hid Hd (glob_free T (by kernel_rfl) (by decide +kernel) (by kernel_rfl))
  b_max := glob_hid Hd (glob_free T (by kernel_rfl) (by decide +kernel) (by kernel_rfl))
  b_min := glob_hid Hd (glob_free T (by kernel_rfl) (by decide +kernel) (by kernel_rfl))
  b_sum := glob_hid Hd (glob_free T (by kernel_rfl) (by decide +kernel) (by kernel_rfl))
  c_BadAmount := .inl (cls_at (hK ▸ (by kernel_rfl)))
  c_BadCount := .inl (cls_at (hK ▸ (by kernel_rfl)))
  c_BadCut := .inl (cls_at (hK ▸ (by kernel_rfl)))
  c_BadDebt := .inl (cls_at (hK ▸ (by kernel_rfl)))
  c_BadPrices := .inl (cls_at (hK ▸ (by kernel_rfl)))
  c_DebtError := .inl (cls_at (hK ▸ (by kernel_rfl)))
  c_NoDebt := .inl (cls_at (hK ▸ (by kernel_rfl)))
  c_NoHouse := .inl (cls_at (hK ▸ (by kernel_rfl)))
  c_NotBest := .inl (cls_at (hK ▸ (by kernel_rfl)))
  c_Uneven := .inl (cls_at (hK ▸ (by kernel_rfl)))
  c_ValueError := glob_hid Hd (glob_free T (by kernel_rfl) (by decide +kernel) (by kernel_rfl))
  c_bool := glob_hid Hd (glob_free T (by kernel_rfl) (by decide +kernel) (by kernel_rfl))
  c_int := glob_hid Hd (glob_free T (by kernel_rfl) (by decide +kernel) (by kernel_rfl))
  c_list := glob_hid Hd (glob_free T (by kernel_rfl) (by decide +kernel) (by kernel_rfl))
  c_range := glob_hid Hd (glob_free T (by kernel_rfl) (by decide +kernel) (by kernel_rfl))
  c_tuple := glob_hid Hd (glob_free T (by kernel_rfl) (by decide +kernel) (by kernel_rfl))
  o_BadCut := own_of_in (K := g.K) g.inK (read_hid Hd T) (hK ▸ (by kernel_rfl)) (hK ▸ (by kernel_rfl))
  o_NotBest := own_of_in (K := g.K) g.inK (read_hid Hd T) (hK ▸ (by kernel_rfl)) (hK ▸ (by kernel_rfl))
  o_Uneven := own_of_in (K := g.K) g.inK (read_hid Hd T) (hK ▸ (by kernel_rfl)) (hK ▸ (by kernel_rfl))
  i_BadAmount := by rw [hK]; exact all_cls (by kernel_rfl) (by kernel_rfl) (by kernel_rfl) (by kernel_rfl) (by kernel_rfl) (by kernel_rfl) (by kernel_rfl) (by kernel_rfl) (by kernel_rfl)
  i_BadCount := by rw [hK]; exact all_cls (by kernel_rfl) (by kernel_rfl) (by kernel_rfl) (by kernel_rfl) (by kernel_rfl) (by kernel_rfl) (by kernel_rfl) (by kernel_rfl) (by kernel_rfl)
  i_BadCut := by rw [hK]; exact all_cls (by kernel_rfl) (by kernel_rfl) (by kernel_rfl) (by kernel_rfl) (by kernel_rfl) (by kernel_rfl) (by kernel_rfl) (by kernel_rfl) (by kernel_rfl)
  i_BadDebt := by rw [hK]; exact all_cls (by kernel_rfl) (by kernel_rfl) (by kernel_rfl) (by kernel_rfl) (by kernel_rfl) (by kernel_rfl) (by kernel_rfl) (by kernel_rfl) (by kernel_rfl)
  i_BadPrices := by rw [hK]; exact all_cls (by kernel_rfl) (by kernel_rfl) (by kernel_rfl) (by kernel_rfl) (by kernel_rfl) (by kernel_rfl) (by kernel_rfl) (by kernel_rfl) (by kernel_rfl)
  i_NoDebt := by rw [hK]; exact all_cls (by kernel_rfl) (by kernel_rfl) (by kernel_rfl) (by kernel_rfl) (by kernel_rfl) (by kernel_rfl) (by kernel_rfl) (by kernel_rfl) (by kernel_rfl)
  i_NoHouse := by rw [hK]; exact all_cls (by kernel_rfl) (by kernel_rfl) (by kernel_rfl) (by kernel_rfl) (by kernel_rfl) (by kernel_rfl) (by kernel_rfl) (by kernel_rfl) (by kernel_rfl)
  i_NotBest := by rw [hK]; exact all_cls (by kernel_rfl) (by kernel_rfl) (by kernel_rfl) (by kernel_rfl) (by kernel_rfl) (by kernel_rfl) (by kernel_rfl) (by kernel_rfl) (by kernel_rfl)
  i_Uneven := by rw [hK]; exact all_cls (by kernel_rfl) (by kernel_rfl) (by kernel_rfl) (by kernel_rfl) (by kernel_rfl) (by kernel_rfl) (by kernel_rfl) (by kernel_rfl) (by kernel_rfl)
  i_ValueError := by rw [hK]; exact all_cls (by kernel_rfl) (by kernel_rfl) (by kernel_rfl) (by kernel_rfl) (by kernel_rfl) (by kernel_rfl) (by kernel_rfl) (by kernel_rfl) (by kernel_rfl)
  m := by rw [hK]; exact all_cls (by kernel_rfl) (by kernel_rfl) (by kernel_rfl) (by kernel_rfl) (by kernel_rfl) (by kernel_rfl) (by kernel_rfl) (by kernel_rfl) (by kernel_rfl)
  x := by rw [hK]; exact all_cls ⟨by kernel_rfl, by kernel_rfl, by kernel_rfl, by kernel_rfl, by kernel_rfl, by kernel_rfl⟩ ⟨by kernel_rfl, by kernel_rfl, by kernel_rfl, by kernel_rfl, by kernel_rfl, by kernel_rfl⟩ ⟨by kernel_rfl, by kernel_rfl, by kernel_rfl, by kernel_rfl, by kernel_rfl, by kernel_rfl⟩ ⟨by kernel_rfl, by kernel_rfl, by kernel_rfl, by kernel_rfl, by kernel_rfl, by kernel_rfl⟩ ⟨by kernel_rfl, by kernel_rfl, by kernel_rfl, by kernel_rfl, by kernel_rfl, by kernel_rfl⟩ ⟨by kernel_rfl, by kernel_rfl, by kernel_rfl, by kernel_rfl, by kernel_rfl, by kernel_rfl⟩ ⟨by kernel_rfl, by kernel_rfl, by kernel_rfl, by kernel_rfl, by kernel_rfl, by kernel_rfl⟩ ⟨by kernel_rfl, by kernel_rfl, by kernel_rfl, by kernel_rfl, by kernel_rfl, by kernel_rfl⟩ ⟨by kernel_rfl, by kernel_rfl, by kernel_rfl, by kernel_rfl, by kernel_rfl, by kernel_rfl⟩
noncomputable abbrev tb_is_number_1 : TS := tSeq (tRet (tAndE (tIsinst (tName "value") okInt) (tNotE (tIsinst (tName "value") okBool)))) (tNil)
noncomputable def tb_is_number : TS := tb_is_number_1
noncomputable def T_is_number : TF := tFun ["value"] tb_is_number
set_option maxRecDepth 100000 in
set_option maxHeartbeats 4000000 in
theorem s_is_number {g : Gx} (F : Fx07 g) {q : Bool} : HasF g 1 q "is_number" T_is_number :=
  has_def (F.d 0 (by decide)) rfl (fun _ _ _ vals h => by obtain ⟨a, rfl⟩ := len1 h; rfl) (by decide +kernel) rfl rfl rfl (show SoundSs g 0 _ _ _ tb_is_number from (sound_cons (sound_ret (sound_and (sound_isinst (sound_local (by decide +kernel) (by decide +kernel)) (by decide +kernel) F.b_isinstance (by decide +kernel) (by decide +kernel) F.c_int okInt_ok (fun _ _ e => by cases e) (fun _ => rfl)) (sound_one (sound_not (sound_isinst (sound_local (by decide +kernel) (by decide +kernel)) (by decide +kernel) F.b_isinstance (by decide +kernel) (by decide +kernel) F.c_bool okBool_ok (fun _ _ e => by cases e) (fun _ => rfl)))))) (sound_nil)))
noncomputable abbrev tb_balances_1 : TS := tSeq (tRet (tName "found")) (tNil)
noncomputable abbrev tb_balances_2 : TS := tSeq (tStore (tName "found") (tItem (tName "debt") (tConst (.int 1))) (tBin .Add (tItem (tName "found") (tItem (tName "debt") (tConst (.int 1)))) (tItem (tName "debt") (tConst (.int 2))))) (tNil)
noncomputable abbrev tb_balances_3 : TS := tSeq (tStore (tName "found") (tItem (tName "debt") (tConst (.int 0))) (tBin .Sub (tItem (tName "found") (tItem (tName "debt") (tConst (.int 0)))) (tItem (tName "debt") (tConst (.int 2))))) (tb_balances_2)
noncomputable abbrev tb_balances_4 : TS := tSeq (tFor "debt" (tName "debts") (tb_balances_3)) (tb_balances_1)
noncomputable abbrev tb_balances_5 : TS := tSeq (tSet "found" (tComp "house" [] (tCall (tEcons (tName "count") (tEnil)) rangeF) (tTrue) (tConst (.int 0)))) (tb_balances_4)
noncomputable def tb_balances : TS := tb_balances_5
noncomputable def T_balances : TF := tFun ["count", "debts"] tb_balances
set_option maxRecDepth 100000 in
set_option maxHeartbeats 4000000 in
theorem s_balances {g : Gx} (F : Fx07 g) : HasF g 1 true "balances" T_balances :=
  has_def (F.d 1 (by decide)) rfl (fun _ _ _ vals h => by obtain ⟨a, b, rfl⟩ := len2 h; rfl) (by decide +kernel) rfl rfl rfl (show SoundSs g 0 _ _ _ tb_balances from (sound_cons (sound_setcomp (compOk (by decide +kernel) (by decide +kernel) (by decide +kernel) (by decide +kernel) (by decide +kernel) (by decide +kernel)) (sound_callT (by decide +kernel) (by decide +kernel) F.c_range (sound_econs (sound_local (by decide +kernel) (by decide +kernel)) (sound_enil) (fun _ => rfl)) bi_range) (ifs_nil) (sound_int) (fun _ _ => rfl) (.inl (by decide +kernel)) (swapsTrue (by decide +kernel))) (sound_cons (sound_for (sound_local (by decide +kernel) (by decide +kernel)) (sound_cons (sound_store (sound_bin (sound_item (sound_local (by decide +kernel) (by decide +kernel)) (sound_item (sound_local (by decide +kernel) (by decide +kernel)) (sound_int) (fun _ _ _ => rfl)) (fun _ _ _ => rfl)) (sound_item (sound_local (by decide +kernel) (by decide +kernel)) (sound_int) (fun _ _ _ => rfl))) (sound_local (by decide +kernel) (by decide +kernel)) (sound_item (sound_local (by decide +kernel) (by decide +kernel)) (sound_int) (fun _ _ _ => rfl)) (fun _ _ => rfl)) (sound_cons (sound_store (sound_bin (sound_item (sound_local (by decide +kernel) (by decide +kernel)) (sound_item (sound_local (by decide +kernel) (by decide +kernel)) (sound_int) (fun _ _ _ => rfl)) (fun _ _ _ => rfl)) (sound_item (sound_local (by decide +kernel) (by decide +kernel)) (sound_int) (fun _ _ _ => rfl))) (sound_local (by decide +kernel) (by decide +kernel)) (sound_item (sound_local (by decide +kernel) (by decide +kernel)) (sound_int) (fun _ _ _ => rfl)) (fun _ _ => rfl)) (sound_nil))) (.inl (by decide +kernel)) (fun _ _ => rfl)) (sound_cons (sound_ret (sound_local (by decide +kernel) (by decide +kernel))) (sound_nil)))))
noncomputable abbrev tb_need_cut_1 : TS := tSeq (tRaise c_BadCut_07 (tEcons (tConst (.str "from nought to the amount")) (tEnil))) (tNil)
noncomputable abbrev tb_need_cut_2 : TS := tSeq (tIf (tOr (tNot (tTest (tCall (tEcons (tItem (tName "cut") (tName "number")) (tEnil)) T_is_number))) (tOr (tNot (tChainB .LtE .LtE (tConst (.int 0)) (tItem (tName "cut") (tName "number")) (tItem (tItem (tName "debts") (tName "number")) (tConst (.int 2))))) (tFalse))) (tb_need_cut_1) (tNil)) (tNil)
noncomputable abbrev tb_need_cut_3 : TS := tSeq (tFor "number" (tCall (tEcons (tCall (tEcons (tName "debts") (tEnil)) lenF) (tEnil)) rangeF) (tb_need_cut_2)) (tNil)
noncomputable abbrev tb_need_cut_4 : TS := tSeq (tRaise c_BadCut_07 (tEcons (tConst (.str "a number for each debt")) (tEnil))) (tNil)
noncomputable abbrev tb_need_cut_5 : TS := tSeq (tIf (tOr (tNot (tTest (tIsinst (tName "cut") okList))) (tOr (tCmpB .NotEq (tCall (tEcons (tName "cut") (tEnil)) lenF) (tCall (tEcons (tName "debts") (tEnil)) lenF)) (tFalse))) (tb_need_cut_4) (tNil)) (tb_need_cut_3)
noncomputable def tb_need_cut : TS := tb_need_cut_5
noncomputable def T_need_cut : TF := tFun ["debts", "cut"] tb_need_cut
set_option maxRecDepth 100000 in
set_option maxHeartbeats 4000000 in
theorem s_need_cut {g : Gx} (F : Fx07 g) : HasF g 2 true "need_cut" T_need_cut :=
  has_def (F.d 2 (by decide)) rfl (fun _ _ _ vals h => by obtain ⟨a, b, rfl⟩ := len2 h; rfl) (by decide +kernel) rfl rfl rfl (show SoundSs g 1 _ _ _ tb_need_cut from (sound_cons (sound_if (soundB_or (soundB_not (soundB_plain (sound_isinst (sound_local (by decide +kernel) (by decide +kernel)) (by decide +kernel) F.b_isinstance (by decide +kernel) (by decide +kernel) F.c_list okList_ok (fun _ _ e => by cases e) (fun _ => rfl)) (fun _ _ => rfl))) (soundB_or (soundB_cmp (sound_callB (by decide +kernel) (by decide +kernel) F.b_len (sound_econs (sound_local (by decide +kernel) (by decide +kernel)) (sound_enil) (fun _ => rfl)) bi_len) (sound_callB (by decide +kernel) (by decide +kernel) F.b_len (sound_econs (sound_local (by decide +kernel) (by decide +kernel)) (sound_enil) (fun _ => rfl)) bi_len) rfl) (soundB_orNil))) (sound_cons (sound_raise F.o_BadCut PySem.F.excBase_ValueError (sound_econs (sound_str) (sound_enil) (fun _ => rfl)) (by decide +kernel) (by decide +kernel)) (sound_nil)) (sound_nil)) (sound_cons (sound_for (sound_callT (by decide +kernel) (by decide +kernel) F.c_range (sound_econs (sound_callB (by decide +kernel) (by decide +kernel) F.b_len (sound_econs (sound_local (by decide +kernel) (by decide +kernel)) (sound_enil) (fun _ => rfl)) bi_len) (sound_enil) (fun _ => rfl)) bi_range) (sound_cons (sound_if (soundB_or (soundB_not (soundB_plain (sound_callF (s_is_number F) (sound_econs (sound_item (sound_local (by decide +kernel) (by decide +kernel)) (sound_local (by decide +kernel) (by decide +kernel)) (fun _ _ _ => rfl)) (sound_enil) (fun _ => rfl)) (by decide +kernel) (by decide +kernel) (by decide)) (fun _ _ => rfl))) (soundB_or (soundB_not (soundB_chain (sound_int) (sound_item (sound_local (by decide +kernel) (by decide +kernel)) (sound_local (by decide +kernel) (by decide +kernel)) (fun _ _ _ => rfl)) (sound_item (sound_item (sound_local (by decide +kernel) (by decide +kernel)) (sound_local (by decide +kernel) (by decide +kernel)) (fun _ _ _ => rfl)) (sound_int) (fun _ _ _ => rfl)) rfl)) (soundB_orNil))) (sound_cons (sound_raise F.o_BadCut PySem.F.excBase_ValueError (sound_econs (sound_str) (sound_enil) (fun _ => rfl)) (by decide +kernel) (by decide +kernel)) (sound_nil)) (sound_nil)) (sound_nil)) (.inl (by decide +kernel)) (fun _ _ => rfl)) (sound_nil))))
noncomputable abbrev tb_even_1 : TS := tSeq (tRet (tCmp .Eq (tCall (tEcons (tName "count") (tEcons (tName "parts") (tEnil))) T_balances) (tComp "house" [] (tCall (tEcons (tName "count") (tEnil)) rangeF) (tTrue) (tConst (.int 0))))) (tNil)
noncomputable abbrev tb_even_2 : TS := tSeq (tSet "parts" (tComp "number" ["cut", "debts"] (tCall (tEcons (tCall (tEcons (tName "debts") (tEnil)) lenF) (tEnil)) rangeF) (tTrue) (tTup (tEcons (tItem (tItem (tName "debts") (tName "number")) (tConst (.int 0))) (tEcons (tItem (tItem (tName "debts") (tName "number")) (tConst (.int 1))) (tEcons (tItem (tName "cut") (tName "number")) (tEnil))))))) (tb_even_1)
noncomputable abbrev tb_even_3 : TS := tSeq (tExpr (tCall (tEcons (tName "debts") (tEcons (tName "cut") (tEnil))) T_need_cut)) (tb_even_2)
noncomputable def tb_even : TS := tb_even_3
noncomputable def T_even : TF := tFun ["count", "debts", "cut"] tb_even
set_option maxRecDepth 100000 in
set_option maxHeartbeats 4000000 in
theorem s_even {g : Gx} (F : Fx07 g) : HasF g 3 true "even" T_even :=
  has_def (F.d 3 (by decide)) rfl (fun _ _ _ vals h => by obtain ⟨a, b, c, rfl⟩ := len3 h; rfl) (by decide +kernel) rfl rfl rfl (show SoundSs g 2 _ _ _ tb_even from (sound_cons (sound_expr (sound_callF (s_need_cut F) (sound_econs (sound_cell (by decide +kernel) (by decide +kernel)) (sound_econs (sound_cell (by decide +kernel) (by decide +kernel)) (sound_enil) (fun _ => rfl)) (fun _ => rfl)) (by decide +kernel) (by decide +kernel) (by decide)) (fun _ _ => rfl)) (sound_cons (sound_setcomp (compOk (by decide +kernel) (by decide +kernel) (by decide +kernel) (by decide +kernel) (by decide +kernel) (by decide +kernel)) (sound_callT (by decide +kernel) (by decide +kernel) F.c_range (sound_econs (sound_callB (by decide +kernel) (by decide +kernel) F.b_len (sound_econs (sound_cell (by decide +kernel) (by decide +kernel)) (sound_enil) (fun _ => rfl)) bi_len) (sound_enil) (fun _ => rfl)) bi_range) (ifs_nil) (sound_tuple (sound_econs (sound_item (sound_item (sound_cell (by decide +kernel) (by decide +kernel)) (sound_local (by decide +kernel) (by decide +kernel)) (fun _ _ _ => rfl)) (sound_int) (fun _ _ _ => rfl)) (sound_econs (sound_item (sound_item (sound_cell (by decide +kernel) (by decide +kernel)) (sound_local (by decide +kernel) (by decide +kernel)) (fun _ _ _ => rfl)) (sound_int) (fun _ _ _ => rfl)) (sound_econs (sound_item (sound_cell (by decide +kernel) (by decide +kernel)) (sound_local (by decide +kernel) (by decide +kernel)) (fun _ _ _ => rfl)) (sound_enil) (fun _ => rfl)) (fun _ => rfl)) (fun _ => rfl))) (fun _ _ => rfl) (.inl (by decide +kernel)) (swapsTrue (by decide +kernel))) (sound_cons (sound_ret (sound_cmp (sound_callF (s_balances F) (sound_econs (sound_local (by decide +kernel) (by decide +kernel)) (sound_econs (sound_local (by decide +kernel) (by decide +kernel)) (sound_enil) (fun _ => rfl)) (fun _ => rfl)) (by decide +kernel) (by decide +kernel) (by decide)) (sound_comp (compOk (by decide +kernel) (by decide +kernel) (by decide +kernel) (by decide +kernel) (by decide +kernel) (by decide +kernel)) (sound_callT (by decide +kernel) (by decide +kernel) F.c_range (sound_econs (sound_local (by decide +kernel) (by decide +kernel)) (sound_enil) (fun _ => rfl)) bi_range) (ifs_nil) (sound_int) (fun _ _ => rfl)) rfl)) (sound_nil)))))
noncomputable abbrev tb_steps_1 : TS := tSeq (tRet (tName "found")) (tNil)
noncomputable abbrev tb_steps_2 : TS := tSeq (tExpr (tMeth appendF (tName "found") (tEcons (tTup (tEcons (tItem (tName "debt") (tConst (.int 1))) (tEcons (tItem (tName "debt") (tConst (.int 0))) (tEcons (tConst (.int 1)) (tEcons (tItem (tName "cut") (tName "number")) (tEcons (tName "number") (tEcons (tNeg (tConst (.int 1))) (tEnil)))))))) (tEnil)))) (tNil)
noncomputable abbrev tb_steps_3 : TS := tSeq (tIf (tCmpB .Gt (tItem (tName "cut") (tName "number")) (tConst (.int 0))) (tb_steps_2) (tNil)) (tNil)
noncomputable abbrev tb_steps_4 : TS := tSeq (tExpr (tMeth appendF (tName "found") (tEcons (tTup (tEcons (tItem (tName "debt") (tConst (.int 0))) (tEcons (tItem (tName "debt") (tConst (.int 1))) (tEcons (tNeg (tConst (.int 1))) (tEcons (tBin .Sub (tItem (tName "debt") (tConst (.int 2))) (tItem (tName "cut") (tName "number"))) (tEcons (tName "number") (tEcons (tConst (.int 1)) (tEnil)))))))) (tEnil)))) (tNil)
noncomputable abbrev tb_steps_5 : TS := tSeq (tIf (tCmpB .Lt (tItem (tName "cut") (tName "number")) (tItem (tName "debt") (tConst (.int 2)))) (tb_steps_4) (tNil)) (tb_steps_3)
noncomputable abbrev tb_steps_6 : TS := tSeq (tSet "debt" (tItem (tName "debts") (tName "number"))) (tb_steps_5)
noncomputable abbrev tb_steps_7 : TS := tSeq (tFor "number" (tCall (tEcons (tCall (tEcons (tName "debts") (tEnil)) lenF) (tEnil)) rangeF) (tb_steps_6)) (tb_steps_1)
noncomputable abbrev tb_steps_8 : TS := tSeq (tSet "found" (tList (tEnil))) (tb_steps_7)
noncomputable def tb_steps : TS := tb_steps_8
noncomputable def T_steps : TF := tFun ["debts", "cut"] tb_steps
set_option maxRecDepth 100000 in
set_option maxHeartbeats 4000000 in
theorem s_steps {g : Gx} (F : Fx07 g) : HasF g 1 true "steps" T_steps :=
  has_def (F.d 4 (by decide)) rfl (fun _ _ _ vals h => by obtain ⟨a, b, rfl⟩ := len2 h; rfl) (by decide +kernel) rfl rfl rfl (show SoundSs g 0 _ _ _ tb_steps from (sound_cons (sound_set (sound_list (sound_enil)) (.inl (by decide +kernel)) (fun _ _ => rfl)) (sound_cons (sound_for (sound_callT (by decide +kernel) (by decide +kernel) F.c_range (sound_econs (sound_callB (by decide +kernel) (by decide +kernel) F.b_len (sound_econs (sound_local (by decide +kernel) (by decide +kernel)) (sound_enil) (fun _ => rfl)) bi_len) (sound_enil) (fun _ => rfl)) bi_range) (sound_cons (sound_set (sound_item (sound_local (by decide +kernel) (by decide +kernel)) (sound_local (by decide +kernel) (by decide +kernel)) (fun _ _ _ => rfl)) (.inl (by decide +kernel)) (fun _ _ => rfl)) (sound_cons (sound_if (soundB_cmp (sound_item (sound_local (by decide +kernel) (by decide +kernel)) (sound_local (by decide +kernel) (by decide +kernel)) (fun _ _ _ => rfl)) (sound_item (sound_local (by decide +kernel) (by decide +kernel)) (sound_int) (fun _ _ _ => rfl)) rfl) (sound_cons (sound_expr (sound_meth (sound_local (by decide +kernel) (by decide +kernel)) (sound_econs (sound_tuple (sound_econs (sound_item (sound_local (by decide +kernel) (by decide +kernel)) (sound_int) (fun _ _ _ => rfl)) (sound_econs (sound_item (sound_local (by decide +kernel) (by decide +kernel)) (sound_int) (fun _ _ _ => rfl)) (sound_econs (sound_neg (sound_int)) (sound_econs (sound_bin (sound_item (sound_local (by decide +kernel) (by decide +kernel)) (sound_int) (fun _ _ _ => rfl)) (sound_item (sound_local (by decide +kernel) (by decide +kernel)) (sound_local (by decide +kernel) (by decide +kernel)) (fun _ _ _ => rfl))) (sound_econs (sound_local (by decide +kernel) (by decide +kernel)) (sound_econs (sound_int) (sound_enil) (fun _ => rfl)) (fun _ => rfl)) (fun _ => rfl)) (fun _ => rfl)) (fun _ => rfl)) (fun _ => rfl))) (sound_enil) (fun _ => rfl)) me_append (fun _ _ => rfl) (by decide) rfl slot_append ty_append) (fun _ _ => rfl)) (sound_nil)) (sound_nil)) (sound_cons (sound_if (soundB_cmp (sound_item (sound_local (by decide +kernel) (by decide +kernel)) (sound_local (by decide +kernel) (by decide +kernel)) (fun _ _ _ => rfl)) (sound_int) rfl) (sound_cons (sound_expr (sound_meth (sound_local (by decide +kernel) (by decide +kernel)) (sound_econs (sound_tuple (sound_econs (sound_item (sound_local (by decide +kernel) (by decide +kernel)) (sound_int) (fun _ _ _ => rfl)) (sound_econs (sound_item (sound_local (by decide +kernel) (by decide +kernel)) (sound_int) (fun _ _ _ => rfl)) (sound_econs (sound_int) (sound_econs (sound_item (sound_local (by decide +kernel) (by decide +kernel)) (sound_local (by decide +kernel) (by decide +kernel)) (fun _ _ _ => rfl)) (sound_econs (sound_local (by decide +kernel) (by decide +kernel)) (sound_econs (sound_neg (sound_int)) (sound_enil) (fun _ => rfl)) (fun _ => rfl)) (fun _ => rfl)) (fun _ => rfl)) (fun _ => rfl)) (fun _ => rfl))) (sound_enil) (fun _ => rfl)) me_append (fun _ _ => rfl) (by decide) rfl slot_append ty_append) (fun _ _ => rfl)) (sound_nil)) (sound_nil)) (sound_nil)))) (.inl (by decide +kernel)) (fun _ _ => rfl)) (sound_cons (sound_ret (sound_local (by decide +kernel) (by decide +kernel))) (sound_nil)))))
noncomputable abbrev tb_cheapest_1 : TS := tSeq (tRet (tTup (tEcons (tName "known") (tEcons (tName "last") (tEnil))))) (tNil)
noncomputable abbrev tb_cheapest_2 : TS := tSeq (tSet "changing" (tConst (.bool true))) (tNil)
noncomputable abbrev tb_cheapest_3 : TS := tSeq (tStore (tName "last") (tItem (tName "move") (tConst (.int 1))) (tName "move")) (tb_cheapest_2)
noncomputable abbrev tb_cheapest_4 : TS := tSeq (tStore (tName "known") (tItem (tName "move") (tConst (.int 1))) (tName "here")) (tb_cheapest_3)
noncomputable abbrev tb_cheapest_5 : TS := tSeq (tIf (tOr (tCmpB .Is (tItem (tName "known") (tItem (tName "move") (tConst (.int 1)))) (tConst .none)) (tOr (tCmpB .Lt (tName "here") (tItem (tName "known") (tItem (tName "move") (tConst (.int 1))))) (tFalse))) (tb_cheapest_4) (tNil)) (tNil)
noncomputable abbrev tb_cheapest_6 : TS := tSeq (tSet "here" (tTup (tEcons (tBin .Add (tItem (tItem (tName "known") (tItem (tName "move") (tConst (.int 0)))) (tConst (.int 0))) (tItem (tName "move") (tConst (.int 2)))) (tEcons (tBin .Add (tItem (tItem (tName "known") (tItem (tName "move") (tConst (.int 0)))) (tConst (.int 1))) (tConst (.int 1))) (tEnil))))) (tb_cheapest_5)
noncomputable abbrev tb_cheapest_7 : TS := tSeq (tIf (tCmpB .IsNot (tItem (tName "known") (tItem (tName "move") (tConst (.int 0)))) (tConst .none)) (tb_cheapest_6) (tNil)) (tNil)
noncomputable abbrev tb_cheapest_8 : TS := tSeq (tFor "move" (tName "moves") (tb_cheapest_7)) (tNil)
noncomputable abbrev tb_cheapest_9 : TS := tSeq (tSet "changing" (tConst (.bool false))) (tb_cheapest_8)
noncomputable abbrev tb_cheapest_10 : TS := tSeq (tWhile (tTest (tName "changing")) (tb_cheapest_9)) (tb_cheapest_1)
noncomputable abbrev tb_cheapest_11 : TS := tSeq (tSet "changing" (tConst (.bool true))) (tb_cheapest_10)
noncomputable abbrev tb_cheapest_12 : TS := tSeq (tStore (tName "known") (tName "house") (tTup (tEcons (tConst (.int 0)) (tEcons (tConst (.int 0)) (tEnil))))) (tNil)
noncomputable abbrev tb_cheapest_13 : TS := tSeq (tFor "house" (tName "starts") (tb_cheapest_12)) (tb_cheapest_11)
noncomputable abbrev tb_cheapest_14 : TS := tSeq (tSet "last" (tComp "house" [] (tCall (tEcons (tName "count") (tEnil)) rangeF) (tTrue) (tConst .none))) (tb_cheapest_13)
noncomputable abbrev tb_cheapest_15 : TS := tSeq (tSet "known" (tComp "house" [] (tCall (tEcons (tName "count") (tEnil)) rangeF) (tTrue) (tConst .none))) (tb_cheapest_14)
noncomputable def tb_cheapest : TS := tb_cheapest_15
noncomputable def T_cheapest : TF := tFun ["count", "moves", "starts"] tb_cheapest
set_option maxRecDepth 100000 in
set_option maxHeartbeats 4000000 in
theorem s_cheapest {g : Gx} (F : Fx07 g) : HasF g 1 true "cheapest" T_cheapest :=
  has_def (F.d 5 (by decide)) rfl (fun _ _ _ vals h => by obtain ⟨a, b, c, rfl⟩ := len3 h; rfl) (by decide +kernel) rfl rfl rfl (show SoundSs g 0 _ _ _ tb_cheapest from (sound_cons (sound_setcomp (compOk (by decide +kernel) (by decide +kernel) (by decide +kernel) (by decide +kernel) (by decide +kernel) (by decide +kernel)) (sound_callT (by decide +kernel) (by decide +kernel) F.c_range (sound_econs (sound_local (by decide +kernel) (by decide +kernel)) (sound_enil) (fun _ => rfl)) bi_range) (ifs_nil) (sound_none) (fun _ _ => rfl) (.inl (by decide +kernel)) (swapsTrue (by decide +kernel))) (sound_cons (sound_setcomp (compOk (by decide +kernel) (by decide +kernel) (by decide +kernel) (by decide +kernel) (by decide +kernel) (by decide +kernel)) (sound_callT (by decide +kernel) (by decide +kernel) F.c_range (sound_econs (sound_local (by decide +kernel) (by decide +kernel)) (sound_enil) (fun _ => rfl)) bi_range) (ifs_nil) (sound_none) (fun _ _ => rfl) (.inl (by decide +kernel)) (swapsTrue (by decide +kernel))) (sound_cons (sound_for (sound_local (by decide +kernel) (by decide +kernel)) (sound_cons (sound_store (sound_tuple (sound_econs (sound_int) (sound_econs (sound_int) (sound_enil) (fun _ => rfl)) (fun _ => rfl))) (sound_local (by decide +kernel) (by decide +kernel)) (sound_local (by decide +kernel) (by decide +kernel)) (fun _ _ => rfl)) (sound_nil)) (.inl (by decide +kernel)) (fun _ _ => rfl)) (sound_cons (sound_set (sound_bool) (.inl (by decide +kernel)) (fun _ _ => rfl)) (sound_cons (sound_while (soundB_plain (sound_local (by decide +kernel) (by decide +kernel)) (fun _ _ => rfl)) (sound_cons (sound_set (sound_bool) (.inl (by decide +kernel)) (fun _ _ => rfl)) (sound_cons (sound_for (sound_local (by decide +kernel) (by decide +kernel)) (sound_cons (sound_if (soundB_cmp (sound_item (sound_local (by decide +kernel) (by decide +kernel)) (sound_item (sound_local (by decide +kernel) (by decide +kernel)) (sound_int) (fun _ _ _ => rfl)) (fun _ _ _ => rfl)) (sound_none) rfl) (sound_cons (sound_set (sound_tuple (sound_econs (sound_bin (sound_item (sound_item (sound_local (by decide +kernel) (by decide +kernel)) (sound_item (sound_local (by decide +kernel) (by decide +kernel)) (sound_int) (fun _ _ _ => rfl)) (fun _ _ _ => rfl)) (sound_int) (fun _ _ _ => rfl)) (sound_item (sound_local (by decide +kernel) (by decide +kernel)) (sound_int) (fun _ _ _ => rfl))) (sound_econs (sound_bin (sound_item (sound_item (sound_local (by decide +kernel) (by decide +kernel)) (sound_item (sound_local (by decide +kernel) (by decide +kernel)) (sound_int) (fun _ _ _ => rfl)) (fun _ _ _ => rfl)) (sound_int) (fun _ _ _ => rfl)) (sound_int)) (sound_enil) (fun _ => rfl)) (fun _ => rfl))) (.inl (by decide +kernel)) (fun _ _ => rfl)) (sound_cons (sound_if (soundB_or (soundB_cmp (sound_item (sound_local (by decide +kernel) (by decide +kernel)) (sound_item (sound_local (by decide +kernel) (by decide +kernel)) (sound_int) (fun _ _ _ => rfl)) (fun _ _ _ => rfl)) (sound_none) rfl) (soundB_or (soundB_cmp (sound_local (by decide +kernel) (by decide +kernel)) (sound_item (sound_local (by decide +kernel) (by decide +kernel)) (sound_item (sound_local (by decide +kernel) (by decide +kernel)) (sound_int) (fun _ _ _ => rfl)) (fun _ _ _ => rfl)) rfl) (soundB_orNil))) (sound_cons (sound_store (sound_local (by decide +kernel) (by decide +kernel)) (sound_local (by decide +kernel) (by decide +kernel)) (sound_item (sound_local (by decide +kernel) (by decide +kernel)) (sound_int) (fun _ _ _ => rfl)) (fun _ _ => rfl)) (sound_cons (sound_store (sound_local (by decide +kernel) (by decide +kernel)) (sound_local (by decide +kernel) (by decide +kernel)) (sound_item (sound_local (by decide +kernel) (by decide +kernel)) (sound_int) (fun _ _ _ => rfl)) (fun _ _ => rfl)) (sound_cons (sound_set (sound_bool) (.inl (by decide +kernel)) (fun _ _ => rfl)) (sound_nil)))) (sound_nil)) (sound_nil))) (sound_nil)) (sound_nil)) (.inl (by decide +kernel)) (fun _ _ => rfl)) (sound_nil)))) (sound_cons (sound_ret (sound_tuple (sound_econs (sound_local (by decide +kernel) (by decide +kernel)) (sound_econs (sound_local (by decide +kernel) (by decide +kernel)) (sound_enil) (fun _ => rfl)) (fun _ => rfl)))) (sound_nil))))))))
noncomputable abbrev tb_row_to_1 : TS := tSeq (tRet (tName "row")) (tNil)
noncomputable abbrev tb_row_to_2 : TS := tSeq (tSet "house" (tItem (tItem (tName "last") (tName "house")) (tConst (.int 0)))) (tNil)
noncomputable abbrev tb_row_to_3 : TS := tSeq (tExpr (tMeth appendF (tName "row") (tEcons (tItem (tName "last") (tName "house")) (tEnil)))) (tb_row_to_2)
noncomputable abbrev tb_row_to_4 : TS := tSeq (tWhile (tCmpB .IsNot (tItem (tName "last") (tName "house")) (tConst .none)) (tb_row_to_3)) (tb_row_to_1)
noncomputable abbrev tb_row_to_5 : TS := tSeq (tSet "row" (tList (tEnil))) (tb_row_to_4)
noncomputable def tb_row_to : TS := tb_row_to_5
noncomputable def T_row_to : TF := tFun ["last", "house"] tb_row_to
set_option maxRecDepth 100000 in
set_option maxHeartbeats 4000000 in
theorem s_row_to {g : Gx} (F : Fx07 g) {q : Bool} : HasF g 1 q "row_to" T_row_to :=
  has_def (F.d 6 (by decide)) rfl (fun _ _ _ vals h => by obtain ⟨a, b, rfl⟩ := len2 h; rfl) (by decide +kernel) rfl rfl rfl (show SoundSs g 0 _ _ _ tb_row_to from (sound_cons (sound_set (sound_list (sound_enil)) (.inl (by decide +kernel)) (fun _ _ => rfl)) (sound_cons (sound_while (soundB_cmp (sound_item (sound_local (by decide +kernel) (by decide +kernel)) (sound_local (by decide +kernel) (by decide +kernel)) (fun _ _ _ => rfl)) (sound_none) rfl) (sound_cons (sound_expr (sound_meth (sound_local (by decide +kernel) (by decide +kernel)) (sound_econs (sound_item (sound_local (by decide +kernel) (by decide +kernel)) (sound_local (by decide +kernel) (by decide +kernel)) (fun _ _ _ => rfl)) (sound_enil) (fun _ => rfl)) me_append (fun _ _ => rfl) (by decide) rfl slot_append ty_append) (fun _ _ => rfl)) (sound_cons (sound_set (sound_item (sound_item (sound_local (by decide +kernel) (by decide +kernel)) (sound_local (by decide +kernel) (by decide +kernel)) (fun _ _ _ => rfl)) (sound_int) (fun _ _ _ => rfl)) (.inl (by decide +kernel)) (fun _ _ => rfl)) (sound_nil)))) (sound_cons (sound_ret (sound_local (by decide +kernel) (by decide +kernel))) (sound_nil)))))
noncomputable abbrev tb_surplus_1 : TS := tSeq (tRet (tCall (tEcons (tName "count") (tEcons (tComp "number" ["cut", "debts"] (tCall (tEcons (tCall (tEcons (tName "debts") (tEnil)) lenF) (tEnil)) rangeF) (tTrue) (tTup (tEcons (tItem (tItem (tName "debts") (tName "number")) (tConst (.int 0))) (tEcons (tItem (tItem (tName "debts") (tName "number")) (tConst (.int 1))) (tEcons (tItem (tName "cut") (tName "number")) (tEnil)))))) (tEnil))) T_balances)) (tNil)
noncomputable def tb_surplus : TS := tb_surplus_1
noncomputable def T_surplus : TF := tFun ["count", "debts", "cut"] tb_surplus
set_option maxRecDepth 100000 in
set_option maxHeartbeats 4000000 in
theorem s_surplus {g : Gx} (F : Fx07 g) : HasF g 2 true "surplus" T_surplus :=
  has_def (F.d 7 (by decide)) rfl (fun _ _ _ vals h => by obtain ⟨a, b, c, rfl⟩ := len3 h; rfl) (by decide +kernel) rfl rfl rfl (show SoundSs g 1 _ _ _ tb_surplus from (sound_cons (sound_ret (sound_callF (s_balances F) (sound_econs (sound_local (by decide +kernel) (by decide +kernel)) (sound_econs (sound_comp (compOk (by decide +kernel) (by decide +kernel) (by decide +kernel) (by decide +kernel) (by decide +kernel) (by decide +kernel)) (sound_callT (by decide +kernel) (by decide +kernel) F.c_range (sound_econs (sound_callB (by decide +kernel) (by decide +kernel) F.b_len (sound_econs (sound_cell (by decide +kernel) (by decide +kernel)) (sound_enil) (fun _ => rfl)) bi_len) (sound_enil) (fun _ => rfl)) bi_range) (ifs_nil) (sound_tuple (sound_econs (sound_item (sound_item (sound_cell (by decide +kernel) (by decide +kernel)) (sound_local (by decide +kernel) (by decide +kernel)) (fun _ _ _ => rfl)) (sound_int) (fun _ _ _ => rfl)) (sound_econs (sound_item (sound_item (sound_cell (by decide +kernel) (by decide +kernel)) (sound_local (by decide +kernel) (by decide +kernel)) (fun _ _ _ => rfl)) (sound_int) (fun _ _ _ => rfl)) (sound_econs (sound_item (sound_cell (by decide +kernel) (by decide +kernel)) (sound_local (by decide +kernel) (by decide +kernel)) (fun _ _ _ => rfl)) (sound_enil) (fun _ => rfl)) (fun _ => rfl)) (fun _ => rfl))) (fun _ _ => rfl)) (sound_enil) (fun _ => rfl)) (fun _ => rfl)) (by decide +kernel) (by decide +kernel) (by decide))) (sound_nil)))
noncomputable abbrev tb_best_1 : TS := tSeq (tRet (tName "cut")) (tNil)
noncomputable abbrev tb_best_2 : TS := tSeq (tSet "over" (tCall (tEcons (tName "count") (tEcons (tName "debts") (tEcons (tName "cut") (tEnil)))) T_surplus)) (tNil)
noncomputable abbrev tb_best_3 : TS := tSeq (tStore (tName "cut") (tItem (tName "move") (tConst (.int 4))) (tBin .Add (tItem (tName "cut") (tItem (tName "move") (tConst (.int 4)))) (tBin .Mult (tItem (tName "move") (tConst (.int 5))) (tName "amount")))) (tNil)
noncomputable abbrev tb_best_4 : TS := tSeq (tFor "move" (tName "row") (tb_best_3)) (tb_best_2)
noncomputable abbrev tb_best_5 : TS := tSeq (tSet "amount" (tCall (tEcons (tBin .Add (tComp "move" [] (tName "row") (tTrue) (tItem (tName "move") (tConst (.int 3)))) (tList (tEcons (tItem (tName "over") (tItem (tItem (tName "row") (tNeg (tConst (.int 1)))) (tConst (.int 0)))) (tEcons (tBin .Sub (tConst (.int 0)) (tItem (tName "over") (tName "end"))) (tEnil))))) (tEnil)) minLF)) (tb_best_4)
noncomputable abbrev tb_best_6 : TS := tSeq (tSet "row" (tCall (tEcons (tItem (tName "pair") (tConst (.int 1))) (tEcons (tName "end") (tEnil))) T_row_to)) (tb_best_5)
noncomputable abbrev tb_best_7 : TS := tSeq (tSet "end" (tMinKey lamP lamPos lamQual lamName (tEcons (tName "ends") (tEnil)))) (tb_best_6)
noncomputable abbrev tb_best_8 : TS := tSeq (tSet "ends" (tComp "house" ["over", "pair"] (tCall (tEcons (tName "count") (tEnil)) rangeF) (tAnd (tCmpB .Lt (tItem (tName "over") (tName "house")) (tConst (.int 0))) (tAnd (tCmpB .IsNot (tItem (tItem (tName "pair") (tConst (.int 0))) (tName "house")) (tConst .none)) (tTrue))) (tName "house"))) (tb_best_7)
noncomputable abbrev tb_best_9 : TS := tSeq (tSet "pair" (tCall (tEcons (tName "count") (tEcons (tCall (tEcons (tName "debts") (tEcons (tName "cut") (tEnil))) T_steps) (tEcons (tName "starts") (tEnil)))) T_cheapest)) (tb_best_8)
noncomputable abbrev tb_best_10 : TS := tSeq (tSet "starts" (tComp "house" ["over"] (tCall (tEcons (tName "count") (tEnil)) rangeF) (tCmpB .Gt (tItem (tName "over") (tName "house")) (tConst (.int 0))) (tName "house"))) (tb_best_9)
noncomputable abbrev tb_best_11 : TS := tSeq (tWhile (tCmpB .Gt (tCall (tEcons (tName "over") (tEnil)) maxLF) (tConst (.int 0))) (tb_best_10)) (tb_best_1)
noncomputable abbrev tb_best_12 : TS := tSeq (tSet "over" (tCall (tEcons (tName "count") (tEcons (tName "debts") (tEcons (tName "cut") (tEnil)))) T_surplus)) (tb_best_11)
noncomputable abbrev tb_best_13 : TS := tSeq (tSet "cut" (tComp "debt" [] (tName "debts") (tTrue) (tItem (tName "debt") (tConst (.int 2))))) (tb_best_12)
noncomputable def tb_best : TS := tb_best_13
noncomputable def T_best : TF := tFun ["count", "debts"] tb_best
set_option maxRecDepth 100000 in
set_option maxHeartbeats 4000000 in
theorem s_best {g : Gx} (F : Fx07 g) : HasF g 3 true "best" T_best :=
  has_defL F.best F.bestq rfl (fun _ _ _ vals h => by obtain ⟨a, b, rfl⟩ := len2 h; rfl) (by decide +kernel) rfl rfl rfl (show SoundSs g 2 _ _ _ tb_best from (sound_cons (sound_setcomp (compOk (by decide +kernel) (by decide +kernel) (by decide +kernel) (by decide +kernel) (by decide +kernel) (by decide +kernel)) (sound_local (by decide +kernel) (by decide +kernel)) (ifs_nil) (sound_item (sound_local (by decide +kernel) (by decide +kernel)) (sound_int) (fun _ _ _ => rfl)) (fun _ _ => rfl) (.inl (by decide +kernel)) (swapsTrue (by decide +kernel))) (sound_cons (sound_set (sound_callF (s_surplus F) (sound_econs (sound_local (by decide +kernel) (by decide +kernel)) (sound_econs (sound_local (by decide +kernel) (by decide +kernel)) (sound_econs (sound_local (by decide +kernel) (by decide +kernel)) (sound_enil) (fun _ => rfl)) (fun _ => rfl)) (fun _ => rfl)) (by decide +kernel) (by decide +kernel) (by decide)) (.inr (by decide +kernel)) (fun _ _ => rfl)) (sound_cons (sound_while (soundB_cmp (sound_callB (by decide +kernel) (by decide +kernel) F.b_max (sound_econs (sound_cell (by decide +kernel) (by decide +kernel)) (sound_enil) (fun _ => rfl)) (bi_maxL rfl)) (sound_int) rfl) (sound_cons (sound_setcomp (compOk (by decide +kernel) (by decide +kernel) (by decide +kernel) (by decide +kernel) (by decide +kernel) (by decide +kernel)) (sound_callT (by decide +kernel) (by decide +kernel) F.c_range (sound_econs (sound_local (by decide +kernel) (by decide +kernel)) (sound_enil) (fun _ => rfl)) bi_range) (ifs_one (soundB_cmp (sound_item (sound_cell (by decide +kernel) (by decide +kernel)) (sound_local (by decide +kernel) (by decide +kernel)) (fun _ _ _ => rfl)) (sound_int) rfl)) (sound_local (by decide +kernel) (by decide +kernel)) (fun _ _ => rfl) (.inl (by decide +kernel)) (swapsTrue (by decide +kernel))) (sound_cons (sound_set (sound_callF (s_cheapest F) (sound_econs (sound_local (by decide +kernel) (by decide +kernel)) (sound_econs (sound_callF (s_steps F) (sound_econs (sound_local (by decide +kernel) (by decide +kernel)) (sound_econs (sound_local (by decide +kernel) (by decide +kernel)) (sound_enil) (fun _ => rfl)) (fun _ => rfl)) (by decide +kernel) (by decide +kernel) (by decide)) (sound_econs (sound_local (by decide +kernel) (by decide +kernel)) (sound_enil) (fun _ => rfl)) (fun _ => rfl)) (fun _ => rfl)) (by decide +kernel) (by decide +kernel) (by decide)) (.inr (by decide +kernel)) (fun _ _ => rfl)) (sound_cons (sound_setcomp (compOk (by decide +kernel) (by decide +kernel) (by decide +kernel) (by decide +kernel) (by decide +kernel) (by decide +kernel)) (sound_callT (by decide +kernel) (by decide +kernel) F.c_range (sound_econs (sound_local (by decide +kernel) (by decide +kernel)) (sound_enil) (fun _ => rfl)) bi_range) (ifs_one (soundB_and (soundB_cmp (sound_item (sound_cell (by decide +kernel) (by decide +kernel)) (sound_local (by decide +kernel) (by decide +kernel)) (fun _ _ _ => rfl)) (sound_int) rfl) (soundB_and (soundB_cmp (sound_item (sound_item (sound_cell (by decide +kernel) (by decide +kernel)) (sound_int) (fun _ _ _ => rfl)) (sound_local (by decide +kernel) (by decide +kernel)) (fun _ _ _ => rfl)) (sound_none) rfl) (soundB_andNil)))) (sound_local (by decide +kernel) (by decide +kernel)) (fun _ _ => rfl) (.inl (by decide +kernel)) (swapsTrue (by decide +kernel))) (sound_cons (sound_set (sound_minkey (by decide +kernel) F.b_min (sound_econs (sound_local (by decide +kernel) (by decide +kernel)) (sound_enil) (fun _ => rfl)) (fun _ _ => rfl) (by decide +kernel) ⟨rfl, rfl, rfl, by decide +kernel, by decide +kernel, by decide +kernel, fun _ _ h => by first | exact clos_of rfl h | exact clos_of' rfl h, fun _ _ _ _ _ => rfl, fun _ => rfl, by decide, by decide, by decide⟩ F.lam F.lamq F.codeHd F.modok (fun _ _ _ => rfl) (fun _ _ _ => rfl)) (.inl (by decide +kernel)) (fun _ _ => rfl)) (sound_cons (sound_set (sound_callF (s_row_to F) (sound_econs (sound_item (sound_cell (by decide +kernel) (by decide +kernel)) (sound_int) (fun _ _ _ => rfl)) (sound_econs (sound_local (by decide +kernel) (by decide +kernel)) (sound_enil) (fun _ => rfl)) (fun _ => rfl)) (by decide +kernel) (by decide +kernel) (by decide)) (.inl (by decide +kernel)) (fun _ _ => rfl)) (sound_cons (sound_set (sound_callB (by decide +kernel) (by decide +kernel) F.b_min (sound_econs (sound_bin (sound_comp (compOk (by decide +kernel) (by decide +kernel) (by decide +kernel) (by decide +kernel) (by decide +kernel) (by decide +kernel)) (sound_local (by decide +kernel) (by decide +kernel)) (ifs_nil) (sound_item (sound_local (by decide +kernel) (by decide +kernel)) (sound_int) (fun _ _ _ => rfl)) (fun _ _ => rfl)) (sound_list (sound_econs (sound_item (sound_cell (by decide +kernel) (by decide +kernel)) (sound_item (sound_item (sound_local (by decide +kernel) (by decide +kernel)) (sound_neg (sound_int)) (fun _ _ _ => rfl)) (sound_int) (fun _ _ _ => rfl)) (fun _ _ _ => rfl)) (sound_econs (sound_bin (sound_int) (sound_item (sound_cell (by decide +kernel) (by decide +kernel)) (sound_local (by decide +kernel) (by decide +kernel)) (fun _ _ _ => rfl))) (sound_enil) (fun _ => rfl)) (fun _ => rfl)))) (sound_enil) (fun _ => rfl)) (bi_minL rfl)) (.inl (by decide +kernel)) (fun _ _ => rfl)) (sound_cons (sound_for (sound_local (by decide +kernel) (by decide +kernel)) (sound_cons (sound_store (sound_bin (sound_item (sound_local (by decide +kernel) (by decide +kernel)) (sound_item (sound_local (by decide +kernel) (by decide +kernel)) (sound_int) (fun _ _ _ => rfl)) (fun _ _ _ => rfl)) (sound_bin (sound_item (sound_local (by decide +kernel) (by decide +kernel)) (sound_int) (fun _ _ _ => rfl)) (sound_local (by decide +kernel) (by decide +kernel)))) (sound_local (by decide +kernel) (by decide +kernel)) (sound_item (sound_local (by decide +kernel) (by decide +kernel)) (sound_int) (fun _ _ _ => rfl)) (fun _ _ => rfl)) (sound_nil)) (.inl (by decide +kernel)) (fun _ _ => rfl)) (sound_cons (sound_set (sound_callF (s_surplus F) (sound_econs (sound_local (by decide +kernel) (by decide +kernel)) (sound_econs (sound_local (by decide +kernel) (by decide +kernel)) (sound_econs (sound_local (by decide +kernel) (by decide +kernel)) (sound_enil) (fun _ => rfl)) (fun _ => rfl)) (fun _ => rfl)) (by decide +kernel) (by decide +kernel) (by decide)) (.inr (by decide +kernel)) (fun _ _ => rfl)) (sound_nil)))))))))) (sound_cons (sound_ret (sound_local (by decide +kernel) (by decide +kernel))) (sound_nil))))))
noncomputable abbrev tb_need_even_1 : TS := tSeq (tRaise c_Uneven_07 (tEcons (tConst (.str "some house gains and some loses")) (tEnil))) (tNil)
noncomputable abbrev tb_need_even_2 : TS := tSeq (tIf (tNot (tTest (tCall (tEcons (tName "count") (tEcons (tName "debts") (tEcons (tName "cut") (tEnil)))) T_even))) (tb_need_even_1) (tNil)) (tNil)
noncomputable def tb_need_even : TS := tb_need_even_2
noncomputable def T_need_even : TF := tFun ["count", "debts", "cut"] tb_need_even
set_option maxRecDepth 100000 in
set_option maxHeartbeats 4000000 in
theorem s_need_even {g : Gx} (F : Fx07 g) : HasF g 4 true "need_even" T_need_even :=
  has_def (F.d 9 (by decide)) rfl (fun _ _ _ vals h => by obtain ⟨a, b, c, rfl⟩ := len3 h; rfl) (by decide +kernel) rfl rfl rfl (show SoundSs g 3 _ _ _ tb_need_even from (sound_cons (sound_if (soundB_not (soundB_plain (sound_callF (s_even F) (sound_econs (sound_local (by decide +kernel) (by decide +kernel)) (sound_econs (sound_local (by decide +kernel) (by decide +kernel)) (sound_econs (sound_local (by decide +kernel) (by decide +kernel)) (sound_enil) (fun _ => rfl)) (fun _ => rfl)) (fun _ => rfl)) (by decide +kernel) (by decide +kernel) (by decide)) (fun _ _ => rfl))) (sound_cons (sound_raise F.o_Uneven PySem.F.excBase_ValueError (sound_econs (sound_str) (sound_enil) (fun _ => rfl)) (by decide +kernel) (by decide +kernel)) (sound_nil)) (sound_nil)) (sound_nil)))
noncomputable abbrev tb_better_1 : TS := tSeq (tRet (tConst .none)) (tNil)
noncomputable abbrev tb_better_2 : TS := tSeq (tRet (tName "found")) (tNil)
noncomputable abbrev tb_better_3 : TS := tSeq (tIf (tCmpB .Gt (tCall (tEcons (tName "found") (tEnil)) sumF) (tCall (tEcons (tName "cut") (tEnil)) sumF)) (tb_better_2) (tNil)) (tb_better_1)
noncomputable abbrev tb_better_4 : TS := tSeq (tSet "found" (tCall (tEcons (tName "count") (tEcons (tName "debts") (tEnil))) T_best)) (tb_better_3)
noncomputable abbrev tb_better_5 : TS := tSeq (tExpr (tCall (tEcons (tName "count") (tEcons (tName "debts") (tEcons (tName "cut") (tEnil)))) T_need_even)) (tb_better_4)
noncomputable def tb_better : TS := tb_better_5
noncomputable def T_better : TF := tFun ["count", "debts", "cut"] tb_better
set_option maxRecDepth 100000 in
set_option maxHeartbeats 4000000 in
theorem s_better {g : Gx} (F : Fx07 g) : HasF g 5 true "better" T_better :=
  has_def (F.d 10 (by decide)) rfl (fun _ _ _ vals h => by obtain ⟨a, b, c, rfl⟩ := len3 h; rfl) (by decide +kernel) rfl rfl rfl (show SoundSs g 4 _ _ _ tb_better from (sound_cons (sound_expr (sound_callF (s_need_even F) (sound_econs (sound_local (by decide +kernel) (by decide +kernel)) (sound_econs (sound_local (by decide +kernel) (by decide +kernel)) (sound_econs (sound_local (by decide +kernel) (by decide +kernel)) (sound_enil) (fun _ => rfl)) (fun _ => rfl)) (fun _ => rfl)) (by decide +kernel) (by decide +kernel) (by decide)) (fun _ _ => rfl)) (sound_cons (sound_set (sound_callF (s_best F) (sound_econs (sound_local (by decide +kernel) (by decide +kernel)) (sound_econs (sound_local (by decide +kernel) (by decide +kernel)) (sound_enil) (fun _ => rfl)) (fun _ => rfl)) (by decide +kernel) (by decide +kernel) (by decide)) (.inl (by decide +kernel)) (fun _ _ => rfl)) (sound_cons (sound_if (soundB_cmp (sound_callB (by decide +kernel) (by decide +kernel) F.b_sum (sound_econs (sound_local (by decide +kernel) (by decide +kernel)) (sound_enil) (fun _ => rfl)) (bi_sum rfl)) (sound_callB (by decide +kernel) (by decide +kernel) F.b_sum (sound_econs (sound_local (by decide +kernel) (by decide +kernel)) (sound_enil) (fun _ => rfl)) (bi_sum rfl)) rfl) (sound_cons (sound_ret (sound_local (by decide +kernel) (by decide +kernel))) (sound_nil)) (sound_nil)) (sound_cons (sound_ret (sound_none)) (sound_nil))))))
noncomputable abbrev tb_prices_1 : TS := tSeq (tRet (tName "tags")) (tNil)
noncomputable abbrev tb_prices_2 : TS := tSeq (tSet "changing" (tConst (.bool true))) (tNil)
noncomputable abbrev tb_prices_3 : TS := tSeq (tStore (tName "tags") (tItem (tName "move") (tConst (.int 1))) (tBin .Sub (tItem (tName "tags") (tItem (tName "move") (tConst (.int 0)))) (tItem (tName "move") (tConst (.int 2))))) (tb_prices_2)
noncomputable abbrev tb_prices_4 : TS := tSeq (tIf (tCmpB .Lt (tItem (tName "tags") (tItem (tName "move") (tConst (.int 1)))) (tBin .Sub (tItem (tName "tags") (tItem (tName "move") (tConst (.int 0)))) (tItem (tName "move") (tConst (.int 2))))) (tb_prices_3) (tNil)) (tNil)
noncomputable abbrev tb_prices_5 : TS := tSeq (tFor "move" (tCall (tEcons (tName "debts") (tEcons (tName "cut") (tEnil))) T_steps) (tb_prices_4)) (tNil)
noncomputable abbrev tb_prices_6 : TS := tSeq (tSet "changing" (tConst (.bool false))) (tb_prices_5)
noncomputable abbrev tb_prices_7 : TS := tSeq (tWhile (tTest (tName "changing")) (tb_prices_6)) (tb_prices_1)
noncomputable abbrev tb_prices_8 : TS := tSeq (tSet "changing" (tConst (.bool true))) (tb_prices_7)
noncomputable abbrev tb_prices_9 : TS := tSeq (tSet "tags" (tComp "house" [] (tCall (tEcons (tName "count") (tEnil)) rangeF) (tTrue) (tConst (.int 0)))) (tb_prices_8)
noncomputable abbrev tb_prices_10 : TS := tSeq (tRaise c_NotBest_07 (tEcons (tConst (.str "another cut is worth more")) (tEnil))) (tNil)
noncomputable abbrev tb_prices_11 : TS := tSeq (tIf (tCmpB .IsNot (tCall (tEcons (tName "count") (tEcons (tName "debts") (tEcons (tName "cut") (tEnil)))) T_better) (tConst .none)) (tb_prices_10) (tNil)) (tb_prices_9)
noncomputable def tb_prices : TS := tb_prices_11
noncomputable def T_prices : TF := tFun ["count", "debts", "cut"] tb_prices
set_option maxRecDepth 100000 in
set_option maxHeartbeats 4000000 in
theorem s_prices {g : Gx} (F : Fx07 g) : HasF g 6 true "prices" T_prices :=
  has_def (F.d 11 (by decide)) rfl (fun _ _ _ vals h => by obtain ⟨a, b, c, rfl⟩ := len3 h; rfl) (by decide +kernel) rfl rfl rfl (show SoundSs g 5 _ _ _ tb_prices from (sound_cons (sound_if (soundB_cmp (sound_callF (s_better F) (sound_econs (sound_local (by decide +kernel) (by decide +kernel)) (sound_econs (sound_local (by decide +kernel) (by decide +kernel)) (sound_econs (sound_local (by decide +kernel) (by decide +kernel)) (sound_enil) (fun _ => rfl)) (fun _ => rfl)) (fun _ => rfl)) (by decide +kernel) (by decide +kernel) (by decide)) (sound_none) rfl) (sound_cons (sound_raise F.o_NotBest PySem.F.excBase_ValueError (sound_econs (sound_str) (sound_enil) (fun _ => rfl)) (by decide +kernel) (by decide +kernel)) (sound_nil)) (sound_nil)) (sound_cons (sound_setcomp (compOk (by decide +kernel) (by decide +kernel) (by decide +kernel) (by decide +kernel) (by decide +kernel) (by decide +kernel)) (sound_callT (by decide +kernel) (by decide +kernel) F.c_range (sound_econs (sound_local (by decide +kernel) (by decide +kernel)) (sound_enil) (fun _ => rfl)) bi_range) (ifs_nil) (sound_int) (fun _ _ => rfl) (.inl (by decide +kernel)) (swapsTrue (by decide +kernel))) (sound_cons (sound_set (sound_bool) (.inl (by decide +kernel)) (fun _ _ => rfl)) (sound_cons (sound_while (soundB_plain (sound_local (by decide +kernel) (by decide +kernel)) (fun _ _ => rfl)) (sound_cons (sound_set (sound_bool) (.inl (by decide +kernel)) (fun _ _ => rfl)) (sound_cons (sound_for (sound_callF (s_steps F) (sound_econs (sound_local (by decide +kernel) (by decide +kernel)) (sound_econs (sound_local (by decide +kernel) (by decide +kernel)) (sound_enil) (fun _ => rfl)) (fun _ => rfl)) (by decide +kernel) (by decide +kernel) (by decide)) (sound_cons (sound_if (soundB_cmp (sound_item (sound_local (by decide +kernel) (by decide +kernel)) (sound_item (sound_local (by decide +kernel) (by decide +kernel)) (sound_int) (fun _ _ _ => rfl)) (fun _ _ _ => rfl)) (sound_bin (sound_item (sound_local (by decide +kernel) (by decide +kernel)) (sound_item (sound_local (by decide +kernel) (by decide +kernel)) (sound_int) (fun _ _ _ => rfl)) (fun _ _ _ => rfl)) (sound_item (sound_local (by decide +kernel) (by decide +kernel)) (sound_int) (fun _ _ _ => rfl))) rfl) (sound_cons (sound_store (sound_bin (sound_item (sound_local (by decide +kernel) (by decide +kernel)) (sound_item (sound_local (by decide +kernel) (by decide +kernel)) (sound_int) (fun _ _ _ => rfl)) (fun _ _ _ => rfl)) (sound_item (sound_local (by decide +kernel) (by decide +kernel)) (sound_int) (fun _ _ _ => rfl))) (sound_local (by decide +kernel) (by decide +kernel)) (sound_item (sound_local (by decide +kernel) (by decide +kernel)) (sound_int) (fun _ _ _ => rfl)) (fun _ _ => rfl)) (sound_cons (sound_set (sound_bool) (.inl (by decide +kernel)) (fun _ _ => rfl)) (sound_nil))) (sound_nil)) (sound_nil)) (.inl (by decide +kernel)) (fun _ _ => rfl)) (sound_nil)))) (sound_cons (sound_ret (sound_local (by decide +kernel) (by decide +kernel))) (sound_nil)))))))
noncomputable abbrev tb_law_cell_at_1 : TS := tSeq (tRet (tConst (.int 0))) (tNil)
noncomputable abbrev tb_law_cell_at_2 : TS := tSeq (tRet (tItem (tName "_law_script") (tName "_law_k"))) (tNil)
noncomputable abbrev tb_law_cell_at_3 : TS := tSeq (tIf (tCmpB .Lt (tName "_law_k") (tCall (tEcons (tName "_law_script") (tEnil)) lenF)) (tb_law_cell_at_2) (tNil)) (tb_law_cell_at_1)
noncomputable def tb_law_cell_at : TS := tb_law_cell_at_3
noncomputable def T_law_cell_at : TF := tFun ["_law_script", "_law_k"] tb_law_cell_at
set_option maxRecDepth 100000 in
set_option maxHeartbeats 4000000 in
theorem s_law_cell_at {g : Gx} (F : Fx07 g) {q : Bool} : HasF g 1 q "_law_cell_at" T_law_cell_at :=
  has_def (F.d 12 (by decide)) rfl (fun _ _ _ vals h => by obtain ⟨a, b, rfl⟩ := len2 h; rfl) (by decide +kernel) rfl rfl rfl (show SoundSs g 0 _ _ _ tb_law_cell_at from (sound_cons (sound_if (soundB_cmp (sound_local (by decide +kernel) (by decide +kernel)) (sound_callB (by decide +kernel) (by decide +kernel) F.b_len (sound_econs (sound_local (by decide +kernel) (by decide +kernel)) (sound_enil) (fun _ => rfl)) bi_len) rfl) (sound_cons (sound_ret (sound_item (sound_local (by decide +kernel) (by decide +kernel)) (sound_local (by decide +kernel) (by decide +kernel)) (fun _ _ _ => rfl))) (sound_nil)) (sound_nil)) (sound_cons (sound_ret (sound_int)) (sound_nil))))
noncomputable abbrev tb_law_whole_1 : TS := tSeq (tRet (tAndE (tIsinst (tName "_law_found") okInt) (tNotE (tIsinst (tName "_law_found") okBool)))) (tNil)
noncomputable def tb_law_whole : TS := tb_law_whole_1
noncomputable def T_law_whole : TF := tFun ["_law_found"] tb_law_whole
set_option maxRecDepth 100000 in
set_option maxHeartbeats 4000000 in
theorem s_law_whole {g : Gx} (F : Fx07 g) {q : Bool} : HasF g 1 q "_law_whole" T_law_whole :=
  has_def (F.d 13 (by decide)) rfl (fun _ _ _ vals h => by obtain ⟨a, rfl⟩ := len1 h; rfl) (by decide +kernel) rfl rfl rfl (show SoundSs g 0 _ _ _ tb_law_whole from (sound_cons (sound_ret (sound_and (sound_isinst (sound_local (by decide +kernel) (by decide +kernel)) (by decide +kernel) F.b_isinstance (by decide +kernel) (by decide +kernel) F.c_int okInt_ok (fun _ _ e => by cases e) (fun _ => rfl)) (sound_one (sound_not (sound_isinst (sound_local (by decide +kernel) (by decide +kernel)) (by decide +kernel) F.b_isinstance (by decide +kernel) (by decide +kernel) F.c_bool okBool_ok (fun _ _ e => by cases e) (fun _ => rfl)))))) (sound_nil)))
noncomputable abbrev tb_law_debt_1 : TS := tSeq (tRet (tTup (tEcons (tName "_law_debtor") (tEcons (tName "_law_creditor") (tEcons (tName "_law_amount") (tEnil)))))) (tNil)
noncomputable abbrev tb_law_debt_2 : TS := tSeq (tSet "_law_amount" (tBin .Sub (tConst (.int 1000000000)) (tBin .Mod (tBin .FloorDiv (tName "_law_mixed") (tConst (.int 2000))) (tConst (.int 3))))) (tNil)
noncomputable abbrev tb_law_debt_3 : TS := tSeq (tIf (tCmpB .Eq (tName "_law_kind_here") (tConst (.int 3))) (tb_law_debt_2) (tNil)) (tb_law_debt_1)
noncomputable abbrev tb_law_debt_4 : TS := tSeq (tSet "_law_amount" (tBin .Add (tConst (.int 1)) (tBin .Mod (tName "_law_cell") (tConst (.int 1000000000))))) (tNil)
noncomputable abbrev tb_law_debt_5 : TS := tSeq (tIf (tCmpB .Eq (tName "_law_kind_here") (tConst (.int 2))) (tb_law_debt_4) (tNil)) (tb_law_debt_3)
noncomputable abbrev tb_law_debt_6 : TS := tSeq (tSet "_law_amount" (tBin .Add (tConst (.int 1)) (tBin .Mod (tBin .FloorDiv (tName "_law_mixed") (tConst (.int 2000))) (tConst (.int 40))))) (tNil)
noncomputable abbrev tb_law_debt_7 : TS := tSeq (tIf (tCmpB .Eq (tName "_law_kind_here") (tConst (.int 1))) (tb_law_debt_6) (tNil)) (tb_law_debt_5)
noncomputable abbrev tb_law_debt_8 : TS := tSeq (tSet "_law_amount" (tBin .Add (tConst (.int 1)) (tBin .Mod (tBin .FloorDiv (tName "_law_mixed") (tConst (.int 2000))) (tConst (.int 3))))) (tb_law_debt_7)
noncomputable abbrev tb_law_debt_9 : TS := tSeq (tSet "_law_kind_here" (tBin .Mod (tBin .FloorDiv (tName "_law_mixed") (tConst (.int 400))) (tConst (.int 5)))) (tb_law_debt_8)
noncomputable abbrev tb_law_debt_10 : TS := tSeq (tSet "_law_creditor" (tBin .Mod (tBin .Add (tBin .Add (tName "_law_debtor") (tConst (.int 1))) (tBin .Mod (tBin .FloorDiv (tName "_law_mixed") (tName "_law_count_here")) (tBin .Sub (tName "_law_count_here") (tConst (.int 1))))) (tName "_law_count_here"))) (tb_law_debt_9)
noncomputable abbrev tb_law_debt_11 : TS := tSeq (tSet "_law_debtor" (tBin .Mod (tName "_law_mixed") (tName "_law_count_here"))) (tb_law_debt_10)
noncomputable abbrev tb_law_debt_12 : TS := tSeq (tSet "_law_mixed" (tBin .Mod (tBin .Mult (tBin .Add (tBin .Add (tBin .Mod (tName "_law_cell") (tConst (.int 1000000007))) (tBin .Mult (tConst (.int 7919)) (tName "_law_k"))) (tConst (.int 11))) (tConst (.int 48271))) (tConst (.int 2147483647)))) (tb_law_debt_11)
noncomputable def tb_law_debt : TS := tb_law_debt_12
noncomputable def T_law_debt : TF := tFun ["_law_cell", "_law_k", "_law_count_here"] tb_law_debt
set_option maxRecDepth 100000 in
set_option maxHeartbeats 4000000 in
theorem s_law_debt {g : Gx} (F : Fx07 g) {q : Bool} : HasF g 1 q "_law_debt" T_law_debt :=
  has_def (F.d 14 (by decide)) rfl (fun _ _ _ vals h => by obtain ⟨a, b, c, rfl⟩ := len3 h; rfl) (by decide +kernel) rfl rfl rfl (show SoundSs g 0 _ _ _ tb_law_debt from (sound_cons (sound_set (sound_bin (sound_bin (sound_bin (sound_bin (sound_bin (sound_local (by decide +kernel) (by decide +kernel)) (sound_int)) (sound_bin (sound_int) (sound_local (by decide +kernel) (by decide +kernel)))) (sound_int)) (sound_int)) (sound_int)) (.inl (by decide +kernel)) (fun _ _ => rfl)) (sound_cons (sound_set (sound_bin (sound_local (by decide +kernel) (by decide +kernel)) (sound_local (by decide +kernel) (by decide +kernel))) (.inl (by decide +kernel)) (fun _ _ => rfl)) (sound_cons (sound_set (sound_bin (sound_bin (sound_bin (sound_local (by decide +kernel) (by decide +kernel)) (sound_int)) (sound_bin (sound_bin (sound_local (by decide +kernel) (by decide +kernel)) (sound_local (by decide +kernel) (by decide +kernel))) (sound_bin (sound_local (by decide +kernel) (by decide +kernel)) (sound_int)))) (sound_local (by decide +kernel) (by decide +kernel))) (.inl (by decide +kernel)) (fun _ _ => rfl)) (sound_cons (sound_set (sound_bin (sound_bin (sound_local (by decide +kernel) (by decide +kernel)) (sound_int)) (sound_int)) (.inl (by decide +kernel)) (fun _ _ => rfl)) (sound_cons (sound_set (sound_bin (sound_int) (sound_bin (sound_bin (sound_local (by decide +kernel) (by decide +kernel)) (sound_int)) (sound_int))) (.inl (by decide +kernel)) (fun _ _ => rfl)) (sound_cons (sound_if (soundB_cmp (sound_local (by decide +kernel) (by decide +kernel)) (sound_int) rfl) (sound_cons (sound_set (sound_bin (sound_int) (sound_bin (sound_bin (sound_local (by decide +kernel) (by decide +kernel)) (sound_int)) (sound_int))) (.inl (by decide +kernel)) (fun _ _ => rfl)) (sound_nil)) (sound_nil)) (sound_cons (sound_if (soundB_cmp (sound_local (by decide +kernel) (by decide +kernel)) (sound_int) rfl) (sound_cons (sound_set (sound_bin (sound_int) (sound_bin (sound_local (by decide +kernel) (by decide +kernel)) (sound_int))) (.inl (by decide +kernel)) (fun _ _ => rfl)) (sound_nil)) (sound_nil)) (sound_cons (sound_if (soundB_cmp (sound_local (by decide +kernel) (by decide +kernel)) (sound_int) rfl) (sound_cons (sound_set (sound_bin (sound_int) (sound_bin (sound_bin (sound_local (by decide +kernel) (by decide +kernel)) (sound_int)) (sound_int))) (.inl (by decide +kernel)) (fun _ _ => rfl)) (sound_nil)) (sound_nil)) (sound_cons (sound_ret (sound_tuple (sound_econs (sound_local (by decide +kernel) (by decide +kernel)) (sound_econs (sound_local (by decide +kernel) (by decide +kernel)) (sound_econs (sound_local (by decide +kernel) (by decide +kernel)) (sound_enil) (fun _ => rfl)) (fun _ => rfl)) (fun _ => rfl)))) (sound_nil)))))))))))
noncomputable abbrev tb_law_count_1 : TS := tSeq (tRet (tBin .Add (tConst (.int 2)) (tBin .Mod (tName "_law_cell") (tConst (.int 5))))) (tNil)
noncomputable abbrev tb_law_count_2 : TS := tSeq (tRet (tBin .Add (tConst (.int 10)) (tBin .Mod (tBin .FloorDiv (tName "_law_cell") (tConst (.int 60))) (tConst (.int 11))))) (tNil)
noncomputable abbrev tb_law_count_3 : TS := tSeq (tIf (tCmpB .Eq (tBin .Mod (tBin .FloorDiv (tName "_law_cell") (tConst (.int 5))) (tConst (.int 12))) (tConst (.int 2))) (tb_law_count_2) (tNil)) (tb_law_count_1)
noncomputable abbrev tb_law_count_4 : TS := tSeq (tRet (tBin .Add (tConst (.int 2)) (tBin .Mod (tBin .FloorDiv (tName "_law_cell") (tConst (.int 30))) (tConst (.int 8))))) (tNil)
noncomputable abbrev tb_law_count_5 : TS := tSeq (tIf (tCmpB .Eq (tBin .Mod (tBin .FloorDiv (tName "_law_cell") (tConst (.int 5))) (tConst (.int 6))) (tConst (.int 1))) (tb_law_count_4) (tNil)) (tb_law_count_3)
noncomputable abbrev tb_law_count_6 : TS := tSeq (tSet "_law_cell" (tCall (tEcons (tName "_law_script") (tEcons (tConst (.int 0)) (tEnil))) T_law_cell_at)) (tb_law_count_5)
noncomputable def tb_law_count : TS := tb_law_count_6
noncomputable def T_law_count : TF := tFun ["_law_script"] tb_law_count
set_option maxRecDepth 100000 in
set_option maxHeartbeats 4000000 in
theorem s_law_count {g : Gx} (F : Fx07 g) {q : Bool} : HasF g 2 q "_law_count" T_law_count :=
  has_def (F.d 15 (by decide)) rfl (fun _ _ _ vals h => by obtain ⟨a, rfl⟩ := len1 h; rfl) (by decide +kernel) rfl rfl rfl (show SoundSs g 1 _ _ _ tb_law_count from (sound_cons (sound_set (sound_callF (s_law_cell_at F) (sound_econs (sound_local (by decide +kernel) (by decide +kernel)) (sound_econs (sound_int) (sound_enil) (fun _ => rfl)) (fun _ => rfl)) (by decide +kernel) (by decide +kernel) (by decide)) (.inl (by decide +kernel)) (fun _ _ => rfl)) (sound_cons (sound_if (soundB_cmp (sound_bin (sound_bin (sound_local (by decide +kernel) (by decide +kernel)) (sound_int)) (sound_int)) (sound_int) rfl) (sound_cons (sound_ret (sound_bin (sound_int) (sound_bin (sound_bin (sound_local (by decide +kernel) (by decide +kernel)) (sound_int)) (sound_int)))) (sound_nil)) (sound_nil)) (sound_cons (sound_if (soundB_cmp (sound_bin (sound_bin (sound_local (by decide +kernel) (by decide +kernel)) (sound_int)) (sound_int)) (sound_int) rfl) (sound_cons (sound_ret (sound_bin (sound_int) (sound_bin (sound_bin (sound_local (by decide +kernel) (by decide +kernel)) (sound_int)) (sound_int)))) (sound_nil)) (sound_nil)) (sound_cons (sound_ret (sound_bin (sound_int) (sound_bin (sound_local (by decide +kernel) (by decide +kernel)) (sound_int)))) (sound_nil))))))
noncomputable abbrev tb_law_debts_1 : TS := tSeq (tRet (tName "_law_found")) (tNil)
noncomputable abbrev tb_law_debts_2 : TS := tSeq (tExpr (tMeth insertF (tName "_law_found") (tEcons (tBin .Mod (tBin .FloorDiv (tName "_law_cell") (tConst (.int 54))) (tBin .Add (tCall (tEcons (tName "_law_found") (tEnil)) lenF) (tConst (.int 1)))) (tEcons (tTup (tEcons (tName "_law_house") (tEcons (tBin .Mod (tBin .Add (tName "_law_house") (tConst (.int 1))) (tName "_law_count_here")) (tEcons (tName "_law_amount") (tEnil))))) (tEnil))))) (tNil)
noncomputable abbrev tb_law_debts_3 : TS := tSeq (tSet "_law_house" (tBin .Sub (tBin .Sub (tName "_law_count_here") (tConst (.int 1))) (tName "_law_house"))) (tNil)
noncomputable abbrev tb_law_debts_4 : TS := tSeq (tIf (tCmpB .Eq (tBin .Mod (tBin .FloorDiv (tName "_law_cell") (tConst (.int 9))) (tConst (.int 6))) (tConst (.int 4))) (tb_law_debts_3) (tNil)) (tb_law_debts_2)
noncomputable abbrev tb_law_debts_5 : TS := tSeq (tSet "_law_amount" (tItem (tCall (tEcons (tName "_law_cell") (tEcons (tName "_law_k") (tEcons (tName "_law_count_here") (tEnil)))) T_law_debt) (tConst (.int 2)))) (tb_law_debts_4)
noncomputable abbrev tb_law_debts_6 : TS := tSeq (tSet "_law_house" (tBin .Mod (tBin .Add (tBin .FloorDiv (tName "_law_cell") (tConst (.int 54))) (tName "_law_k")) (tName "_law_count_here"))) (tb_law_debts_5)
noncomputable abbrev tb_law_debts_7 : TS := tSeq (tFor "_law_k" (tCall (tEcons (tName "_law_count_here") (tEnil)) rangeF) (tb_law_debts_6)) (tNil)
noncomputable abbrev tb_law_debts_8 : TS := tSeq (tIf (tCmpB .Gt (tBin .Mod (tBin .FloorDiv (tName "_law_cell") (tConst (.int 9))) (tConst (.int 6))) (tConst (.int 3))) (tb_law_debts_7) (tNil)) (tb_law_debts_1)
noncomputable abbrev tb_law_debts_9 : TS := tSeq (tSet "_law_found" (tComp "_law_k" ["_law_count_here", "_law_first", "_law_script"] (tCall (tEcons (tName "_law_many") (tEnil)) rangeF) (tTrue) (tCall (tEcons (tCall (tEcons (tName "_law_script") (tEcons (tBin .Add (tName "_law_first") (tName "_law_k")) (tEnil))) T_law_cell_at) (tEcons (tName "_law_k") (tEcons (tName "_law_count_here") (tEnil)))) T_law_debt))) (tb_law_debts_8)
noncomputable abbrev tb_law_debts_10 : TS := tSeq (tSet "_law_many" (tBin .Add (tConst (.int 9)) (tBin .Mod (tBin .FloorDiv (tName "_law_cell") (tConst (.int 54))) (tConst (.int 9))))) (tNil)
noncomputable abbrev tb_law_debts_11 : TS := tSeq (tIf (tCmpB .Eq (tBin .Mod (tBin .FloorDiv (tName "_law_cell") (tConst (.int 9))) (tConst (.int 6))) (tConst (.int 1))) (tb_law_debts_10) (tNil)) (tb_law_debts_9)
noncomputable abbrev tb_law_debts_12 : TS := tSeq (tSet "_law_many" (tBin .Mod (tName "_law_cell") (tConst (.int 9)))) (tb_law_debts_11)
noncomputable abbrev tb_law_debts_13 : TS := tSeq (tSet "_law_cell" (tCall (tEcons (tName "_law_script") (tEcons (tConst (.int 1)) (tEnil))) T_law_cell_at)) (tb_law_debts_12)
noncomputable def tb_law_debts : TS := tb_law_debts_13
noncomputable def T_law_debts : TF := tFun ["_law_script", "_law_first", "_law_count_here"] tb_law_debts
set_option maxRecDepth 100000 in
set_option maxHeartbeats 4000000 in
theorem s_law_debts {g : Gx} (F : Fx07 g) : HasF g 2 true "_law_debts" T_law_debts :=
  has_def (F.d 16 (by decide)) rfl (fun _ _ _ vals h => by obtain ⟨a, b, c, rfl⟩ := len3 h; rfl) (by decide +kernel) rfl rfl rfl (show SoundSs g 1 _ _ _ tb_law_debts from (sound_cons (sound_set (sound_callF (s_law_cell_at F) (sound_econs (sound_cell (by decide +kernel) (by decide +kernel)) (sound_econs (sound_int) (sound_enil) (fun _ => rfl)) (fun _ => rfl)) (by decide +kernel) (by decide +kernel) (by decide)) (.inl (by decide +kernel)) (fun _ _ => rfl)) (sound_cons (sound_set (sound_bin (sound_local (by decide +kernel) (by decide +kernel)) (sound_int)) (.inl (by decide +kernel)) (fun _ _ => rfl)) (sound_cons (sound_if (soundB_cmp (sound_bin (sound_bin (sound_local (by decide +kernel) (by decide +kernel)) (sound_int)) (sound_int)) (sound_int) rfl) (sound_cons (sound_set (sound_bin (sound_int) (sound_bin (sound_bin (sound_local (by decide +kernel) (by decide +kernel)) (sound_int)) (sound_int))) (.inl (by decide +kernel)) (fun _ _ => rfl)) (sound_nil)) (sound_nil)) (sound_cons (sound_setcomp (compOk (by decide +kernel) (by decide +kernel) (by decide +kernel) (by decide +kernel) (by decide +kernel) (by decide +kernel)) (sound_callT (by decide +kernel) (by decide +kernel) F.c_range (sound_econs (sound_local (by decide +kernel) (by decide +kernel)) (sound_enil) (fun _ => rfl)) bi_range) (ifs_nil) (sound_callF (s_law_debt F) (sound_econs (sound_callF (s_law_cell_at F) (sound_econs (sound_cell (by decide +kernel) (by decide +kernel)) (sound_econs (sound_bin (sound_cell (by decide +kernel) (by decide +kernel)) (sound_local (by decide +kernel) (by decide +kernel))) (sound_enil) (fun _ => rfl)) (fun _ => rfl)) (by decide +kernel) (by decide +kernel) (by decide)) (sound_econs (sound_local (by decide +kernel) (by decide +kernel)) (sound_econs (sound_cell (by decide +kernel) (by decide +kernel)) (sound_enil) (fun _ => rfl)) (fun _ => rfl)) (fun _ => rfl)) (by decide +kernel) (by decide +kernel) (by decide)) (fun _ _ => rfl) (.inl (by decide +kernel)) (swapsTrue (by decide +kernel))) (sound_cons (sound_if (soundB_cmp (sound_bin (sound_bin (sound_local (by decide +kernel) (by decide +kernel)) (sound_int)) (sound_int)) (sound_int) rfl) (sound_cons (sound_for (sound_callT (by decide +kernel) (by decide +kernel) F.c_range (sound_econs (sound_cell (by decide +kernel) (by decide +kernel)) (sound_enil) (fun _ => rfl)) bi_range) (sound_cons (sound_set (sound_bin (sound_bin (sound_bin (sound_local (by decide +kernel) (by decide +kernel)) (sound_int)) (sound_local (by decide +kernel) (by decide +kernel))) (sound_cell (by decide +kernel) (by decide +kernel))) (.inl (by decide +kernel)) (fun _ _ => rfl)) (sound_cons (sound_set (sound_item (sound_callF (s_law_debt F) (sound_econs (sound_local (by decide +kernel) (by decide +kernel)) (sound_econs (sound_local (by decide +kernel) (by decide +kernel)) (sound_econs (sound_cell (by decide +kernel) (by decide +kernel)) (sound_enil) (fun _ => rfl)) (fun _ => rfl)) (fun _ => rfl)) (by decide +kernel) (by decide +kernel) (by decide)) (sound_int) (fun _ _ _ => rfl)) (.inl (by decide +kernel)) (fun _ _ => rfl)) (sound_cons (sound_if (soundB_cmp (sound_bin (sound_bin (sound_local (by decide +kernel) (by decide +kernel)) (sound_int)) (sound_int)) (sound_int) rfl) (sound_cons (sound_set (sound_bin (sound_bin (sound_cell (by decide +kernel) (by decide +kernel)) (sound_int)) (sound_local (by decide +kernel) (by decide +kernel))) (.inl (by decide +kernel)) (fun _ _ => rfl)) (sound_nil)) (sound_nil)) (sound_cons (sound_expr (sound_meth (sound_local (by decide +kernel) (by decide +kernel)) (sound_econs (sound_bin (sound_bin (sound_local (by decide +kernel) (by decide +kernel)) (sound_int)) (sound_bin (sound_callB (by decide +kernel) (by decide +kernel) F.b_len (sound_econs (sound_local (by decide +kernel) (by decide +kernel)) (sound_enil) (fun _ => rfl)) bi_len) (sound_int))) (sound_econs (sound_tuple (sound_econs (sound_local (by decide +kernel) (by decide +kernel)) (sound_econs (sound_bin (sound_bin (sound_local (by decide +kernel) (by decide +kernel)) (sound_int)) (sound_cell (by decide +kernel) (by decide +kernel))) (sound_econs (sound_local (by decide +kernel) (by decide +kernel)) (sound_enil) (fun _ => rfl)) (fun _ => rfl)) (fun _ => rfl))) (sound_enil) (fun _ => rfl)) (fun _ => rfl)) me_insert (fun _ _ => rfl) (by decide) rfl slot_insert ty_insert) (fun _ _ => rfl)) (sound_nil))))) (.inl (by decide +kernel)) (fun _ _ => rfl)) (sound_nil)) (sound_nil)) (sound_cons (sound_ret (sound_local (by decide +kernel) (by decide +kernel))) (sound_nil))))))))
noncomputable abbrev tb_law_balances_1 : TS := tSeq (tRet (tName "_law_found")) (tNil)
noncomputable abbrev tb_law_balances_2 : TS := tSeq (tStore (tName "_law_found") (tItem (tName "_law_debt_here") (tConst (.int 1))) (tBin .Add (tItem (tName "_law_found") (tItem (tName "_law_debt_here") (tConst (.int 1)))) (tItem (tName "_law_debt_here") (tConst (.int 2))))) (tNil)
noncomputable abbrev tb_law_balances_3 : TS := tSeq (tStore (tName "_law_found") (tItem (tName "_law_debt_here") (tConst (.int 0))) (tBin .Sub (tItem (tName "_law_found") (tItem (tName "_law_debt_here") (tConst (.int 0)))) (tItem (tName "_law_debt_here") (tConst (.int 2))))) (tb_law_balances_2)
noncomputable abbrev tb_law_balances_4 : TS := tSeq (tFor "_law_debt_here" (tName "_law_debts_here") (tb_law_balances_3)) (tb_law_balances_1)
noncomputable abbrev tb_law_balances_5 : TS := tSeq (tSet "_law_found" (tComp "_law_house" [] (tCall (tEcons (tName "_law_count_here") (tEnil)) rangeF) (tTrue) (tConst (.int 0)))) (tb_law_balances_4)
noncomputable def tb_law_balances : TS := tb_law_balances_5
noncomputable def T_law_balances : TF := tFun ["_law_count_here", "_law_debts_here"] tb_law_balances
set_option maxRecDepth 100000 in
set_option maxHeartbeats 4000000 in
theorem s_law_balances {g : Gx} (F : Fx07 g) : HasF g 1 true "_law_balances" T_law_balances :=
  has_def (F.d 17 (by decide)) rfl (fun _ _ _ vals h => by obtain ⟨a, b, rfl⟩ := len2 h; rfl) (by decide +kernel) rfl rfl rfl (show SoundSs g 0 _ _ _ tb_law_balances from (sound_cons (sound_setcomp (compOk (by decide +kernel) (by decide +kernel) (by decide +kernel) (by decide +kernel) (by decide +kernel) (by decide +kernel)) (sound_callT (by decide +kernel) (by decide +kernel) F.c_range (sound_econs (sound_local (by decide +kernel) (by decide +kernel)) (sound_enil) (fun _ => rfl)) bi_range) (ifs_nil) (sound_int) (fun _ _ => rfl) (.inl (by decide +kernel)) (swapsTrue (by decide +kernel))) (sound_cons (sound_for (sound_local (by decide +kernel) (by decide +kernel)) (sound_cons (sound_store (sound_bin (sound_item (sound_local (by decide +kernel) (by decide +kernel)) (sound_item (sound_local (by decide +kernel) (by decide +kernel)) (sound_int) (fun _ _ _ => rfl)) (fun _ _ _ => rfl)) (sound_item (sound_local (by decide +kernel) (by decide +kernel)) (sound_int) (fun _ _ _ => rfl))) (sound_local (by decide +kernel) (by decide +kernel)) (sound_item (sound_local (by decide +kernel) (by decide +kernel)) (sound_int) (fun _ _ _ => rfl)) (fun _ _ => rfl)) (sound_cons (sound_store (sound_bin (sound_item (sound_local (by decide +kernel) (by decide +kernel)) (sound_item (sound_local (by decide +kernel) (by decide +kernel)) (sound_int) (fun _ _ _ => rfl)) (fun _ _ _ => rfl)) (sound_item (sound_local (by decide +kernel) (by decide +kernel)) (sound_int) (fun _ _ _ => rfl))) (sound_local (by decide +kernel) (by decide +kernel)) (sound_item (sound_local (by decide +kernel) (by decide +kernel)) (sound_int) (fun _ _ _ => rfl)) (fun _ _ => rfl)) (sound_nil))) (.inl (by decide +kernel)) (fun _ _ => rfl)) (sound_cons (sound_ret (sound_local (by decide +kernel) (by decide +kernel))) (sound_nil)))))
noncomputable abbrev tb_law_ring_by_1 : TS := tSeq (tRet (tList (tEnil))) (tNil)
noncomputable abbrev tb_law_ring_by_2 : TS := tSeq (tExpr (tMeth appendF (tName "_law_way") (tEcons (tItem (tName "_law_later") (tBin .Mod (tBin .Add (tBin .FloorDiv (tName "_law_cell") (tConst (.int 7))) (tBin .Mult (tConst (.int 3)) (tName "_law_turn"))) (tCall (tEcons (tName "_law_later") (tEnil)) lenF))) (tEnil)))) (tNil)
noncomputable abbrev tb_law_ring_by_3 : TS := tSeq (tRet (tList (tEnil))) (tNil)
noncomputable abbrev tb_law_ring_by_4 : TS := tSeq (tIf (tCmpB .Eq (tCall (tEcons (tName "_law_later") (tEnil)) lenF) (tConst (.int 0))) (tb_law_ring_by_3) (tNil)) (tb_law_ring_by_2)
noncomputable abbrev tb_law_ring_by_5 : TS := tSeq (tSet "_law_later" (tComp "_law_number" ["_law_at", "_law_debts_here", "_law_room"] (tCall (tEcons (tCall (tEcons (tName "_law_debts_here") (tEnil)) lenF) (tEnil)) rangeF) (tAnd (tCmpB .Eq (tItem (tItem (tName "_law_debts_here") (tName "_law_number")) (tConst (.int 0))) (tName "_law_at")) (tAnd (tCmpB .Gt (tItem (tName "_law_room") (tName "_law_number")) (tConst (.int 0))) (tTrue))) (tName "_law_number"))) (tb_law_ring_by_4)
noncomputable abbrev tb_law_ring_by_6 : TS := tSeq (tRet (tSlice (tName "_law_way") (tPsome (tName "_law_k")) (tPnone))) (tNil)
noncomputable abbrev tb_law_ring_by_7 : TS := tSeq (tIf (tCmpB .Eq (tItem (tItem (tName "_law_debts_here") (tItem (tName "_law_way") (tName "_law_k"))) (tConst (.int 0))) (tName "_law_at")) (tb_law_ring_by_6) (tNil)) (tNil)
noncomputable abbrev tb_law_ring_by_8 : TS := tSeq (tFor "_law_k" (tCall (tEcons (tCall (tEcons (tName "_law_way") (tEnil)) lenF) (tEnil)) rangeF) (tb_law_ring_by_7)) (tb_law_ring_by_5)
noncomputable abbrev tb_law_ring_by_9 : TS := tSeq (tSet "_law_at" (tItem (tItem (tName "_law_debts_here") (tItem (tName "_law_way") (tNeg (tConst (.int 1))))) (tConst (.int 1)))) (tb_law_ring_by_8)
noncomputable abbrev tb_law_ring_by_10 : TS := tSeq (tFor "_law_turn" (tCall (tEcons (tConst (.int 20)) (tEnil)) rangeF) (tb_law_ring_by_9)) (tb_law_ring_by_1)
noncomputable abbrev tb_law_ring_by_11 : TS := tSeq (tSet "_law_way" (tList (tEcons (tBin .Mod (tName "_law_cell") (tCall (tEcons (tName "_law_debts_here") (tEnil)) lenF)) (tEnil)))) (tb_law_ring_by_10)
noncomputable abbrev tb_law_ring_by_12 : TS := tSeq (tRet (tList (tEnil))) (tNil)
noncomputable abbrev tb_law_ring_by_13 : TS := tSeq (tIf (tCmpB .Eq (tCall (tEcons (tName "_law_debts_here") (tEnil)) lenF) (tConst (.int 0))) (tb_law_ring_by_12) (tNil)) (tb_law_ring_by_11)
noncomputable def tb_law_ring_by : TS := tb_law_ring_by_13
noncomputable def T_law_ring_by : TF := tFun ["_law_debts_here", "_law_room", "_law_cell"] tb_law_ring_by
set_option maxRecDepth 100000 in
set_option maxHeartbeats 4000000 in
theorem s_law_ring_by {g : Gx} (F : Fx07 g) : HasF g 1 true "_law_ring_by" T_law_ring_by :=
  has_def (F.d 18 (by decide)) rfl (fun _ _ _ vals h => by obtain ⟨a, b, c, rfl⟩ := len3 h; rfl) (by decide +kernel) rfl rfl rfl (show SoundSs g 0 _ _ _ tb_law_ring_by from (sound_cons (sound_if (soundB_cmp (sound_callB (by decide +kernel) (by decide +kernel) F.b_len (sound_econs (sound_cell (by decide +kernel) (by decide +kernel)) (sound_enil) (fun _ => rfl)) bi_len) (sound_int) rfl) (sound_cons (sound_ret (sound_list (sound_enil))) (sound_nil)) (sound_nil)) (sound_cons (sound_set (sound_list (sound_econs (sound_bin (sound_local (by decide +kernel) (by decide +kernel)) (sound_callB (by decide +kernel) (by decide +kernel) F.b_len (sound_econs (sound_cell (by decide +kernel) (by decide +kernel)) (sound_enil) (fun _ => rfl)) bi_len)) (sound_enil) (fun _ => rfl))) (.inl (by decide +kernel)) (fun _ _ => rfl)) (sound_cons (sound_for (sound_callT (by decide +kernel) (by decide +kernel) F.c_range (sound_econs (sound_int) (sound_enil) (fun _ => rfl)) bi_range) (sound_cons (sound_set (sound_item (sound_item (sound_cell (by decide +kernel) (by decide +kernel)) (sound_item (sound_local (by decide +kernel) (by decide +kernel)) (sound_neg (sound_int)) (fun _ _ _ => rfl)) (fun _ _ _ => rfl)) (sound_int) (fun _ _ _ => rfl)) (.inr (by decide +kernel)) (fun _ _ => rfl)) (sound_cons (sound_for (sound_callT (by decide +kernel) (by decide +kernel) F.c_range (sound_econs (sound_callB (by decide +kernel) (by decide +kernel) F.b_len (sound_econs (sound_local (by decide +kernel) (by decide +kernel)) (sound_enil) (fun _ => rfl)) bi_len) (sound_enil) (fun _ => rfl)) bi_range) (sound_cons (sound_if (soundB_cmp (sound_item (sound_item (sound_cell (by decide +kernel) (by decide +kernel)) (sound_item (sound_local (by decide +kernel) (by decide +kernel)) (sound_local (by decide +kernel) (by decide +kernel)) (fun _ _ _ => rfl)) (fun _ _ _ => rfl)) (sound_int) (fun _ _ _ => rfl)) (sound_cell (by decide +kernel) (by decide +kernel)) rfl) (sound_cons (sound_ret (sound_slice (sound_local (by decide +kernel) (by decide +kernel)) (part_some (sound_local (by decide +kernel) (by decide +kernel))) (part_none) (fun _ _ => rfl))) (sound_nil)) (sound_nil)) (sound_nil)) (.inl (by decide +kernel)) (fun _ _ => rfl)) (sound_cons (sound_setcomp (compOk (by decide +kernel) (by decide +kernel) (by decide +kernel) (by decide +kernel) (by decide +kernel) (by decide +kernel)) (sound_callT (by decide +kernel) (by decide +kernel) F.c_range (sound_econs (sound_callB (by decide +kernel) (by decide +kernel) F.b_len (sound_econs (sound_cell (by decide +kernel) (by decide +kernel)) (sound_enil) (fun _ => rfl)) bi_len) (sound_enil) (fun _ => rfl)) bi_range) (ifs_one (soundB_and (soundB_cmp (sound_item (sound_item (sound_cell (by decide +kernel) (by decide +kernel)) (sound_local (by decide +kernel) (by decide +kernel)) (fun _ _ _ => rfl)) (sound_int) (fun _ _ _ => rfl)) (sound_cell (by decide +kernel) (by decide +kernel)) rfl) (soundB_and (soundB_cmp (sound_item (sound_cell (by decide +kernel) (by decide +kernel)) (sound_local (by decide +kernel) (by decide +kernel)) (fun _ _ _ => rfl)) (sound_int) rfl) (soundB_andNil)))) (sound_local (by decide +kernel) (by decide +kernel)) (fun _ _ => rfl) (.inl (by decide +kernel)) (swapsTrue (by decide +kernel))) (sound_cons (sound_if (soundB_cmp (sound_callB (by decide +kernel) (by decide +kernel) F.b_len (sound_econs (sound_local (by decide +kernel) (by decide +kernel)) (sound_enil) (fun _ => rfl)) bi_len) (sound_int) rfl) (sound_cons (sound_ret (sound_list (sound_enil))) (sound_nil)) (sound_nil)) (sound_cons (sound_expr (sound_meth (sound_local (by decide +kernel) (by decide +kernel)) (sound_econs (sound_item (sound_local (by decide +kernel) (by decide +kernel)) (sound_bin (sound_bin (sound_bin (sound_local (by decide +kernel) (by decide +kernel)) (sound_int)) (sound_bin (sound_int) (sound_local (by decide +kernel) (by decide +kernel)))) (sound_callB (by decide +kernel) (by decide +kernel) F.b_len (sound_econs (sound_local (by decide +kernel) (by decide +kernel)) (sound_enil) (fun _ => rfl)) bi_len)) (fun _ _ _ => rfl)) (sound_enil) (fun _ => rfl)) me_append (fun _ _ => rfl) (by decide) rfl slot_append ty_append) (fun _ _ => rfl)) (sound_nil)))))) (.inl (by decide +kernel)) (fun _ _ => rfl)) (sound_cons (sound_ret (sound_list (sound_enil))) (sound_nil))))))
noncomputable abbrev tb_law_even_cut_1 : TS := tSeq (tRet (tComp "_law_number" ["_law_debts_here", "_law_room"] (tCall (tEcons (tCall (tEcons (tName "_law_debts_here") (tEnil)) lenF) (tEnil)) rangeF) (tTrue) (tBin .Sub (tItem (tItem (tName "_law_debts_here") (tName "_law_number")) (tConst (.int 2))) (tItem (tName "_law_room") (tName "_law_number"))))) (tNil)
noncomputable abbrev tb_law_even_cut_2 : TS := tSeq (tStore (tName "_law_room") (tName "_law_number") (tBin .Sub (tItem (tName "_law_room") (tName "_law_number")) (tName "_law_many"))) (tNil)
noncomputable abbrev tb_law_even_cut_3 : TS := tSeq (tFor "_law_number" (tName "_law_loop") (tb_law_even_cut_2)) (tNil)
noncomputable abbrev tb_law_even_cut_4 : TS := tSeq (tSet "_law_many" (tBin .Add (tConst (.int 1)) (tBin .Mod (tBin .FloorDiv (tName "_law_cell") (tConst (.int 120))) (tName "_law_most")))) (tNil)
noncomputable abbrev tb_law_even_cut_5 : TS := tSeq (tIf (tAnd (tCmpB .Eq (tBin .Mod (tBin .FloorDiv (tName "_law_cell") (tConst (.int 40))) (tConst (.int 3))) (tConst (.int 1))) (tAnd (tCmpB .Gt (tName "_law_most") (tConst (.int 0))) (tTrue))) (tb_law_even_cut_4) (tNil)) (tb_law_even_cut_3)
noncomputable abbrev tb_law_even_cut_6 : TS := tSeq (tSet "_law_many" (tName "_law_most")) (tb_law_even_cut_5)
noncomputable abbrev tb_law_even_cut_7 : TS := tSeq (tSet "_law_most" (tCall (tEcons (tComp "_law_number" ["_law_room"] (tName "_law_loop") (tTrue) (tItem (tName "_law_room") (tName "_law_number"))) (tEnil)) minLF)) (tb_law_even_cut_6)
noncomputable abbrev tb_law_even_cut_8 : TS := tSeq (tIf (tCmpB .Gt (tCall (tEcons (tName "_law_loop") (tEnil)) lenF) (tConst (.int 0))) (tb_law_even_cut_7) (tNil)) (tNil)
noncomputable abbrev tb_law_even_cut_9 : TS := tSeq (tSet "_law_loop" (tCall (tEcons (tName "_law_debts_here") (tEcons (tName "_law_room") (tEcons (tName "_law_cell") (tEnil)))) T_law_ring_by)) (tb_law_even_cut_8)
noncomputable abbrev tb_law_even_cut_10 : TS := tSeq (tFor "_law_cell" (tName "_law_cells") (tb_law_even_cut_9)) (tb_law_even_cut_1)
noncomputable abbrev tb_law_even_cut_11 : TS := tSeq (tSet "_law_room" (tComp "_law_debt_here" [] (tName "_law_debts_here") (tTrue) (tItem (tName "_law_debt_here") (tConst (.int 2))))) (tb_law_even_cut_10)
noncomputable def tb_law_even_cut : TS := tb_law_even_cut_11
noncomputable def T_law_even_cut : TF := tFun ["_law_debts_here", "_law_cells"] tb_law_even_cut
set_option maxRecDepth 100000 in
set_option maxHeartbeats 4000000 in
theorem s_law_even_cut {g : Gx} (F : Fx07 g) : HasF g 2 true "_law_even_cut" T_law_even_cut :=
  has_def (F.d 19 (by decide)) rfl (fun _ _ _ vals h => by obtain ⟨a, b, rfl⟩ := len2 h; rfl) (by decide +kernel) rfl rfl rfl (show SoundSs g 1 _ _ _ tb_law_even_cut from (sound_cons (sound_set (sound_comp (compOk (by decide +kernel) (by decide +kernel) (by decide +kernel) (by decide +kernel) (by decide +kernel) (by decide +kernel)) (sound_cell (by decide +kernel) (by decide +kernel)) (ifs_nil) (sound_item (sound_local (by decide +kernel) (by decide +kernel)) (sound_int) (fun _ _ _ => rfl)) (fun _ _ => rfl)) (.inr (by decide +kernel)) (swapsFalse (by decide +kernel))) (sound_cons (sound_for (sound_local (by decide +kernel) (by decide +kernel)) (sound_cons (sound_set (sound_callF (s_law_ring_by F) (sound_econs (sound_cell (by decide +kernel) (by decide +kernel)) (sound_econs (sound_cell (by decide +kernel) (by decide +kernel)) (sound_econs (sound_local (by decide +kernel) (by decide +kernel)) (sound_enil) (fun _ => rfl)) (fun _ => rfl)) (fun _ => rfl)) (by decide +kernel) (by decide +kernel) (by decide)) (.inl (by decide +kernel)) (fun _ _ => rfl)) (sound_cons (sound_if (soundB_cmp (sound_callB (by decide +kernel) (by decide +kernel) F.b_len (sound_econs (sound_local (by decide +kernel) (by decide +kernel)) (sound_enil) (fun _ => rfl)) bi_len) (sound_int) rfl) (sound_cons (sound_set (sound_callB (by decide +kernel) (by decide +kernel) F.b_min (sound_econs (sound_comp (compOk (by decide +kernel) (by decide +kernel) (by decide +kernel) (by decide +kernel) (by decide +kernel) (by decide +kernel)) (sound_local (by decide +kernel) (by decide +kernel)) (ifs_nil) (sound_item (sound_cell (by decide +kernel) (by decide +kernel)) (sound_local (by decide +kernel) (by decide +kernel)) (fun _ _ _ => rfl)) (fun _ _ => rfl)) (sound_enil) (fun _ => rfl)) (bi_minL rfl)) (.inl (by decide +kernel)) (fun _ _ => rfl)) (sound_cons (sound_set (sound_local (by decide +kernel) (by decide +kernel)) (.inl (by decide +kernel)) (fun _ _ => rfl)) (sound_cons (sound_if (soundB_and (soundB_cmp (sound_bin (sound_bin (sound_local (by decide +kernel) (by decide +kernel)) (sound_int)) (sound_int)) (sound_int) rfl) (soundB_and (soundB_cmp (sound_local (by decide +kernel) (by decide +kernel)) (sound_int) rfl) (soundB_andNil))) (sound_cons (sound_set (sound_bin (sound_int) (sound_bin (sound_bin (sound_local (by decide +kernel) (by decide +kernel)) (sound_int)) (sound_local (by decide +kernel) (by decide +kernel)))) (.inl (by decide +kernel)) (fun _ _ => rfl)) (sound_nil)) (sound_nil)) (sound_cons (sound_for (sound_local (by decide +kernel) (by decide +kernel)) (sound_cons (sound_store (sound_bin (sound_item (sound_cell (by decide +kernel) (by decide +kernel)) (sound_local (by decide +kernel) (by decide +kernel)) (fun _ _ _ => rfl)) (sound_local (by decide +kernel) (by decide +kernel))) (sound_cell (by decide +kernel) (by decide +kernel)) (sound_local (by decide +kernel) (by decide +kernel)) (fun _ _ => rfl)) (sound_nil)) (.inl (by decide +kernel)) (fun _ _ => rfl)) (sound_nil))))) (sound_nil)) (sound_nil))) (.inl (by decide +kernel)) (fun _ _ => rfl)) (sound_cons (sound_ret (sound_comp (compOk (by decide +kernel) (by decide +kernel) (by decide +kernel) (by decide +kernel) (by decide +kernel) (by decide +kernel)) (sound_callT (by decide +kernel) (by decide +kernel) F.c_range (sound_econs (sound_callB (by decide +kernel) (by decide +kernel) F.b_len (sound_econs (sound_cell (by decide +kernel) (by decide +kernel)) (sound_enil) (fun _ => rfl)) bi_len) (sound_enil) (fun _ => rfl)) bi_range) (ifs_nil) (sound_bin (sound_item (sound_item (sound_cell (by decide +kernel) (by decide +kernel)) (sound_local (by decide +kernel) (by decide +kernel)) (fun _ _ _ => rfl)) (sound_int) (fun _ _ _ => rfl)) (sound_item (sound_cell (by decide +kernel) (by decide +kernel)) (sound_local (by decide +kernel) (by decide +kernel)) (fun _ _ _ => rfl))) (fun _ _ => rfl))) (sound_nil)))))
noncomputable abbrev tb_law_is_even_1 : TS := tSeq (tRet (tCmp .Eq (tCall (tEcons (tName "_law_count_here") (tEcons (tName "_law_rows") (tEnil))) T_law_balances) (tComp "_law_house" [] (tCall (tEcons (tName "_law_count_here") (tEnil)) rangeF) (tTrue) (tConst (.int 0))))) (tNil)
noncomputable abbrev tb_law_is_even_2 : TS := tSeq (tSet "_law_rows" (tComp "_law_number" ["_law_cut", "_law_debts_here"] (tCall (tEcons (tCall (tEcons (tName "_law_debts_here") (tEnil)) lenF) (tEnil)) rangeF) (tTrue) (tTup (tEcons (tItem (tItem (tName "_law_debts_here") (tName "_law_number")) (tConst (.int 0))) (tEcons (tItem (tItem (tName "_law_debts_here") (tName "_law_number")) (tConst (.int 1))) (tEcons (tItem (tName "_law_cut") (tName "_law_number")) (tEnil))))))) (tb_law_is_even_1)
noncomputable def tb_law_is_even : TS := tb_law_is_even_2
noncomputable def T_law_is_even : TF := tFun ["_law_count_here", "_law_debts_here", "_law_cut"] tb_law_is_even
set_option maxRecDepth 100000 in
set_option maxHeartbeats 4000000 in
theorem s_law_is_even {g : Gx} (F : Fx07 g) : HasF g 2 true "_law_is_even" T_law_is_even :=
  has_def (F.d 20 (by decide)) rfl (fun _ _ _ vals h => by obtain ⟨a, b, c, rfl⟩ := len3 h; rfl) (by decide +kernel) rfl rfl rfl (show SoundSs g 1 _ _ _ tb_law_is_even from (sound_cons (sound_setcomp (compOk (by decide +kernel) (by decide +kernel) (by decide +kernel) (by decide +kernel) (by decide +kernel) (by decide +kernel)) (sound_callT (by decide +kernel) (by decide +kernel) F.c_range (sound_econs (sound_callB (by decide +kernel) (by decide +kernel) F.b_len (sound_econs (sound_cell (by decide +kernel) (by decide +kernel)) (sound_enil) (fun _ => rfl)) bi_len) (sound_enil) (fun _ => rfl)) bi_range) (ifs_nil) (sound_tuple (sound_econs (sound_item (sound_item (sound_cell (by decide +kernel) (by decide +kernel)) (sound_local (by decide +kernel) (by decide +kernel)) (fun _ _ _ => rfl)) (sound_int) (fun _ _ _ => rfl)) (sound_econs (sound_item (sound_item (sound_cell (by decide +kernel) (by decide +kernel)) (sound_local (by decide +kernel) (by decide +kernel)) (fun _ _ _ => rfl)) (sound_int) (fun _ _ _ => rfl)) (sound_econs (sound_item (sound_cell (by decide +kernel) (by decide +kernel)) (sound_local (by decide +kernel) (by decide +kernel)) (fun _ _ _ => rfl)) (sound_enil) (fun _ => rfl)) (fun _ => rfl)) (fun _ => rfl))) (fun _ _ => rfl) (.inl (by decide +kernel)) (swapsTrue (by decide +kernel))) (sound_cons (sound_ret (sound_cmp (sound_callF (s_law_balances F) (sound_econs (sound_local (by decide +kernel) (by decide +kernel)) (sound_econs (sound_local (by decide +kernel) (by decide +kernel)) (sound_enil) (fun _ => rfl)) (fun _ => rfl)) (by decide +kernel) (by decide +kernel) (by decide)) (sound_comp (compOk (by decide +kernel) (by decide +kernel) (by decide +kernel) (by decide +kernel) (by decide +kernel) (by decide +kernel)) (sound_callT (by decide +kernel) (by decide +kernel) F.c_range (sound_econs (sound_local (by decide +kernel) (by decide +kernel)) (sound_enil) (fun _ => rfl)) bi_range) (ifs_nil) (sound_int) (fun _ _ => rfl)) rfl)) (sound_nil))))
noncomputable abbrev tb_law_is_cut_1 : TS := tSeq (tRet (tConst (.bool true))) (tNil)
noncomputable abbrev tb_law_is_cut_2 : TS := tSeq (tRet (tConst (.bool false))) (tNil)
noncomputable abbrev tb_law_is_cut_3 : TS := tSeq (tIf (tOr (tNot (tTest (tCall (tEcons (tItem (tName "_law_cut") (tName "_law_number")) (tEnil)) T_law_whole))) (tOr (tNot (tChainB .LtE .LtE (tConst (.int 0)) (tItem (tName "_law_cut") (tName "_law_number")) (tItem (tItem (tName "_law_debts_here") (tName "_law_number")) (tConst (.int 2))))) (tFalse))) (tb_law_is_cut_2) (tNil)) (tNil)
noncomputable abbrev tb_law_is_cut_4 : TS := tSeq (tFor "_law_number" (tCall (tEcons (tCall (tEcons (tName "_law_debts_here") (tEnil)) lenF) (tEnil)) rangeF) (tb_law_is_cut_3)) (tb_law_is_cut_1)
noncomputable abbrev tb_law_is_cut_5 : TS := tSeq (tRet (tConst (.bool false))) (tNil)
noncomputable abbrev tb_law_is_cut_6 : TS := tSeq (tIf (tOr (tNot (tTest (tIsinst (tName "_law_cut") okList))) (tOr (tCmpB .NotEq (tCall (tEcons (tName "_law_cut") (tEnil)) lenF) (tCall (tEcons (tName "_law_debts_here") (tEnil)) lenF)) (tFalse))) (tb_law_is_cut_5) (tNil)) (tb_law_is_cut_4)
noncomputable def tb_law_is_cut : TS := tb_law_is_cut_6
noncomputable def T_law_is_cut : TF := tFun ["_law_debts_here", "_law_cut"] tb_law_is_cut
set_option maxRecDepth 100000 in
set_option maxHeartbeats 4000000 in
theorem s_law_is_cut {g : Gx} (F : Fx07 g) : HasF g 2 true "_law_is_cut" T_law_is_cut :=
  has_def (F.d 21 (by decide)) rfl (fun _ _ _ vals h => by obtain ⟨a, b, rfl⟩ := len2 h; rfl) (by decide +kernel) rfl rfl rfl (show SoundSs g 1 _ _ _ tb_law_is_cut from (sound_cons (sound_if (soundB_or (soundB_not (soundB_plain (sound_isinst (sound_local (by decide +kernel) (by decide +kernel)) (by decide +kernel) F.b_isinstance (by decide +kernel) (by decide +kernel) F.c_list okList_ok (fun _ _ e => by cases e) (fun _ => rfl)) (fun _ _ => rfl))) (soundB_or (soundB_cmp (sound_callB (by decide +kernel) (by decide +kernel) F.b_len (sound_econs (sound_local (by decide +kernel) (by decide +kernel)) (sound_enil) (fun _ => rfl)) bi_len) (sound_callB (by decide +kernel) (by decide +kernel) F.b_len (sound_econs (sound_local (by decide +kernel) (by decide +kernel)) (sound_enil) (fun _ => rfl)) bi_len) rfl) (soundB_orNil))) (sound_cons (sound_ret (sound_bool)) (sound_nil)) (sound_nil)) (sound_cons (sound_for (sound_callT (by decide +kernel) (by decide +kernel) F.c_range (sound_econs (sound_callB (by decide +kernel) (by decide +kernel) F.b_len (sound_econs (sound_local (by decide +kernel) (by decide +kernel)) (sound_enil) (fun _ => rfl)) bi_len) (sound_enil) (fun _ => rfl)) bi_range) (sound_cons (sound_if (soundB_or (soundB_not (soundB_plain (sound_callF (s_law_whole F) (sound_econs (sound_item (sound_local (by decide +kernel) (by decide +kernel)) (sound_local (by decide +kernel) (by decide +kernel)) (fun _ _ _ => rfl)) (sound_enil) (fun _ => rfl)) (by decide +kernel) (by decide +kernel) (by decide)) (fun _ _ => rfl))) (soundB_or (soundB_not (soundB_chain (sound_int) (sound_item (sound_local (by decide +kernel) (by decide +kernel)) (sound_local (by decide +kernel) (by decide +kernel)) (fun _ _ _ => rfl)) (sound_item (sound_item (sound_local (by decide +kernel) (by decide +kernel)) (sound_local (by decide +kernel) (by decide +kernel)) (fun _ _ _ => rfl)) (sound_int) (fun _ _ _ => rfl)) rfl)) (soundB_orNil))) (sound_cons (sound_ret (sound_bool)) (sound_nil)) (sound_nil)) (sound_nil)) (.inl (by decide +kernel)) (fun _ _ => rfl)) (sound_cons (sound_ret (sound_bool)) (sound_nil)))))
noncomputable abbrev tb_law_bad_cut_1 : TS := tSeq (tRet (tBin .Add (tBin .Add (tSlice (tName "_law_cut") (tPnone) (tPsome (tName "_law_at"))) (tList (tEcons (tItem (tName "_law_odd") (tBin .Mod (tBin .FloorDiv (tName "_law_cell") (tConst (.int 240))) (tConst (.int 9)))) (tEnil)))) (tSlice (tName "_law_cut") (tPsome (tBin .Add (tName "_law_at") (tConst (.int 1)))) (tPnone)))) (tNil)
noncomputable abbrev tb_law_bad_cut_2 : TS := tSeq (tSet "_law_odd" (tList (tEcons (tNeg (tConst (.int 1))) (tEcons (tBin .Add (tName "_law_amount") (tConst (.int 1))) (tEcons (tConst (.bool true)) (tEcons (tConst .none) (tEcons (tConst (.str "0")) (tEcons (tBin .Sub (tNeg (tName "_law_amount")) (tConst (.int 1))) (tEcons (tBin .Add (tBin .Mult (tName "_law_amount") (tConst (.int 2))) (tConst (.int 1))) (tEcons (tList (tEcons (tConst (.int 0)) (tEnil))) (tEcons (tConst (.bool false)) (tEnil)))))))))))) (tb_law_bad_cut_1)
noncomputable abbrev tb_law_bad_cut_3 : TS := tSeq (tSet "_law_amount" (tItem (tItem (tName "_law_debts_here") (tName "_law_at")) (tConst (.int 2)))) (tb_law_bad_cut_2)
noncomputable abbrev tb_law_bad_cut_4 : TS := tSeq (tSet "_law_at" (tBin .Mod (tBin .FloorDiv (tName "_law_cell") (tConst (.int 4))) (tCall (tEcons (tName "_law_debts_here") (tEnil)) lenF))) (tb_law_bad_cut_3)
noncomputable abbrev tb_law_bad_cut_5 : TS := tSeq (tRet (tSlice (tName "_law_cut") (tPsome (tConst (.int 1))) (tPnone))) (tNil)
noncomputable abbrev tb_law_bad_cut_6 : TS := tSeq (tIf (tCmpB .Eq (tBin .Mod (tName "_law_cell") (tConst (.int 4))) (tConst (.int 1))) (tb_law_bad_cut_5) (tNil)) (tb_law_bad_cut_4)
noncomputable abbrev tb_law_bad_cut_7 : TS := tSeq (tRet (tBin .Add (tName "_law_cut") (tList (tEcons (tConst (.int 0)) (tEnil))))) (tNil)
noncomputable abbrev tb_law_bad_cut_8 : TS := tSeq (tIf (tOr (tCmpB .Eq (tCall (tEcons (tName "_law_debts_here") (tEnil)) lenF) (tConst (.int 0))) (tOr (tCmpB .Eq (tBin .Mod (tName "_law_cell") (tConst (.int 4))) (tConst (.int 0))) (tFalse))) (tb_law_bad_cut_7) (tNil)) (tb_law_bad_cut_6)
noncomputable abbrev tb_law_bad_cut_9 : TS := tSeq (tRet (tItem (tList (tEcons (tCall (tEcons (tName "_law_cut") (tEnil)) tupleF) (tEcons (tConst .none) (tEnil)))) (tBin .Sub (tBin .Mod (tName "_law_cell") (tConst (.int 9))) (tConst (.int 7))))) (tNil)
noncomputable abbrev tb_law_bad_cut_10 : TS := tSeq (tIf (tCmpB .Gt (tBin .Mod (tName "_law_cell") (tConst (.int 9))) (tConst (.int 6))) (tb_law_bad_cut_9) (tNil)) (tb_law_bad_cut_8)
noncomputable def tb_law_bad_cut : TS := tb_law_bad_cut_10
noncomputable def T_law_bad_cut : TF := tFun ["_law_debts_here", "_law_cut", "_law_cell"] tb_law_bad_cut
set_option maxRecDepth 100000 in
set_option maxHeartbeats 4000000 in
theorem s_law_bad_cut {g : Gx} (F : Fx07 g) {q : Bool} : HasF g 1 q "_law_bad_cut" T_law_bad_cut :=
  has_def (F.d 22 (by decide)) rfl (fun _ _ _ vals h => by obtain ⟨a, b, c, rfl⟩ := len3 h; rfl) (by decide +kernel) rfl rfl rfl (show SoundSs g 0 _ _ _ tb_law_bad_cut from (sound_cons (sound_if (soundB_cmp (sound_bin (sound_local (by decide +kernel) (by decide +kernel)) (sound_int)) (sound_int) rfl) (sound_cons (sound_ret (sound_item (sound_list (sound_econs (sound_callT (by decide +kernel) (by decide +kernel) F.c_tuple (sound_econs (sound_local (by decide +kernel) (by decide +kernel)) (sound_enil) (fun _ => rfl)) bi_tuple) (sound_econs (sound_none) (sound_enil) (fun _ => rfl)) (fun _ => rfl))) (sound_bin (sound_bin (sound_local (by decide +kernel) (by decide +kernel)) (sound_int)) (sound_int)) (fun _ _ _ => rfl))) (sound_nil)) (sound_nil)) (sound_cons (sound_if (soundB_or (soundB_cmp (sound_callB (by decide +kernel) (by decide +kernel) F.b_len (sound_econs (sound_local (by decide +kernel) (by decide +kernel)) (sound_enil) (fun _ => rfl)) bi_len) (sound_int) rfl) (soundB_or (soundB_cmp (sound_bin (sound_local (by decide +kernel) (by decide +kernel)) (sound_int)) (sound_int) rfl) (soundB_orNil))) (sound_cons (sound_ret (sound_bin (sound_local (by decide +kernel) (by decide +kernel)) (sound_list (sound_econs (sound_int) (sound_enil) (fun _ => rfl))))) (sound_nil)) (sound_nil)) (sound_cons (sound_if (soundB_cmp (sound_bin (sound_local (by decide +kernel) (by decide +kernel)) (sound_int)) (sound_int) rfl) (sound_cons (sound_ret (sound_slice (sound_local (by decide +kernel) (by decide +kernel)) (part_some (sound_int)) (part_none) (fun _ _ => rfl))) (sound_nil)) (sound_nil)) (sound_cons (sound_set (sound_bin (sound_bin (sound_local (by decide +kernel) (by decide +kernel)) (sound_int)) (sound_callB (by decide +kernel) (by decide +kernel) F.b_len (sound_econs (sound_local (by decide +kernel) (by decide +kernel)) (sound_enil) (fun _ => rfl)) bi_len)) (.inl (by decide +kernel)) (fun _ _ => rfl)) (sound_cons (sound_set (sound_item (sound_item (sound_local (by decide +kernel) (by decide +kernel)) (sound_local (by decide +kernel) (by decide +kernel)) (fun _ _ _ => rfl)) (sound_int) (fun _ _ _ => rfl)) (.inl (by decide +kernel)) (fun _ _ => rfl)) (sound_cons (sound_set (sound_list (sound_econs (sound_neg (sound_int)) (sound_econs (sound_bin (sound_local (by decide +kernel) (by decide +kernel)) (sound_int)) (sound_econs (sound_bool) (sound_econs (sound_none) (sound_econs (sound_str) (sound_econs (sound_bin (sound_neg (sound_local (by decide +kernel) (by decide +kernel))) (sound_int)) (sound_econs (sound_bin (sound_bin (sound_local (by decide +kernel) (by decide +kernel)) (sound_int)) (sound_int)) (sound_econs (sound_list (sound_econs (sound_int) (sound_enil) (fun _ => rfl))) (sound_econs (sound_bool) (sound_enil) (fun _ => rfl)) (fun _ => rfl)) (fun _ => rfl)) (fun _ => rfl)) (fun _ => rfl)) (fun _ => rfl)) (fun _ => rfl)) (fun _ => rfl)) (fun _ => rfl))) (.inl (by decide +kernel)) (fun _ _ => rfl)) (sound_cons (sound_ret (sound_bin (sound_bin (sound_slice (sound_local (by decide +kernel) (by decide +kernel)) (part_none) (part_some (sound_local (by decide +kernel) (by decide +kernel))) (fun _ _ => rfl)) (sound_list (sound_econs (sound_item (sound_local (by decide +kernel) (by decide +kernel)) (sound_bin (sound_bin (sound_local (by decide +kernel) (by decide +kernel)) (sound_int)) (sound_int)) (fun _ _ _ => rfl)) (sound_enil) (fun _ => rfl)))) (sound_slice (sound_local (by decide +kernel) (by decide +kernel)) (part_some (sound_bin (sound_local (by decide +kernel) (by decide +kernel)) (sound_int))) (part_none) (fun _ _ => rfl)))) (sound_nil)))))))))
noncomputable abbrev tb_law_shows_1 : TS := tSeq (tRet (tConst (.bool true))) (tNil)
noncomputable abbrev tb_law_shows_2 : TS := tSeq (tRet (tConst (.bool false))) (tNil)
noncomputable abbrev tb_law_shows_3 : TS := tSeq (tIf (tAnd (tCmpB .Gt (tName "_law_lure") (tConst (.int 0))) (tAnd (tCmpB .Lt (tItem (tName "_law_cut") (tName "_law_number")) (tName "_law_amount")) (tTrue))) (tb_law_shows_2) (tNil)) (tNil)
noncomputable abbrev tb_law_shows_4 : TS := tSeq (tRet (tConst (.bool false))) (tNil)
noncomputable abbrev tb_law_shows_5 : TS := tSeq (tIf (tAnd (tCmpB .Lt (tName "_law_lure") (tConst (.int 0))) (tAnd (tCmpB .Gt (tItem (tName "_law_cut") (tName "_law_number")) (tConst (.int 0))) (tTrue))) (tb_law_shows_4) (tNil)) (tb_law_shows_3)
noncomputable abbrev tb_law_shows_6 : TS := tSeq (tSet "_law_lure" (tBin .Sub (tBin .Add (tConst (.int 1)) (tItem (tName "_law_tags") (tName "_law_debtor"))) (tItem (tName "_law_tags") (tName "_law_creditor")))) (tb_law_shows_5)
noncomputable abbrev tb_law_shows_7 : TS := tSeq (tUnpack ["_law_debtor", "_law_creditor", "_law_amount"] (tItem (tName "_law_debts_here") (tName "_law_number"))) (tb_law_shows_6)
noncomputable abbrev tb_law_shows_8 : TS := tSeq (tFor "_law_number" (tCall (tEcons (tCall (tEcons (tName "_law_debts_here") (tEnil)) lenF) (tEnil)) rangeF) (tb_law_shows_7)) (tb_law_shows_1)
noncomputable def tb_law_shows : TS := tb_law_shows_8
noncomputable def T_law_shows : TF := tFun ["_law_debts_here", "_law_cut", "_law_tags"] tb_law_shows
set_option maxRecDepth 100000 in
set_option maxHeartbeats 4000000 in
theorem s_law_shows {g : Gx} (F : Fx07 g) : HasF g 1 true "_law_shows" T_law_shows :=
  has_def (F.d 23 (by decide)) rfl (fun _ _ _ vals h => by obtain ⟨a, b, c, rfl⟩ := len3 h; rfl) (by decide +kernel) rfl rfl rfl (show SoundSs g 0 _ _ _ tb_law_shows from (sound_cons (sound_for (sound_callT (by decide +kernel) (by decide +kernel) F.c_range (sound_econs (sound_callB (by decide +kernel) (by decide +kernel) F.b_len (sound_econs (sound_local (by decide +kernel) (by decide +kernel)) (sound_enil) (fun _ => rfl)) bi_len) (sound_enil) (fun _ => rfl)) bi_range) (sound_cons (sound_unpack (nps := [("_law_debtor", ⟨207, 8, 207, 19⟩), ("_law_creditor", ⟨207, 21, 207, 34⟩), ("_law_amount", ⟨207, 36, 207, 47⟩)]) (sound_item (sound_local (by decide +kernel) (by decide +kernel)) (sound_local (by decide +kernel) (by decide +kernel)) (fun _ _ _ => rfl)) (by decide +kernel) (fun _ _ => rfl) (fun _ _ => rfl)) (sound_cons (sound_set (sound_bin (sound_bin (sound_int) (sound_item (sound_local (by decide +kernel) (by decide +kernel)) (sound_local (by decide +kernel) (by decide +kernel)) (fun _ _ _ => rfl))) (sound_item (sound_local (by decide +kernel) (by decide +kernel)) (sound_local (by decide +kernel) (by decide +kernel)) (fun _ _ _ => rfl))) (.inl (by decide +kernel)) (fun _ _ => rfl)) (sound_cons (sound_if (soundB_and (soundB_cmp (sound_local (by decide +kernel) (by decide +kernel)) (sound_int) rfl) (soundB_and (soundB_cmp (sound_item (sound_local (by decide +kernel) (by decide +kernel)) (sound_local (by decide +kernel) (by decide +kernel)) (fun _ _ _ => rfl)) (sound_int) rfl) (soundB_andNil))) (sound_cons (sound_ret (sound_bool)) (sound_nil)) (sound_nil)) (sound_cons (sound_if (soundB_and (soundB_cmp (sound_local (by decide +kernel) (by decide +kernel)) (sound_int) rfl) (soundB_and (soundB_cmp (sound_item (sound_local (by decide +kernel) (by decide +kernel)) (sound_local (by decide +kernel) (by decide +kernel)) (fun _ _ _ => rfl)) (sound_local (by decide +kernel) (by decide +kernel)) rfl) (soundB_andNil))) (sound_cons (sound_ret (sound_bool)) (sound_nil)) (sound_nil)) (sound_nil))))) (.inl (by decide +kernel)) (fun _ _ => rfl)) (sound_cons (sound_ret (sound_bool)) (sound_nil))))
noncomputable abbrev tb_law_settles_1 : TS := tSeq (tRet (tConst (.bool false))) (tNil)
noncomputable abbrev tb_law_settles_2 : TS := tSeq (tRet (tConst (.bool true))) (tNil)
noncomputable abbrev tb_law_settles_3 : TS := tSeq (tIf (tNot (tTest (tName "_law_rising"))) (tb_law_settles_2) (tNil)) (tNil)
noncomputable abbrev tb_law_settles_4 : TS := tSeq (tSet "_law_rising" (tConst (.bool true))) (tNil)
noncomputable abbrev tb_law_settles_5 : TS := tSeq (tStore (tName "_law_heights") (tName "_law_debtor") (tBin .Sub (tItem (tName "_law_heights") (tName "_law_creditor")) (tConst (.int 1)))) (tb_law_settles_4)
noncomputable abbrev tb_law_settles_6 : TS := tSeq (tIf (tAnd (tCmpB .Gt (tItem (tName "_law_cut") (tName "_law_number")) (tConst (.int 0))) (tAnd (tCmpB .Gt (tBin .Sub (tItem (tName "_law_heights") (tName "_law_creditor")) (tConst (.int 1))) (tItem (tName "_law_heights") (tName "_law_debtor"))) (tTrue))) (tb_law_settles_5) (tNil)) (tNil)
noncomputable abbrev tb_law_settles_7 : TS := tSeq (tSet "_law_rising" (tConst (.bool true))) (tNil)
noncomputable abbrev tb_law_settles_8 : TS := tSeq (tStore (tName "_law_heights") (tName "_law_creditor") (tBin .Add (tItem (tName "_law_heights") (tName "_law_debtor")) (tConst (.int 1)))) (tb_law_settles_7)
noncomputable abbrev tb_law_settles_9 : TS := tSeq (tIf (tAnd (tCmpB .Lt (tItem (tName "_law_cut") (tName "_law_number")) (tItem (tItem (tName "_law_debts_here") (tName "_law_number")) (tConst (.int 2)))) (tAnd (tCmpB .Gt (tBin .Add (tItem (tName "_law_heights") (tName "_law_debtor")) (tConst (.int 1))) (tItem (tName "_law_heights") (tName "_law_creditor"))) (tTrue))) (tb_law_settles_8) (tNil)) (tb_law_settles_6)
noncomputable abbrev tb_law_settles_10 : TS := tSeq (tSet "_law_creditor" (tItem (tItem (tName "_law_debts_here") (tName "_law_number")) (tConst (.int 1)))) (tb_law_settles_9)
noncomputable abbrev tb_law_settles_11 : TS := tSeq (tSet "_law_debtor" (tItem (tItem (tName "_law_debts_here") (tName "_law_number")) (tConst (.int 0)))) (tb_law_settles_10)
noncomputable abbrev tb_law_settles_12 : TS := tSeq (tFor "_law_number" (tCall (tEcons (tCall (tEcons (tName "_law_debts_here") (tEnil)) lenF) (tEnil)) rangeF) (tb_law_settles_11)) (tb_law_settles_3)
noncomputable abbrev tb_law_settles_13 : TS := tSeq (tSet "_law_rising" (tConst (.bool false))) (tb_law_settles_12)
noncomputable abbrev tb_law_settles_14 : TS := tSeq (tFor "_law_turn" (tCall (tEcons (tBin .Add (tName "_law_count_here") (tConst (.int 1))) (tEnil)) rangeF) (tb_law_settles_13)) (tb_law_settles_1)
noncomputable abbrev tb_law_settles_15 : TS := tSeq (tSet "_law_heights" (tComp "_law_house" [] (tCall (tEcons (tName "_law_count_here") (tEnil)) rangeF) (tTrue) (tConst (.int 0)))) (tb_law_settles_14)
noncomputable def tb_law_settles : TS := tb_law_settles_15
noncomputable def T_law_settles : TF := tFun ["_law_count_here", "_law_debts_here", "_law_cut"] tb_law_settles
set_option maxRecDepth 100000 in
set_option maxHeartbeats 4000000 in
theorem s_law_settles {g : Gx} (F : Fx07 g) : HasF g 1 true "_law_settles" T_law_settles :=
  has_def (F.d 24 (by decide)) rfl (fun _ _ _ vals h => by obtain ⟨a, b, c, rfl⟩ := len3 h; rfl) (by decide +kernel) rfl rfl rfl (show SoundSs g 0 _ _ _ tb_law_settles from (sound_cons (sound_setcomp (compOk (by decide +kernel) (by decide +kernel) (by decide +kernel) (by decide +kernel) (by decide +kernel) (by decide +kernel)) (sound_callT (by decide +kernel) (by decide +kernel) F.c_range (sound_econs (sound_local (by decide +kernel) (by decide +kernel)) (sound_enil) (fun _ => rfl)) bi_range) (ifs_nil) (sound_int) (fun _ _ => rfl) (.inl (by decide +kernel)) (swapsTrue (by decide +kernel))) (sound_cons (sound_for (sound_callT (by decide +kernel) (by decide +kernel) F.c_range (sound_econs (sound_bin (sound_local (by decide +kernel) (by decide +kernel)) (sound_int)) (sound_enil) (fun _ => rfl)) bi_range) (sound_cons (sound_set (sound_bool) (.inl (by decide +kernel)) (fun _ _ => rfl)) (sound_cons (sound_for (sound_callT (by decide +kernel) (by decide +kernel) F.c_range (sound_econs (sound_callB (by decide +kernel) (by decide +kernel) F.b_len (sound_econs (sound_local (by decide +kernel) (by decide +kernel)) (sound_enil) (fun _ => rfl)) bi_len) (sound_enil) (fun _ => rfl)) bi_range) (sound_cons (sound_set (sound_item (sound_item (sound_local (by decide +kernel) (by decide +kernel)) (sound_local (by decide +kernel) (by decide +kernel)) (fun _ _ _ => rfl)) (sound_int) (fun _ _ _ => rfl)) (.inl (by decide +kernel)) (fun _ _ => rfl)) (sound_cons (sound_set (sound_item (sound_item (sound_local (by decide +kernel) (by decide +kernel)) (sound_local (by decide +kernel) (by decide +kernel)) (fun _ _ _ => rfl)) (sound_int) (fun _ _ _ => rfl)) (.inl (by decide +kernel)) (fun _ _ => rfl)) (sound_cons (sound_if (soundB_and (soundB_cmp (sound_item (sound_local (by decide +kernel) (by decide +kernel)) (sound_local (by decide +kernel) (by decide +kernel)) (fun _ _ _ => rfl)) (sound_item (sound_item (sound_local (by decide +kernel) (by decide +kernel)) (sound_local (by decide +kernel) (by decide +kernel)) (fun _ _ _ => rfl)) (sound_int) (fun _ _ _ => rfl)) rfl) (soundB_and (soundB_cmp (sound_bin (sound_item (sound_local (by decide +kernel) (by decide +kernel)) (sound_local (by decide +kernel) (by decide +kernel)) (fun _ _ _ => rfl)) (sound_int)) (sound_item (sound_local (by decide +kernel) (by decide +kernel)) (sound_local (by decide +kernel) (by decide +kernel)) (fun _ _ _ => rfl)) rfl) (soundB_andNil))) (sound_cons (sound_store (sound_bin (sound_item (sound_local (by decide +kernel) (by decide +kernel)) (sound_local (by decide +kernel) (by decide +kernel)) (fun _ _ _ => rfl)) (sound_int)) (sound_local (by decide +kernel) (by decide +kernel)) (sound_local (by decide +kernel) (by decide +kernel)) (fun _ _ => rfl)) (sound_cons (sound_set (sound_bool) (.inl (by decide +kernel)) (fun _ _ => rfl)) (sound_nil))) (sound_nil)) (sound_cons (sound_if (soundB_and (soundB_cmp (sound_item (sound_local (by decide +kernel) (by decide +kernel)) (sound_local (by decide +kernel) (by decide +kernel)) (fun _ _ _ => rfl)) (sound_int) rfl) (soundB_and (soundB_cmp (sound_bin (sound_item (sound_local (by decide +kernel) (by decide +kernel)) (sound_local (by decide +kernel) (by decide +kernel)) (fun _ _ _ => rfl)) (sound_int)) (sound_item (sound_local (by decide +kernel) (by decide +kernel)) (sound_local (by decide +kernel) (by decide +kernel)) (fun _ _ _ => rfl)) rfl) (soundB_andNil))) (sound_cons (sound_store (sound_bin (sound_item (sound_local (by decide +kernel) (by decide +kernel)) (sound_local (by decide +kernel) (by decide +kernel)) (fun _ _ _ => rfl)) (sound_int)) (sound_local (by decide +kernel) (by decide +kernel)) (sound_local (by decide +kernel) (by decide +kernel)) (fun _ _ => rfl)) (sound_cons (sound_set (sound_bool) (.inl (by decide +kernel)) (fun _ _ => rfl)) (sound_nil))) (sound_nil)) (sound_nil))))) (.inl (by decide +kernel)) (fun _ _ => rfl)) (sound_cons (sound_if (soundB_not (soundB_plain (sound_local (by decide +kernel) (by decide +kernel)) (fun _ _ => rfl))) (sound_cons (sound_ret (sound_bool)) (sound_nil)) (sound_nil)) (sound_nil)))) (.inl (by decide +kernel)) (fun _ _ => rfl)) (sound_cons (sound_ret (sound_bool)) (sound_nil)))))
noncomputable abbrev tb_law_kind_1 : TS := tSeq (tRet (tItem (tName "_law_words") (tConst (.int 0)))) (tNil)
noncomputable abbrev tb_law_kind_2 : TS := tSeq (tRet (tConst (.str "other"))) (tNil)
noncomputable abbrev tb_law_kind_3 : TS := tSeq (tIf (tOr (tCmpB .NotEq (tCall (tEcons (tName "_law_words") (tEnil)) lenF) (tConst (.int 1))) (tOr (tNot (tTest (tIsinst (tName "_law_error") okVal))) (tFalse))) (tb_law_kind_2) (tNil)) (tb_law_kind_1)
noncomputable abbrev tb_law_kind_4 : TS := tSeq (tExpr (tMeth appendF (tName "_law_words") (tEcons (tConst (.str "amount")) (tEnil)))) (tNil)
noncomputable abbrev tb_law_kind_5 : TS := tSeq (tIf (tTest (tIsinst (tName "_law_error") (okOwn c_BadAmount_07))) (tb_law_kind_4) (tNil)) (tb_law_kind_3)
noncomputable abbrev tb_law_kind_6 : TS := tSeq (tExpr (tMeth appendF (tName "_law_words") (tEcons (tConst (.str "house")) (tEnil)))) (tNil)
noncomputable abbrev tb_law_kind_7 : TS := tSeq (tIf (tTest (tIsinst (tName "_law_error") (okOwn c_NoHouse_07))) (tb_law_kind_6) (tNil)) (tb_law_kind_5)
noncomputable abbrev tb_law_kind_8 : TS := tSeq (tExpr (tMeth appendF (tName "_law_words") (tEcons (tConst (.str "number")) (tEnil)))) (tNil)
noncomputable abbrev tb_law_kind_9 : TS := tSeq (tIf (tTest (tIsinst (tName "_law_error") (okOwn c_NoDebt_07))) (tb_law_kind_8) (tNil)) (tb_law_kind_7)
noncomputable abbrev tb_law_kind_10 : TS := tSeq (tExpr (tMeth appendF (tName "_law_words") (tEcons (tConst (.str "not best")) (tEnil)))) (tNil)
noncomputable abbrev tb_law_kind_11 : TS := tSeq (tIf (tTest (tIsinst (tName "_law_error") (okOwn c_NotBest_07))) (tb_law_kind_10) (tNil)) (tb_law_kind_9)
noncomputable abbrev tb_law_kind_12 : TS := tSeq (tExpr (tMeth appendF (tName "_law_words") (tEcons (tConst (.str "prices")) (tEnil)))) (tNil)
noncomputable abbrev tb_law_kind_13 : TS := tSeq (tIf (tTest (tIsinst (tName "_law_error") (okOwn c_BadPrices_07))) (tb_law_kind_12) (tNil)) (tb_law_kind_11)
noncomputable abbrev tb_law_kind_14 : TS := tSeq (tExpr (tMeth appendF (tName "_law_words") (tEcons (tConst (.str "uneven")) (tEnil)))) (tNil)
noncomputable abbrev tb_law_kind_15 : TS := tSeq (tIf (tTest (tIsinst (tName "_law_error") (okOwn c_Uneven_07))) (tb_law_kind_14) (tNil)) (tb_law_kind_13)
noncomputable abbrev tb_law_kind_16 : TS := tSeq (tExpr (tMeth appendF (tName "_law_words") (tEcons (tConst (.str "cut")) (tEnil)))) (tNil)
noncomputable abbrev tb_law_kind_17 : TS := tSeq (tIf (tTest (tIsinst (tName "_law_error") (okOwn c_BadCut_07))) (tb_law_kind_16) (tNil)) (tb_law_kind_15)
noncomputable abbrev tb_law_kind_18 : TS := tSeq (tExpr (tMeth appendF (tName "_law_words") (tEcons (tConst (.str "debt")) (tEnil)))) (tNil)
noncomputable abbrev tb_law_kind_19 : TS := tSeq (tIf (tTest (tIsinst (tName "_law_error") (okOwn c_BadDebt_07))) (tb_law_kind_18) (tNil)) (tb_law_kind_17)
noncomputable abbrev tb_law_kind_20 : TS := tSeq (tExpr (tMeth appendF (tName "_law_words") (tEcons (tConst (.str "count")) (tEnil)))) (tNil)
noncomputable abbrev tb_law_kind_21 : TS := tSeq (tIf (tTest (tIsinst (tName "_law_error") (okOwn c_BadCount_07))) (tb_law_kind_20) (tNil)) (tb_law_kind_19)
noncomputable abbrev tb_law_kind_22 : TS := tSeq (tSet "_law_words" (tList (tEnil))) (tb_law_kind_21)
noncomputable def tb_law_kind : TS := tb_law_kind_22
noncomputable def T_law_kind : TF := tFun ["_law_error"] tb_law_kind
set_option maxRecDepth 100000 in
set_option maxHeartbeats 4000000 in
theorem s_law_kind {g : Gx} (F : Fx07 g) {q : Bool} : HasF g 1 q "_law_kind" T_law_kind :=
  has_def (F.d 25 (by decide)) rfl (fun _ _ _ vals h => by obtain ⟨a, rfl⟩ := len1 h; rfl) (by decide +kernel) rfl rfl rfl (show SoundSs g 0 _ _ _ tb_law_kind from (sound_cons (sound_set (sound_list (sound_enil)) (.inl (by decide +kernel)) (fun _ _ => rfl)) (sound_cons (sound_if (soundB_plain (sound_isinst (sound_local (by decide +kernel) (by decide +kernel)) (by decide +kernel) F.b_isinstance (by decide +kernel) (by decide +kernel) F.c_BadCount (okOwn_ok F.i_BadCount) (okOwn_x F.x) (fun _ => rfl)) (fun _ _ => rfl)) (sound_cons (sound_expr (sound_meth (sound_local (by decide +kernel) (by decide +kernel)) (sound_econs (sound_str) (sound_enil) (fun _ => rfl)) me_append (fun _ _ => rfl) (by decide) rfl slot_append ty_append) (fun _ _ => rfl)) (sound_nil)) (sound_nil)) (sound_cons (sound_if (soundB_plain (sound_isinst (sound_local (by decide +kernel) (by decide +kernel)) (by decide +kernel) F.b_isinstance (by decide +kernel) (by decide +kernel) F.c_BadDebt (okOwn_ok F.i_BadDebt) (okOwn_x F.x) (fun _ => rfl)) (fun _ _ => rfl)) (sound_cons (sound_expr (sound_meth (sound_local (by decide +kernel) (by decide +kernel)) (sound_econs (sound_str) (sound_enil) (fun _ => rfl)) me_append (fun _ _ => rfl) (by decide) rfl slot_append ty_append) (fun _ _ => rfl)) (sound_nil)) (sound_nil)) (sound_cons (sound_if (soundB_plain (sound_isinst (sound_local (by decide +kernel) (by decide +kernel)) (by decide +kernel) F.b_isinstance (by decide +kernel) (by decide +kernel) F.c_BadCut (okOwn_ok F.i_BadCut) (okOwn_x F.x) (fun _ => rfl)) (fun _ _ => rfl)) (sound_cons (sound_expr (sound_meth (sound_local (by decide +kernel) (by decide +kernel)) (sound_econs (sound_str) (sound_enil) (fun _ => rfl)) me_append (fun _ _ => rfl) (by decide) rfl slot_append ty_append) (fun _ _ => rfl)) (sound_nil)) (sound_nil)) (sound_cons (sound_if (soundB_plain (sound_isinst (sound_local (by decide +kernel) (by decide +kernel)) (by decide +kernel) F.b_isinstance (by decide +kernel) (by decide +kernel) F.c_Uneven (okOwn_ok F.i_Uneven) (okOwn_x F.x) (fun _ => rfl)) (fun _ _ => rfl)) (sound_cons (sound_expr (sound_meth (sound_local (by decide +kernel) (by decide +kernel)) (sound_econs (sound_str) (sound_enil) (fun _ => rfl)) me_append (fun _ _ => rfl) (by decide) rfl slot_append ty_append) (fun _ _ => rfl)) (sound_nil)) (sound_nil)) (sound_cons (sound_if (soundB_plain (sound_isinst (sound_local (by decide +kernel) (by decide +kernel)) (by decide +kernel) F.b_isinstance (by decide +kernel) (by decide +kernel) F.c_BadPrices (okOwn_ok F.i_BadPrices) (okOwn_x F.x) (fun _ => rfl)) (fun _ _ => rfl)) (sound_cons (sound_expr (sound_meth (sound_local (by decide +kernel) (by decide +kernel)) (sound_econs (sound_str) (sound_enil) (fun _ => rfl)) me_append (fun _ _ => rfl) (by decide) rfl slot_append ty_append) (fun _ _ => rfl)) (sound_nil)) (sound_nil)) (sound_cons (sound_if (soundB_plain (sound_isinst (sound_local (by decide +kernel) (by decide +kernel)) (by decide +kernel) F.b_isinstance (by decide +kernel) (by decide +kernel) F.c_NotBest (okOwn_ok F.i_NotBest) (okOwn_x F.x) (fun _ => rfl)) (fun _ _ => rfl)) (sound_cons (sound_expr (sound_meth (sound_local (by decide +kernel) (by decide +kernel)) (sound_econs (sound_str) (sound_enil) (fun _ => rfl)) me_append (fun _ _ => rfl) (by decide) rfl slot_append ty_append) (fun _ _ => rfl)) (sound_nil)) (sound_nil)) (sound_cons (sound_if (soundB_plain (sound_isinst (sound_local (by decide +kernel) (by decide +kernel)) (by decide +kernel) F.b_isinstance (by decide +kernel) (by decide +kernel) F.c_NoDebt (okOwn_ok F.i_NoDebt) (okOwn_x F.x) (fun _ => rfl)) (fun _ _ => rfl)) (sound_cons (sound_expr (sound_meth (sound_local (by decide +kernel) (by decide +kernel)) (sound_econs (sound_str) (sound_enil) (fun _ => rfl)) me_append (fun _ _ => rfl) (by decide) rfl slot_append ty_append) (fun _ _ => rfl)) (sound_nil)) (sound_nil)) (sound_cons (sound_if (soundB_plain (sound_isinst (sound_local (by decide +kernel) (by decide +kernel)) (by decide +kernel) F.b_isinstance (by decide +kernel) (by decide +kernel) F.c_NoHouse (okOwn_ok F.i_NoHouse) (okOwn_x F.x) (fun _ => rfl)) (fun _ _ => rfl)) (sound_cons (sound_expr (sound_meth (sound_local (by decide +kernel) (by decide +kernel)) (sound_econs (sound_str) (sound_enil) (fun _ => rfl)) me_append (fun _ _ => rfl) (by decide) rfl slot_append ty_append) (fun _ _ => rfl)) (sound_nil)) (sound_nil)) (sound_cons (sound_if (soundB_plain (sound_isinst (sound_local (by decide +kernel) (by decide +kernel)) (by decide +kernel) F.b_isinstance (by decide +kernel) (by decide +kernel) F.c_BadAmount (okOwn_ok F.i_BadAmount) (okOwn_x F.x) (fun _ => rfl)) (fun _ _ => rfl)) (sound_cons (sound_expr (sound_meth (sound_local (by decide +kernel) (by decide +kernel)) (sound_econs (sound_str) (sound_enil) (fun _ => rfl)) me_append (fun _ _ => rfl) (by decide) rfl slot_append ty_append) (fun _ _ => rfl)) (sound_nil)) (sound_nil)) (sound_cons (sound_if (soundB_or (soundB_cmp (sound_callB (by decide +kernel) (by decide +kernel) F.b_len (sound_econs (sound_local (by decide +kernel) (by decide +kernel)) (sound_enil) (fun _ => rfl)) bi_len) (sound_int) rfl) (soundB_or (soundB_not (soundB_plain (sound_isinst (sound_local (by decide +kernel) (by decide +kernel)) (by decide +kernel) F.b_isinstance (by decide +kernel) (by decide +kernel) F.c_ValueError (okVal_ok F.i_ValueError) (okVal_x F.x) (fun _ => rfl)) (fun _ _ => rfl))) (soundB_orNil))) (sound_cons (sound_ret (sound_str)) (sound_nil)) (sound_nil)) (sound_cons (sound_ret (sound_item (sound_local (by decide +kernel) (by decide +kernel)) (sound_int) (fun _ _ _ => rfl))) (sound_nil))))))))))))))
noncomputable def tb_law_priced : TS := tSeq (tTry "_law_error" exCls (tSeq (tRet (tCall (tEcons (tName "_law_count_here") (tEcons (tName "_law_debts_here") (tEcons (tName "_law_cut") (tEnil)))) T_prices)) (tNil)) (tSeq (tRet (tCall (tEcons (tName "_law_error") (tEnil)) T_law_kind)) (tNil))) (tNil)
noncomputable def T_law_priced : TF := tFun ["_law_count_here", "_law_debts_here", "_law_cut"] tb_law_priced
set_option maxRecDepth 100000 in
set_option maxHeartbeats 4000000 in
theorem s_law_priced {g : Gx} (F : Fx07 g) : HasF g 7 true "_law_priced" T_law_priced :=
  has_def (F.d 26 (by decide)) rfl (fun _ _ _ vals h => by obtain ⟨a, b, c, rfl⟩ := len3 h; rfl) (by decide +kernel) rfl rfl rfl (show SoundSs g 6 _ _ _ tb_law_priced from (sound_cons (sound_try (sound_cons (sound_ret (sound_callF (s_prices F) (sound_econs (sound_local (by decide +kernel) (by decide +kernel)) (sound_econs (sound_local (by decide +kernel) (by decide +kernel)) (sound_econs (sound_local (by decide +kernel) (by decide +kernel)) (sound_enil) (fun _ => rfl)) (fun _ => rfl)) (fun _ => rfl)) (by decide +kernel) (by decide +kernel) (by decide))) (sound_nil)) (sound_cons (sound_ret (sound_callF (s_law_kind F) (sound_econs (sound_local (by decide +kernel) (by decide +kernel)) (sound_enil) (fun _ => rfl)) (by decide +kernel) (by decide +kernel) (by decide))) (sound_nil)) (by decide +kernel) (by decide +kernel) F.c_DebtError (by decide +kernel) F.m) (sound_nil)))
noncomputable def tb_law_bettered : TS := tSeq (tTry "_law_error" exCls (tSeq (tRet (tCall (tEcons (tName "_law_count_here") (tEcons (tName "_law_debts_here") (tEcons (tName "_law_cut") (tEnil)))) T_better)) (tNil)) (tSeq (tRet (tCall (tEcons (tName "_law_error") (tEnil)) T_law_kind)) (tNil))) (tNil)
noncomputable def T_law_bettered : TF := tFun ["_law_count_here", "_law_debts_here", "_law_cut"] tb_law_bettered
set_option maxRecDepth 100000 in
set_option maxHeartbeats 4000000 in
theorem s_law_bettered {g : Gx} (F : Fx07 g) : HasF g 6 true "_law_bettered" T_law_bettered :=
  has_def (F.d 27 (by decide)) rfl (fun _ _ _ vals h => by obtain ⟨a, b, c, rfl⟩ := len3 h; rfl) (by decide +kernel) rfl rfl rfl (show SoundSs g 5 _ _ _ tb_law_bettered from (sound_cons (sound_try (sound_cons (sound_ret (sound_callF (s_better F) (sound_econs (sound_local (by decide +kernel) (by decide +kernel)) (sound_econs (sound_local (by decide +kernel) (by decide +kernel)) (sound_econs (sound_local (by decide +kernel) (by decide +kernel)) (sound_enil) (fun _ => rfl)) (fun _ => rfl)) (fun _ => rfl)) (by decide +kernel) (by decide +kernel) (by decide))) (sound_nil)) (sound_cons (sound_ret (sound_callF (s_law_kind F) (sound_econs (sound_local (by decide +kernel) (by decide +kernel)) (sound_enil) (fun _ => rfl)) (by decide +kernel) (by decide +kernel) (by decide))) (sound_nil)) (by decide +kernel) (by decide +kernel) F.c_DebtError (by decide +kernel) F.m) (sound_nil)))
noncomputable abbrev tb_law_is_priced_1 : TS := tSeq (tRet (tCall (tEcons (tName "_law_debts_here") (tEcons (tName "_law_cut") (tEcons (tName "_law_tags") (tEnil)))) T_law_shows)) (tNil)
noncomputable abbrev tb_law_is_priced_2 : TS := tSeq (tRet (tConst (.bool false))) (tNil)
noncomputable abbrev tb_law_is_priced_3 : TS := tSeq (tIf (tNot (tTest (tCall (tEcons (tName "_law_tag") (tEnil)) T_law_whole))) (tb_law_is_priced_2) (tNil)) (tNil)
noncomputable abbrev tb_law_is_priced_4 : TS := tSeq (tFor "_law_tag" (tName "_law_tags") (tb_law_is_priced_3)) (tb_law_is_priced_1)
noncomputable abbrev tb_law_is_priced_5 : TS := tSeq (tRet (tConst (.bool false))) (tNil)
noncomputable abbrev tb_law_is_priced_6 : TS := tSeq (tIf (tOr (tNot (tTest (tIsinst (tName "_law_tags") okList))) (tOr (tCmpB .NotEq (tCall (tEcons (tName "_law_tags") (tEnil)) lenF) (tName "_law_count_here")) (tFalse))) (tb_law_is_priced_5) (tNil)) (tb_law_is_priced_4)
noncomputable def tb_law_is_priced : TS := tb_law_is_priced_6
noncomputable def T_law_is_priced : TF := tFun ["_law_count_here", "_law_debts_here", "_law_cut", "_law_tags"] tb_law_is_priced
set_option maxRecDepth 100000 in
set_option maxHeartbeats 4000000 in
theorem s_law_is_priced {g : Gx} (F : Fx07 g) : HasF g 2 true "_law_is_priced" T_law_is_priced :=
  has_def (F.d 28 (by decide)) rfl (fun _ _ _ vals h => by obtain ⟨a, b, c, d, rfl⟩ := len4 h; rfl) (by decide +kernel) rfl rfl rfl (show SoundSs g 1 _ _ _ tb_law_is_priced from (sound_cons (sound_if (soundB_or (soundB_not (soundB_plain (sound_isinst (sound_local (by decide +kernel) (by decide +kernel)) (by decide +kernel) F.b_isinstance (by decide +kernel) (by decide +kernel) F.c_list okList_ok (fun _ _ e => by cases e) (fun _ => rfl)) (fun _ _ => rfl))) (soundB_or (soundB_cmp (sound_callB (by decide +kernel) (by decide +kernel) F.b_len (sound_econs (sound_local (by decide +kernel) (by decide +kernel)) (sound_enil) (fun _ => rfl)) bi_len) (sound_local (by decide +kernel) (by decide +kernel)) rfl) (soundB_orNil))) (sound_cons (sound_ret (sound_bool)) (sound_nil)) (sound_nil)) (sound_cons (sound_for (sound_local (by decide +kernel) (by decide +kernel)) (sound_cons (sound_if (soundB_not (soundB_plain (sound_callF (s_law_whole F) (sound_econs (sound_local (by decide +kernel) (by decide +kernel)) (sound_enil) (fun _ => rfl)) (by decide +kernel) (by decide +kernel) (by decide)) (fun _ _ => rfl))) (sound_cons (sound_ret (sound_bool)) (sound_nil)) (sound_nil)) (sound_nil)) (.inl (by decide +kernel)) (fun _ _ => rfl)) (sound_cons (sound_ret (sound_callF (s_law_shows F) (sound_econs (sound_local (by decide +kernel) (by decide +kernel)) (sound_econs (sound_local (by decide +kernel) (by decide +kernel)) (sound_econs (sound_local (by decide +kernel) (by decide +kernel)) (sound_enil) (fun _ => rfl)) (fun _ => rfl)) (fun _ => rfl)) (by decide +kernel) (by decide +kernel) (by decide))) (sound_nil)))))
noncomputable abbrev tb_law_main_1 : TS := tSeq (tRet (tAndE (tCmp .Gt (tCall (tEcons (tName "_law_found") (tEnil)) sumF) (tCall (tEcons (tName "_law_cut") (tEnil)) sumF)) (tCmp .Eq (tName "_law_tags") (tConst (.str "not best"))))) (tNil)
noncomputable abbrev tb_law_main_2 : TS := tSeq (tRet (tConst (.bool false))) (tNil)
noncomputable abbrev tb_law_main_3 : TS := tSeq (tIf (tOr (tNot (tTest (tCall (tEcons (tName "_law_debts_here") (tEcons (tName "_law_found") (tEnil))) T_law_is_cut))) (tOr (tNot (tTest (tCall (tEcons (tName "_law_count_here") (tEcons (tName "_law_debts_here") (tEcons (tName "_law_found") (tEnil)))) T_law_is_even))) (tFalse))) (tb_law_main_2) (tNil)) (tb_law_main_1)
noncomputable abbrev tb_law_main_4 : TS := tSeq (tRet (tAndE (tCmp .Is (tName "_law_found") (tConst .none)) (tCall (tEcons (tName "_law_count_here") (tEcons (tName "_law_debts_here") (tEcons (tName "_law_cut") (tEcons (tName "_law_tags") (tEnil))))) T_law_is_priced))) (tNil)
noncomputable abbrev tb_law_main_5 : TS := tSeq (tIf (tTest (tCall (tEcons (tName "_law_count_here") (tEcons (tName "_law_debts_here") (tEcons (tName "_law_cut") (tEnil)))) T_law_settles)) (tb_law_main_4) (tNil)) (tb_law_main_3)
noncomputable abbrev tb_law_main_6 : TS := tSeq (tRet (tConst (.bool false))) (tNil)
noncomputable abbrev tb_law_main_7 : TS := tSeq (tIf (tCmpB .NotEq (tName "_law_handed") (tList (tEcons (tName "_law_debts_here") (tEcons (tName "_law_cut") (tEnil))))) (tb_law_main_6) (tNil)) (tb_law_main_5)
noncomputable abbrev tb_law_main_8 : TS := tSeq (tSet "_law_tags" (tCall (tEcons (tName "_law_count_here") (tEcons (tItem (tName "_law_handed") (tConst (.int 0))) (tEcons (tItem (tName "_law_handed") (tConst (.int 1))) (tEnil)))) T_law_priced)) (tb_law_main_7)
noncomputable abbrev tb_law_main_9 : TS := tSeq (tSet "_law_found" (tCall (tEcons (tName "_law_count_here") (tEcons (tItem (tName "_law_handed") (tConst (.int 0))) (tEcons (tItem (tName "_law_handed") (tConst (.int 1))) (tEnil)))) T_law_bettered)) (tb_law_main_8)
noncomputable abbrev tb_law_main_10 : TS := tSeq (tSet "_law_handed" (tList (tEcons (tCall (tEcons (tName "_law_debts_here") (tEnil)) listF) (tEcons (tCall (tEcons (tName "_law_cut") (tEnil)) listF) (tEnil))))) (tb_law_main_9)
noncomputable abbrev tb_law_main_11 : TS := tSeq (tRet (tCmp .Eq (tCall (tEcons (tName "_law_count_here") (tEcons (tCall (tEcons (tName "_law_debts_here") (tEnil)) listF) (tEcons (tName "_law_bad") (tEnil)))) T_law_bettered) (tName "_law_due"))) (tNil)
noncomputable abbrev tb_law_main_12 : TS := tSeq (tRet (tConst (.bool false))) (tNil)
noncomputable abbrev tb_law_main_13 : TS := tSeq (tIf (tCmpB .NotEq (tCall (tEcons (tName "_law_count_here") (tEcons (tCall (tEcons (tName "_law_debts_here") (tEnil)) listF) (tEcons (tName "_law_bad") (tEnil)))) T_law_priced) (tName "_law_due")) (tb_law_main_12) (tNil)) (tb_law_main_11)
noncomputable abbrev tb_law_main_14 : TS := tSeq (tSet "_law_due" (tItem (tList (tEcons (tConst (.str "uneven")) (tEcons (tConst (.str "cut")) (tEnil)))) (tName "_law_way"))) (tb_law_main_13)
noncomputable abbrev tb_law_main_15 : TS := tSeq (tStore (tName "_law_bad") (tName "_law_at") (tBin .Sub (tItem (tName "_law_cut") (tName "_law_at")) (tConst (.int 1)))) (tNil)
noncomputable abbrev tb_law_main_16 : TS := tSeq (tIf (tCmpB .Eq (tItem (tName "_law_cut") (tName "_law_at")) (tItem (tItem (tName "_law_debts_here") (tName "_law_at")) (tConst (.int 2)))) (tb_law_main_15) (tNil)) (tNil)
noncomputable abbrev tb_law_main_17 : TS := tSeq (tStore (tName "_law_bad") (tName "_law_at") (tBin .Add (tItem (tName "_law_bad") (tName "_law_at")) (tConst (.int 1)))) (tb_law_main_16)
noncomputable abbrev tb_law_main_18 : TS := tSeq (tSet "_law_bad" (tCall (tEcons (tName "_law_cut") (tEnil)) listF)) (tb_law_main_17)
noncomputable abbrev tb_law_main_19 : TS := tSeq (tSet "_law_at" (tBin .Mod (tName "_law_cell") (tCall (tEcons (tName "_law_debts_here") (tEnil)) lenF))) (tb_law_main_18)
noncomputable abbrev tb_law_main_20 : TS := tSeq (tIf (tCmpB .Eq (tName "_law_way") (tConst (.int 0))) (tb_law_main_19) (tNil)) (tb_law_main_14)
noncomputable abbrev tb_law_main_21 : TS := tSeq (tSet "_law_bad" (tCall (tEcons (tName "_law_debts_here") (tEcons (tName "_law_cut") (tEcons (tName "_law_cell") (tEnil)))) T_law_bad_cut)) (tb_law_main_20)
noncomputable abbrev tb_law_main_22 : TS := tSeq (tIf (tAnd (tCmpB .Lt (tName "_law_way") (tConst (.int 2))) (tAnd (tCmpB .Gt (tCall (tEcons (tName "_law_debts_here") (tEnil)) lenF) (tConst (.int 0))) (tTrue))) (tb_law_main_21) (tNil)) (tb_law_main_10)
noncomputable abbrev tb_law_main_23 : TS := tSeq (tSet "_law_cell" (tCall (tEcons (tName "_law_script") (tEcons (tConst (.int 8)) (tEnil))) T_law_cell_at)) (tb_law_main_22)
noncomputable abbrev tb_law_main_24 : TS := tSeq (tSet "_law_way" (tBin .Mod (tBin .FloorDiv (tCall (tEcons (tName "_law_script") (tEcons (tConst (.int 7)) (tEnil))) T_law_cell_at) (tConst (.int 6))) (tConst (.int 16)))) (tb_law_main_23)
noncomputable abbrev tb_law_main_25 : TS := tSeq (tSet "_law_cut" (tCall (tEcons (tName "_law_debts_here") (tEcons (tComp "_law_k" ["_law_script"] (tCall (tEcons (tBin .Mod (tCall (tEcons (tName "_law_script") (tEcons (tConst (.int 7)) (tEnil))) T_law_cell_at) (tConst (.int 6))) (tEnil)) rangeF) (tTrue) (tCall (tEcons (tName "_law_script") (tEcons (tBin .Add (tConst (.int 2)) (tName "_law_k")) (tEnil))) T_law_cell_at)) (tEnil))) T_law_even_cut)) (tb_law_main_24)
noncomputable abbrev tb_law_main_26 : TS := tSeq (tSet "_law_debts_here" (tList (tEnil))) (tNil)
noncomputable abbrev tb_law_main_27 : TS := tSeq (tSet "_law_count_here" (tConst (.int 1))) (tb_law_main_26)
noncomputable abbrev tb_law_main_28 : TS := tSeq (tIf (tCmpB .Eq (tBin .Mod (tCall (tEcons (tName "_law_script") (tEcons (tConst (.int 0)) (tEnil))) T_law_cell_at) (tConst (.int 13))) (tConst (.int 7))) (tb_law_main_27) (tNil)) (tb_law_main_25)
noncomputable abbrev tb_law_main_29 : TS := tSeq (tSet "_law_debts_here" (tCall (tEcons (tName "_law_script") (tEcons (tConst (.int 9)) (tEcons (tName "_law_count_here") (tEnil)))) T_law_debts)) (tb_law_main_28)
noncomputable abbrev tb_law_main_30 : TS := tSeq (tSet "_law_count_here" (tCall (tEcons (tName "_law_script") (tEnil)) T_law_count)) (tb_law_main_29)
noncomputable def tb_law_main : TS := tb_law_main_30
noncomputable def T_law_main : TF := tFun ["_law_script"] tb_law_main
set_option maxRecDepth 100000 in
set_option maxHeartbeats 4000000 in
theorem s_law_main {g : Gx} (F : Fx07 g) : HasF g 8 true "law" T_law_main :=
  has_def (F.d 29 (by decide)) rfl (fun _ _ _ vals h => by obtain ⟨a, rfl⟩ := len1 h; rfl) (by decide +kernel) rfl rfl rfl (show SoundSs g 7 _ _ _ tb_law_main from (sound_cons (sound_set (sound_callF (s_law_count F) (sound_econs (sound_cell (by decide +kernel) (by decide +kernel)) (sound_enil) (fun _ => rfl)) (by decide +kernel) (by decide +kernel) (by decide)) (.inl (by decide +kernel)) (fun _ _ => rfl)) (sound_cons (sound_set (sound_callF (s_law_debts F) (sound_econs (sound_cell (by decide +kernel) (by decide +kernel)) (sound_econs (sound_int) (sound_econs (sound_local (by decide +kernel) (by decide +kernel)) (sound_enil) (fun _ => rfl)) (fun _ => rfl)) (fun _ => rfl)) (by decide +kernel) (by decide +kernel) (by decide)) (.inl (by decide +kernel)) (fun _ _ => rfl)) (sound_cons (sound_if (soundB_cmp (sound_bin (sound_callF (s_law_cell_at F) (sound_econs (sound_cell (by decide +kernel) (by decide +kernel)) (sound_econs (sound_int) (sound_enil) (fun _ => rfl)) (fun _ => rfl)) (by decide +kernel) (by decide +kernel) (by decide)) (sound_int)) (sound_int) rfl) (sound_cons (sound_set (sound_int) (.inl (by decide +kernel)) (fun _ _ => rfl)) (sound_cons (sound_set (sound_list (sound_enil)) (.inl (by decide +kernel)) (fun _ _ => rfl)) (sound_nil))) (sound_nil)) (sound_cons (sound_set (sound_callF (s_law_even_cut F) (sound_econs (sound_local (by decide +kernel) (by decide +kernel)) (sound_econs (sound_comp (compOk (by decide +kernel) (by decide +kernel) (by decide +kernel) (by decide +kernel) (by decide +kernel) (by decide +kernel)) (sound_callT (by decide +kernel) (by decide +kernel) F.c_range (sound_econs (sound_bin (sound_callF (s_law_cell_at F) (sound_econs (sound_cell (by decide +kernel) (by decide +kernel)) (sound_econs (sound_int) (sound_enil) (fun _ => rfl)) (fun _ => rfl)) (by decide +kernel) (by decide +kernel) (by decide)) (sound_int)) (sound_enil) (fun _ => rfl)) bi_range) (ifs_nil) (sound_callF (s_law_cell_at F) (sound_econs (sound_cell (by decide +kernel) (by decide +kernel)) (sound_econs (sound_bin (sound_int) (sound_local (by decide +kernel) (by decide +kernel))) (sound_enil) (fun _ => rfl)) (fun _ => rfl)) (by decide +kernel) (by decide +kernel) (by decide)) (fun _ _ => rfl)) (sound_enil) (fun _ => rfl)) (fun _ => rfl)) (by decide +kernel) (by decide +kernel) (by decide)) (.inl (by decide +kernel)) (fun _ _ => rfl)) (sound_cons (sound_set (sound_bin (sound_bin (sound_callF (s_law_cell_at F) (sound_econs (sound_cell (by decide +kernel) (by decide +kernel)) (sound_econs (sound_int) (sound_enil) (fun _ => rfl)) (fun _ => rfl)) (by decide +kernel) (by decide +kernel) (by decide)) (sound_int)) (sound_int)) (.inl (by decide +kernel)) (fun _ _ => rfl)) (sound_cons (sound_set (sound_callF (s_law_cell_at F) (sound_econs (sound_cell (by decide +kernel) (by decide +kernel)) (sound_econs (sound_int) (sound_enil) (fun _ => rfl)) (fun _ => rfl)) (by decide +kernel) (by decide +kernel) (by decide)) (.inl (by decide +kernel)) (fun _ _ => rfl)) (sound_cons (sound_if (soundB_and (soundB_cmp (sound_local (by decide +kernel) (by decide +kernel)) (sound_int) rfl) (soundB_and (soundB_cmp (sound_callB (by decide +kernel) (by decide +kernel) F.b_len (sound_econs (sound_local (by decide +kernel) (by decide +kernel)) (sound_enil) (fun _ => rfl)) bi_len) (sound_int) rfl) (soundB_andNil))) (sound_cons (sound_set (sound_callF (s_law_bad_cut F) (sound_econs (sound_local (by decide +kernel) (by decide +kernel)) (sound_econs (sound_local (by decide +kernel) (by decide +kernel)) (sound_econs (sound_local (by decide +kernel) (by decide +kernel)) (sound_enil) (fun _ => rfl)) (fun _ => rfl)) (fun _ => rfl)) (by decide +kernel) (by decide +kernel) (by decide)) (.inl (by decide +kernel)) (fun _ _ => rfl)) (sound_cons (sound_if (soundB_cmp (sound_local (by decide +kernel) (by decide +kernel)) (sound_int) rfl) (sound_cons (sound_set (sound_bin (sound_local (by decide +kernel) (by decide +kernel)) (sound_callB (by decide +kernel) (by decide +kernel) F.b_len (sound_econs (sound_local (by decide +kernel) (by decide +kernel)) (sound_enil) (fun _ => rfl)) bi_len)) (.inl (by decide +kernel)) (fun _ _ => rfl)) (sound_cons (sound_set (sound_callT (by decide +kernel) (by decide +kernel) F.c_list (sound_econs (sound_local (by decide +kernel) (by decide +kernel)) (sound_enil) (fun _ => rfl)) (bi_list rfl)) (.inl (by decide +kernel)) (fun _ _ => rfl)) (sound_cons (sound_store (sound_bin (sound_item (sound_local (by decide +kernel) (by decide +kernel)) (sound_local (by decide +kernel) (by decide +kernel)) (fun _ _ _ => rfl)) (sound_int)) (sound_local (by decide +kernel) (by decide +kernel)) (sound_local (by decide +kernel) (by decide +kernel)) (fun _ _ => rfl)) (sound_cons (sound_if (soundB_cmp (sound_item (sound_local (by decide +kernel) (by decide +kernel)) (sound_local (by decide +kernel) (by decide +kernel)) (fun _ _ _ => rfl)) (sound_item (sound_item (sound_local (by decide +kernel) (by decide +kernel)) (sound_local (by decide +kernel) (by decide +kernel)) (fun _ _ _ => rfl)) (sound_int) (fun _ _ _ => rfl)) rfl) (sound_cons (sound_store (sound_bin (sound_item (sound_local (by decide +kernel) (by decide +kernel)) (sound_local (by decide +kernel) (by decide +kernel)) (fun _ _ _ => rfl)) (sound_int)) (sound_local (by decide +kernel) (by decide +kernel)) (sound_local (by decide +kernel) (by decide +kernel)) (fun _ _ => rfl)) (sound_nil)) (sound_nil)) (sound_nil))))) (sound_nil)) (sound_cons (sound_set (sound_item (sound_list (sound_econs (sound_str) (sound_econs (sound_str) (sound_enil) (fun _ => rfl)) (fun _ => rfl))) (sound_local (by decide +kernel) (by decide +kernel)) (fun _ _ _ => rfl)) (.inl (by decide +kernel)) (fun _ _ => rfl)) (sound_cons (sound_if (soundB_cmp (sound_callF (s_law_priced F) (sound_econs (sound_local (by decide +kernel) (by decide +kernel)) (sound_econs (sound_callT (by decide +kernel) (by decide +kernel) F.c_list (sound_econs (sound_local (by decide +kernel) (by decide +kernel)) (sound_enil) (fun _ => rfl)) (bi_list rfl)) (sound_econs (sound_local (by decide +kernel) (by decide +kernel)) (sound_enil) (fun _ => rfl)) (fun _ => rfl)) (fun _ => rfl)) (by decide +kernel) (by decide +kernel) (by decide)) (sound_local (by decide +kernel) (by decide +kernel)) rfl) (sound_cons (sound_ret (sound_bool)) (sound_nil)) (sound_nil)) (sound_cons (sound_ret (sound_cmp (sound_callF (s_law_bettered F) (sound_econs (sound_local (by decide +kernel) (by decide +kernel)) (sound_econs (sound_callT (by decide +kernel) (by decide +kernel) F.c_list (sound_econs (sound_local (by decide +kernel) (by decide +kernel)) (sound_enil) (fun _ => rfl)) (bi_list rfl)) (sound_econs (sound_local (by decide +kernel) (by decide +kernel)) (sound_enil) (fun _ => rfl)) (fun _ => rfl)) (fun _ => rfl)) (by decide +kernel) (by decide +kernel) (by decide)) (sound_local (by decide +kernel) (by decide +kernel)) rfl)) (sound_nil)))))) (sound_nil)) (sound_cons (sound_set (sound_list (sound_econs (sound_callT (by decide +kernel) (by decide +kernel) F.c_list (sound_econs (sound_local (by decide +kernel) (by decide +kernel)) (sound_enil) (fun _ => rfl)) (bi_list rfl)) (sound_econs (sound_callT (by decide +kernel) (by decide +kernel) F.c_list (sound_econs (sound_local (by decide +kernel) (by decide +kernel)) (sound_enil) (fun _ => rfl)) (bi_list rfl)) (sound_enil) (fun _ => rfl)) (fun _ => rfl))) (.inl (by decide +kernel)) (fun _ _ => rfl)) (sound_cons (sound_set (sound_callF (s_law_bettered F) (sound_econs (sound_local (by decide +kernel) (by decide +kernel)) (sound_econs (sound_item (sound_local (by decide +kernel) (by decide +kernel)) (sound_int) (fun _ _ _ => rfl)) (sound_econs (sound_item (sound_local (by decide +kernel) (by decide +kernel)) (sound_int) (fun _ _ _ => rfl)) (sound_enil) (fun _ => rfl)) (fun _ => rfl)) (fun _ => rfl)) (by decide +kernel) (by decide +kernel) (by decide)) (.inl (by decide +kernel)) (fun _ _ => rfl)) (sound_cons (sound_set (sound_callF (s_law_priced F) (sound_econs (sound_local (by decide +kernel) (by decide +kernel)) (sound_econs (sound_item (sound_local (by decide +kernel) (by decide +kernel)) (sound_int) (fun _ _ _ => rfl)) (sound_econs (sound_item (sound_local (by decide +kernel) (by decide +kernel)) (sound_int) (fun _ _ _ => rfl)) (sound_enil) (fun _ => rfl)) (fun _ => rfl)) (fun _ => rfl)) (by decide +kernel) (by decide +kernel) (by decide)) (.inl (by decide +kernel)) (fun _ _ => rfl)) (sound_cons (sound_if (soundB_cmp (sound_local (by decide +kernel) (by decide +kernel)) (sound_list (sound_econs (sound_local (by decide +kernel) (by decide +kernel)) (sound_econs (sound_local (by decide +kernel) (by decide +kernel)) (sound_enil) (fun _ => rfl)) (fun _ => rfl))) rfl) (sound_cons (sound_ret (sound_bool)) (sound_nil)) (sound_nil)) (sound_cons (sound_if (soundB_plain (sound_callF (s_law_settles F) (sound_econs (sound_local (by decide +kernel) (by decide +kernel)) (sound_econs (sound_local (by decide +kernel) (by decide +kernel)) (sound_econs (sound_local (by decide +kernel) (by decide +kernel)) (sound_enil) (fun _ => rfl)) (fun _ => rfl)) (fun _ => rfl)) (by decide +kernel) (by decide +kernel) (by decide)) (fun _ _ => rfl)) (sound_cons (sound_ret (sound_and (sound_cmp (sound_local (by decide +kernel) (by decide +kernel)) (sound_none) rfl) (sound_one (sound_callF (s_law_is_priced F) (sound_econs (sound_local (by decide +kernel) (by decide +kernel)) (sound_econs (sound_local (by decide +kernel) (by decide +kernel)) (sound_econs (sound_local (by decide +kernel) (by decide +kernel)) (sound_econs (sound_local (by decide +kernel) (by decide +kernel)) (sound_enil) (fun _ => rfl)) (fun _ => rfl)) (fun _ => rfl)) (fun _ => rfl)) (by decide +kernel) (by decide +kernel) (by decide))))) (sound_nil)) (sound_nil)) (sound_cons (sound_if (soundB_or (soundB_not (soundB_plain (sound_callF (s_law_is_cut F) (sound_econs (sound_local (by decide +kernel) (by decide +kernel)) (sound_econs (sound_local (by decide +kernel) (by decide +kernel)) (sound_enil) (fun _ => rfl)) (fun _ => rfl)) (by decide +kernel) (by decide +kernel) (by decide)) (fun _ _ => rfl))) (soundB_or (soundB_not (soundB_plain (sound_callF (s_law_is_even F) (sound_econs (sound_local (by decide +kernel) (by decide +kernel)) (sound_econs (sound_local (by decide +kernel) (by decide +kernel)) (sound_econs (sound_local (by decide +kernel) (by decide +kernel)) (sound_enil) (fun _ => rfl)) (fun _ => rfl)) (fun _ => rfl)) (by decide +kernel) (by decide +kernel) (by decide)) (fun _ _ => rfl))) (soundB_orNil))) (sound_cons (sound_ret (sound_bool)) (sound_nil)) (sound_nil)) (sound_cons (sound_ret (sound_and (sound_cmp (sound_callB (by decide +kernel) (by decide +kernel) F.b_sum (sound_econs (sound_local (by decide +kernel) (by decide +kernel)) (sound_enil) (fun _ => rfl)) (bi_sum rfl)) (sound_callB (by decide +kernel) (by decide +kernel) F.b_sum (sound_econs (sound_local (by decide +kernel) (by decide +kernel)) (sound_enil) (fun _ => rfl)) (bi_sum rfl)) rfl) (sound_one (sound_cmp (sound_local (by decide +kernel) (by decide +kernel)) (sound_str) rfl)))) (sound_nil))))))))))))))))

end
local macro_rules | `(tactic| walk_at "nm") => `(tactic| first | with_reducible exact setL_same | with_reducible exact compR_same | (with_reducible refine setL_other (by decide +kernel) ?_; walk_at "nm") | (with_reducible refine compR_other (by decide +kernel) (by decide +kernel) ?_; walk_at "nm") | (with_reducible refine unL_other (by decide +kernel) ?_; walk_at "nm") | with_reducible assumption)
local macro_rules | `(tactic| walk_at "sx") => `(tactic| with_reducible first
  | refine i_const ?_ | refine i_bin ?_ | refine i_add ?_ | refine i_sub ?_ | refine i_neg ?_ | refine i_cmp ?_ | refine i_cmpB ?_ | refine i_chain ?_ | refine i_chainB ?_
  | refine i_lt ?_ | refine i_le ?_ | refine i_gt ?_ | refine i_ge ?_ | refine i_eqi ?_ | refine i_nei ?_ | refine i_eqss ?_ | refine i_eqs ?_ | refine i_is ?_ | refine i_isnot ?_ | refine i_not ?_ | refine i_and ?_ | refine i_or ?_ | refine i_true ?_ | refine i_false ?_ | refine i_test ?_
  | refine i_andE ?_ | refine i_orE ?_ | refine i_notE ?_ | refine i_tup ?_ | refine i_list ?_ | refine i_enil ?_ | refine i_econs ?_ | refine i_call ?_ | refine i_item ?_ | refine i_isinst ?_ | refine i_range ?_ | refine i_divp (by decide) (by decide) ?_ | refine i_modp (by decide) ?_ | refine i_mul (.inr (by decide)) ?_ | refine i_mul (.inl (by decide)) ?_ | refine i_meth ?_
  | refine i_g0 ?_ | refine i_g1 ?_ | refine i_g2 ?_ | refine i_len3 ?_ | refine i_len2 ?_ | refine i_len4 ?_
  | refine i_slice ?_ | refine i_pnone ?_ | refine i_psome ?_ | refine i_dict0 ?_ | refine i_comp ?_ | refine i_lenset ?_ | refine i_max ?_ | refine i_min ?_ | refine i_pow (by decide) (by decide) (by decide) ?_
  | (refine i_name (by walk_at "nm") ?_) | refine And.intro (show List.length _ ≤ 1000000 by simp) ?_ | refine And.intro (show List.length [_] ≤ sizeLine by decide) ?_)
local macro_rules | `(tactic| walk_at "ex") => `(tactic| repeat (walk_at "sx"))
local macro_rules | `(tactic| walk_at "st") => `(tactic| first | walk_at "sx" | with_reducible first
  | refine i_seq ?_ | refine i_set ?_ | refine i_if ?_ | refine i_ret ?_ | refine i_expr ?_ | refine i_raise ?_ | refine i_nil ?_
  | refine i_store ?_ | refine i_swap ?_ | refine i_unpack ?_ | refine i_try ?_ | refine i_for ?_ | refine i_forzip ?_ | refine ite_t ?_ | refine ite_f ?_ | refine ite_nt ?_ | refine ite_nf ?_)
local macro_rules | `(tactic| walk_at "ev") => `(tactic| repeat (first | walk_at "st" | dsimp only))

/-! sums -/
noncomputable def sm (f : Nat → Int) : Nat → Int
  | 0 => 0
  | n + 1 => sm f n + f n
theorem sm_congr {f g : Nat → Int} : ∀ {n : Nat}, (∀ k, k < n → f k = g k) → sm f n = sm g n
  | 0, _ => rfl
  | n + 1, h => by rw [sm, sm, sm_congr fun k hk => h k (Nat.lt_succ_of_lt hk), h n (Nat.lt_succ_self n)]
theorem sm_add {f g : Nat → Int} : ∀ {n : Nat}, sm (fun k => f k + g k) n = sm f n + sm g n
  | 0 => rfl
  | n + 1 => by rw [sm, sm, sm, sm_add]; omega
theorem sm_sub {f g : Nat → Int} : ∀ {n : Nat}, sm (fun k => f k - g k) n = sm f n - sm g n
  | 0 => rfl
  | n + 1 => by rw [sm, sm, sm, sm_sub]; omega
theorem sm_mul {f : Nat → Int} {c : Int} : ∀ {n : Nat}, sm (fun k => c * f k) n = c * sm f n
  | 0 => by rw [sm, sm, Int.mul_zero]
  | n + 1 => by rw [sm, sm, sm_mul, Int.mul_add]
theorem sm_zero : ∀ {n : Nat}, sm (fun _ => 0) n = 0
  | 0 => rfl
  | n + 1 => by rw [sm, sm_zero]; rfl
theorem sm_le {f g : Nat → Int} : ∀ {n : Nat}, (∀ k, k < n → f k ≤ g k) → sm f n ≤ sm g n
  | 0, _ => Int.le_refl _
  | n + 1, h => by
    have := sm_le (n := n) fun k hk => h k (Nat.lt_succ_of_lt hk)
    have := h n (Nat.lt_succ_self n)
    rw [sm, sm]; omega
theorem sm_lt {f g : Nat → Int} : ∀ {n : Nat}, (∀ k, k < n → f k ≤ g k) → (∃ k, k < n ∧ f k < g k) → sm f n < sm g n
  | 0, _, ⟨k, hk, _⟩ => absurd hk (Nat.not_lt_zero k)
  | n + 1, h, ⟨k, hk, hl⟩ => by
    have h1 : ∀ k, k < n → f k ≤ g k := fun k hk => h k (Nat.lt_succ_of_lt hk)
    have h2 := h n (Nat.lt_succ_self n)
    rw [sm, sm]
    by_cases e : k = n
    · subst e
      have := sm_le h1
      omega
    · have := sm_lt h1 ⟨k, by omega, hl⟩
      omega
theorem sm_swap {f : Nat → Nat → Int} {n : Nat} : ∀ {m : Nat}, sm (fun i => sm (fun j => f i j) n) m = sm (fun j => sm (fun i => f i j) m) n
  | 0 => by simp only [sm]; exact sm_zero.symm
  | m + 1 => by
    simp only [sm]
    rw [sm_swap, ← sm_add]
theorem sm_one {g : Nat → Int} {a : Nat} : ∀ {n : Nat}, a < n → sm (fun v => if v = a then g v else 0) n = g a
  | 0, h => absurd h (Nat.not_lt_zero a)
  | n + 1, h => by
    rw [sm]
    by_cases e : n = a
    · subst e
      rw [if_pos rfl, sm_congr (g := fun _ => 0) fun k hk => if_neg (Nat.ne_of_lt hk), sm_zero, Int.zero_add]
    · rw [if_neg e, sm_one (by omega), Int.add_zero]
theorem sm_eq_zero {f : Nat → Int} {n : Nat} (h : ∀ k, k < n → f k ≤ 0) (h0 : sm f n = 0) : ∀ k, k < n → f k = 0 := fun k hk => by
  by_cases e : f k = 0
  · exact e
  · have := sm_lt (f := f) (g := fun _ => 0) h ⟨k, hk, by have := h k hk; omega⟩
    rw [sm_zero] at this
    omega
/-! debts and cuts -/
noncomputable def deb (D : List (Int × Int × Int)) (k : Nat) : Int := (D.getD k (0, 0, 0)).1
noncomputable def cre (D : List (Int × Int × Int)) (k : Nat) : Int := (D.getD k (0, 0, 0)).2.1
noncomputable def amt (D : List (Int × Int × Int)) (k : Nat) : Int := (D.getD k (0, 0, 0)).2.2
noncomputable def GoodL (n : Nat) (D : List (Int × Int × Int)) : Prop := D.length ≤ 40 ∧ ∀ k, k < D.length → (0 ≤ deb D k ∧ deb D k < n) ∧ (0 ≤ cre D k ∧ cre D k < n) ∧ 1 ≤ amt D k ∧ amt D k ≤ 1000000000
noncomputable def CutOk (D : List (Int × Int × Int)) (cs : List Int) : Prop := cs.length = D.length ∧ ∀ k, k < D.length → 0 ≤ cs.getD k 0 ∧ cs.getD k 0 ≤ amt D k
/-- one at a, else nought -/
noncomputable def ind (a v : Int) : Int := if a = v then 1 else 0
/-- what a house has over -/
noncomputable def exc (D : List (Int × Int × Int)) (x : List Int) (v : Int) : Int := sm (fun k => x.getD k 0 * (ind (cre D k) v - ind (deb D k) v)) D.length
noncomputable def Even (n : Nat) (D : List (Int × Int × Int)) (x : List Int) : Prop := ∀ v, v < n → exc D x (v : Nat) = 0
/-- a potential: no step is worth more -/
noncomputable def Pot (D : List (Int × Int × Int)) (x : List Int) (p : Int → Int) : Prop := ∀ k, k < D.length → (x.getD k 0 < amt D k → p (cre D k) ≤ p (deb D k) - 1) ∧ (0 < x.getD k 0 → p (deb D k) ≤ p (cre D k) + 1)
noncomputable def tot (D : List (Int × Int × Int)) (x : List Int) : Int := sm (fun k => x.getD k 0) D.length
theorem sm_ind {p : Int → Int} {n : Nat} {a : Int} (h : 0 ≤ a ∧ a < n) : sm (fun v => p (v : Nat) * ind a (v : Nat)) n = p a := by
  obtain ⟨b, rfl⟩ := Int.eq_ofNat_of_zero_le h.1
  rw [sm_congr (g := fun v => if v = b then p (v : Nat) else 0) fun k hk => ?_, sm_one (g := fun v => p (v : Nat)) (by omega)]
  unfold ind
  by_cases e : k = b
  · rw [if_pos (by rw [e]), if_pos e, Int.mul_one]
  · rw [if_neg (by omega), if_neg e, Int.mul_zero]
/-- the houses' sums, debt by debt -/
theorem exc_sum {n : Nat} {D : List (Int × Int × Int)} {x : List Int} {p : Int → Int} (G : GoodL n D) : sm (fun v => p (v : Nat) * exc D x (v : Nat)) n = sm (fun k => x.getD k 0 * (p (cre D k) - p (deb D k))) D.length := by
  rw [sm_congr (g := fun v => sm (fun k => p (v : Nat) * (x.getD k 0 * (ind (cre D k) (v : Nat) - ind (deb D k) (v : Nat)))) D.length) fun v hv => by rw [sm_mul]; rfl]
  rw [sm_swap]
  refine sm_congr fun k hk => ?_
  obtain ⟨g1, g2, _⟩ := G.2 k hk
  rw [sm_congr (g := fun v => x.getD k 0 * (p (v : Nat) * ind (cre D k) (v : Nat) - p (v : Nat) * ind (deb D k) (v : Nat))) fun v hv => ?_, sm_mul, sm_sub, sm_ind g2, sm_ind g1]
  rw [← Int.mul_sub, Int.mul_left_comm]
theorem even_sum {n : Nat} {D : List (Int × Int × Int)} {x : List Int} {p : Int → Int} (G : GoodL n D) (E : Even n D x) : sm (fun k => x.getD k 0 * (p (cre D k) - p (deb D k))) D.length = 0 := by
  rw [← exc_sum G, sm_congr (g := fun _ => 0) fun v hv => by rw [E v hv, Int.mul_zero], sm_zero]
section
variable {n : Nat} {D : List (Int × Int × Int)} {x y : List Int} {p : Int → Int}
theorem gap_le (Cx : CutOk D x) (Cy : CutOk D y) (P : Pot D y p) : ∀ k, k < D.length → (x.getD k 0 - y.getD k 0) * (1 + p (cre D k) - p (deb D k)) ≤ 0 := fun k hk => by
  obtain ⟨p1, p2⟩ := P k hk
  obtain ⟨x1, x2⟩ := Cx.2 k hk
  obtain ⟨y1, y2⟩ := Cy.2 k hk
  rcases Int.lt_trichotomy (x.getD k 0) (y.getD k 0) with h | h | h
  · have := p2 (by omega)
    exact Int.mul_nonpos_of_nonpos_of_nonneg (by omega) (by omega)
  · rw [h, Int.sub_self, Int.zero_mul]; exact Int.le_refl _
  · have := p1 (by omega)
    exact Int.mul_nonpos_of_nonneg_of_nonpos (by omega) (by omega)
theorem gap_sum (G : GoodL n D) (Ex : Even n D x) (Ey : Even n D y) : sm (fun k => (x.getD k 0 - y.getD k 0) * (1 + p (cre D k) - p (deb D k))) D.length = tot D x - tot D y := by
  have e1 := even_sum (p := p) G Ex
  have e2 := even_sum (p := p) G Ey
  rw [sm_congr (g := fun k => (x.getD k 0 - y.getD k 0) + (x.getD k 0 * (p (cre D k) - p (deb D k)) - y.getD k 0 * (p (cre D k) - p (deb D k)))) fun k hk => ?_, sm_add, sm_sub, sm_sub, e1, e2]
  · unfold tot; omega
  · rw [show 1 + p (cre D k) - p (deb D k) = 1 + (p (cre D k) - p (deb D k)) by omega, Int.mul_add, Int.mul_one, Int.sub_mul]
/-- with a potential no even cut is worth more -/
theorem dual (G : GoodL n D) (Cx : CutOk D x) (Cy : CutOk D y) (Ex : Even n D x) (Ey : Even n D y) (P : Pot D y p) : tot D x ≤ tot D y := by
  have h := sm_le (gap_le Cx Cy P)
  rw [gap_sum G Ex Ey, sm_zero] at h
  omega
/-- as much worth: the same potential -/
theorem dual_same (G : GoodL n D) (Cx : CutOk D x) (Cy : CutOk D y) (Ex : Even n D x) (Ey : Even n D y) (P : Pot D y p) (h : tot D y ≤ tot D x) : Pot D x p := by
  have h0 : sm (fun k => (x.getD k 0 - y.getD k 0) * (1 + p (cre D k) - p (deb D k))) D.length = 0 := by
    have := dual G Cx Cy Ex Ey P
    rw [gap_sum G Ex Ey]; omega
  intro k hk
  have h1 := sm_eq_zero (gap_le Cx Cy P) h0 k hk
  obtain ⟨p1, p2⟩ := P k hk
  obtain ⟨x1, x2⟩ := Cx.2 k hk
  obtain ⟨y1, y2⟩ := Cy.2 k hk
  rcases Int.mul_eq_zero.mp h1 with e | e
  · have e : x.getD k 0 = y.getD k 0 := by omega
    rw [e]; exact ⟨p1, p2⟩
  · exact ⟨fun _ => by omega, fun _ => by omega⟩
end
/-! moves -/
structure Mv where
  u : Int
  v : Int
  c : Int
  cap : Int
  num : Nat
  sg : Int
noncomputable def mvAt (D : List (Int × Int × Int)) (x : List Int) (k : Nat) : List Mv :=
  (if x.getD k 0 < amt D k then [⟨deb D k, cre D k, -1, amt D k - x.getD k 0, k, 1⟩] else []) ++ (if x.getD k 0 > 0 then [⟨cre D k, deb D k, 1, x.getD k 0, k, -1⟩] else [])
noncomputable def moves (D : List (Int × Int × Int)) (x : List Int) : List Mv := (List.range D.length).flatMap (mvAt D x)
theorem mem_moves {D : List (Int × Int × Int)} {x : List Int} {m : Mv} : m ∈ moves D x ↔ m.num < D.length ∧ ((x.getD m.num 0 < amt D m.num ∧ m = ⟨deb D m.num, cre D m.num, -1, amt D m.num - x.getD m.num 0, m.num, 1⟩) ∨ (0 < x.getD m.num 0 ∧ m = ⟨cre D m.num, deb D m.num, 1, x.getD m.num 0, m.num, -1⟩)) := by
  unfold moves mvAt
  rw [List.mem_flatMap]
  constructor
  · rintro ⟨k, hk, h⟩
    rw [List.mem_range] at hk
    rcases List.mem_append.mp h with h | h
    · split at h
      · rename_i y
        rw [List.mem_singleton] at h; subst h; exact ⟨hk, .inl ⟨y, rfl⟩⟩
      · cases h
    · split at h
      · rename_i y
        rw [List.mem_singleton] at h; subst h; exact ⟨hk, .inr ⟨y, rfl⟩⟩
      · cases h
  · rintro ⟨hk, h⟩
    refine ⟨m.num, List.mem_range.mpr hk, ?_⟩
    rw [List.mem_append]
    rcases h with ⟨y, h⟩ | ⟨y, h⟩
    · left; rw [if_pos y, List.mem_singleton]; exact h
    · right; rw [if_pos y, List.mem_singleton]; exact h
/-- the value at a house -/
noncomputable def av (H : List Int) (v : Int) : Int := H.getD v.toNat 0
noncomputable def Within (n : Nat) (v : Int) : Prop := 0 ≤ v ∧ v < n
noncomputable def Steady (M : List Mv) (τ : Int → Int) : Prop := ∀ m ∈ M, τ m.u - m.c ≤ τ m.v
noncomputable def InM (n : Nat) (M : List Mv) : Prop := ∀ m ∈ M, Within n m.u ∧ Within n m.v
theorem moves_in {n : Nat} {D : List (Int × Int × Int)} {x : List Int} (G : GoodL n D) : InM n (moves D x) := fun m hm => by
  obtain ⟨hk, h⟩ := mem_moves.mp hm
  obtain ⟨g1, g2, _⟩ := G.2 _ hk
  rcases h with ⟨_, h⟩ | ⟨_, h⟩
  · rw [h]; exact ⟨g1, g2⟩
  · rw [h]; exact ⟨g2, g1⟩
theorem pot_steady {D : List (Int × Int × Int)} {x : List Int} {p : Int → Int} (P : Pot D x p) (C : Int) : Steady (moves D x) fun v => C - p v := fun m hm => by
  obtain ⟨hk, h⟩ := mem_moves.mp hm
  obtain ⟨p1, p2⟩ := P _ hk
  rcases h with ⟨y, h⟩ | ⟨y, h⟩
  · rw [h]; show C - p (deb D m.num) - -1 ≤ C - p (cre D m.num); have := p1 y; omega
  · rw [h]; show C - p (cre D m.num) - 1 ≤ C - p (deb D m.num); have := p2 y; omega
theorem steady_pot {D : List (Int × Int × Int)} {x : List Int} {τ : Int → Int} (S : Steady (moves D x) τ) : Pot D x fun v => - τ v := fun k hk => by
  refine ⟨fun y => ?_, fun y => ?_⟩
  · have := S ⟨deb D k, cre D k, -1, amt D k - x.getD k 0, k, 1⟩ (mem_moves.mpr ⟨hk, .inl ⟨y, rfl⟩⟩)
    have : τ (deb D k) - -1 ≤ τ (cre D k) := this
    show - τ (cre D k) ≤ - τ (deb D k) - 1
    omega
  · have := S ⟨cre D k, deb D k, 1, x.getD k 0, k, -1⟩ (mem_moves.mpr ⟨hk, .inr ⟨y, rfl⟩⟩)
    have : τ (cre D k) - 1 ≤ τ (deb D k) := this
    show - τ (deb D k) ≤ - τ (cre D k) + 1
    omega
theorem av_set {H : List Int} {n : Nat} {v w z : Int} (hl : H.length = n) (hv : Within n v) (hw : 0 ≤ w) : av (H.set v.toNat z) w = if v = w then z else av H w := by
  unfold av
  obtain ⟨a, rfl⟩ := Int.eq_ofNat_of_zero_le hv.1
  obtain ⟨b, rfl⟩ := Int.eq_ofNat_of_zero_le hw
  have ha : a < H.length := by have := hv.2; omega
  rw [Int.toNat_natCast, Int.toNat_natCast, List.getD, List.getElem?_set]
  by_cases e : a = b
  · subst e; rw [if_pos rfl, if_pos ha, if_pos rfl]; rfl
  · rw [if_neg e, if_neg (by omega)]; rfl
noncomputable def total (n : Nat) (τ : Int → Int) : Int := sm (fun v => τ (v : Nat)) n
structure Pass (n : Nat) (A : Prop) (τ : Int → Int) (M : List Mv) (H H' : List Int) (b : Bool) : Prop where
  len : H'.length = n
  up : ∀ v, Within n v → av H v ≤ av H' v
  top : A → ∀ v, Within n v → av H' v ≤ τ v
  got : ∀ m ∈ M, av H m.u - m.c ≤ av H' m.v
  flag : (b = false ∧ H' = H) ∨ (b = true ∧ total n (av H) < total n (av H'))
section
variable {n : Nat} {A : Prop} {τ : Int → Int} {M N : List Mv} {m : Mv} {H H' : List Int} {b : Bool}
theorem Pass.nil (hl : H.length = n) (h : A → ∀ v, Within n v → av H v ≤ τ v) : Pass n A τ [] H H false := ⟨hl, fun _ _ => Int.le_refl _, h, fun m hm => (nomatch hm), .inl ⟨rfl, rfl⟩⟩
theorem Pass.keep (P : Pass n A τ M H H' b) (hm : Within n m.u) (h : ¬ av H' m.v < av H' m.u - m.c) : Pass n A τ (M ++ [m]) H H' b := ⟨P.len, P.up, P.top, fun m' h' => by
  rcases List.mem_append.mp h' with h' | h'
  · exact P.got m' h'
  · rw [List.mem_singleton] at h'; subst h'
    have := P.up _ hm
    omega, P.flag⟩
theorem Pass.rise (P : Pass n A τ M H H' b) (hm : Within n m.u ∧ Within n m.v) (hs : A → τ m.u - m.c ≤ τ m.v) (h : av H' m.v < av H' m.u - m.c) : Pass n A τ (M ++ [m]) H (H'.set m.v.toNat (av H' m.u - m.c)) true := by
  have e : ∀ w, Within n w → av (H'.set m.v.toNat (av H' m.u - m.c)) w = if m.v = w then av H' m.u - m.c else av H' w := fun w hw => av_set P.len hm.2 hw.1
  have up : ∀ w, Within n w → av H' w ≤ av (H'.set m.v.toNat (av H' m.u - m.c)) w := fun w hw => by
    rw [e w hw]
    split
    · rename_i k; rw [← k]; omega
    · exact Int.le_refl _
  refine ⟨by rw [List.length_set]; exact P.len, fun w hw => Int.le_trans (P.up w hw) (up w hw), fun ha w hw => ?_, fun m' h' => ?_, .inr ⟨rfl, ?_⟩⟩
  · rw [e w hw]
    split
    · rename_i k; rw [← k]; have := P.top ha _ hm.1; have := hs ha; omega
    · exact P.top ha w hw
  · rcases List.mem_append.mp h' with h' | h'
    · refine Int.le_trans (P.got m' h') ?_
      by_cases hw : Within n m'.v
      · exact up _ hw
      · unfold av
        rw [List.getD, List.getD, List.getElem?_set]
        split
        · rename_i k
          have := hm.2
          rw [← k]
          rw [if_pos (by rw [P.len]; unfold Within at this; omega)]
          exact Int.le_of_lt h
        · exact Int.le_refl _
    · rw [List.mem_singleton] at h'; subst h'
      rw [e _ hm.2, if_pos rfl]
      have := P.up _ hm.1
      omega
  · have h1 : total n (av H') < total n (av (H'.set m.v.toNat (av H' m.u - m.c))) := by
      refine sm_lt (fun k hk => up _ ⟨Int.natCast_nonneg _, Int.ofNat_lt.mpr hk⟩) ⟨m.v.toNat, by have := hm.2; unfold Within at this; omega, ?_⟩
      have hv : ((m.v.toNat : Nat) : Int) = m.v := Int.toNat_of_nonneg hm.2.1
      rw [hv, e _ hm.2, if_pos rfl]
      exact h
    rcases P.flag with ⟨_, f⟩ | ⟨_, f⟩
    · rw [← f]; exact h1
    · exact Int.lt_trans f h1
/-- no rise: steady -/
theorem Pass.still (P : Pass n A τ M H H' false) : H' = H ∧ Steady M (av H) := by
  rcases P.flag with ⟨_, f⟩ | ⟨f, _⟩
  · subst f; exact ⟨rfl, P.got⟩
  · cases f
theorem Pass.more (P : Pass n A τ M H H' true) : total n (av H) < total n (av H') := by
  rcases P.flag with ⟨f, _⟩ | ⟨_, f⟩
  · cases f
  · exact f
end
/-! the least heights -/
structure Least (n : Nat) (M : List Mv) (τ : Int → Int) : Prop where
  pos : ∀ v, Within n v → 0 ≤ τ v
  steady : Steady M τ
  least : ∀ τ', (∀ v, Within n v → 0 ≤ τ' v) → Steady M τ' → total n τ ≤ total n τ'
theorem total_pos {n : Nat} {τ : Int → Int} (h : ∀ v, Within n v → 0 ≤ τ v) : 0 ≤ total n τ := by
  have := sm_le (f := fun _ => 0) (g := fun v => τ (v : Nat)) (n := n) fun k hk => h _ ⟨Int.natCast_nonneg _, Int.ofNat_lt.mpr hk⟩
  rwa [sm_zero] at this
theorem least_ex {n : Nat} {M : List Mv} : ∀ (s : Nat) (τ : Int → Int), (total n τ).toNat = s → (∀ v, Within n v → 0 ≤ τ v) → Steady M τ → ∃ τ', Least n M τ' := fun s => by
  induction s using Nat.strongRecOn with
  | ind s ih =>
    intro τ hs h1 h2
    by_cases h : ∃ τ', (∀ v, Within n v → 0 ≤ τ' v) ∧ Steady M τ' ∧ total n τ' < total n τ
    · obtain ⟨τ', k1, k2, k3⟩ := h
      have := total_pos k1
      exact ih (total n τ').toNat (by omega) τ' rfl k1 k2
    · refine ⟨τ, h1, h2, fun τ' k1 k2 => ?_⟩
      by_cases k : total n τ' < total n τ
      · exact absurd ⟨τ', k1, k2, k⟩ h
      · omega
theorem pot_least {n : Nat} {D : List (Int × Int × Int)} {x : List Int} {p : Int → Int} (P : Pot D x p) : ∃ τ, Least n (moves D x) τ := by
  have hb : ∀ {m : Nat} {v : Nat}, v < m → p (v : Nat) ≤ sm (fun v => ((p (v : Nat)).natAbs : Int)) m := fun {m v} hv => by
    induction m with
    | zero => exact absurd hv (Nat.not_lt_zero v)
    | succ m ih =>
      rw [sm]
      have h0 : 0 ≤ sm (fun v => ((p (v : Nat)).natAbs : Int)) m := by
        have := sm_le (f := fun _ => 0) (g := fun v => ((p (v : Nat)).natAbs : Int)) (n := m) fun k hk => Int.natCast_nonneg _
        rwa [sm_zero] at this
      by_cases e : v = m
      · subst e; omega
      · have := ih (by omega); omega
  refine least_ex _ (fun v => sm (fun v => ((p (v : Nat)).natAbs : Int)) n - p v) rfl (fun v hv => ?_) (pot_steady P _)
  have hv' : ((v.toNat : Nat) : Int) = v := Int.toNat_of_nonneg hv.1
  have := hb (m := n) (v := v.toNat) (by unfold Within at hv; omega)
  rw [hv'] at this
  show 0 ≤ _ - p v
  omega
/-- how many are there already -/
noncomputable def cnt (n : Nat) (τ : Int → Int) (H : List Int) : Int := sm (fun v => if av H (v : Nat) = τ (v : Nat) then 1 else 0) n
section
variable {n : Nat} {τ : Int → Int} {M : List Mv} {H H' : List Int} {b : Bool}
theorem cnt_le : cnt n τ H ≤ n := by
  have h := sm_le (f := fun v => if av H (v : Nat) = τ (v : Nat) then 1 else 0) (g := fun _ => 1) (n := n) fun k _ => by split <;> decide
  have : ∀ m : Nat, sm (fun _ => 1) m = (m : Int) := fun m => by
    induction m with
    | zero => rfl
    | succ m ih => rw [sm, ih]; rfl
  rw [this] at h
  exact h
theorem least_lower (L : Least n M τ) (U : Int → Prop) (hU : ∀ v, Within n v → U v → 0 < τ v) (hx : ∃ v, Within n v ∧ U v) (hM : InM n M) : ∃ m ∈ M, U m.v ∧ ¬ U m.u ∧ τ m.v = τ m.u - m.c := by
  by_cases h : ∃ m ∈ M, U m.v ∧ ¬ U m.u ∧ τ m.v = τ m.u - m.c
  · exact h
  exfalso
  have dU : ∀ v, Decidable (U v) := fun v => Classical.propDecidable _
  have k := L.least (fun v => if U v then τ v - 1 else τ v) (fun v hv => ?_) (fun m hm => ?_)
  · obtain ⟨v, hv, u⟩ := hx
    have : total n (fun v => if U v then τ v - 1 else τ v) < total n τ := by
      refine sm_lt (fun k hk => ?_) ⟨v.toNat, by unfold Within at hv; omega, ?_⟩
      · show (if U (k : Nat) then τ (k : Nat) - 1 else τ (k : Nat)) ≤ _
        split <;> omega
      · have hv' : ((v.toNat : Nat) : Int) = v := Int.toNat_of_nonneg hv.1
        show (if U (v.toNat : Nat) then τ (v.toNat : Nat) - 1 else τ (v.toNat : Nat)) < _
        rw [hv', if_pos u]; omega
    omega
  · show 0 ≤ if U v then τ v - 1 else τ v
    have := L.pos v hv
    split
    · rename_i u; have := hU v hv u; omega
    · exact this
  · show (if U m.u then τ m.u - 1 else τ m.u) - m.c ≤ if U m.v then τ m.v - 1 else τ m.v
    have s := L.steady m hm
    by_cases hv : U m.v
    · rw [if_pos hv]
      by_cases hu : U m.u
      · rw [if_pos hu]; omega
      · rw [if_neg hu]
        have : τ m.v ≠ τ m.u - m.c := fun e => h ⟨m, hm, hv, hu, e⟩
        omega
    · rw [if_neg hv]
      split <;> omega
theorem cnt_zero (L : Least n M τ) (hM : InM n M) (hn : 1 ≤ n) (hl : ∀ v, Within n v → av H v = 0) : 1 ≤ cnt n τ H := by
  by_cases h : ∃ v, Within n v ∧ τ v = 0
  · obtain ⟨v, hv, e⟩ := h
    have hv' : ((v.toNat : Nat) : Int) = v := Int.toNat_of_nonneg hv.1
    have := sm_lt (f := fun _ => 0) (g := fun v => if av H (v : Nat) = τ (v : Nat) then 1 else 0) (n := n) (fun k _ => by show (0 : Int) ≤ if _ then 1 else 0; split <;> decide) ⟨v.toNat, by unfold Within at hv; omega, by
      show (0 : Int) < if _ then 1 else 0
      rw [hv', if_pos (by rw [hl v hv, e])]; decide⟩
    rw [sm_zero] at this
    exact this
  · obtain ⟨m, _, _, k, _⟩ := least_lower L (fun _ => True) (fun v hv _ => by
      have := L.pos v hv
      have : τ v ≠ 0 := fun e => h ⟨v, hv, e⟩
      omega) ⟨0, ⟨by decide, by omega⟩, trivial⟩ hM
    exact absurd trivial k
theorem cnt_more (L : Least n M τ) (hM : InM n M) {A : Prop} (P : Pass n A τ M H H' b) (ha : A) (h0 : ∀ v, Within n v → 0 ≤ av H v) (hx : ∃ v, Within n v ∧ av H v ≠ τ v) : cnt n τ H + 1 ≤ cnt n τ H' := by
  have lo : ∀ v, Within n v → av H v ≤ τ v := fun v hv => Int.le_trans (P.up v hv) (P.top ha v hv)
  obtain ⟨m, hm, k1, k2, k3⟩ := least_lower L (fun v => av H v ≠ τ v) (fun v hv u => by have := h0 v hv; have := lo v hv; omega) hx hM
  obtain ⟨wu, wv⟩ := hM m hm
  have k2 : av H m.u = τ m.u := Classical.byContradiction k2
  have g : av H' m.v = τ m.v := by
    have := P.got m hm
    have := P.top ha m.v wv
    omega
  have hv' : ((m.v.toNat : Nat) : Int) = m.v := Int.toNat_of_nonneg wv.1
  have := sm_lt (f := fun v => if av H (v : Nat) = τ (v : Nat) then 1 else 0) (g := fun v => if av H' (v : Nat) = τ (v : Nat) then 1 else 0) (n := n) (fun k hk => ?_) ⟨m.v.toNat, by unfold Within at wv; omega, ?_⟩
  · exact this
  · show (if _ then (1 : Int) else 0) ≤ if _ then 1 else 0
    by_cases e : av H (k : Nat) = τ (k : Nat)
    · have w : Within n (k : Nat) := ⟨Int.natCast_nonneg _, Int.ofNat_lt.mpr hk⟩
      have := P.up _ w
      have := P.top ha _ w
      rw [if_pos e, if_pos (by omega)]; decide
    · rw [if_neg e]; split <;> decide
  · show (if _ then (1 : Int) else 0) < if _ then 1 else 0
    rw [hv', if_neg k1, if_pos g]; decide
end
/-! cheapest -/
noncomputable abbrev lexlt (a b : Int × Int) : Prop := a.1 < b.1 ∨ (a.1 = b.1 ∧ a.2 < b.2)
noncomputable def kv (K : List (Option (Int × Int))) (v : Int) : Option (Int × Int) := K.getD v.toNat none
noncomputable def tv (T : List (Option Mv)) (v : Int) : Option Mv := T.getD v.toNat none
theorem getD_set' {α : Type} {H : List α} {z d : α} {n : Nat} {v w : Int} (hl : H.length = n) (hv : Within n v) (hw : 0 ≤ w) : (H.set v.toNat z).getD w.toNat d = if v = w then z else H.getD w.toNat d := by
  obtain ⟨a, rfl⟩ := Int.eq_ofNat_of_zero_le hv.1
  obtain ⟨b, rfl⟩ := Int.eq_ofNat_of_zero_le hw
  have ha : a < H.length := by have := hv.2; omega
  rw [Int.toNat_natCast, Int.toNat_natCast, List.getD, List.getElem?_set]
  by_cases e : a = b
  · subst e; rw [if_pos rfl, if_pos ha, if_pos rfl]; rfl
  · rw [if_neg e, if_neg (by omega)]; rfl
theorem kv_set {K : List (Option (Int × Int))} {n : Nat} {v w : Int} {z : Option (Int × Int)} (hl : K.length = n) (hv : Within n v) (hw : Within n w) : kv (K.set v.toNat z) w = if v = w then z else kv K w := getD_set' hl hv hw.1
theorem tv_set {T : List (Option Mv)} {n : Nat} {v w : Int} {z : Option Mv} (hl : T.length = n) (hv : Within n v) (hw : Within n w) : tv (T.set v.toNat z) w = if v = w then z else tv T w := getD_set' hl hv hw.1
structure Chp (n : Nat) (M : List Mv) (S : List Int) (p : Int → Int) (B : Int) (K : List (Option (Int × Int))) (T : List (Option Mv)) : Prop where
  lenK : K.length = n
  lenT : T.length = n
  st : ∀ s ∈ S, kv K s ≠ none
  tree : ∀ v m, Within n v → tv T v = some m → m ∈ M ∧ m.v = v ∧ ∃ a b, kv K m.u = some a ∧ kv K v = some b ∧ ¬ lexlt b (a.1 + m.c, a.2 + 1)
  root : ∀ v, Within n v → tv T v = none → kv K v ≠ none → v ∈ S
  lo : ∀ v b, Within n v → kv K v = some b → p v + B ≤ b.1 ∧ 0 ≤ b.2
noncomputable def low (p : Int → Int) (B : Int) (K : List (Option (Int × Int))) (v : Int) : Int := match kv K v with
  | none => 0
  | some b => b.1 - (p v + B)
noncomputable def stp (K : List (Option (Int × Int))) (v : Int) : Int := match kv K v with
  | none => 0
  | some b => b.2
noncomputable def non (K : List (Option (Int × Int))) (v : Int) : Int := match kv K v with
  | none => 1
  | some _ => 0
/-- lower in the order of three sums -/
noncomputable def Less (n : Nat) (p : Int → Int) (B : Int) (K K' : List (Option (Int × Int))) : Prop :=
  total n (non K) < total n (non K') ∨ (total n (non K) = total n (non K') ∧ (total n (low p B K) < total n (low p B K') ∨ (total n (low p B K) = total n (low p B K') ∧ total n (stp K) < total n (stp K'))))
theorem Less.trans {n : Nat} {p : Int → Int} {B : Int} {K K' K'' : List (Option (Int × Int))} (h : Less n p B K K') (h' : Less n p B K' K'') : Less n p B K K'' := by
  unfold Less at h h' ⊢
  omega
/-- as the reading stands -/
noncomputable def Settled (M : List Mv) (K : List (Option (Int × Int))) : Prop := ∀ m ∈ M, ∀ a, kv K m.u = some a → ∃ b, kv K m.v = some b ∧ ¬ lexlt (a.1 + m.c, a.2 + 1) b
structure CPass (n : Nat) (M : List Mv) (S : List Int) (p : Int → Int) (B : Int) (M1 : List Mv) (K : List (Option (Int × Int))) (T : List (Option Mv)) (K' : List (Option (Int × Int))) (T' : List (Option Mv)) (f : Bool) : Prop where
  inv : Chp n M S p B K' T'
  flag : (f = false ∧ K' = K ∧ T' = T ∧ Settled M1 K) ∨ (f = true ∧ Less n p B K' K)
theorem total_set {n : Nat} {f g : Int → Int} {v : Int} (hv : Within n v) (h : ∀ w, Within n w → w ≠ v → f w = g w) : total n f - f v = total n g - g v := by
  have hv' : ((v.toNat : Nat) : Int) = v := Int.toNat_of_nonneg hv.1
  have e : ∀ q : Int → Int, total n q - q v = sm (fun w => if ((w : Nat) : Int) = v then 0 else q (w : Nat)) n := fun q => by
    have e1 : sm (fun w => if w = v.toNat then q (w : Nat) else 0) n = q ((v.toNat : Nat) : Int) := sm_one (g := fun w => q (w : Nat)) (by unfold Within at hv; omega)
    rw [hv'] at e1
    unfold total
    rw [← e1, ← sm_sub]
    refine sm_congr fun k hk => ?_
    by_cases e : ((k : Nat) : Int) = v
    · rw [if_pos e, if_pos (by omega)]; omega
    · rw [if_neg e, if_neg (by omega)]; omega
  rw [e, e]
  refine sm_congr fun k hk => ?_
  by_cases e : ((k : Nat) : Int) = v
  · rw [if_pos e, if_pos e]
  · rw [if_neg e, if_neg e]; exact h _ ⟨Int.natCast_nonneg _, Int.ofNat_lt.mpr hk⟩ e
section
variable {n : Nat} {M M1 : List Mv} {S : List Int} {p : Int → Int} {B : Int} {K K' : List (Option (Int × Int))} {T T' : List (Option Mv)} {f : Bool} {m : Mv}
theorem CPass.nil (C : Chp n M S p B K T) : CPass n M S p B [] K T K T false := ⟨C, .inl ⟨rfl, rfl, rfl, fun m hm => (nomatch hm)⟩⟩
theorem CPass.keep (P : CPass n M S p B M1 K T K' T' f) (h : ∀ a, kv K' m.u = some a → ∃ b, kv K' m.v = some b ∧ ¬ lexlt (a.1 + m.c, a.2 + 1) b) : CPass n M S p B (M1 ++ [m]) K T K' T' f := by
  refine ⟨P.inv, ?_⟩
  rcases P.flag with ⟨h1, h2, h3, h4⟩ | h1
  · refine .inl ⟨h1, h2, h3, fun m' hm' => ?_⟩
    rcases List.mem_append.mp hm' with hm' | hm'
    · exact h4 m' hm'
    · rw [List.mem_singleton] at hm'; subst hm'; rw [← h2]; exact h
  · exact .inr h1
theorem CPass.rise {a : Int × Int} (P : CPass n M S p B M1 K T K' T' f) (hM : InM n M) (hp : ∀ m ∈ M, p m.v ≤ p m.u + m.c) (hm : m ∈ M) (ha : kv K' m.u = some a) (h : kv K' m.v = none ∨ ∃ b, kv K' m.v = some b ∧ lexlt (a.1 + m.c, a.2 + 1) b) :
    CPass n M S p B (M1 ++ [m]) K T (K'.set m.v.toNat (some (a.1 + m.c, a.2 + 1))) (T'.set m.v.toNat (some m)) true := by
  obtain ⟨wu, wv⟩ := hM m hm
  have C := P.inv
  have lp := hp m hm
  obtain ⟨la1, la2⟩ := C.lo _ _ wu ha
  have ne : m.v ≠ m.u := fun e => by
    rw [e, ha] at h
    rcases h with h | ⟨b, h, hb⟩
    · cases h
    · cases h
      unfold lexlt at hb
      rw [e] at lp
      dsimp only at hb
      omega
  have ek : ∀ w, Within n w → kv (K'.set m.v.toNat (some (a.1 + m.c, a.2 + 1))) w = if m.v = w then some (a.1 + m.c, a.2 + 1) else kv K' w := fun w hw => kv_set C.lenK wv hw
  have et : ∀ w, Within n w → tv (T'.set m.v.toNat (some m)) w = if m.v = w then some m else tv T' w := fun w hw => tv_set C.lenT wv hw
  have lt : Less n p B (K'.set m.v.toNat (some (a.1 + m.c, a.2 + 1))) K' := by
    have o : ∀ w, Within n w → w ≠ m.v → kv (K'.set m.v.toNat (some (a.1 + m.c, a.2 + 1))) w = kv K' w := fun w hw e => by rw [ek w hw, if_neg (Ne.symm e)]
    have t1 := total_set (f := non (K'.set m.v.toNat (some (a.1 + m.c, a.2 + 1)))) (g := non K') wv fun w hw e => by unfold non; rw [o w hw e]
    have t2 := total_set (f := low p B (K'.set m.v.toNat (some (a.1 + m.c, a.2 + 1)))) (g := low p B K') wv fun w hw e => by unfold low; rw [o w hw e]
    have t3 := total_set (f := stp (K'.set m.v.toNat (some (a.1 + m.c, a.2 + 1)))) (g := stp K') wv fun w hw e => by unfold stp; rw [o w hw e]
    have k := ek _ wv
    rw [if_pos rfl] at k
    have n1 : non (K'.set m.v.toNat (some (a.1 + m.c, a.2 + 1))) m.v = 0 := by unfold non; rw [k]
    have n2 : low p B (K'.set m.v.toNat (some (a.1 + m.c, a.2 + 1))) m.v = a.1 + m.c - (p m.v + B) := by unfold low; rw [k]
    have n3 : stp (K'.set m.v.toNat (some (a.1 + m.c, a.2 + 1))) m.v = a.2 + 1 := by unfold stp; rw [k]
    rw [n1] at t1; rw [n2] at t2; rw [n3] at t3
    unfold Less
    rcases h with h | ⟨b, h, hb⟩
    · have q1 : non K' m.v = 1 := by unfold non; rw [h]
      omega
    · have q1 : non K' m.v = 0 := by unfold non; rw [h]
      have q2 : low p B K' m.v = b.1 - (p m.v + B) := by unfold low; rw [h]
      have q3 : stp K' m.v = b.2 := by unfold stp; rw [h]
      unfold lexlt at hb
      dsimp only at hb
      omega
  refine ⟨⟨by rw [List.length_set]; exact C.lenK, by rw [List.length_set]; exact C.lenT, fun s hs => ?_, fun w m' hw e => ?_, fun w hw e k => ?_, fun w b hw e => ?_⟩, .inr ⟨rfl, ?_⟩⟩
  · have k := C.st s hs
    by_cases hws : Within n s
    · rw [ek s hws]
      split
      · exact fun h => (nomatch h)
      · exact k
    · unfold kv at k ⊢
      rw [List.getD, List.getElem?_set]
      split
      · split
        · exact fun h => (nomatch h)
        · rename_i q1 q2
          rw [C.lenK] at q2
          unfold Within at wv
          omega
      · exact k
  · rw [et w hw] at e
    split at e
    · rename_i q
      cases e
      refine ⟨hm, q, a, (a.1 + m.c, a.2 + 1), ?_, ?_, ?_⟩
      · rw [ek _ wu, if_neg ne]; exact ha
      · rw [ek _ hw, if_pos q]
      · unfold lexlt; dsimp only; omega
    · rename_i q
      obtain ⟨g1, g2, a', b', g3, g4, g5⟩ := C.tree w m' hw e
      obtain ⟨wu', _⟩ := hM m' g1
      refine ⟨g1, g2, ?_⟩
      by_cases q' : m.v = m'.u
      · refine ⟨(a.1 + m.c, a.2 + 1), b', by rw [ek _ wu', if_pos q'], by rw [ek _ hw, if_neg q]; exact g4, ?_⟩
        rw [q', g3] at h
        rcases h with h | ⟨b, h, hb⟩
        · cases h
        · cases h
          unfold lexlt at hb g5 ⊢
          dsimp only at hb g5 ⊢
          omega
      · exact ⟨a', b', by rw [ek _ wu', if_neg q']; exact g3, by rw [ek _ hw, if_neg q]; exact g4, g5⟩
  · rw [et w hw] at e
    split at e
    · cases e
    · rename_i q
      rw [ek w hw, if_neg q] at k
      exact C.root w hw e k
  · rw [ek w hw] at e
    split at e
    · rename_i q
      cases e
      dsimp only
      rw [← q]
      omega
    · exact C.lo w b hw e
  · rcases P.flag with ⟨_, h2, _⟩ | ⟨_, h2⟩
    · rw [← h2]; exact lt
    · exact lt.trans h2
theorem less_wf : WellFounded fun K K' : List (Option (Int × Int)) => (0 ≤ total n (low p B K') ∧ 0 ≤ total n (stp K') ∧ 0 ≤ total n (non K') ∧ 0 ≤ total n (low p B K) ∧ 0 ≤ total n (stp K) ∧ 0 ≤ total n (non K)) ∧ Less n p B K K' := by
  refine Subrelation.wf (r := InvImage (Prod.Lex (· < ·) (Prod.Lex (· < ·) (· < ·))) fun K => ((total n (non K)).toNat, (total n (low p B K)).toNat, (total n (stp K)).toNat)) (fun {K K'} h => ?_) (InvImage.wf _ (Prod.lex ⟨_, Nat.lt_wfRel.wf⟩ (Prod.lex ⟨_, Nat.lt_wfRel.wf⟩ ⟨_, Nat.lt_wfRel.wf⟩)).wf)
  obtain ⟨⟨z1, z2, z3, z4, z5, z6⟩, h⟩ := h
  unfold Less at h
  unfold InvImage
  dsimp only
  by_cases e : total n (non K) = total n (non K')
  · have e1 : (total n (non K)).toNat = (total n (non K')).toNat := by rw [e]
    rw [e1]
    refine Prod.Lex.right _ ?_
    by_cases e' : total n (low p B K) = total n (low p B K')
    · have e2 : (total n (low p B K)).toNat = (total n (low p B K')).toNat := by rw [e']
      rw [e2]
      exact Prod.Lex.right _ (by omega)
    · exact Prod.Lex.left _ _ (by omega)
  · exact Prod.Lex.left _ _ (by omega)
theorem Chp.pos (C : Chp n M S p B K T) : 0 ≤ total n (low p B K) ∧ 0 ≤ total n (stp K) ∧ 0 ≤ total n (non K) := by
  refine ⟨total_pos fun v hv => ?_, total_pos fun v hv => ?_, total_pos fun v hv => ?_⟩
  · unfold low
    split
    · decide
    · rename_i b e; have := (C.lo v b hv e).1; omega
  · unfold stp
    split
    · decide
    · rename_i b e; exact (C.lo v b hv e).2
  · unfold non
    split <;> decide
/-- each move of the tree is tight -/
theorem tight (C : Chp n M S p B K T) (Z : Settled M K) {v : Int} (hv : Within n v) (h : tv T v = some m) : m ∈ M ∧ m.v = v ∧ ∃ a, kv K m.u = some a ∧ kv K v = some (a.1 + m.c, a.2 + 1) := by
  obtain ⟨g1, g2, a, b, g3, g4, g5⟩ := C.tree v m hv h
  obtain ⟨b', h1, h2⟩ := Z m g1 a g3
  rw [g2, g4] at h1
  cases h1
  refine ⟨g1, g2, a, g3, ?_⟩
  rw [g4]
  unfold lexlt at g5 h2
  dsimp only at g5 h2
  have e1 : b.1 = a.1 + m.c := by omega
  have e2 : b.2 = a.2 + 1 := by omega
  rw [← e1, ← e2]
/-! the row back -/
inductive RowTo (n : Nat) (T : List (Option Mv)) (e : Int) : List Mv → Int → Prop
  | nil : RowTo n T e [] e
  | snoc {row : List Mv} {h : Int} {m : Mv} : RowTo n T e row h → Within n h → tv T h = some m → RowTo n T e (row ++ [m]) m.u
noncomputable def Fwd (D : List (Int × Int × Int)) (m : Mv) : Prop := (m.u = deb D m.num ∧ m.v = cre D m.num ∧ m.c = -1 ∧ m.sg = 1) ∨ (m.u = cre D m.num ∧ m.v = deb D m.num ∧ m.c = 1 ∧ m.sg = -1)
theorem fwd_moves {D : List (Int × Int × Int)} {x : List Int} (h : m ∈ moves D x) : Fwd D m := by
  obtain ⟨_, h⟩ := mem_moves.mp h
  rcases h with ⟨_, h⟩ | ⟨_, h⟩
  · left; rw [h]; exact ⟨rfl, rfl, rfl, rfl⟩
  · right; rw [h]; exact ⟨rfl, rfl, rfl, rfl⟩
theorem row_facts {D : List (Int × Int × Int)} {x : List Int} {e h : Int} {row : List Mv} (C : Chp n (moves D x) S p B K T) (Z : Settled (moves D x) K) (R : RowTo n T e row h) :
    (∀ m ∈ row, m ∈ moves D x ∧ stp K h < stp K m.v ∧ stp K m.v = stp K m.u + 1 ∧ (∃ a, kv K m.u = some a ∧ kv K m.v = some (a.1 + m.c, a.2 + 1))) ∧ (row.map Mv.num).Nodup := by
  induction R with
  | nil => exact ⟨fun m hm => (nomatch hm), List.nodup_nil⟩
  | snoc R hw ht ih =>
    rename_i row h m
    obtain ⟨i1, i2⟩ := ih
    obtain ⟨g1, g2, a, g3, g4⟩ := tight C Z hw ht
    have s1 : stp K h = a.2 + 1 := by unfold stp; rw [g4]
    have s2 : stp K m.u = a.2 := by unfold stp; rw [g3]
    refine ⟨fun m' hm' => ?_, ?_⟩
    · rcases List.mem_append.mp hm' with k | k
      · obtain ⟨k1, k2, k3, k4⟩ := i1 m' k
        exact ⟨k1, by omega, k3, k4⟩
      · rw [List.mem_singleton] at k
        subst k
        exact ⟨g1, by rw [g2]; omega, by rw [g2]; omega, a, g3, by rw [g2]; exact g4⟩
    · rw [List.map_append, List.map_singleton]
      rw [List.nodup_append]
      refine ⟨i2, by simp, fun k hk k' hk' => ?_⟩
      rw [List.mem_singleton] at hk'
      subst hk'
      obtain ⟨m', hm', rfl⟩ := List.mem_map.mp hk
      intro e
      obtain ⟨k1, k2, k3, _⟩ := i1 m' hm'
      have f1 := fwd_moves g1
      have f2 := fwd_moves k1
      unfold Fwd at f1 f2
      rw [e] at f2
      rcases f1 with ⟨a1, a2, _⟩ | ⟨a1, a2, _⟩ <;> rcases f2 with ⟨b1, b2, _⟩ | ⟨b1, b2, _⟩
      · rw [b2, ← a2, g2] at k2; omega
      · rw [b2, ← a1] at k2; omega
      · rw [b2, ← a1] at k2; omega
      · rw [b2, ← a2, g2] at k2; omega
end
/-! along the row -/
noncomputable def addRow (a : Int) (x : List Int) (row : List Mv) : List Int := row.foldl (fun x m => x.set m.num (x.getD m.num 0 + m.sg * a)) x
noncomputable def rowSum (row : List Mv) (w : Int) : Int := (row.map fun m => ind m.v w - ind m.u w).sum
theorem getD_setn {x : List Int} {j k : Nat} {z : Int} (h : j < x.length) : (x.set j z).getD k 0 = if j = k then z else x.getD k 0 := by
  rw [List.getD, List.getElem?_set]
  by_cases e : j = k
  · subst e; rw [if_pos rfl, if_pos h, if_pos rfl]; rfl
  · rw [if_neg e, if_neg e]; rfl
theorem addRow_len {a : Int} : ∀ {row : List Mv} {x : List Int}, (addRow a x row).length = x.length
  | [], _ => rfl
  | m :: row, x => by
    show (addRow a (x.set m.num _) row).length = _
    rw [addRow_len, List.length_set]
theorem addRow_other {a : Int} {k : Nat} : ∀ {row : List Mv} {x : List Int}, (∀ m ∈ row, m.num < x.length) → k ∉ row.map Mv.num → (addRow a x row).getD k 0 = x.getD k 0
  | [], _, _, _ => rfl
  | m :: row, x, h, hk => by
    show (addRow a (x.set m.num _) row).getD k 0 = _
    rw [List.map_cons, List.mem_cons, not_or] at hk
    rw [addRow_other (fun m' hm' => by rw [List.length_set]; exact h m' (.tail _ hm')) hk.2, getD_setn (h m (.head _)), if_neg (Ne.symm hk.1)]
theorem addRow_at {a : Int} {m : Mv} : ∀ {row : List Mv} {x : List Int}, (∀ m ∈ row, m.num < x.length) → (row.map Mv.num).Nodup → m ∈ row → (addRow a x row).getD m.num 0 = x.getD m.num 0 + m.sg * a
  | [], _, _, _, hm => (nomatch hm)
  | m' :: row, x, h, hn, hm => by
    show (addRow a (x.set m'.num _) row).getD m.num 0 = _
    rw [List.map_cons, List.nodup_cons] at hn
    have h' : ∀ m ∈ row, m.num < (x.set m'.num (x.getD m'.num 0 + m'.sg * a)).length := fun q hq => by rw [List.length_set]; exact h q (.tail _ hq)
    rcases List.mem_cons.mp hm with e | hm
    · subst e
      rw [addRow_other h' hn.1, getD_setn (h m (.head _)), if_pos rfl]
    · rw [addRow_at h' hn.2 hm, getD_setn (h m' (.head _)), if_neg fun e => hn.1 (by rw [e]; exact List.mem_map.mpr ⟨m, hm, rfl⟩)]
theorem exc_set {D : List (Int × Int × Int)} {x : List Int} {j : Nat} {z w : Int} (hj : j < D.length) (hl : x.length = D.length) : exc D (x.set j (x.getD j 0 + z)) w = exc D x w + z * (ind (cre D j) w - ind (deb D j) w) := by
  unfold exc
  rw [sm_congr (g := fun k => x.getD k 0 * (ind (cre D k) w - ind (deb D k) w) + if k = j then z * (ind (cre D k) w - ind (deb D k) w) else 0) fun k hk => ?_, sm_add, sm_one (g := fun k => z * (ind (cre D k) w - ind (deb D k) w)) hj]
  rw [getD_setn (by omega)]
  by_cases e : j = k
  · subst e; rw [if_pos rfl, if_pos rfl, Int.add_mul]
  · rw [if_neg e, if_neg (Ne.symm e), Int.add_zero]
theorem exc_row {D : List (Int × Int × Int)} {a w : Int} : ∀ {row : List Mv} {x : List Int}, x.length = D.length → (∀ m ∈ row, m.num < D.length ∧ Fwd D m) → exc D (addRow a x row) w = exc D x w + a * rowSum row w
  | [], x, _, _ => by show exc D x w = _ + a * 0; omega
  | m :: row, x, hl, h => by
    show exc D (addRow a (x.set m.num _) row) w = _
    obtain ⟨h1, h2⟩ := h m (.head _)
    rw [exc_row (by rw [List.length_set]; exact hl) fun m' hm' => h m' (.tail _ hm'), exc_set h1 hl]
    show _ = _ + a * ((ind m.v w - ind m.u w) + rowSum row w)
    rw [Int.mul_add, Int.add_assoc]
    congr 1
    congr 1
    rcases h2 with ⟨e1, e2, _, e3⟩ | ⟨e1, e2, _, e3⟩
    · rw [e1, e2, e3, Int.one_mul]
    · rw [e1, e2, e3]
      rw [show -1 * a = -a by omega, Int.neg_mul, ← Int.mul_neg, Int.neg_sub]
theorem rowSum_app {row : List Mv} {m : Mv} {w : Int} : rowSum (row ++ [m]) w = rowSum row w + (ind m.v w - ind m.u w) := by
  unfold rowSum
  rw [List.map_append, List.sum_append, List.map_singleton, List.sum_singleton]
theorem row_tele {n : Nat} {M : List Mv} {S : List Int} {p : Int → Int} {B : Int} {K : List (Option (Int × Int))} {T : List (Option Mv)} {e h w : Int} {row : List Mv} (C : Chp n M S p B K T) (R : RowTo n T e row h) : rowSum row w = ind e w - ind h w := by
  induction R with
  | nil => show (0 : Int) = _; omega
  | snoc R hw ht ih =>
    rename_i row h m
    rw [rowSum_app, ih, (C.tree h m hw ht).2.1]
    omega
/-- what is over, the houses that gain alone -/
noncomputable def phi (n : Nat) (D : List (Int × Int × Int)) (x : List Int) : Int := sm (fun v => max (exc D x (v : Nat)) 0) n
theorem phi_pos {n : Nat} {D : List (Int × Int × Int)} {x : List Int} : 0 ≤ phi n D x := by
  have := sm_le (f := fun _ => 0) (g := fun v => max (exc D x (v : Nat)) 0) (n := n) fun k _ => Int.le_max_right _ _
  rwa [sm_zero] at this
theorem phi_less {n : Nat} {D : List (Int × Int × Int)} {x x' : List Int} {e h a : Int} (he : exc D x e + a ≤ 0) (hh : a ≤ exc D x h) (ha : 1 ≤ a) (wh : Within n h) (hx : ∀ w, exc D x' w = exc D x w + a * (ind e w - ind h w)) : phi n D x' < phi n D x := by
  have eh : e ≠ h := fun k => by rw [k] at he; omega
  refine sm_lt (fun k hk => ?_) ⟨h.toNat, by unfold Within at wh; omega, ?_⟩
  · show max (exc D x' (k : Nat)) 0 ≤ max (exc D x (k : Nat)) 0
    rw [hx]
    unfold ind
    by_cases k1 : e = (k : Nat)
    · rw [if_pos k1, if_neg (fun k2 => eh (k1.trans k2.symm)), ← k1]
      omega
    · rw [if_neg k1]
      by_cases k2 : h = (k : Nat)
      · rw [if_pos k2, ← k2]; omega
      · rw [if_neg k2]; omega
  · have hv' : ((h.toNat : Nat) : Int) = h := Int.toNat_of_nonneg wh.1
    show max (exc D x' (h.toNat : Nat)) 0 < max (exc D x (h.toNat : Nat)) 0
    rw [hv', hx]
    unfold ind
    rw [if_neg eh, if_pos rfl]
    omega
section
variable {n : Nat} {D : List (Int × Int × Int)} {x : List Int} {S : List Int} {p : Int → Int} {B : Int} {K : List (Option (Int × Int))} {T : List (Option Mv)} {e h a : Int} {row : List Mv}
theorem aug_cut (Cx : CutOk D x) (C : Chp n (moves D x) S p B K T) (Z : Settled (moves D x) K) (R : RowTo n T e row h) (ha : 1 ≤ a) (hc : ∀ m ∈ row, a ≤ m.cap) : CutOk D (addRow a x row) := by
  obtain ⟨r1, r2⟩ := row_facts C Z R
  have hl : ∀ m ∈ row, m.num < x.length := fun m hm => by rw [Cx.1]; exact (mem_moves.mp (r1 m hm).1).1
  refine ⟨by rw [addRow_len]; exact Cx.1, fun k hk => ?_⟩
  have ck := Cx.2 k hk
  by_cases hm : k ∈ row.map Mv.num
  · obtain ⟨m, hm', rfl⟩ := List.mem_map.mp hm
    rw [addRow_at hl r2 hm']
    have hcm := hc m hm'
    obtain ⟨_, g⟩ := mem_moves.mp (r1 m hm').1
    rcases g with ⟨y, g⟩ | ⟨y, g⟩
    · have g1 : m.cap = amt D m.num - x.getD m.num 0 := by rw [g]
      have g2 : m.sg = 1 := by rw [g]
      rw [g2, Int.one_mul]; omega
    · have g1 : m.cap = x.getD m.num 0 := by rw [g]
      have g2 : m.sg = -1 := by rw [g]
      rw [g2, show -1 * a = -a by omega]; omega
  · rw [addRow_other hl hm]; exact ck
/-- the potential after the row -/
noncomputable def newp (K : List (Option (Int × Int))) (p : Int → Int) (Z : Int) (v : Int) : Int := match kv K v with
  | some b => b.1
  | none => p v + Z
theorem bound_ex (f : Int → Int) (n : Nat) : ∃ Z, ∀ v, Within n v → f v ≤ Z := by
  induction n with
  | zero => exact ⟨0, fun v hv => by unfold Within at hv; omega⟩
  | succ n ih =>
    obtain ⟨Z, h⟩ := ih
    refine ⟨max Z (f n), fun v hv => ?_⟩
    by_cases e : v = n
    · rw [e]; exact Int.le_max_right _ _
    · exact Int.le_trans (h v ⟨hv.1, by have := hv.2; omega⟩) (Int.le_max_left _ _)
theorem newp_steady (G : GoodL n D) (P : Pot D x p) (Z : Settled (moves D x) K) : ∃ z, ∀ m ∈ moves D x, newp K p z m.v ≤ newp K p z m.u + m.c := by
  obtain ⟨z1, hz1⟩ := bound_ex (fun v => match kv K v with | some b => b.1 | none => 0) n
  obtain ⟨z2, hz2⟩ := bound_ex (fun v => - p v) n
  refine ⟨z1 + z2 + 1, fun m hm => ?_⟩
  obtain ⟨wu, wv⟩ := moves_in G m hm
  have hs := pot_steady P 0 m hm
  dsimp only at hs
  have hc : -1 ≤ m.c := by
    rcases fwd_moves hm with ⟨_, _, e, _⟩ | ⟨_, _, e, _⟩ <;> omega
  unfold newp
  cases hu : kv K m.u with
  | some a =>
    obtain ⟨b, hb, hlt⟩ := Z m hm a hu
    rw [hb]
    unfold lexlt at hlt
    dsimp only at hlt ⊢
    omega
  | none =>
    cases hv : kv K m.v with
    | none => dsimp only; omega
    | some b =>
      have k1 := hz1 m.v wv
      have k2 := hz2 m.u wu
      dsimp only at k1 k2 ⊢
      rw [hv] at k1
      dsimp only at k1
      omega
theorem aug_pot (G : GoodL n D) (Cx : CutOk D x) (P : Pot D x p) (C : Chp n (moves D x) S p B K T) (Z : Settled (moves D x) K) (R : RowTo n T e row h) : ∃ p', Pot D (addRow a x row) p' := by
  obtain ⟨z, hz⟩ := newp_steady G P Z
  obtain ⟨r1, r2⟩ := row_facts C Z R
  have hl : ∀ m ∈ row, m.num < x.length := fun m hm => by rw [Cx.1]; exact (mem_moves.mp (r1 m hm).1).1
  refine ⟨newp K p z, fun k hk => ?_⟩
  by_cases hm : k ∈ row.map Mv.num
  · obtain ⟨m, hm', rfl⟩ := List.mem_map.mp hm
    obtain ⟨q1, _, _, b, q2, q3⟩ := r1 m hm'
    have e1 : newp K p z m.u = b.1 := by unfold newp; rw [q2]
    have e2 : newp K p z m.v = b.1 + m.c := by unfold newp; rw [q3]
    rcases fwd_moves q1 with ⟨f1, f2, f3, _⟩ | ⟨f1, f2, f3, _⟩
    · rw [← f1, ← f2, e1, e2]; exact ⟨fun _ => by omega, fun _ => by omega⟩
    · rw [← f1, ← f2, e1, e2]; exact ⟨fun _ => by omega, fun _ => by omega⟩
  · rw [addRow_other hl hm]
    refine ⟨fun y => ?_, fun y => ?_⟩
    · have := hz ⟨deb D k, cre D k, -1, amt D k - x.getD k 0, k, 1⟩ (mem_moves.mpr ⟨hk, .inl ⟨y, rfl⟩⟩)
      dsimp only at this
      omega
    · have := hz ⟨cre D k, deb D k, 1, x.getD k 0, k, -1⟩ (mem_moves.mpr ⟨hk, .inr ⟨y, rfl⟩⟩)
      dsimp only at this
      omega
theorem exc_zero (G : GoodL n D) : sm (fun v => exc D x (v : Nat)) n = 0 := by
  have := exc_sum (x := x) (p := fun _ => 1) G
  have e : sm (fun k => x.getD k 0 * (1 - 1)) D.length = 0 := (sm_congr fun k hk => by rw [Int.sub_self, Int.mul_zero]).trans sm_zero
  rw [e] at this
  rw [← this]
  exact sm_congr fun k hk => by rw [Int.one_mul]
/-- nothing over: even -/
theorem even_of (G : GoodL n D) (h : ∀ v, Within n v → exc D x v ≤ 0) : Even n D x := fun v hv =>
  sm_eq_zero (f := fun v => exc D x (v : Nat)) (fun k hk => h _ ⟨Int.natCast_nonneg _, Int.ofNat_lt.mpr hk⟩) (exc_zero G) v hv
/-- where something is over, a house that lacks is reached -/
theorem ends_ex (G : GoodL n D) (Cx : CutOk D x) (Z : Settled (moves D x) K) (hS : ∀ v, Within n v → 0 < exc D x v → kv K v ≠ none) (hx : ∃ v, Within n v ∧ 0 < exc D x v) : ∃ v, Within n v ∧ exc D x v < 0 ∧ kv K v ≠ none := by
  by_cases hh : ∃ v, Within n v ∧ exc D x v < 0 ∧ kv K v ≠ none
  · exact hh
  exfalso
  have dR : ∀ v, Decidable (kv K v ≠ none) := fun v => Classical.propDecidable _
  have hsum := exc_sum (x := x) (p := fun v => if kv K v ≠ none then 1 else 0) G
  have up : sm (fun k => x.getD k 0 * ((if kv K (cre D k) ≠ none then 1 else 0) - (if kv K (deb D k) ≠ none then 1 else 0))) D.length ≤ 0 := by
    have := sm_le (f := fun k => x.getD k 0 * ((if kv K (cre D k) ≠ none then (1 : Int) else 0) - (if kv K (deb D k) ≠ none then 1 else 0))) (g := fun _ => 0) (n := D.length) fun k hk => ?_
    · rwa [sm_zero] at this
    · show x.getD k 0 * ((if kv K (cre D k) ≠ none then (1 : Int) else 0) - (if kv K (deb D k) ≠ none then 1 else 0)) ≤ 0
      have hc := Cx.2 k hk
      by_cases y : 0 < x.getD k 0
      · by_cases e1 : kv K (cre D k) ≠ none
        · have hm : (⟨cre D k, deb D k, 1, x.getD k 0, k, -1⟩ : Mv) ∈ moves D x := mem_moves.mpr ⟨hk, .inr ⟨y, rfl⟩⟩
          obtain ⟨b, hb⟩ := Option.ne_none_iff_exists'.mp e1
          obtain ⟨b', hb', _⟩ := Z _ hm b hb
          have e2 : kv K (deb D k) ≠ none := by
            show kv K (deb D k) ≠ none
            rw [hb']; exact fun h => (nomatch h)
          rw [if_pos e1, if_pos e2, Int.sub_self, Int.mul_zero]
          exact Int.le_refl _
        · rw [if_neg e1]
          refine Int.mul_nonpos_of_nonneg_of_nonpos hc.1 ?_
          split <;> decide
      · have : x.getD k 0 = 0 := by omega
        rw [this, Int.zero_mul]; exact Int.le_refl _
  have dn : 0 < sm (fun v => (if kv K (v : Nat) ≠ none then (1 : Int) else 0) * exc D x (v : Nat)) n := by
    have := sm_lt (f := fun _ => 0) (g := fun v => (if kv K (v : Nat) ≠ none then (1 : Int) else 0) * exc D x (v : Nat)) (n := n) (fun k hk => ?_) ?_
    · rwa [sm_zero] at this
    · show (0 : Int) ≤ (if kv K (k : Nat) ≠ none then (1 : Int) else 0) * exc D x (k : Nat)
      by_cases e : kv K ((k : Nat) : Int) ≠ none
      · rw [if_pos e, Int.one_mul]
        have w : Within n (k : Nat) := ⟨Int.natCast_nonneg _, Int.ofNat_lt.mpr hk⟩
        have : ¬ exc D x (k : Nat) < 0 := fun q => hh ⟨_, w, q, e⟩
        omega
      · rw [if_neg e, Int.zero_mul]; exact Int.le_refl _
    · obtain ⟨v, hv, hp⟩ := hx
      have hv' : ((v.toNat : Nat) : Int) = v := Int.toNat_of_nonneg hv.1
      refine ⟨v.toNat, by unfold Within at hv; omega, ?_⟩
      show (0 : Int) < (if kv K (v.toNat : Nat) ≠ none then (1 : Int) else 0) * exc D x (v.toNat : Nat)
      rw [hv', if_pos (hS v hv hp), Int.one_mul]
      exact hp
  rw [hsum] at dn
  omega
end
/-! the program's sums -/
noncomputable def balStep (b : List Int) (t : Int × Int × Int) : List Int := (b.set t.1.toNat (b.getD t.1.toNat 0 - t.2.2)).set t.2.1.toNat ((b.set t.1.toNat (b.getD t.1.toNat 0 - t.2.2)).getD t.2.1.toNat 0 + t.2.2)
noncomputable def zeros (n : Nat) : List Int := List.replicate n 0
noncomputable def bals (n : Nat) (P : List (Int × Int × Int)) : List Int := P.foldl balStep (zeros n)
noncomputable def parts (D : List (Int × Int × Int)) (cs : List Int) : List (Int × Int × Int) := (List.range D.length).map fun k => (deb D k, cre D k, cs.getD k 0)
theorem balStep_len {b : List Int} {t : Int × Int × Int} : (balStep b t).length = b.length := by simp [balStep]
theorem balStep_at {n : Nat} {b : List Int} {t : Int × Int × Int} {v : Int} (hl : b.length = n) (h1 : Within n t.1) (h2 : Within n t.2.1) (hv : Within n v) : av (balStep b t) v = av b v + t.2.2 * (ind t.2.1 v - ind t.1 v) := by
  have e1 : ∀ w, Within n w → av (b.set t.1.toNat (b.getD t.1.toNat 0 - t.2.2)) w = if t.1 = w then av b t.1 - t.2.2 else av b w := fun w hw => av_set hl h1 hw.1
  have e2 : av (balStep b t) v = if t.2.1 = v then av (b.set t.1.toNat (b.getD t.1.toNat 0 - t.2.2)) t.2.1 + t.2.2 else av (b.set t.1.toNat (b.getD t.1.toNat 0 - t.2.2)) v := av_set (by rw [List.length_set]; exact hl) h2 hv.1
  rw [e2, e1 _ h2, e1 _ hv]
  unfold ind
  by_cases k1 : t.2.1 = v
  · rw [if_pos k1, if_pos k1]
    by_cases k2 : t.1 = v
    · rw [if_pos (k2.trans k1.symm), if_pos k2, k2]; omega
    · rw [if_neg (fun k => k2 (k.trans k1)), if_neg k2, k1]; omega
  · rw [if_neg k1, if_neg k1]
    by_cases k2 : t.1 = v
    · rw [if_pos k2, if_pos k2, k2]; omega
    · rw [if_neg k2, if_neg k2]; omega
theorem bals_len {n : Nat} : ∀ {P : List (Int × Int × Int)} {b : List Int}, b.length = n → (P.foldl balStep b).length = n
  | [], b, h => h
  | t :: P, b, h => bals_len (P := P) (by rw [balStep_len]; exact h)
theorem bals_at {n : Nat} {D : List (Int × Int × Int)} {x : List Int} (G : GoodL n D) {v : Int} (hv : Within n v) : av (bals n (parts D x)) v = exc D x v := by
  have key : ∀ m, m ≤ D.length → av (((List.range m).map fun k => (deb D k, cre D k, x.getD k 0)).foldl balStep (zeros n)) v = sm (fun k => x.getD k 0 * (ind (cre D k) v - ind (deb D k) v)) m := fun m => by
    induction m with
    | zero =>
      intro _
      show av (zeros n) v = 0
      unfold av zeros
      rw [List.getD, List.getElem?_replicate]
      split <;> rfl
    | succ m ih =>
      intro hm
      rw [List.range_succ, List.map_append, List.foldl_append, List.map_singleton, sm, ← ih (by omega)]
      obtain ⟨g1, g2, _⟩ := G.2 m hm
      exact balStep_at (bals_len (by simp [zeros])) g1 g2 hv
  exact key _ (Nat.le_refl _)
theorem av_ext {n : Nat} {H H' : List Int} (h : H.length = n) (h' : H'.length = n) (e : ∀ v, Within n v → av H v = av H' v) : H = H' := by
  apply List.ext_getElem?
  intro k
  by_cases hk : k < n
  · have := e (k : Nat) ⟨Int.natCast_nonneg _, Int.ofNat_lt.mpr hk⟩
    unfold av at this
    rw [Int.toNat_natCast, List.getD, List.getD, List.getElem?_eq_getElem (by omega), List.getElem?_eq_getElem (by omega)] at this
    rw [List.getElem?_eq_getElem (by omega), List.getElem?_eq_getElem (by omega)]
    exact congrArg some this
  · rw [List.getElem?_eq_none (by omega), List.getElem?_eq_none (by omega)]
theorem av_zeros {n : Nat} {v : Int} : av (zeros n) v = 0 := by
  unfold av zeros
  rw [List.getD, List.getElem?_replicate]
  split <;> rfl
theorem even_bals {n : Nat} {D : List (Int × Int × Int)} {x : List Int} (G : GoodL n D) : Even n D x ↔ bals n (parts D x) = zeros n := by
  constructor
  · intro E
    refine av_ext (n := n) (bals_len (by simp [zeros])) (by simp [zeros]) fun v hv => ?_
    rw [bals_at G hv, av_zeros]
    obtain ⟨k, rfl⟩ := Int.eq_ofNat_of_zero_le hv.1
    exact E k (by have := hv.2; omega)
  · intro h v hv
    rw [← bals_at G ⟨Int.natCast_nonneg _, Int.ofNat_lt.mpr hv⟩, h, av_zeros]
theorem sum_sm {x : List Int} : ∀ m, m ≤ x.length → (x.take m).sum = sm (fun k => x.getD k 0) m
  | 0, _ => by rw [List.take_zero]; rfl
  | m + 1, h => by
    rw [List.take_add_one, List.sum_append, sum_sm m (by omega), sm, List.getElem?_eq_getElem (by omega), List.getD, List.getElem?_eq_getElem (by omega)]
    simp
theorem sum_tot {D : List (Int × Int × Int)} {x : List Int} (h : x.length = D.length) : x.sum = tot D x := by
  have := sum_sm (x := x) x.length (Nat.le_refl _)
  rw [List.take_length] at this
  rw [this, h]
  rfl
/-! rings -/
/-- each part ends where the next begins -/
noncomputable def Chain (D : List (Int × Int × Int)) : List Nat → Int → Prop
  | [], _ => True
  | j :: js, a => deb D j = a ∧ Chain D js (cre D j)
noncomputable def chainEnd (D : List (Int × Int × Int)) : List Nat → Int → Int
  | [], a => a
  | j :: js, _ => chainEnd D js (cre D j)
noncomputable def subRow (m : Int) (x : List Int) (js : List Nat) : List Int := js.foldl (fun x j => x.set j (x.getD j 0 - m)) x
theorem exc_chain {D : List (Int × Int × Int)} {m w : Int} : ∀ {js : List Nat} {x : List Int} {a : Int}, x.length = D.length → (∀ j ∈ js, j < D.length) → Chain D js a → exc D (subRow m x js) w = exc D x w - m * (ind (chainEnd D js a) w - ind a w)
  | [], x, a, _, _, _ => by show exc D x w = exc D x w - m * (ind a w - ind a w); rw [Int.sub_self, Int.mul_zero]; omega
  | j :: js, x, a, hl, h, ⟨c1, c2⟩ => by
    show exc D (subRow m (x.set j (x.getD j 0 - m)) js) w = exc D x w - m * (ind (chainEnd D js (cre D j)) w - ind a w)
    rw [exc_chain (by rw [List.length_set]; exact hl) (fun k hk => h k (.tail _ hk)) c2]
    rw [show x.getD j 0 - m = x.getD j 0 + -m by omega, exc_set (h j (.head _)) hl, c1]
    rw [Int.neg_mul, Int.mul_sub, Int.mul_sub, Int.mul_sub]
    omega
/-- a ring leaves what is over as it is -/
theorem exc_ring {D : List (Int × Int × Int)} {m w a : Int} {js : List Nat} {x : List Int} (hl : x.length = D.length) (h : ∀ j ∈ js, j < D.length) (c : Chain D js a) (e : chainEnd D js a = a) : exc D (subRow m x js) w = exc D x w := by
  rw [exc_chain hl h c, e, Int.sub_self, Int.mul_zero]
  omega
/-- what is left of the amounts -/
theorem exc_left {n : Nat} {D : List (Int × Int × Int)} {x y : List Int} {w : Int} (h : ∀ k, k < D.length → y.getD k 0 = amt D k - x.getD k 0) : exc D y w = sm (fun k => amt D k * (ind (cre D k) w - ind (deb D k) w)) D.length - exc D x w := by
  unfold exc
  rw [← sm_sub]
  refine sm_congr fun k hk => ?_
  rw [h k hk, Int.sub_mul]
/-- one more in one place: no longer even -/
theorem uneven {n : Nat} {D : List (Int × Int × Int)} {x : List Int} {j : Nat} {z : Int} (G : GoodL n D) (hl : x.length = D.length) (hj : j < D.length) (hne : deb D j ≠ cre D j) (hz : z ≠ 0) (E : Even n D x) : ¬ Even n D (x.set j (x.getD j 0 + z)) := fun E' => by
  obtain ⟨g1, _, _⟩ := G.2 j hj
  obtain ⟨k, hk⟩ := Int.eq_ofNat_of_zero_le g1.1
  have h1 := E k (by omega)
  have h2 := E' k (by omega)
  rw [exc_set hj hl, h1, hk] at h2
  unfold ind at h2
  rw [if_pos rfl, if_neg (by rw [← hk]; exact Ne.symm hne)] at h2
  omega
/-! the rounds end -/
noncomputable abbrev KT := List (Option (Int × Int)) × List (Option Mv)
noncomputable def putKT (s : KT) (m : Mv) (z : Int × Int) : KT := (s.1.set m.v.toNat (some z), s.2.set m.v.toNat (some m))
noncomputable def relax (s : KT) (m : Mv) : KT := match kv s.1 m.u with
  | none => s
  | some a => match kv s.1 m.v with
    | none => putKT s m (a.1 + m.c, a.2 + 1)
    | some b => if lexlt (a.1 + m.c, a.2 + 1) b then putKT s m (a.1 + m.c, a.2 + 1) else s
noncomputable def pass (M : List Mv) (s : KT) : KT := M.foldl relax s
/-- so many rounds are enough -/
inductive Ends (M : List Mv) : Nat → KT → Prop
  | here {m : Nat} {s : KT} : Settled M s.1 → Ends M m s
  | later {m : Nat} {s : KT} : Ends M m (pass M s) → Ends M (m + 1) s
section
variable {n : Nat} {M : List Mv} {S : List Int} {p : Int → Int} {B : Int}
theorem pass_ex (hM : InM n M) (hp : ∀ m ∈ M, p m.v ≤ p m.u + m.c) {s : KT} (C : Chp n M S p B s.1 s.2) : ∀ (M1 M2 : List Mv) (s' : KT) (f : Bool), (∀ m ∈ M2, m ∈ M) → CPass n M S p B M1 s.1 s.2 s'.1 s'.2 f → ∃ f', CPass n M S p B (M1 ++ M2) s.1 s.2 (M2.foldl relax s').1 (M2.foldl relax s').2 f'
  | M1, [], s', f, _, P => ⟨f, by rw [List.append_nil]; exact P⟩
  | M1, m :: M2, s', f, h, P => by
    have hm := h m (.head _)
    have nx : ∀ s'' f'', CPass n M S p B (M1 ++ [m]) s.1 s.2 s''.1 s''.2 f'' → relax s' m = s'' → ∃ f', CPass n M S p B (M1 ++ m :: M2) s.1 s.2 ((m :: M2).foldl relax s').1 ((m :: M2).foldl relax s').2 f' := fun s'' f'' P' e => by
      have := pass_ex hM hp C (M1 ++ [m]) M2 s'' f'' (fun q hq => h q (.tail _ hq)) P'
      rw [List.append_assoc] at this
      rw [List.foldl_cons, e]
      exact this
    cases hu : kv s'.1 m.u with
    | none => exact nx s' f (P.keep fun a e => by rw [hu] at e; cases e) (by unfold relax; rw [hu])
    | some a =>
      cases hv : kv s'.1 m.v with
      | none => exact nx (putKT s' m (a.1 + m.c, a.2 + 1)) true (P.rise hM hp hm hu (.inl hv)) (by unfold relax; rw [hu, hv])
      | some b =>
        by_cases hl : lexlt (a.1 + m.c, a.2 + 1) b
        · exact nx (putKT s' m (a.1 + m.c, a.2 + 1)) true (P.rise hM hp hm hu (.inr ⟨b, hv, hl⟩)) (by unfold relax; rw [hu, hv]; exact if_pos hl)
        · exact nx s' f (P.keep fun a' e => by rw [hu] at e; cases e; exact ⟨b, hv, hl⟩) (by unfold relax; rw [hu, hv]; exact if_neg hl)
theorem ends_some (hM : InM n M) (hp : ∀ m ∈ M, p m.v ≤ p m.u + m.c) {s : KT} (C : Chp n M S p B s.1 s.2) : ∃ m, Ends M m s := by
  have key : ∀ (K : List (Option (Int × Int))) (s : KT), s.1 = K → Chp n M S p B s.1 s.2 → ∃ m, Ends M m s := fun K => by
    induction K using (less_wf (n := n) (p := p) (B := B)).induction with
    | _ K ih =>
      rintro s rfl C
      obtain ⟨f, P⟩ := pass_ex hM hp C [] M s false (fun m hm => hm) (CPass.nil C)
      rw [List.nil_append] at P
      rcases P.flag with ⟨_, _, _, h⟩ | ⟨_, h⟩
      · exact ⟨0, .here h⟩
      · have c1 := C.pos
        have c2 := P.inv.pos
        obtain ⟨m, e⟩ := ih _ ⟨⟨c1.1, c1.2.1, c1.2.2, c2.1, c2.2.1, c2.2.2⟩, h⟩ (pass M s) rfl P.inv
        exact ⟨m + 1, .later e⟩
  exact key s.1 s rfl C
/-- the start -/
theorem chp_start {K : List (Option (Int × Int))} {T : List (Option Mv)} (lk : K.length = n) (lt : T.length = n) (hT : ∀ v, tv T v = none) (hS : ∀ s ∈ S, Within n s ∧ kv K s = some (0, 0)) (hK : ∀ v b, Within n v → kv K v = some b → v ∈ S ∧ b = (0, 0)) (hB : ∀ v, Within n v → p v + B ≤ 0) : Chp n M S p B K T := by
  refine ⟨lk, lt, fun s hs => by rw [(hS s hs).2]; exact fun h => (nomatch h), fun v m _ e => (by rw [hT v] at e; cases e), fun v hv _ hk => ?_, fun v b hv e => ?_⟩
  · obtain ⟨b, hb⟩ := Option.ne_none_iff_exists'.mp hk
    exact (hK v b hv hb).1
  · obtain ⟨_, rfl⟩ := hK v b hv e
    exact ⟨hB v hv, Int.le_refl _⟩
end

noncomputable def cellN (ns : List Int) (k : Int) : Int := (ns[k.toNat]?).getD 0
theorem p_cell_at {l : Addr} {ns : List Int} {k : Int} {σ : Sto} {Q : PV → Sto → Prop} {X : Addr → Sto → Prop} (h0 : 0 ≤ k) (h1 : ns.length ≤ 63) (hq : Q (.int (cellN ns k)) σ) : T_law_cell_at [.lst l ns, .int k] σ Q X := by
  unfold T_law_cell_at tb_law_cell_at
  refine i_fun2 ?_
  walk_at "ev"
  refine i_len trivial rfl (by simp; omega) ?_
  walk_at "ev"
  refine ite_d (fun h => ?_) (fun h => ?_)
  · walk_at "ev"
    refine i_get h0 (by simp at h; omega) rfl trivial (x := .int (cellN ns k)) ?_ ?_
    · simp at h
      have : k.toNat < ns.length := by omega
      simp [cellN, this]
    · walk_at "ev"
      exact hq
  · walk_at "ev"
    have : ns[k.toNat]? = none := by simp at h ⊢; omega
    simp only [cellN, this, Option.getD] at hq
    exact hq

theorem p_is_number {p : PV} {ty : Ty} {σ : Sto} {Q : PV → Sto → Prop} {X : Addr → Sto → Prop} (h : tyOf σ p = some ty) (hx : ∀ c, ty ≠ .exc c) (hq : Q (.bool (match ty with | .int => true | _ => false)) σ) : T_is_number [p] σ Q X := by
  unfold T_is_number tb_is_number
  refine i_fun1 ?_
  walk_at "ev"
  cases ty with
  | exc c => exact absurd rfl (hx c)
  | int => exact ⟨_, _, h, rfl, _, _, h, rfl, hq⟩
  | bool => exact ⟨_, _, h, rfl, _, _, h, rfl, hq⟩
  | _ => exact ⟨_, _, h, rfl, hq⟩

theorem p_count {l : Addr} {ns : List Int} {σ : Sto} {Q : PV → Sto → Prop} {X : Addr → Sto → Prop} (h1 : ns.length ≤ 63) (hq : ∀ n : Int, 2 ≤ n → n ≤ 20 → Q (.int n) σ) : T_law_count [.lst l ns] σ Q X := by
  unfold T_law_count tb_law_count
  refine i_fun1 ?_
  walk_at "ev"
  refine p_cell_at (by decide) h1 ?_
  walk_at "ev"
  refine ite_d (fun _ => ?_) (fun _ => ?_)
  · walk_at "ev"
    exact hq _ (by omega) (by omega)
  · walk_at "ev"
    refine ite_d (fun _ => ?_) (fun _ => ?_)
    · walk_at "ev"
      exact hq _ (by omega) (by omega)
    · walk_at "ev"
      exact hq _ (by omega) (by omega)

theorem shift_ne {n d s : Int} (h0 : 0 ≤ d) (h1 : d < n) (h2 : 1 ≤ s) (h3 : s < n) : (d + s) % n ≠ d := by
  by_cases h : d + s < n
  · rw [Int.emod_eq_of_lt (by omega) h]; omega
  · have : (d + s) % n = d + s - n := by
      rw [← Int.sub_emod_right]
      exact Int.emod_eq_of_lt (by omega) (by omega)
    omega

/-- a good debt between n houses -/
noncomputable def GoodD (n : Int) (p : PV) : Prop := ∃ d c a : Int, p = .tup [.int d, .int c, .int a] ∧ (0 ≤ d ∧ d < n) ∧ (0 ≤ c ∧ c < n) ∧ d ≠ c ∧ 1 ≤ a ∧ a ≤ 1000000000

theorem am_le {y c : Int} (h0 : 0 < c) (h1 : c ≤ 1000000000) : 1 ≤ 1 + y % c ∧ 1 + y % c ≤ 1000000000 := by
  have := Int.emod_nonneg y (Int.ne_of_gt h0)
  have := Int.emod_lt_of_pos y h0
  omega
theorem am_ge {y : Int} : 1 ≤ 1000000000 - y % 3 ∧ 1000000000 - y % 3 ≤ 1000000000 := by omega
theorem debt_ok {n m : Int} (h1 : 2 ≤ n) : (0 ≤ m % n ∧ m % n < n) ∧ (0 ≤ (m % n + 1 + m / n % (n - 1)) % n ∧ (m % n + 1 + m / n % (n - 1)) % n < n) ∧ m % n ≠ (m % n + 1 + m / n % (n - 1)) % n := by
  have p0 : 0 < n := by omega
  have p1 : 0 < n - 1 := by omega
  have d0 := Int.emod_nonneg m (Int.ne_of_gt p0)
  have d1 := Int.emod_lt_of_pos m p0
  have t0 := Int.emod_nonneg (m / n) (Int.ne_of_gt p1)
  have t1 := Int.emod_lt_of_pos (m / n) p1
  refine ⟨⟨d0, d1⟩, ⟨Int.emod_nonneg _ (Int.ne_of_gt p0), Int.emod_lt_of_pos _ p0⟩, fun e => ?_⟩
  rw [Int.add_assoc] at e
  exact shift_ne d0 d1 (by omega) (by omega) e.symm
/-- the three turns of the amount -/
theorem debt_end {x m kd d c a : Int} {ρ : Env'} {σ : Sto} {Q : PV → Sto → Prop} {X : Addr → Sto → Prop} (hq : ∀ a : Int, 1 ≤ a ∧ a ≤ 1000000000 → Q (.tup [.int d, .int c, .int a]) σ) (ha : 1 ≤ a ∧ a ≤ 1000000000)
    (e1 : ρ "_law_debtor" = some (.int d)) (e2 : ρ "_law_creditor" = some (.int c)) (e3 : ρ "_law_amount" = some (.int a)) (e4 : ρ "_law_kind_here" = some (.int kd)) (e5 : ρ "_law_mixed" = some (.int m)) : tb_law_debt_3 ρ σ (funQ Q) (funX X) := by
  walk_at "ev"
  refine ite_d (fun _ => ?_) (fun _ => ?_)
  · walk_at "ev"
    exact hq _ am_ge
  · walk_at "ev"
    exact hq _ ha
theorem debt_mid {x m kd d c a : Int} {ρ : Env'} {σ : Sto} {Q : PV → Sto → Prop} {X : Addr → Sto → Prop} (hq : ∀ a : Int, 1 ≤ a ∧ a ≤ 1000000000 → Q (.tup [.int d, .int c, .int a]) σ) (ha : 1 ≤ a ∧ a ≤ 1000000000)
    (e1 : ρ "_law_debtor" = some (.int d)) (e2 : ρ "_law_creditor" = some (.int c)) (e3 : ρ "_law_amount" = some (.int a)) (e4 : ρ "_law_kind_here" = some (.int kd)) (e5 : ρ "_law_mixed" = some (.int m)) (e6 : ρ "_law_cell" = some (.int x)) : tb_law_debt_5 ρ σ (funQ Q) (funX X) := by
  refine i_seq (i_if ?_)
  walk_at "ex"
  refine ite_d (fun _ => ?_) (fun _ => ?_)
  · refine i_seq (i_set ?_)
    walk_at "ex"
    exact i_nil (debt_end (a := 1 + x % 1000000000) (x := x) hq (am_le (by decide) (by decide)) (by walk_at "nm") (by walk_at "nm") (by walk_at "nm") (by walk_at "nm") (by walk_at "nm"))
  · exact i_nil (debt_end (x := x) hq ha e1 e2 e3 e4 e5)
theorem p_debt {x k n : Int} {σ : Sto} {Q : PV → Sto → Prop} {X : Addr → Sto → Prop} (h1 : 2 ≤ n) (h2 : n ≤ 20) (hq : ∀ p, GoodD n p → Q p σ) : T_law_debt [.int x, .int k, .int n] σ Q X := by
  have p0 : 0 < n := by omega
  unfold T_law_debt tb_law_debt
  refine i_fun3 ?_
  walk_at "ev"
  refine i_modp p0 ?_
  walk_at "ev"
  refine i_divp p0 (by omega) ?_
  walk_at "ev"
  refine i_modp (by omega) ?_
  walk_at "ev"
  refine i_modp p0 ?_
  refine i_seq (i_set ?_)
  walk_at "ex"
  refine i_seq (i_set ?_)
  walk_at "ex"
  generalize (x % 1000000007 + 7919 * k + 11) * 48271 % 2147483647 = m
  have ok := debt_ok (m := m) h1
  generalize (m % n + 1 + m / n % (n - 1)) % n = c at ok ⊢
  generalize m % n = d at ok ⊢
  have hq' : ∀ a : Int, 1 ≤ a ∧ a ≤ 1000000000 → Q (.tup [.int d, .int c, .int a]) σ := fun a h => hq _ ⟨d, c, a, rfl, ok.1, ok.2.1, ok.2.2, h⟩
  refine i_seq (i_if ?_)
  walk_at "ex"
  refine ite_d (fun _ => ?_) (fun _ => ?_)
  · refine i_seq (i_set ?_)
    walk_at "ex"
    exact i_nil (debt_mid (a := 1 + m / 2000 % 40) hq' (am_le (by decide) (by decide)) (by walk_at "nm") (by walk_at "nm") (by walk_at "nm") (by walk_at "nm") (by walk_at "nm") (by walk_at "nm"))
  · exact i_nil (debt_mid (a := 1 + m / 2000 % 3) hq' (am_le (by decide) (by decide)) (by walk_at "nm") (by walk_at "nm") (by walk_at "nm") (by walk_at "nm") (by walk_at "nm") (by walk_at "nm"))

inductive DebI (n x : Int) (a : Addr) (σ : Sto) (ps : List PV) (ρ : Env') (σ' : Sto) : Prop
  | mk (zs : List PV) : ρ "_law_count_here" = some (.int n) → ρ "_law_cell" = some (.int x) → ρ "_law_found" = some (.ref a) → (∀ p ∈ ps, ∃ k, p = .int k) → σ' = upd σ a (.list zs) → zs.length + ps.length ≤ 40 → (∀ z ∈ zs, GoodD n z) → DebI n x a σ ps ρ σ'
theorem up_items {σ : Sto} {a : Addr} {zs : List PV} : itemsOf (upd σ a (.list zs)) (.ref a) = some zs := by simp only [itemsOf, upd_same]
theorem deb_ins {n x b am : Int} {a : Addr} {σ : Sto} {zs ps : List PV} {ρ : Env'} {Qb : Fl → Env' → Sto → Prop} {XS : Addr → Env' → Sto → Prop} (h2 : 2 ≤ n) (f4 : ∀ p ∈ ps, ∃ k, p = .int k) (hz : zs.length + ps.length + 1 ≤ 40) (f6 : ∀ z ∈ zs, GoodD n z) (hnx : ∀ ρ' σ', DebI n x a σ ps ρ' σ' → Qb .next ρ' σ')
    (b0 : 0 ≤ b) (b1 : b < n) (ha : 1 ≤ am ∧ am ≤ 1000000000) (g1 : ρ "_law_count_here" = some (.int n)) (g2 : ρ "_law_cell" = some (.int x)) (g3 : ρ "_law_found" = some (.ref a)) (g4 : ρ "_law_house" = some (.int b)) (g5 : ρ "_law_amount" = some (.int am)) : tb_law_debts_2 ρ (upd σ a (.list zs)) Qb XS := by
  have p0 : 0 < n := by omega
  walk_at "ev"
  refine ⟨⟨zs, upd_same⟩, ?_⟩
  walk_at "ev"
  refine i_len (xs := zs) trivial up_items (by omega) ?_
  walk_at "ev"
  have pz : 0 < (zs.length : Int) + 1 := by omega
  refine i_modp pz ?_
  walk_at "ev"
  refine i_modp p0 ?_
  walk_at "ev"
  refine i_insert (Int.emod_nonneg _ (Int.ne_of_gt pz)) (Int.lt_trans (Int.emod_lt_of_pos _ pz) (by omega)) upd_same (by omega) ?_
  rw [upd_upd]
  walk_at "ev"
  refine hnx _ _ ⟨_, g1, g2, g3, f4, rfl, ?_, fun z hz => ?_⟩
  · rw [List.length_append, List.length_cons, List.length_take, List.length_drop]
    omega
  · rcases List.mem_append.mp hz with h | h
    · exact f6 z (List.mem_of_mem_take h)
    · rcases List.mem_cons.mp h with rfl | h
      · exact ⟨_, _, am, rfl, ⟨b0, b1⟩, ⟨Int.emod_nonneg _ (Int.ne_of_gt p0), Int.emod_lt_of_pos _ p0⟩, fun e => shift_ne b0 b1 (s := 1) (by decide) (by omega) e.symm, ha⟩
      · exact f6 z (List.mem_of_mem_drop h)
theorem deb_ring {n x : Int} {a : Addr} {σ : Sto} {ys : List PV} {ρ : Env'} {Q : PV → Sto → Prop} {X : Addr → Sto → Prop} (h2 : 2 ≤ n) (h3 : n ≤ 20) (hl : ys.length ≤ 17) (hy : ∀ y ∈ ys, GoodD n y) (hq : ∀ xs : List PV, xs.length ≤ 40 → (∀ x ∈ xs, GoodD n x) → Q (.ref a) (upd σ a (.list xs)))
    (g1 : ρ "_law_count_here" = some (.int n)) (g2 : ρ "_law_cell" = some (.int x)) (g3 : ρ "_law_found" = some (.ref a)) : tb_law_debts_8 ρ (upd σ a (.list ys)) (funQ Q) (funX X) := by
  have p0 : 0 < n := by omega
  walk_at "ev"
  refine ite_d (fun _ => ?_) (fun _ => ?_)
  · walk_at "ev"
    refine ⟨_, rfl, ⟨by decide, by decide, by omega, by omega⟩, ?_⟩
    refine forL_step (DebI n x a σ) (fun _ _ _ => False) ?_ ?_ (fun _ _ _ h => h.elim) _ _ _ ?_
    · rintro p ps ρ' σ' Qb ⟨zs, f1, f2, f3, f4, rfl, f5, f6⟩ hn _
      obtain ⟨k, rfl⟩ := f4 p (.head _)
      have ins := fun b am ρ => @deb_ins n x b am a σ zs ps ρ Qb (funX X) h2 (fun p hp => f4 p (.tail _ hp)) f5 f6 fun ρ' σ' => hn ρ' σ' rfl
      walk_at "ev"
      refine i_modp p0 ?_
      walk_at "ev"
      refine p_debt h2 h3 fun p hp => ?_
      obtain ⟨d, c, am, rfl, _, _, _, ha⟩ := hp
      have s0 := Int.emod_nonneg (x / 54 + k) (Int.ne_of_gt p0)
      have s1 := Int.emod_lt_of_pos (x / 54 + k) p0
      generalize (x / 54 + k) % n = hs at s0 s1 ⊢
      walk_at "ev"
      refine ite_d (fun _ => ?_) (fun _ => ?_)
      · refine i_seq (i_set ?_)
        walk_at "ex"
        exact i_nil (ins (n - 1 - hs) am _ (by omega) (by omega) ha (by walk_at "nm") (by walk_at "nm") (by walk_at "nm") (by walk_at "nm") (by walk_at "nm"))
      · exact i_nil (ins hs am _ s0 s1 ha (by walk_at "nm") (by walk_at "nm") (by walk_at "nm") (by walk_at "nm") (by walk_at "nm"))
    · rintro ρ' σ' ⟨zs, _, _, f3, _, rfl, f5, f6⟩
      walk_at "ev"
      exact hq zs f5 f6
    · refine ⟨ys, g1, g2, g3, fun p hp => ?_, rfl, ?_, hy⟩
      · obtain ⟨k, hk, rfl⟩ := List.mem_map.mp hp
        exact ⟨_, rfl⟩
      · rw [List.length_map, List.length_range]; omega
  · walk_at "ev"
    exact hq ys (by omega) hy
theorem paired_right {P : PV → Prop} : ∀ {xs ys : List PV}, Paired (fun _ y => P y) xs ys → ∀ y ∈ ys, P y
  | _, _, .nil, _, h => nomatch h
  | _, _, .cons h r, y, hy => by
    rcases List.mem_cons.mp hy with rfl | hy
    · exact h
    · exact paired_right r y hy
theorem deb_rest {l : Addr} {ns : List Int} {first n x m : Int} {ρ : Env'} {σ : Sto} {Q : PV → Sto → Prop} {X : Addr → Sto → Prop} (h1 : ns.length ≤ 63) (hf : 0 ≤ first) (h2 : 2 ≤ n) (h3 : n ≤ 20) (hq : ∀ a (xs : List PV), σ a = none → xs.length ≤ 40 → (∀ x ∈ xs, GoodD n x) → Q (.ref a) (upd σ a (.list xs)))
    (hm : 0 ≤ m ∧ m ≤ 17) (e1 : ρ "_law_script" = some (.lst l ns)) (e2 : ρ "_law_first" = some (.int first)) (e3 : ρ "_law_count_here" = some (.int n)) (e4 : ρ "_law_cell" = some (.int x)) (e5 : ρ "_law_many" = some (.int m)) : tb_law_debts_9 ρ σ (funQ Q) (funX X) := by
  obtain ⟨m0, m1⟩ := hm
  refine i_seq (i_set ?_)
  walk_at "ex"
  refine ⟨_, rfl, ⟨by decide, by decide, by omega, by omega⟩, by rw [List.length_map, List.length_range]; exact Nat.le_trans (show (m - 0).toNat ≤ 17 by omega) (show 17 ≤ sizeLine by decide), ?_⟩
  refine compL_all (fun _ y => GoodD n y) (by rfl) _ [] (fun p hp Q' hQ => ?_) (fun ys hys => ?_)
  · obtain ⟨k, hk, rfl⟩ := List.mem_map.mp hp
    walk_at "ev"
    refine p_cell_at (by omega) h1 ?_
    walk_at "ev"
    exact p_debt h2 h3 hQ
  · intro a ha
    have hl : ys.length ≤ 17 := by
      have := hys.length
      rw [List.length_map, List.length_range] at this
      omega
    exact deb_ring h2 h3 hl (paired_right hys) (fun xs => hq a xs ha) (by walk_at "nm") (by walk_at "nm") (by walk_at "nm")
theorem p_debts {l : Addr} {ns : List Int} {first n : Int} {σ : Sto} {Q : PV → Sto → Prop} {X : Addr → Sto → Prop} (h1 : ns.length ≤ 63) (hf : 0 ≤ first) (h2 : 2 ≤ n) (h3 : n ≤ 20)
    (hq : ∀ a (xs : List PV), σ a = none → xs.length ≤ 40 → (∀ x ∈ xs, GoodD n x) → Q (.ref a) (upd σ a (.list xs))) : T_law_debts [.lst l ns, .int first, .int n] σ Q X := by
  unfold T_law_debts tb_law_debts
  refine i_fun3 ?_
  walk_at "ev"
  refine p_cell_at (by decide) h1 ?_
  generalize cellN ns 1 = x
  refine i_seq (i_set ?_)
  walk_at "ex"
  refine i_seq (i_if ?_)
  walk_at "ex"
  refine ite_d (fun _ => ?_) (fun _ => ?_)
  · refine i_seq (i_set ?_)
    walk_at "ex"
    exact i_nil (deb_rest (m := 9 + x / 54 % 9) h1 hf h2 h3 hq (by omega) (by walk_at "nm") (by walk_at "nm") (by walk_at "nm") (by walk_at "nm") (by walk_at "nm"))
  · exact i_nil (deb_rest (m := x % 9) h1 hf h2 h3 hq (by omega) (by walk_at "nm") (by walk_at "nm") (by walk_at "nm") (by walk_at "nm") (by walk_at "nm"))

/-- a value whose type is told, and which is no exception -/
noncomputable def Told (σ : Sto) (p : PV) : Prop := ∃ ty, tyOf σ p = some ty ∧ ∀ c, ty ≠ .exc c
theorem told_int {σ : Sto} {i : Int} : Told σ (.int i) := ⟨_, rfl, fun c e => by cases e⟩
theorem told_bool {σ : Sto} {i : Bool} : Told σ (.bool i) := ⟨_, rfl, fun c e => by cases e⟩
theorem told_str {σ : Sto} {i : Str} : Told σ (.str i) := ⟨_, rfl, fun c e => by cases e⟩
theorem told_none {σ : Sto} : Told σ .none := ⟨_, rfl, fun c e => by cases e⟩
theorem told_list {σ : Sto} {a : Addr} {xs : List PV} (h : σ a = some (.list xs)) : Told σ (.ref a) := ⟨.list, by unfold tyOf; simp only [h], fun c e => by cases e⟩
theorem Told.ext {σ σ' : Sto} {p : PV} (h : Told σ p) (x : Ext σ σ') : Told σ' p := let ⟨ty, h1, h2⟩ := h; ⟨ty, x.ty h1, h2⟩

theorem p_is_number' {p : PV} {σ : Sto} {Q : PV → Sto → Prop} {X : Addr → Sto → Prop} (h : Told σ p) (h1 : ∀ i, p = .int i → Q (.bool true) σ) (h2 : (∀ i, p ≠ .int i) → Q (.bool false) σ) : T_is_number [p] σ Q X := by
  obtain ⟨ty, ht, hx⟩ := h
  refine p_is_number ht hx ?_
  cases p with
  | int i => cases ht; exact h1 i rfl
  | none => cases ht; exact h2 fun i e => by cases e
  | bool b => cases ht; exact h2 fun i e => by cases e
  | str b => cases ht; exact h2 fun i e => by cases e
  | tup b => cases ht; exact h2 fun i e => by cases e
  | lst a b => cases ht; exact h2 fun i e => by cases e
  | exc a b => cases ht; exact absurd rfl (hx b)
  | rng a b => cases ht
  | ref a =>
    have := h2 fun i e => by cases e
    unfold tyOf at ht
    dsimp only at ht
    split at ht
    · cases ht; exact this
    · cases ht; exact this
    · cases ht

theorem ty_list {σ : Sto} {a : Addr} {xs : List PV} (h : σ a = some (.list xs)) : tyOf σ (.ref a) = some .list := by unfold tyOf; simp only [h]
theorem items_ref {σ : Sto} {a : Addr} {xs : List PV} (h : σ a = some (.list xs)) : itemsOf σ (.ref a) = some xs := by unfold itemsOf; simp only [h]
theorem Ext.back {σ σ' : Sto} (x : Ext σ σ') {b : Addr} (h : σ' b = none) : σ b = none := by
  cases e : σ b with
  | none => rfl
  | some o => rw [x _ _ e] at h; cases h
noncomputable def enc (t : Int × Int × Int) : PV := .tup [.int t.1, .int t.2.1, .int t.2.2]
theorem i_debt {D : List (Int × Int × Int)} {d : Addr} {k : Nat} {σ : Sto} {kk : PV → Prop} (hd : σ d = some (.list (D.map enc))) (hk : k < D.length) (hl : D.length ≤ 1000) (h : kk (.tup [.int (deb D k), .int (cre D k), .int (amt D k)])) : getP σ (.ref d) (.int (k : Int)) kk := by
  refine i_get (by omega) (by omega) (items_ref hd) trivial (x := enc (D.getD k (0, 0, 0))) ?_ h
  simp [List.getD, hk]
theorem i_num {ts : List Int} {d : Addr} {k : Int} {σ : Sto} {kk : PV → Prop} (hd : σ d = some (.list (ts.map .int))) (h0 : 0 ≤ k) (hk : k < ts.length) (hl : ts.length ≤ 1000) (h : kk (.int (ts.getD k.toNat 0))) : getP σ (.ref d) (.int k) kk := by
  have hk' : k.toNat < ts.length := by omega
  refine i_get h0 (by omega) (items_ref hd) trivial (x := .int (ts.getD k.toNat 0)) ?_ h
  simp [List.getD, hk']
theorem i_numk {ts : List Int} {d : Addr} {k : Nat} {σ : Sto} {kk : PV → Prop} (hd : σ d = some (.list (ts.map .int))) (hk : k < ts.length) (hl : ts.length ≤ 1000) (h : kk (.int (ts.getD k 0))) : getP σ (.ref d) (.int (k : Int)) kk :=
  i_num hd (Int.natCast_nonneg _) (Int.ofNat_lt.mpr hk) hl h
section
variable {α : Type} {f : α → PV} {D : List α} {d : Addr} {σ : Sto} {Q : PV → Sto → Prop} {X : Addr → Sto → Prop}
theorem i_lenm (hd : σ d = some (.list (D.map f))) (hl : D.length ≤ 1000) (h : Q (.int (D.length : Nat)) σ) : lenF [.ref d] σ Q X :=
  i_len trivial (items_ref hd) (by rw [List.length_map]; omega) (by rw [List.length_map]; exact h)
theorem i_listm (hd : σ d = some (.list (D.map f))) (hl : D.length ≤ 1000) (h : ∀ c, σ c = none → Q (.ref c) (upd σ c (.list (D.map f)))) : listF [.ref d] σ Q X :=
  i_listF hd (by rw [List.length_map]; omega) h
end
theorem i_getk {d : Addr} {xs : List PV} {x : PV} {k : Nat} {σ : Sto} {kk : PV → Prop} (hd : σ d = some (.list xs)) (hk : k ≤ 1000) (hx : xs[k]? = some x) (h : kk x) : getP σ (.ref d) (.int (k : Int)) kk :=
  i_get (Int.natCast_nonneg _) (by omega) (items_ref hd) trivial hx h
/-- good debts between n houses -/
theorem good_enc {n : Nat} : ∀ {xs : List PV}, (∀ x ∈ xs, GoodD (n : Int) x) → ∃ D, xs = D.map enc ∧ (∀ k, k < D.length → (0 ≤ deb D k ∧ deb D k < n) ∧ (0 ≤ cre D k ∧ cre D k < n) ∧ 1 ≤ amt D k ∧ amt D k ≤ 1000000000) ∧ ∀ k, k < D.length → deb D k ≠ cre D k
  | [], _ => ⟨[], rfl, fun k hk => (by cases hk), fun k hk => (by cases hk)⟩
  | x :: xs, h => by
    obtain ⟨D, rfl, hw, hv⟩ := good_enc fun y hy => h y (.tail _ hy)
    obtain ⟨a, b, c, rfl, h1, h2, h0, h3⟩ := h x (.head _)
    refine ⟨(a, b, c) :: D, rfl, fun k hk => ?_, fun k hk => ?_⟩
    · cases k with
      | zero => exact ⟨h1, h2, h3⟩
      | succ k => exact hw k (Nat.lt_of_succ_lt_succ hk)
    · cases k with
      | zero => exact h0
      | succ k => exact hv k (Nat.lt_of_succ_lt_succ hk)
noncomputable def rg (js : List Nat) : List PV := js.map fun k : Nat => .int (0 + (k : Int))
theorem rg_items {σ : Sto} {n : Nat} : itemsOf σ (.rng 0 (n : Int)) = some (rg (List.range n)) := by simp [itemsOf, rg]
theorem i_rng {x : Str} {tb : TS} {ρ : Env'} {σ : Sto} {Q : Fl → Env' → Sto → Prop} {X : Addr → Env' → Sto → Prop} {n : Nat} (hn : n ≤ 1000) (h : forL x tb (fun σ' => itemsOf σ' (.rng 0 (n : Int)) = some (rg (List.range n))) (rg (List.range n)) ρ σ Q X) :
    ∃ xs, itemsOf σ (.rng 0 (n : Int)) = some xs ∧ iterOk (.rng 0 (n : Int)) ∧ forL x tb (fun σ' => itemsOf σ' (.rng 0 (n : Int)) = some xs) xs ρ σ Q X := ⟨_, rg_items, ⟨by decide, by decide, by omega, by omega⟩, h⟩
theorem range_lt {n : Nat} : ∀ j ∈ List.range n, j < n := fun j hj => List.mem_range.mp hj
theorem le_big {n : Nat} (h : n ≤ 40) : n ≤ 1000 := Nat.le_trans h (by decide)
theorem rg_cons {k : Nat} {js : List Nat} {p : PV} {ps : List PV} (h : p :: ps = rg (k :: js)) : p = .int (k : Int) ∧ ps = rg js := by
  unfold rg at h
  rw [List.map_cons] at h
  injection h with h1 h2
  exact ⟨by rw [h1, Int.zero_add], h2⟩
theorem rg_nil {p : PV} {ps : List PV} (h : p :: ps = rg []) : False := by cases h

theorem p_need_cut_ok {n : Nat} {D : List (Int × Int × Int)} {cs : List Int} {d c : Addr} {σ : Sto} {Q : PV → Sto → Prop} {X : Addr → Sto → Prop} (hd : σ d = some (.list (D.map enc))) (G : GoodL n D) (hc : σ c = some (.list (cs.map .int))) (C : CutOk D cs) (hq : Q .none σ) : T_need_cut [.ref d, .ref c] σ Q X := by
  obtain ⟨hl, G⟩ := G
  obtain ⟨hcl, C⟩ := C
  have hl1 := le_big hl
  have hc1 : cs.length ≤ 1000 := hcl ▸ hl1
  unfold T_need_cut tb_need_cut
  refine i_fun2 ?_
  walk_at "ev"
  refine ⟨.list, true, ty_list hc, rfl, ?_⟩
  walk_at "ev"
  refine i_lenm hc hc1 ?_
  walk_at "ev"
  refine i_lenm hd hl1 ?_
  walk_at "ev"
  refine ite_nd (fun h => absurd (congrArg Nat.cast hcl) h) fun _ => ?_
  walk_at "ev"
  refine i_lenm hd hl1 ?_
  walk_at "ev"
  refine i_rng hl1 ?_
  refine forL_step (fun ps ρ' σ' => ρ' "debts" = some (.ref d) ∧ ρ' "cut" = some (.ref c) ∧ σ' = σ ∧ ∃ js : List Nat, ps = rg js ∧ ∀ j ∈ js, j < D.length) (fun _ _ _ => False) ?_ ?_ (fun _ _ _ h => h.elim) _ _ _ ?_
  · rintro p ps ρ' σ' Qb ⟨f1, f2, rfl, js, f3, f4⟩ hn _
    cases js with
    | nil => exact (rg_nil f3).elim
    | cons k js =>
      obtain ⟨rfl, rfl⟩ := rg_cons f3
      have hk := f4 k (.head _)
      have hC := C k hk
      have hkc : k < cs.length := hcl ▸ hk
      walk_at "ev"
      refine i_numk hc hkc hc1 ?_
      walk_at "ev"
      refine p_is_number' told_int (fun _ e => ?_) fun e => absurd rfl (e _)
      walk_at "ev"
      refine i_numk hc hkc hc1 ?_
      walk_at "ev"
      refine ite_d (fun _ => ?_) fun h => absurd hC.1 h
      walk_at "ev"
      refine i_debt hd hk hl1 ?_
      walk_at "ev"
      refine ite_nd (fun h => absurd hC.2 h) fun _ => ?_
      walk_at "ev"
      exact hn _ _ rg_items ⟨by walk_at "nm", by walk_at "nm", rfl, js, rfl, fun j hj => f4 j (.tail _ hj)⟩
  · rintro ρ' σ' ⟨_, _, rfl, _⟩
    walk_at "ev"
    exact hq
  · exact ⟨by walk_at "nm", by walk_at "nm", rfl, List.range D.length, rfl, range_lt⟩

/-- what is no cut -/
noncomputable def BadK (D : List (Int × Int × Int)) (σ : Sto) (p : PV) : Prop := (∃ ty, tyOf σ p = some ty ∧ (∀ c, ty ≠ .exc c) ∧ ty ≠ .list) ∨ ∃ a xs, p = .ref a ∧ σ a = some (.list xs) ∧ xs.length ≤ 1000 ∧ (xs.length ≠ D.length ∨
  (xs.length = D.length ∧ ∃ m x, m < D.length ∧ xs[m]? = some x ∧ Told σ x ∧ (∀ i, x = .int i → ¬ (0 ≤ i ∧ i ≤ amt D m)) ∧ ∀ j, j < m → ∃ z, xs[j]? = some (.int z) ∧ 0 ≤ z ∧ z ≤ amt D j))
theorem BadK.ext {D : List (Int × Int × Int)} {σ σ' : Sto} {p : PV} (h : BadK D σ p) (e : Ext σ σ') : BadK D σ' p := by
  rcases h with ⟨ty, h1, h2⟩ | ⟨a, xs, rfl, h1, h2, h3⟩
  · exact .inl ⟨ty, e.ty h1, h2⟩
  · refine .inr ⟨a, xs, rfl, e _ _ h1, h2, ?_⟩
    rcases h3 with h3 | ⟨h3, m, x, k1, k2, k3, k4⟩
    · exact .inl h3
    · exact .inr ⟨h3, m, x, k1, k2, k3.ext e, k4⟩
theorem p_need_cut_bad {n : Nat} {D : List (Int × Int × Int)} {d : Addr} {p : PV} {σ : Sto} {Q : PV → Sto → Prop} {X : Addr → Sto → Prop} (hd : σ d = some (.list (D.map enc))) (G : GoodL n D) (h : BadK D σ p) (hx : X c_BadCut_07 σ) : T_need_cut [.ref d, p] σ Q X := by
  obtain ⟨hl, G⟩ := G
  have hl1 := le_big hl
  unfold T_need_cut tb_need_cut
  refine i_fun2 ?_
  rcases h with ⟨ty, h1, h2, h3⟩ | ⟨c, xs, rfl, h1, h2, h3⟩
  · walk_at "ev"
    refine ⟨ty, false, h1, ?_, ?_⟩
    · cases ty with
      | exc c => exact absurd rfl (h2 c)
      | list => exact absurd rfl h3
      | _ => rfl
    · walk_at "ev"
      exact hx
  · walk_at "ev"
    refine ⟨.list, true, ty_list h1, rfl, ?_⟩
    walk_at "ev"
    refine i_len trivial (items_ref h1) (by omega) ?_
    walk_at "ev"
    refine i_lenm hd hl1 ?_
    walk_at "ev"
    rcases h3 with h3 | ⟨h3, m, x, k1, k2, k3, k4, k5⟩
    · refine ite_nd (fun _ => ?_) fun h => absurd h (by omega)
      walk_at "ev"
      exact hx
    · refine ite_nd (fun h => absurd (by omega) h) fun _ => ?_
      walk_at "ev"
      refine i_lenm hd hl1 ?_
      walk_at "ev"
      refine i_rng hl1 ?_
      refine forL_step (fun ps ρ' σ' => ρ' "debts" = some (.ref d) ∧ ρ' "cut" = some (.ref c) ∧ σ' = σ ∧ ∃ i, i ≤ m ∧ ps = rg ((List.range D.length).drop i)) (fun _ _ _ => False) ?_ ?_ (fun _ _ _ h => h.elim) _ _ _ ?_
      · rintro p ps ρ' σ' Qb ⟨f1, f2, rfl, i, f3, f4⟩ hn _
        have hiD : i < D.length := Nat.lt_of_le_of_lt f3 k1
        have hi1 : i ≤ 1000 := Nat.le_trans (Nat.le_of_lt hiD) hl1
        rw [List.drop_eq_getElem_cons (by rw [List.length_range]; exact hiD), List.getElem_range] at f4
        obtain ⟨rfl, rfl⟩ := rg_cons f4
        rcases Nat.lt_or_eq_of_le f3 with hi | rfl
        · obtain ⟨z, z1, z2, z3⟩ := k5 i hi
          walk_at "ev"
          refine i_getk h1 hi1 z1 ?_
          walk_at "ev"
          refine p_is_number' told_int (fun _ e => ?_) fun e => absurd rfl (e _)
          walk_at "ev"
          refine i_getk h1 hi1 z1 ?_
          walk_at "ev"
          refine ite_d (fun _ => ?_) fun h => absurd z2 h
          walk_at "ev"
          refine i_debt hd hiD hl1 ?_
          walk_at "ev"
          refine ite_nd (fun h => absurd z3 h) fun _ => ?_
          walk_at "ev"
          exact hn _ _ rg_items ⟨by walk_at "nm", by walk_at "nm", rfl, i + 1, hi, rfl⟩
        · walk_at "ev"
          refine i_getk h1 hi1 k2 ?_
          walk_at "ev"
          refine p_is_number' k3 (fun z e => ?_) fun e => ?_
          · subst e
            have := k4 z rfl
            walk_at "ev"
            refine i_getk h1 hi1 k2 ?_
            walk_at "ev"
            refine ite_d (fun y => ?_) fun y => ?_
            · walk_at "ev"
              refine i_debt hd hiD hl1 ?_
              walk_at "ev"
              refine ite_nd (fun y' => ?_) fun y' => absurd ⟨y, y'⟩ this
              walk_at "ev"
              exact hx
            · walk_at "ev"
              exact hx
          · walk_at "ev"
            exact hx
      · rintro ρ' σ' ⟨_, _, rfl, i, f3, f4⟩
        rw [List.drop_eq_getElem_cons (by rw [List.length_range]; exact Nat.lt_of_le_of_lt f3 k1)] at f4
        cases f4
      · exact ⟨by walk_at "nm", by walk_at "nm", rfl, 0, Nat.zero_le _, rfl⟩

theorem p_whole {i : Int} {σ : Sto} {Q : PV → Sto → Prop} {X : Addr → Sto → Prop} (hq : Q (.bool true) σ) : T_law_whole [.int i] σ Q X := by
  unfold T_law_whole tb_law_whole
  refine i_fun1 ?_
  walk_at "ev"
  exact ⟨_, _, rfl, rfl, _, _, rfl, rfl, hq⟩
/-! the balances -/
/-- all between houses -/
noncomputable def Inside (n : Nat) (P : List (Int × Int × Int)) : Prop := ∀ t ∈ P, (0 ≤ t.1 ∧ t.1 < n) ∧ (0 ≤ t.2.1 ∧ t.2.1 < n)
theorem all_zero {n : Nat} : ∀ {xs ys : List PV}, Paired (fun _ y => y = PV.int 0) xs ys → ys = (zeros xs.length).map PV.int
  | _, _, .nil => rfl
  | _, _, .cons h r => by rw [h, all_zero (n := n) r]; rfl
theorem c_zeros {n : Nat} {x c : Str} {ρ : Env'} {σ : Sto} {Q : PV → Sto → Prop} {X : Addr → Sto → Prop} (e : ρ c = some (.int (n : Nat))) (hn : n ≤ 1000) (hq : ∀ a, σ a = none → Q (.ref a) (upd σ a (.list ((zeros n).map .int)))) :
    tComp x [] (tCall (tEcons (tName c) tEnil) rangeF) tTrue (tConst (.int 0)) ρ σ Q X := by
  refine i_comp (i_call (i_econs (i_name e (i_enil (i_range ?_)))))
  refine ⟨_, rg_items, ⟨by decide, by decide, by omega, by omega⟩, by rw [rg, List.length_map, List.length_range]; exact Nat.le_trans hn (by decide), ?_⟩
  refine compL_all (fun _ y => y = PV.int 0) (by rfl) _ [] (fun p hp Q' hQ => hQ _ rfl) fun ys hys => ?_
  rw [List.nil_append, all_zero (n := n) hys, rg, List.length_map, List.length_range]
  exact hq
theorem i_numt {ts : List Int} {d : Addr} {k : Int} {σ : Sto} {kk : PV → Prop} (hd : σ d = some (.list (ts.map .int))) (hk : 0 ≤ k ∧ k < ts.length) (hl : ts.length ≤ 1000) (h : kk (.int (ts.getD k.toNat 0))) : getP σ (.ref d) (.int k) kk := i_num hd hk.1 hk.2 hl h
theorem i_put {a : Addr} {i z : Int} {ts : List Int} {σ : Sto} {kk : Sto → Prop} (h1 : σ a = some (.list (ts.map .int))) (h2 : 0 ≤ i ∧ i < ts.length) (h3 : ts.length ≤ 1000) (h : kk (upd σ a (.list ((ts.set i.toNat z).map .int)))) : setP σ (.ref a) (.int i) (.int z) kk :=
  i_setP h2.1 h1 (by rw [List.length_map]; exact h2.2) (by rw [List.length_map]; omega) (by rw [List.map_set] at h; exact h)
/-- the loop that fills the balances, whatever its names -/
noncomputable abbrev balT (f t : Str) : TS := tSeq (tStore (tName f) (tItem (tName t) (tConst (.int 0))) (tBin .Sub (tItem (tName f) (tItem (tName t) (tConst (.int 0)))) (tItem (tName t) (tConst (.int 2)))))
  (tSeq (tStore (tName f) (tItem (tName t) (tConst (.int 1))) (tBin .Add (tItem (tName f) (tItem (tName t) (tConst (.int 1)))) (tItem (tName t) (tConst (.int 2))))) tNil)
inductive BalI (n : Nat) (f : Str) (a : Addr) (P : List (Int × Int × Int)) (σ : Sto) (ps : List PV) (ρ : Env') (σ' : Sto) : Prop
  | mk (b : List Int) (R : List (Int × Int × Int)) : ρ f = some (.ref a) → ps = R.map enc → b.length = n → R.foldl balStep b = bals n P → Inside n R → σ' = upd σ a (.list (b.map .int)) → BalI n f a P σ ps ρ σ'
theorem p_balT {n : Nat} {f t : Str} {a d : Addr} {P : List (Int × Int × Int)} {ρ : Env'} {σ : Sto} {Q : Fl → Env' → Sto → Prop} {XS : Addr → Env' → Sto → Prop} (hft : (f == t) = false) (hn : n ≤ 1000) (hd : σ d = some (.list (P.map enc))) (hP : Inside n P) (ha : σ a = none)
    (e1 : ρ f = some (.ref a)) (hq : ∀ ρ', ρ' f = some (.ref a) → Q .next ρ' (upd σ a (.list ((bals n P).map .int)))) :
    forL t (balT f t) (fun σ' => itemsOf σ' (.ref d) = some (P.map enc)) (P.map enc) ρ (upd σ a (.list ((zeros n).map .int))) Q XS := by
  have hda : d ≠ a := by rintro rfl; rw [ha] at hd; cases hd
  refine forL_step (BalI n f a P σ) (fun _ _ _ => False) ?_ ?_ (fun _ _ _ h => h.elim) _ _ _ ?_
  · rintro p ps ρ' σ' Qb ⟨b, R, f1, f2, f3, f4, f5, rfl⟩ hnx _
    cases R with
    | nil => cases f2
    | cons u R =>
      injection f2 with f2 f6
      subst f2 f6
      obtain ⟨h1, h2⟩ := f5 u (.head _)
      subst f3
      have nf : ∀ {ρ'' : Env'}, setL ρ' t (enc u) f = some (.ref a) := setL_other hft f1
      have nt : setL ρ' t (enc u) t = some (.tup [.int u.1, .int u.2.1, .int u.2.2]) := setL_same
      refine i_seq (i_store (i_bin (i_item (i_name (setL_other hft f1) (i_item (i_name nt (i_const (i_g0 ?_))))))))
      refine i_numt upd_same h1 hn (i_item (i_name nt (i_const (i_g2 (i_sub ?_)))))
      refine i_name (setL_other hft f1) (i_item (i_name nt (i_const (i_g0 ?_))))
      refine i_put upd_same h1 hn ?_
      rw [upd_upd]
      have hl2 : (b.set u.1.toNat (b.getD u.1.toNat 0 - u.2.2)).length = b.length := List.length_set
      refine i_seq (i_store (i_bin (i_item (i_name (setL_other hft f1) (i_item (i_name nt (i_const (i_g1 ?_))))))))
      refine i_numt upd_same (by rw [hl2]; exact h2) (by rw [hl2]; exact hn) (i_item (i_name nt (i_const (i_g2 (i_add ?_)))))
      refine i_name (setL_other hft f1) (i_item (i_name nt (i_const (i_g1 ?_))))
      refine i_put upd_same (by rw [hl2]; exact h2) (by rw [hl2]; exact hn) ?_
      rw [upd_upd]
      refine i_nil (hnx _ _ (items_ref (upd_other hda hd)) ⟨balStep b u, R, setL_other hft f1, rfl, balStep_len, f4, fun t ht => f5 t (.tail _ ht), rfl⟩)
  · rintro ρ' σ' ⟨b, R, f1, f2, f3, f4, f5, rfl⟩
    have : R = [] := by cases R with | nil => rfl | cons k js => cases f2
    subst this
    have : b = bals n P := f4
    subst this
    exact hq ρ' f1
  · exact ⟨zeros n, P, e1, rfl, by simp [zeros], rfl, hP, rfl⟩
theorem p_balances {n : Nat} {P : List (Int × Int × Int)} {d : Addr} {σ : Sto} {Q : PV → Sto → Prop} {X : Addr → Sto → Prop} (hn : n ≤ 1000) (hd : σ d = some (.list (P.map enc))) (hP : Inside n P) (hq : ∀ a, σ a = none → Q (.ref a) (upd σ a (.list ((bals n P).map .int)))) : T_balances [.int (n : Nat), .ref d] σ Q X := by
  unfold T_balances tb_balances
  refine i_fun2 (i_seq (i_set (c_zeros (by walk_at "nm") hn fun a ha => ?_)))
  have hda : d ≠ a := by rintro rfl; rw [ha] at hd; cases hd
  walk_at "ev"
  refine ⟨_, items_ref (upd_other hda hd), trivial, p_balT (by decide +kernel) hn hd hP ha (by walk_at "nm") fun ρ' e => ?_⟩
  walk_at "ev"
  exact hq a ha
theorem p_lbalances {n : Nat} {P : List (Int × Int × Int)} {d : Addr} {σ : Sto} {Q : PV → Sto → Prop} {X : Addr → Sto → Prop} (hn : n ≤ 1000) (hd : σ d = some (.list (P.map enc))) (hP : Inside n P) (hq : ∀ a, σ a = none → Q (.ref a) (upd σ a (.list ((bals n P).map .int)))) : T_law_balances [.int (n : Nat), .ref d] σ Q X := by
  unfold T_law_balances tb_law_balances
  refine i_fun2 (i_seq (i_set (c_zeros (by walk_at "nm") hn fun a ha => ?_)))
  have hda : d ≠ a := by rintro rfl; rw [ha] at hd; cases hd
  walk_at "ev"
  refine ⟨_, items_ref (upd_other hda hd), trivial, p_balT (by decide +kernel) hn hd hP ha (by walk_at "nm") fun ρ' e => ?_⟩
  walk_at "ev"
  exact hq a ha

/-! whether a cut is even -/
noncomputable def evenB (n : Nat) (D : List (Int × Int × Int)) (cs : List Int) : Bool := PyData.eqv (.list ((bals n (parts D cs)).map .int)) (.list ((zeros n).map .int))
theorem parts_in {n : Nat} {D : List (Int × Int × Int)} {cs : List Int} (G : GoodL n D) : Inside n (parts D cs) := fun t ht => by
  obtain ⟨k, hk, rfl⟩ := List.mem_map.mp ht
  obtain ⟨h1, h2, _⟩ := G.2 k (List.mem_range.mp hk)
  exact ⟨h1, h2⟩
theorem paired_fun {f : Nat → PV} : ∀ {js : List Nat} {ys : List PV}, Paired (fun p y => ∀ k : Nat, p = PV.int (0 + (k : Int)) → y = f k) (rg js) ys → ys = js.map f
  | [], ys, h => by cases h; rfl
  | j :: js, _, .cons h r => by rw [h j rfl, paired_fun r]; rfl
theorem i_eqints {σ : Sto} {a b : Addr} {xs ys : List Int} {k : Bool → Prop} (h1 : σ a = some (.list (xs.map .int))) (h2 : σ b = some (.list (ys.map .int))) (h : k (PyData.eqv (.list (xs.map .int)) (.list (ys.map .int)))) : cmpP .Eq σ (.ref a) (.ref b) k := by
  have sh : ∀ zs : List Int, SeqAt.shaped (.list (zs.map .int)) = true := fun zs => by
    have c : PyData.canLayAll0 (zs.map PyData.int) = true := by
      induction zs with
      | nil => rfl
      | cons z zs ih => simpa [PyData.canLayAll0, PyData.canLay0] using ih
    have d : PyData.depthAll (zs.map PyData.int) ≤ 1 := by
      induction zs with
      | nil => simp [PyData.depthAll]
      | cons z zs ih =>
        have := ih (by simpa [PyData.canLayAll0, PyData.canLay0] using c)
        simp [PyData.depthAll, PyData.depth] at this ⊢; omega
    unfold SeqAt.shaped
    rw [show (PyData.list (zs.map PyData.int)).canLay0 = true by simpa [PyData.canLay0] using c]
    simp [PyData.depth]; omega
  have dd : ∀ zs : List Int, DatasOf σ (zs.map .int) (zs.map .int) := datas_ints
  exact .inr (.inr ⟨_, _, .list h1 (dd xs), .list h2 (dd ys), sh xs, sh ys, h⟩)
theorem c_parts {x dn cn : Str} {n : Nat} {D : List (Int × Int × Int)} {cs : List Int} {d c : Addr} {ρ : Env'} {σ : Sto} {Q : PV → Sto → Prop} {X : Addr → Sto → Prop} (hx : (dn == x) = false) (hx' : (cn == x) = false) (hd : σ d = some (.list (D.map enc))) (G : GoodL n D) (hc : σ c = some (.list (cs.map .int))) (C : CutOk D cs) (e1 : ρ dn = some (.ref d)) (e2 : ρ cn = some (.ref c))
    (hq : ∀ a, σ a = none → Q (.ref a) (upd σ a (.list ((parts D cs).map enc)))) (hcs : [cn, dn].contains cn = true) (hds : [cn, dn].contains dn = true) :
    tComp x [cn, dn] (tCall (tEcons (tCall (tEcons (tName dn) (tEnil)) lenF) (tEnil)) rangeF) (tTrue) (tTup (tEcons (tItem (tItem (tName dn) (tName x)) (tConst (.int 0))) (tEcons (tItem (tItem (tName dn) (tName x)) (tConst (.int 1))) (tEcons (tItem (tName cn) (tName x)) (tEnil))))) ρ σ Q X := by
  have hl1 := le_big G.1
  refine i_comp (i_call (i_econs (i_call (i_econs (i_name e1 (i_enil (i_lenm hd hl1 (i_enil (i_range ?_)))))))))
  refine ⟨_, rg_items, ⟨by decide, by decide, by omega, by omega⟩, by rw [rg, List.length_map, List.length_range]; exact Nat.le_trans hl1 (by decide), ?_⟩
  refine compL_all (fun p y => ∀ k : Nat, p = PV.int (0 + (k : Int)) → y = enc (deb D k, cre D k, cs.getD k 0)) (by rfl) _ [] (fun p hp Q' hQ => ?_) fun ys hys => ?_
  · obtain ⟨k, hk, rfl⟩ := List.mem_map.mp hp
    have hk := List.mem_range.mp hk
    rw [Int.zero_add] at hQ ⊢
    refine i_tup (i_econs (i_item (i_item (i_name (compR_other hx hds e1) (i_name compR_same (i_debt hd hk hl1 (i_const (i_g0 ?_))))))))
    refine i_econs (i_item (i_item (i_name (compR_other hx hds e1) (i_name compR_same (i_debt hd hk hl1 (i_const (i_g1 ?_)))))))
    refine i_econs (i_item (i_name (compR_other hx' hcs e2) (i_name compR_same (i_numk hc (C.1 ▸ hk) (C.1 ▸ hl1) (i_enil ⟨by simp, hQ _ fun k' e => ?_⟩)))))
    injection e with e
    rw [Int.zero_add] at e
    rw [Int.ofNat_inj.mp e]
    rfl
  · rw [List.nil_append, paired_fun hys]
    have := hq
    rw [parts, List.map_map] at this
    exact this
theorem p_even_end {n : Nat} {D : List (Int × Int × Int)} {cs : List Int} {a : Addr} {ρ : Env'} {σ : Sto} {Q : PV → Sto → Prop} {X : Addr → Sto → Prop} (hn : n ≤ 1000) (ha : σ a = some (.list ((bals n (parts D cs)).map .int))) (hq : ∀ σ', Ext σ σ' → Q (.bool (evenB n D cs)) σ') {x c : Str} (e : ρ c = some (.int (n : Nat))) :
    tComp x [] (tCall (tEcons (tName c) tEnil) rangeF) tTrue (tConst (.int 0)) ρ σ (fun b σ₂ => cmpP .Eq σ₂ (.ref a) b fun c => Q (.bool c) σ₂) X :=
  c_zeros e hn fun b hb => i_eqints (Ext.upd hb _ _ ha) upd_same (hq _ (Ext.upd hb))
theorem p_even {n : Nat} {D : List (Int × Int × Int)} {cs : List Int} {d c : Addr} {σ : Sto} {Q : PV → Sto → Prop} {X : Addr → Sto → Prop} (hn : n ≤ 1000) (hd : σ d = some (.list (D.map enc))) (G : GoodL n D) (hc : σ c = some (.list (cs.map .int))) (C : CutOk D cs) (hq : ∀ σ', Ext σ σ' → Q (.bool (evenB n D cs)) σ') : T_even [.int (n : Nat), .ref d, .ref c] σ Q X := by
  unfold T_even tb_even
  refine i_fun3 ?_
  refine i_seq (i_expr (i_call ?_))
  walk_at "ex"
  refine p_need_cut_ok hd G hc C ?_
  refine i_seq (i_set (c_parts (by decide +kernel) (by decide +kernel) hd G hc C (by walk_at "nm") (by walk_at "nm") (fun a ha => ?_) (by decide +kernel) (by decide +kernel)))
  refine i_seq (i_ret (i_cmp (i_call ?_)))
  walk_at "ex"
  refine p_balances hn upd_same (parts_in G) fun b hb => ?_
  exact p_even_end hn upd_same (fun σ' x => hq _ ((Ext.upd ha).trans ((Ext.upd hb).trans x))) (by walk_at "nm")
theorem p_is_even {n : Nat} {D : List (Int × Int × Int)} {cs : List Int} {d c : Addr} {σ : Sto} {Q : PV → Sto → Prop} {X : Addr → Sto → Prop} (hn : n ≤ 1000) (hd : σ d = some (.list (D.map enc))) (G : GoodL n D) (hc : σ c = some (.list (cs.map .int))) (C : CutOk D cs) (hq : ∀ σ', Ext σ σ' → Q (.bool (evenB n D cs)) σ') : T_law_is_even [.int (n : Nat), .ref d, .ref c] σ Q X := by
  unfold T_law_is_even tb_law_is_even
  refine i_fun3 ?_
  refine i_seq (i_set (c_parts (by decide +kernel) (by decide +kernel) hd G hc C (by walk_at "nm") (by walk_at "nm") (fun a ha => ?_) (by decide +kernel) (by decide +kernel)))
  refine i_seq (i_ret (i_cmp (i_call ?_)))
  walk_at "ex"
  refine p_lbalances hn upd_same (parts_in G) fun b hb => ?_
  exact p_even_end hn upd_same (fun σ' x => hq _ ((Ext.upd ha).trans ((Ext.upd hb).trans x))) (by walk_at "nm")

noncomputable def nums (ks : List Nat) : List PV := ks.map fun k : Nat => .int (k : Int)
theorem rg_nums {js : List Nat} : rg js = nums js := by unfold rg nums; simp
theorem nums_last {rs : List Nat} (h : rs ≠ []) : (nums rs)[(-1 + ((nums rs).length : Int)).toNat]? = some (.int ((rs.getD (rs.length - 1) 0 : Nat) : Int)) := by
  have hl : 0 < rs.length := List.length_pos_iff.mpr h
  have e : (-1 + ((nums rs).length : Int)).toNat = rs.length - 1 := by simp [nums]; omega
  rw [e]
  simp [nums, List.getD, show rs.length - 1 < rs.length by omega]
theorem at_mem {rs : List Nat} {k : Nat} (h : k < rs.length) : rs.getD k 0 ∈ rs := by
  have : rs.getD k 0 = rs[k] := by simp [List.getD, h]
  rw [this]; exact List.getElem_mem _
theorem i_last {rs : List Nat} {r : Addr} {σ : Sto} {kk : PV → Prop} (h : σ r = some (.list (nums rs))) (hn : rs ≠ []) (hk : kk (.int ((rs.getD (rs.length - 1) 0 : Nat) : Int))) : getP σ (.ref r) (.int (-1)) kk := by
  have hl : 0 < rs.length := List.length_pos_iff.mpr hn
  exact i_getn (by decide) (by decide) (items_ref h) trivial (by simp [nums]; omega) (nums_last hn) hk
theorem cut_nums {rs : List Nat} {i : Nat} : cutL (nums rs) (some (i : Int)) none = nums (rs.drop i) := by
  simp [cutL, nums, List.take_of_length_le]
theorem i_numat {js : List Nat} {a : Addr} {k : Nat} {σ : Sto} {kk : PV → Prop} (h : σ a = some (.list (nums js))) (hk : k < js.length) (hl : js.length ≤ 1000) (hq : kk (.int ((js.getD k 0 : Nat) : Int))) : getP σ (.ref a) (.int (k : Int)) kk :=
  i_getk h (by omega) (by simp [nums, List.getD, hk]) hq

theorem chain_snoc {D : List (Int × Int × Int)} {j : Nat} : ∀ {ws : List Nat} {b : Int}, Chain D ws b → ws ≠ [] → deb D j = cre D (ws.getD (ws.length - 1) 0) → Chain D (ws ++ [j]) b
  | [], _, _, h, _ => absurd rfl h
  | [w], b, ⟨c1, _⟩, _, e => ⟨c1, e, trivial⟩
  | w :: w' :: ws, b, ⟨c1, c2⟩, _, e => ⟨c1, chain_snoc (ws := w' :: ws) c2 (by simp) (by simpa using e)⟩
theorem chain_drop {D : List (Int × Int × Int)} : ∀ {ws : List Nat} {b : Int} {i : Nat}, Chain D ws b → i < ws.length → Chain D (ws.drop i) (deb D (ws.getD i 0)) ∧ ∀ b', chainEnd D (ws.drop i) b' = cre D (ws.getD (ws.length - 1) 0)
  | [], _, _, _, h => absurd h (Nat.not_lt_zero _)
  | [w], b, 0, ⟨c1, _⟩, _ => ⟨⟨rfl, trivial⟩, fun _ => rfl⟩
  | [w], _, i + 1, _, h => absurd h (by simp)
  | w :: w' :: ws, b, 0, ⟨c1, c2⟩, _ => by
    obtain ⟨k1, k2⟩ := chain_drop (ws := w' :: ws) (i := 0) c2 (by simp)
    refine ⟨⟨rfl, c2⟩, fun b' => ?_⟩
    show chainEnd D (w' :: ws) (cre D w) = _
    have := k2 (cre D w)
    simpa using this
  | w :: w' :: ws, b, i + 1, ⟨c1, c2⟩, h => by
    obtain ⟨k1, k2⟩ := chain_drop (ws := w' :: ws) (i := i) c2 (by simpa using h)
    refine ⟨by simpa using k1, fun b' => ?_⟩
    have := k2 b'
    simpa using this
/-- a row of numbers that is handed back -/
inductive Ring (D : List (Int × Int × Int)) (σ : Sto) (v : PV) (ρ : Env') (σ' : Sto) : Prop
  | mk (a : Addr) (js : List Nat) : v = .ref a → σ a = none → Ext σ σ' → σ' a = some (.list (nums js)) → js.Nodup → (∀ j ∈ js, j < D.length) → js.length ≤ 40 → (∃ b, Chain D js b ∧ chainEnd D js b = b) → Ring D σ v ρ σ'
inductive RingI (D : List (Int × Int × Int)) (d r w : Addr) (x : Int) (σ : Sto) (ps : List PV) (ρ : Env') (σ' : Sto) : Prop
  | mk (ws : List Nat) : ρ "_law_debts_here" = some (.ref d) → ρ "_law_room" = some (.ref r) → ρ "_law_cell" = some (.int x) → ρ "_law_way" = some (.ref w) → (∀ p ∈ ps, ∃ k, p = .int k) → Ext σ σ' → σ' w = some (.list (nums ws)) → ws ≠ [] → (∀ j ∈ ws, j < D.length) → (ws.map (deb D)).Nodup → ws.length + ps.length ≤ 21 → (∃ b, Chain D ws b) → RingI D d r w x σ ps ρ σ'
inductive SeekI (D : List (Int × Int × Int)) (d r w : Addr) (x t at' : Int) (ws : List Nat) (τ : Sto) (ps : List PV) (ρ : Env') (σ' : Sto) : Prop
  | mk (i : Nat) : ρ "_law_debts_here" = some (.ref d) → ρ "_law_room" = some (.ref r) → ρ "_law_cell" = some (.int x) → ρ "_law_way" = some (.ref w) → ρ "_law_turn" = some (.int t) → ρ "_law_at" = some (.int at') → σ' = τ → i ≤ ws.length → ps = rg ((List.range ws.length).drop i) → (∀ m, m < i → deb D (ws.getD m 0) ≠ at') → SeekI D d r w x t at' ws τ ps ρ σ'
section
variable {n : Nat} {D : List (Int × Int × Int)} {d r w : Addr} {x t at' : Int} {rs : List Int} {ws : List Nat} {σ τ : Sto} {ρ : Env'} {Qb : Fl → Env' → Sto → Prop} {XS : Addr → Env' → Sto → Prop} {ps : List PV}
theorem ring_none (ret : ∀ v ρ' σ', Ring D σ v ρ' σ' → Qb (.ret v) ρ' σ') (x1 : Ext σ τ) : tSeq (tRet (tList tEnil)) tNil ρ τ Qb XS := by
  refine i_seq (i_ret (i_list (i_enil ⟨by decide, fun a ha => ?_⟩)))
  exact ret _ _ _ ⟨a, [], rfl, x1.back ha, x1.trans (Ext.upd ha), upd_same, List.nodup_nil, fun j hj => (by cases hj), Nat.zero_le _, 0, trivial, rfl⟩
theorem nodup_more {j : Nat} (h : (ws.map (deb D)).Nodup) (h1 : ∀ m, m < ws.length → deb D (ws.getD m 0) ≠ at') (h2 : deb D j = at') : ((ws ++ [j]).map (deb D)).Nodup := by
  rw [List.map_append, List.nodup_append]
  refine ⟨h, by simp, fun a ha b hb => ?_⟩
  obtain ⟨k, hk, rfl⟩ := List.mem_map.mp ha
  have : b = deb D j := by simpa using hb
  subst this
  obtain ⟨m, hm, rfl⟩ := List.getElem_of_mem hk
  have := h1 m hm
  rw [h2]
  simpa [List.getD, hm] using this
theorem ring_more {z : Addr} {ls : List Nat} (hσ : σ w = none) (hz : z ≠ w) (uz : τ z = some (.list (nums ls))) (hls : ls ≠ []) (hll : ls.length ≤ 1000) (hlD : ∀ j ∈ ls, j < D.length ∧ deb D j = at') (f5 : ∀ p ∈ ps, ∃ k, p = .int k) (x1 : Ext σ τ) (uw : τ w = some (.list (nums ws))) (f8 : ∀ j ∈ ws, j < D.length) (f9 : (ws.map (deb D)).Nodup) (f10 : ws.length + ps.length + 1 ≤ 21) (g : ∀ m, m < ws.length → deb D (ws.getD m 0) ≠ at') (ch : ∃ b, Chain D ws b) (hat : at' = cre D (ws.getD (ws.length - 1) 0)) (hw0 : ws ≠ [])
    (hnx : ∀ ρ' σ', RingI D d r w x σ ps ρ' σ' → Qb .next ρ' σ') (e1 : ρ "_law_debts_here" = some (.ref d)) (e2 : ρ "_law_room" = some (.ref r)) (e3 : ρ "_law_cell" = some (.int x)) (e4 : ρ "_law_way" = some (.ref w)) (e5 : ρ "_law_turn" = some (.int t)) (e6 : ρ "_law_later" = some (.ref z)) : tb_law_ring_by_2 ρ τ Qb XS := by
  have hp : 0 < (ls.length : Int) := by have := List.length_pos_iff.mpr hls; omega
  refine i_seq (i_expr (i_meth (i_name e4 ⟨⟨_, uw⟩, i_econs (i_item ?_)⟩)))
  walk_at "ex"
  refine i_lenm uz hll (i_modp hp ?_)
  have m1 := Int.emod_lt_of_pos (x / 7 + 3 * t) hp
  obtain ⟨m, hm⟩ := Int.eq_ofNat_of_zero_le (Int.emod_nonneg (x / 7 + 3 * t) (Int.ne_of_gt hp))
  rw [hm]
  rw [hm] at m1
  have hm' : m < ls.length := Int.ofNat_lt.mp m1
  obtain ⟨k1, k2⟩ := hlD _ (at_mem hm')
  refine i_numat uz hm' hll (i_enil (i_append uw (by simp [nums]; omega) (i_nil ?_)))
  refine hnx _ _ ⟨ws ++ [ls.getD m 0], e1, e2, e3, e4, f5, x1.upd' hσ, by rw [upd_same]; simp [nums], by simp, fun j hj => ?_, nodup_more f9 g k2, by rw [List.length_append, List.length_singleton]; omega, ch.imp fun b hb => chain_snoc hb hw0 (k2.trans hat)⟩
  rcases List.mem_append.mp hj with h | h
  · exact f8 j h
  · rw [List.mem_singleton.mp h]; exact k1
theorem filt_nums {js : List Nat} {sel : PV → Bool} {q : Nat → Bool} (h : ∀ k : Nat, sel (.int (k : Int)) = q k) : ((nums js).filter sel).map id = nums (js.filter q) := by
  rw [List.map_id]
  induction js with
  | nil => rfl
  | cons j js ih =>
    unfold nums at ih ⊢
    rw [List.map_cons, List.filter_cons, List.filter_cons, h j]
    split
    · rw [List.map_cons, ih]
    · exact ih
noncomputable def laters (D : List (Int × Int × Int)) (rs : List Int) (at' : Int) : List Nat := (List.range D.length).filter fun k => decide (deb D k = at') && decide (rs.getD k 0 > 0)
theorem ring_later (hd : σ d = some (.list (D.map enc))) (hl : D.length ≤ 1000) (hr : σ r = some (.list (rs.map .int))) (hrl : rs.length = D.length) (hσ : σ w = none) (f5 : ∀ p ∈ ps, ∃ k, p = .int k) (x1 : Ext σ τ) (uw : τ w = some (.list (nums ws))) (f8 : ∀ j ∈ ws, j < D.length) (f9 : (ws.map (deb D)).Nodup) (f10 : ws.length + ps.length + 1 ≤ 21) (g : ∀ m, m < ws.length → deb D (ws.getD m 0) ≠ at') (ch : ∃ b, Chain D ws b) (hat : at' = cre D (ws.getD (ws.length - 1) 0)) (hw0 : ws ≠ [])
    (hnx : ∀ ρ' σ', RingI D d r w x σ ps ρ' σ' → Qb .next ρ' σ') (ret : ∀ v ρ' σ', Ring D σ v ρ' σ' → Qb (.ret v) ρ' σ') (e1 : ρ "_law_debts_here" = some (.ref d)) (e2 : ρ "_law_room" = some (.ref r)) (e3 : ρ "_law_cell" = some (.int x)) (e4 : ρ "_law_way" = some (.ref w)) (e5 : ρ "_law_turn" = some (.int t)) (e6 : ρ "_law_at" = some (.int at')) : tb_law_ring_by_5 ρ τ Qb XS := by
  refine i_seq (i_set (i_comp (i_call (i_econs (i_call (i_econs (i_name e1 (i_enil (i_lenm (x1 _ _ hd) hl (i_enil (i_range ?_)))))))))))
  refine ⟨_, rg_items, ⟨by decide, by decide, by omega, by omega⟩, by rw [rg, List.length_map, List.length_range]; exact Nat.le_trans hl (by decide), ?_⟩
  rw [rg_nums]
  refine compL_filt (fun p => match p with | .int k => decide (deb D k.toNat = at') && decide (rs.getD k.toNat 0 > 0) | _ => false) id (by rw [rg_items, rg_nums]) _ [] (fun p hp QB hQ => ?_) (fun p hp _ Q' hQ => ?_) ?_
  · obtain ⟨k, hk, rfl⟩ := List.mem_map.mp hp
    have hk := List.mem_range.mp hk
    have hk' : k < rs.length := hrl ▸ hk
    dsimp only at hQ
    rw [Int.toNat_natCast] at hQ
    refine i_and (i_cmpB (i_item (i_item ?_)))
    walk_at "ex"
    refine i_debt (x1 _ _ hd) hk hl ?_
    walk_at "ex"
    refine ite_d (fun y => ?_) fun y => ?_
    · walk_at "ex"
      refine i_numk (x1 _ _ hr) hk' (hrl ▸ hl) ?_
      walk_at "ex"
      rw [decide_eq_true y, Bool.true_and] at hQ
      refine ite_d (fun y' => ?_) fun y' => ?_
      · rw [decide_eq_true y'] at hQ; exact hQ
      · rw [decide_eq_false y'] at hQ; exact hQ
    · rw [decide_eq_false y, Bool.false_and] at hQ; exact hQ
  · exact i_name compR_same hQ
  · rw [List.nil_append, filt_nums (q := fun k => decide (deb D k = at') && decide (rs.getD k 0 > 0)) fun k => by simp]
    intro z hz
    have hzw : z ≠ w := by rintro rfl; rw [uw] at hz; cases hz
    have hll : (laters D rs at').length ≤ 1000 := by
      have := List.length_filter_le (fun k => decide (deb D k = at') && decide (rs.getD k 0 > 0)) (List.range D.length)
      rw [List.length_range] at this
      exact Nat.le_trans this hl
    refine i_seq (i_if (i_cmpB (i_call (i_econs (i_name setL_same (i_enil (i_lenm (f := fun k : Nat => .int (k : Int)) (D := laters D rs at') upd_same hll ?_)))))))
    walk_at "ex"
    refine ite_d (fun y => ?_) fun y => ?_
    · exact ring_none ret (x1.trans (Ext.upd hz))
    · refine i_nil (ring_more (ls := laters D rs at') (at' := at') hσ hzw upd_same (fun e => y (by rw [e]; rfl)) hll (fun j hj => ?_) f5 (x1.trans (Ext.upd hz)) ((Ext.upd hz) _ _ uw) f8 f9 f10 g ch hat hw0 hnx (by walk_at "nm") (by walk_at "nm") (by walk_at "nm") (by walk_at "nm") (by walk_at "nm") (by walk_at "nm"))
      obtain ⟨h1, h2⟩ := List.mem_filter.mp hj
      exact ⟨List.mem_range.mp h1, by simp at h2; exact h2.1⟩
end

section
variable {n : Nat} {D : List (Int × Int × Int)} {d r w : Addr} {x t at' : Int} {rs : List Int} {ws : List Nat} {σ τ : Sto} {ρ : Env'} {ps : List PV}
theorem drop_cons {m i : Nat} (h : i < m) : (List.range m).drop i = i :: (List.range m).drop (i + 1) := by
  rw [List.drop_eq_getElem_cons (by rw [List.length_range]; exact h), List.getElem_range]
theorem drop_none {m i : Nat} {ps : List PV} {p : PV} (hi : i ≤ m) (h : p :: ps = rg ((List.range m).drop i)) : i < m := by
  rcases Nat.lt_or_eq_of_le hi with h' | rfl
  · exact h'
  · rw [List.drop_of_length_le (by rw [List.length_range]; exact Nat.le_refl _)] at h; cases h
theorem drop_all {m i : Nat} (hi : i ≤ m) (h : ([] : List PV) = rg ((List.range m).drop i)) : i = m := by
  rcases Nat.lt_or_eq_of_le hi with h' | e
  · rw [drop_cons h'] at h; cases h
  · exact e
theorem ring_seek {Qb : Fl → Env' → Sto → Prop} {XS : Addr → Env' → Sto → Prop} (hd : σ d = some (.list (D.map enc))) (hl : D.length ≤ 1000) (x1 : Ext σ τ) (uw : τ w = some (.list (nums ws))) (f8 : ∀ j ∈ ws, j < D.length) (f9 : (ws.map (deb D)).Nodup) (f10 : ws.length ≤ 40) (ch : ∃ b, Chain D ws b) (hat : at' = cre D (ws.getD (ws.length - 1) 0))
    (go : ∀ ρ', ρ' "_law_debts_here" = some (.ref d) → ρ' "_law_room" = some (.ref r) → ρ' "_law_cell" = some (.int x) → ρ' "_law_way" = some (.ref w) → ρ' "_law_turn" = some (.int t) → ρ' "_law_at" = some (.int at') → (∀ m, m < ws.length → deb D (ws.getD m 0) ≠ at') → tb_law_ring_by_5 ρ' τ Qb XS)
    (ret : ∀ v ρ' σ', Ring D σ v ρ' σ' → Qb (.ret v) ρ' σ') (e1 : ρ "_law_debts_here" = some (.ref d)) (e2 : ρ "_law_room" = some (.ref r)) (e3 : ρ "_law_cell" = some (.int x)) (e4 : ρ "_law_way" = some (.ref w)) (e5 : ρ "_law_turn" = some (.int t)) (e6 : ρ "_law_at" = some (.int at')) : tb_law_ring_by_8 ρ τ Qb XS := by
  have hw1 : ws.length ≤ 1000 := Nat.le_trans f10 (by decide)
  refine i_seq (i_for (i_call (i_econs (i_call (i_econs (i_name e4 (i_enil (i_lenm (f := fun k : Nat => .int (k : Int)) uw hw1 (i_enil (i_range ?_))))))))))
  refine i_rng hw1 ?_
  refine forL_step (SeekI D d r w x t at' ws τ) (Ring D σ) ?_ ?_ (fun v ρ' σ' h => ?_) _ _ _ ?_
  · rintro p ps ρ' σ' Qb' ⟨i, g1, g2, g3, g4, g5, g6, rfl, hi, g8, g9⟩ hnx hr
    have hi' := drop_none hi g8
    rw [drop_cons hi'] at g8
    obtain ⟨rfl, rfl⟩ := rg_cons g8
    have hj := f8 _ (at_mem hi')
    refine i_seq (i_if (i_cmpB (i_item (i_item ?_))))
    walk_at "ex"
    refine i_numat uw hi' hw1 ?_
    refine i_debt (x1 _ _ hd) hj hl ?_
    walk_at "ex"
    refine ite_d (fun y => ?_) fun y => ?_
    · walk_at "ev"
      refine ⟨_, rfl, ?_⟩
      walk_at "ev"
      refine ⟨_, Int.natCast_nonneg _, trivial, trivial, items_ref uw, by simp only [nums, List.length_map]; exact Nat.le_trans hw1 (by decide), fun a ha => ?_⟩
      rw [cut_nums]
      refine hr _ _ _ ⟨a, ws.drop i, rfl, x1.back ha, x1.trans (Ext.upd ha), upd_same, ?_, fun j hj => f8 j (List.mem_of_mem_drop hj), by rw [List.length_drop]; omega, ?_⟩
      · exact List.Sublist.nodup (List.drop_sublist _ _) (List.Pairwise.of_map (deb D) (fun a b h e => h (by rw [e])) f9)
      · obtain ⟨b0, hb0⟩ := ch
        obtain ⟨c1, c2⟩ := chain_drop hb0 hi'
        exact ⟨_, c1, (c2 _).trans (hat.symm.trans y.symm)⟩
    · refine i_nil (i_nil (hnx _ _ rg_items ⟨i + 1, setL_other (by decide +kernel) g1, setL_other (by decide +kernel) g2, setL_other (by decide +kernel) g3, setL_other (by decide +kernel) g4, setL_other (by decide +kernel) g5, setL_other (by decide +kernel) g6, rfl, hi', rfl, fun m hm => ?_⟩))
      rcases Nat.lt_or_eq_of_le (Nat.le_of_lt_succ hm) with h | rfl
      · exact g9 m h
      · exact y
  · rintro ρ' σ' ⟨i, g1, g2, g3, g4, g5, g6, rfl, hi, g8, g9⟩
    obtain rfl := drop_all hi g8
    exact go ρ' g1 g2 g3 g4 g5 g6 g9
  · exact ret v ρ' σ' h
  · exact ⟨0, e1, e2, e3, e4, e5, e6, rfl, Nat.zero_le _, rfl, fun m hm => absurd hm (Nat.not_lt_zero m)⟩
theorem p_ring_by {Q : PV → Sto → Prop} {X : Addr → Sto → Prop} (hd : σ d = some (.list (D.map enc))) (hl : D.length ≤ 40) (hr : σ r = some (.list (rs.map .int))) (hrl : rs.length = D.length)
    (hq : ∀ a js σ', σ a = none → Ext σ σ' → σ' a = some (.list (nums js)) → js.Nodup → (∀ j ∈ js, j < D.length) → js.length ≤ 40 → (∃ b, Chain D js b ∧ chainEnd D js b = b) → Q (.ref a) σ') : T_law_ring_by [.ref d, .ref r, .int x] σ Q X := by
  have hl1 := le_big hl
  have ret : ∀ v ρ' σ', Ring D σ v ρ' σ' → (funQ Q) (.ret v) ρ' σ' := fun v ρ' σ' ⟨a, js, h1, h0, h2, h3, h4, h5, h6, h7⟩ => by subst h1; exact hq a js σ' h0 h2 h3 h4 h5 h6 h7
  unfold T_law_ring_by tb_law_ring_by
  refine i_fun3 (i_seq (i_if ?_))
  walk_at "ex"
  refine i_lenm hd hl1 ?_
  walk_at "ex"
  refine ite_d (fun y => ?_) fun y => ?_
  · exact ring_none ret Ext.refl
  · have hp : 0 < (D.length : Int) := by omega
    refine i_nil (i_seq (i_set (i_list (i_econs ?_))))
    walk_at "ex"
    refine i_lenm hd hl1 ?_
    refine i_modp hp ?_
    have m1 := Int.emod_lt_of_pos x hp
    obtain ⟨m, hm⟩ := Int.eq_ofNat_of_zero_le (Int.emod_nonneg x (Int.ne_of_gt hp))
    rw [hm]
    rw [hm] at m1
    have hm' : m < D.length := Int.ofNat_lt.mp m1
    refine i_enil ⟨by simp, fun w hw => ?_⟩
    refine i_seq (i_for ?_)
    walk_at "ex"
    refine ⟨_, rfl, ⟨by decide, by decide, by decide, by decide⟩, ?_⟩
    refine forL_step (RingI D d r w x σ) (Ring D σ) ?_ ?_ (fun v ρ' σ' h => ?_) _ _ _ ?_
    · rintro p ps ρ' σ' Qb ⟨ws, g1, g2, g3, g4, g5, g6, g7, g8, g9, g10, g11, g12⟩ hnx hr'
      obtain ⟨k, rfl⟩ := g5 p (.head _)
      have hlast := g9 _ (at_mem (show ws.length - 1 < ws.length by have := List.length_pos_iff.mpr g8; omega))
      rw [List.length_cons] at g11
      refine i_seq (i_set (i_item (i_item ?_)))
      walk_at "ex"
      refine i_last g7 g8 ?_
      refine i_debt (g6 _ _ hd) hlast hl1 ?_
      walk_at "ex"
      refine ring_seek (t := k) hd hl1 g6 g7 g9 g10 (by omega) g12 rfl (fun ρ'' z1 z2 z3 z4 z5 z6 z7 => ?_) hr' (by walk_at "nm") (by walk_at "nm") (by walk_at "nm") (by walk_at "nm") (by walk_at "nm") (by walk_at "nm")
      exact ring_later hd hl1 hr hrl hw (fun p hp => g5 p (.tail _ hp)) g6 g7 g9 g10 (by omega) z7 g12 rfl g8 (fun ρ' σ' => hnx ρ' σ' rfl) hr' z1 z2 z3 z4 z5 z6
    · rintro ρ' σ' ⟨ws, g1, g2, g3, g4, g5, g6, g7, g8, g9, g10, g11, g12⟩
      exact ring_none ret g6
    · exact ret v ρ' σ' h
    · refine ⟨[m], by walk_at "nm", by walk_at "nm", by walk_at "nm", by walk_at "nm", fun p hp => ?_, Ext.upd hw, upd_same, by simp, fun j hj => ?_, by simp, by simp, deb D m, rfl, trivial⟩
      · obtain ⟨k, _, rfl⟩ := List.mem_map.mp hp
        exact ⟨_, rfl⟩
      · rw [List.mem_singleton.mp hj]; exact hm'
end

theorem getD_set {cs : List Int} {m k : Nat} {z : Int} (hm : m < cs.length) : (cs.set m z).getD k 0 = if m = k then z else cs.getD k 0 := by
  rw [List.getD_eq_getElem?_getD, List.getD_eq_getElem?_getD, List.getElem?_set]
  by_cases h : m = k
  · subst h; simp [hm]
  · simp [h]
theorem getD_map {f : Nat → Int} {m k : Nat} (h : k < m) : ((List.range m).map f).getD k 0 = f k := by simp [List.getD, h]
theorem paired_amt : ∀ {D : List (Int × Int × Int)} {ys : List PV}, Paired (fun p y => ∀ t, p = enc t → y = PV.int t.2.2) (D.map enc) ys → ys = (D.map (·.2.2)).map PV.int
  | [], ys, h => by cases h; rfl
  | t :: D, _, .cons h r => by rw [h t rfl, paired_amt r]; rfl
theorem amts_ok {n : Nat} {D : List (Int × Int × Int)} (G : GoodL n D) : CutOk D (D.map (·.2.2)) := ⟨by simp, fun k hk => by
  have e : (D.map (·.2.2)).getD k 0 = amt D k := by simp [List.getD, amt, hk]
  obtain ⟨_, _, h1, _⟩ := G.2 k hk
  rw [e]
  exact ⟨Int.le_trans (by decide) h1, Int.le_refl _⟩⟩
theorem amts_at {D : List (Int × Int × Int)} {k : Nat} (h : k < D.length) : (D.map (·.2.2)).getD k 0 = amt D k := by
  unfold amt
  simp [List.getD, h]
theorem paired_at {rs : List Int} : ∀ {js : List Nat} {ys : List PV}, Paired (fun p y => ∀ k : Nat, p = PV.int (k : Int) → y = PV.int (rs.getD k 0)) (nums js) ys → ys = (js.map fun k => rs.getD k 0).map PV.int
  | [], ys, h => by cases h; rfl
  | j :: js, _, .cons h r => by rw [h j rfl, paired_at r]; rfl
inductive EvI (D : List (Int × Int × Int)) (d r : Addr) (σ : Sto) (ps : List PV) (ρ : Env') (σ' : Sto) : Prop
  | mk (rs : List Int) : ρ "_law_debts_here" = some (.ref d) → ρ "_law_room" = some (.ref r) → (∀ p ∈ ps, ∃ k, p = .int k) → Ext σ σ' → σ' r = some (.list (rs.map .int)) → CutOk D rs → (∀ w, exc D rs w = exc D (D.map (·.2.2)) w) → EvI D d r σ ps ρ σ'
inductive SubI (D : List (Int × Int × Int)) (d r : Addr) (m : Int) (R : List Int) (τ : Sto) (ps : List PV) (ρ : Env') (σ' : Sto) : Prop
  | mk (rs : List Int) (js : List Nat) : ρ "_law_debts_here" = some (.ref d) → ρ "_law_room" = some (.ref r) → ρ "_law_many" = some (.int m) → ps = nums js → js.Nodup → (∀ j ∈ js, j < D.length ∧ m ≤ rs.getD j 0) → CutOk D rs → σ' = upd τ r (.list (rs.map .int)) → subRow m rs js = R → SubI D d r m R τ ps ρ σ'
theorem upd_self {σ : Sto} {a : Addr} {o : AO} (h : σ a = some o) : upd σ a o = σ := by
  funext b
  unfold upd
  split
  · rename_i e; subst e; exact h.symm
  · rfl
section
variable {n : Nat} {D : List (Int × Int × Int)} {d r a : Addr} {x m : Int} {rs : List Int} {js : List Nat} {σ τ : Sto} {ρ : Env'} {ps : List PV} {Qb : Fl → Env' → Sto → Prop} {XS : Addr → Env' → Sto → Prop}
theorem sub_ok {j : Nat} (C : CutOk D rs) (hj : j < D.length) (h0 : 0 ≤ m) (h : m ≤ rs.getD j 0) : CutOk D (rs.set j (rs.getD j 0 - m)) := by
  obtain ⟨h1, h2⟩ := C
  have h3 := h2 j hj
  refine ⟨by rw [List.length_set]; exact h1, fun k hk => ?_⟩
  rw [getD_set (h1 ▸ hj)]
  split
  · rename_i e; subst e; omega
  · exact h2 k hk
theorem even_sub (G : GoodL n D) (hσ : σ r = none) (x1 : Ext σ τ) (ua : τ a = some (.list (nums js))) (har : a ≠ r) (hjl : js.length ≤ 40) (hN : js.Nodup) (h0 : 0 ≤ m) (hm : ∀ j ∈ js, j < D.length ∧ m ≤ rs.getD j 0) (ur : τ r = some (.list (rs.map .int))) (C : CutOk D rs) (f3 : ∀ p ∈ ps, ∃ k, p = .int k) (ce : ∃ b, Chain D js b ∧ chainEnd D js b = b) (f7 : ∀ w, exc D rs w = exc D (D.map (·.2.2)) w)
    (hnx : ∀ ρ' σ', EvI D d r σ ps ρ' σ' → Qb .next ρ' σ') (e1 : ρ "_law_debts_here" = some (.ref d)) (e2 : ρ "_law_room" = some (.ref r)) (e3 : ρ "_law_loop" = some (.ref a)) (e4 : ρ "_law_many" = some (.int m)) : tb_law_even_cut_3 ρ τ Qb XS := by
  have hl := G.1
  refine i_seq (i_for (i_name e3 ⟨_, items_ref ua, trivial, ?_⟩))
  refine forL_step (SubI D d r m (subRow m rs js) τ) (fun _ _ _ => False) ?_ ?_ (fun _ _ _ h => h.elim) _ _ _ ?_
  · rintro p ps' ρ' σ' Qb' ⟨rs', js', g1, g2, g3, g4, g5, g6, g7, rfl, g9⟩ hn _
    cases js' with
    | nil => cases g4
    | cons j js' =>
      injection g4 with g4 g8
      subst g4 g8
      obtain ⟨k1, k2⟩ := g6 j (.head _)
      have hjr : j < rs'.length := g7.1 ▸ k1
      refine i_seq (i_store (i_bin (i_item ?_)))
      walk_at "ex"
      refine i_numk upd_same hjr (g7.1 ▸ le_big hl) ?_
      walk_at "ex"
      refine i_put upd_same ⟨Int.natCast_nonneg _, Int.ofNat_lt.mpr hjr⟩ (g7.1 ▸ le_big hl) ?_
      rw [upd_upd, Int.toNat_natCast]
      obtain ⟨n1, n2⟩ := List.nodup_cons.mp g5
      refine i_nil (hn _ _ (items_ref (upd_other har ua)) ⟨_, js', by walk_at "nm", by walk_at "nm", by walk_at "nm", rfl, n2, fun i hi => ⟨(g6 i (.tail _ hi)).1, ?_⟩, sub_ok g7 k1 h0 k2, rfl, g9⟩)
      rw [getD_set hjr, if_neg (by rintro rfl; exact n1 hi)]
      exact (g6 i (.tail _ hi)).2
  · rintro ρ' σ' ⟨rs', js', g1, g2, g3, g4, g5, g6, g7, rfl, g9⟩
    have : js' = [] := by cases js' with | nil => rfl | cons k ks => cases g4
    subst this
    have g9 : rs' = subRow m rs js := g9
    refine i_nil (hnx _ _ ⟨rs', g1, g2, f3, x1.upd' hσ, upd_same, g7, fun w => ?_⟩)
    obtain ⟨b, c1, c2⟩ := ce
    rw [g9, exc_ring C.1 (fun j hj => (hm j hj).1) c1 c2]
    exact f7 w
  · exact ⟨rs, js, e1, e2, e4, rfl, hN, hm, C, (upd_self ur).symm, rfl⟩
theorem even_most (G : GoodL n D) (hσ : σ r = none) (x1 : Ext σ τ) (ua : τ a = some (.list (nums js))) (har : a ≠ r) (hjl : js.length ≤ 40) (hj0 : js ≠ []) (hN : js.Nodup) (hjD : ∀ j ∈ js, j < D.length) (ur : τ r = some (.list (rs.map .int))) (C : CutOk D rs) (f3 : ∀ p ∈ ps, ∃ k, p = .int k) (ce : ∃ b, Chain D js b ∧ chainEnd D js b = b) (f7 : ∀ w, exc D rs w = exc D (D.map (·.2.2)) w)
    (hnx : ∀ ρ' σ', EvI D d r σ ps ρ' σ' → Qb .next ρ' σ') (e1 : ρ "_law_debts_here" = some (.ref d)) (e2 : ρ "_law_room" = some (.ref r)) (e3 : ρ "_law_loop" = some (.ref a)) (e4 : ρ "_law_cell" = some (.int x)) : tb_law_even_cut_7 ρ τ Qb XS := by
  have hl := G.1
  refine i_seq (i_set (i_call (i_econs (i_comp (i_name e3 ⟨_, items_ref ua, trivial, by simp only [nums, List.length_map]; exact Nat.le_trans (le_big hjl) (by decide), ?_⟩)))))
  refine compL_all (fun p y => ∀ k : Nat, p = PV.int (k : Int) → y = PV.int (rs.getD k 0)) (items_ref ua) _ [] (fun p hp Q' hQ => ?_) fun ys hys => ?_
  · obtain ⟨k, hk, rfl⟩ := List.mem_map.mp hp
    refine i_item (i_name (compR_other (by decide +kernel) (by decide +kernel) e2) (i_name compR_same ?_))
    exact i_numk ur (C.1 ▸ hjD k hk) (C.1 ▸ le_big hl) (hQ _ fun k' e => by injection e with e; rw [Int.ofNat_inj.mp e])
  · rw [List.nil_append, paired_at hys]
    intro b hb
    generalize hσ1 : upd τ b _ = τ1
    obtain ⟨x2, u2⟩ := al hσ1 hb
    clear hσ1
    refine i_enil (i_minL u2 (fun e => hj0 (List.map_eq_nil_iff.mp e)) fun m hm hmin => ?_)
    obtain ⟨j0, k0, rfl⟩ := List.mem_map.mp hm
    have h0 := (C.2 j0 (hjD j0 k0)).1
    have hle : ∀ j ∈ js, rs.getD j0 0 ≤ rs.getD j 0 := fun j hj => hmin _ (List.mem_map.mpr ⟨j, hj, rfl⟩)
    generalize rs.getD j0 0 = m at h0 hle ⊢
    have fin := fun (z : Int) (ρ' : Env') (z0 : 0 ≤ z) (z1 : z ≤ m) => even_sub (Qb := Qb) (XS := XS) (ρ := ρ') (d := d) (ps := ps) G hσ (x1.trans x2) (x2 _ _ ua) har hjl hN z0 (fun j hj => ⟨hjD j hj, Int.le_trans z1 (hle j hj)⟩) (x2 _ _ ur) C f3 ce f7 hnx
    refine i_seq (i_set ?_)
    walk_at "ex"
    refine i_seq (i_if ?_)
    walk_at "ex"
    refine ite_d (fun _ => ?_) fun _ => ?_
    · walk_at "ex"
      refine ite_d (fun y => ?_) fun y => ?_
      · refine i_true (ite_t (i_seq (i_set ?_)))
        walk_at "ex"
        refine i_modp y (i_add ?_)
        refine i_nil (fin (1 + x / 120 % m) _ ?_ ?_ (by walk_at "nm") (by walk_at "nm") (by walk_at "nm") (by walk_at "nm"))
        · have := Int.emod_nonneg (x / 120) (Int.ne_of_gt y); omega
        · have := Int.emod_lt_of_pos (x / 120) y; omega
      · exact ite_f (i_nil (fin m _ h0 (Int.le_refl _) (by walk_at "nm") (by walk_at "nm") (by walk_at "nm") (by walk_at "nm")))
    · exact ite_f (i_nil (fin m _ h0 (Int.le_refl _) (by walk_at "nm") (by walk_at "nm") (by walk_at "nm") (by walk_at "nm")))
theorem even_end {Q : PV → Sto → Prop} {X : Addr → Sto → Prop} (G : GoodL n D) (hd : τ d = some (.list (D.map enc))) (ur : τ r = some (.list (rs.map .int))) (C : CutOk D rs) (f7 : ∀ w, exc D rs w = exc D (D.map (·.2.2)) w) (e1 : ρ "_law_debts_here" = some (.ref d)) (e2 : ρ "_law_room" = some (.ref r))
    (hq : ∀ a cs σ', Ext τ σ' → σ' a = some (.list (cs.map .int)) → CutOk D cs → Even n D cs → Q (.ref a) σ') : tb_law_even_cut_1 ρ τ (funQ Q) (funX X) := by
  have hl1 := le_big G.1
  refine i_seq (i_ret (i_comp (i_call (i_econs (i_call (i_econs (i_name e1 (i_enil (i_lenm hd hl1 (i_enil (i_range ?_)))))))))))
  refine ⟨_, rg_items, ⟨by decide, by decide, by omega, by omega⟩, by rw [rg, List.length_map, List.length_range]; exact Nat.le_trans hl1 (by decide), ?_⟩
  refine compL_all (fun p y => ∀ k : Nat, p = PV.int (0 + (k : Int)) → y = PV.int (amt D k - rs.getD k 0)) rg_items _ [] (fun p hp Q' hQ => ?_) fun ys hys => ?_
  · obtain ⟨k, hk, rfl⟩ := List.mem_map.mp hp
    have hk := List.mem_range.mp hk
    rw [Int.zero_add] at hQ ⊢
    refine i_bin (i_item (i_item (i_name (compR_other (by decide +kernel) (by decide +kernel) e1) (i_name compR_same (i_debt hd hk hl1 (i_const (i_g2 ?_)))))))
    refine i_item (i_name (compR_other (by decide +kernel) (by decide +kernel) e2) (i_name compR_same (i_numk ur (C.1 ▸ hk) (C.1 ▸ hl1) (i_sub (hQ _ fun k' e => ?_)))))
    injection e with e
    rw [Int.zero_add] at e
    rw [Int.ofNat_inj.mp e]
  · rw [List.nil_append, paired_fun hys]
    intro b hb
    refine hq b ((List.range D.length).map fun k => amt D k - rs.getD k 0) _ (Ext.upd hb) (by rw [upd_same, List.map_map]; rfl) ⟨by simp, fun k hk => ?_⟩ fun v hv => ?_
    · rw [getD_map hk]
      have := C.2 k hk
      omega
    · rw [exc_left (n := n) (x := rs) fun k hk => getD_map hk, f7]
      have : exc D (D.map (·.2.2)) (v : Nat) = sm (fun k => amt D k * (ind (cre D k) (v : Nat) - ind (deb D k) (v : Nat))) D.length := sm_congr fun k hk => by rw [amts_at hk]
      rw [this]; omega
theorem p_even_cut {l : Addr} {xs : List Int} {Q : PV → Sto → Prop} {X : Addr → Sto → Prop} (G : GoodL n D) (hd : σ d = some (.list (D.map enc))) (hx : σ l = some (.list (xs.map .int)))
    (hq : ∀ a cs σ', Ext σ σ' → σ' a = some (.list (cs.map .int)) → CutOk D cs → Even n D cs → Q (.ref a) σ') : T_law_even_cut [.ref d, .ref l] σ Q X := by
  have hl := G.1
  unfold T_law_even_cut tb_law_even_cut
  refine i_fun2 (i_seq (i_set (i_comp ?_)))
  walk_at "ex"
  refine ⟨_, items_ref hd, trivial, by rw [List.length_map]; exact Nat.le_trans (le_big hl) (by decide), ?_⟩
  refine compL_all (fun p y => ∀ t, p = enc t → y = PV.int t.2.2) (items_ref hd) _ [] (fun p hp Q' hQ => ?_) fun ys hys => ?_
  · obtain ⟨t, ht, rfl⟩ := List.mem_map.mp hp
    exact i_item (i_name compR_same (i_const (i_g2 (hQ _ fun t' e => by
      simp [enc] at e; rw [e.2.2]))))
  · rw [List.nil_append, paired_amt hys]
    intro r hr
    refine i_seq (i_for ?_)
    walk_at "ex"
    refine ⟨_, items_ref ((Ext.upd hr) _ _ hx), trivial, ?_⟩
    refine forL_step (EvI D d r σ) (fun _ _ _ => False) ?_ ?_ (fun _ _ _ h => h.elim) _ _ _ ?_
    · rintro p ps ρ' σ' Qb ⟨rs, g1, g2, g3, g4, g5, g6, g7⟩ hnx _
      obtain ⟨x, rfl⟩ := g3 p (.head _)
      have hnx' : ∀ ρ' σ', EvI D d r σ ps ρ' σ' → Qb .next ρ' σ' := fun ρ' σ' h => hnx ρ' σ' (by obtain ⟨_, _, _, _, h4, _, _, _⟩ := h; exact items_ref (h4 _ _ hx)) h
      refine i_seq (i_set (i_call ?_))
      walk_at "ex"
      refine p_ring_by (g4 _ _ hd) hl g5 g6.1 fun a js σ1 h0 x1 u1 hN hD hjl ce => ?_
      have har : a ≠ r := by rintro rfl; rw [g5] at h0; cases h0
      refine i_seq (i_if ?_)
      walk_at "ex"
      refine i_lenm (f := fun k : Nat => .int (k : Int)) u1 (le_big hjl) ?_
      walk_at "ex"
      refine ite_d (fun y => ?_) fun y => ?_
      · refine even_most G hr (g4.trans x1) u1 har hjl (by rintro rfl; exact absurd y (by decide)) hN hD (x1 _ _ g5) g6 (fun p hp => g3 p (.tail _ hp)) ce g7 (fun ρ' σ' h => i_nil (hnx' ρ' σ' h)) (by walk_at "nm") (by walk_at "nm") (by walk_at "nm") (by walk_at "nm")
      · exact i_nil (i_nil (hnx' _ _ ⟨rs, by walk_at "nm", by walk_at "nm", fun p hp => g3 p (.tail _ hp), g4.trans x1, x1 _ _ g5, g6, g7⟩))
    · rintro ρ' σ' ⟨rs, g1, g2, g3, g4, g5, g6, g7⟩
      exact even_end G (g4 _ _ hd) g5 g6 g7 g1 g2 fun a cs σ'' x2 => hq a cs σ'' (g4.trans x2)
    · exact ⟨_, by walk_at "nm", by walk_at "nm", fun p hp => by obtain ⟨z, _, rfl⟩ := List.mem_map.mp hp; exact ⟨z, rfl⟩, Ext.upd hr, upd_same, amts_ok G, fun _ => rfl⟩
end

/-! moves, known, last: as values -/
noncomputable def encM (m : Mv) : PV := .tup [.int m.u, .int m.v, .int m.c, .int m.cap, .int (m.num : Nat), .int m.sg]
noncomputable def encK : Option (Int × Int) → PV
  | none => .none
  | some b => .tup [.int b.1, .int b.2]
noncomputable def encT : Option Mv → PV
  | none => .none
  | some m => encM m
section
variable {σ : Sto} {kk : PV → Prop} {a b c d e : PV} {xs : List PV}
theorem i_g3 (h : kk d) : getP σ (.tup (a :: b :: c :: d :: xs)) (.int 3) kk := i_get (by decide) (by decide) rfl trivial rfl h
theorem i_g4 (h : kk e) : getP σ (.tup (a :: b :: c :: d :: e :: xs)) (.int 4) kk := i_get (by decide) (by decide) rfl trivial rfl h
theorem i_g5 {f : PV} (h : kk f) : getP σ (.tup (a :: b :: c :: d :: e :: f :: xs)) (.int 5) kk := i_get (by decide) (by decide) rfl trivial rfl h
end
theorem i_at' {α : Type} {f : α → PV} {K : List α} {z : α} {ka : Addr} {n : Nat} {v : Int} {σ : Sto} {kk : PV → Prop} (hk : σ ka = some (.list (K.map f))) (hl : K.length = n) (hn : n ≤ 1000) (hv : Within n v) (h : kk (f (K.getD v.toNat z))) : getP σ (.ref ka) (.int v) kk := by
  have hv' : v.toNat < K.length := by have := hv.1; have := hv.2; omega
  refine i_get hv.1 (by have := hv.2; omega) (items_ref hk) trivial (x := f (K.getD v.toNat z)) ?_ h
  rw [List.getElem?_map, List.getD, List.getElem?_eq_getElem hv']
  rfl
theorem i_put' {α : Type} {f : α → PV} {K : List α} {z : α} {ka : Addr} {n : Nat} {v : Int} {σ : Sto} {kk : Sto → Prop} (hk : σ ka = some (.list (K.map f))) (hl : K.length = n) (hn : n ≤ 1000) (hv : Within n v) (h : kk (upd σ ka (.list ((K.set v.toNat z).map f)))) : setP σ (.ref ka) (.int v) (f z) kk := by
  refine i_setP hv.1 hk (by rw [List.length_map, hl]; exact hv.2) (by rw [List.length_map, hl]; omega) ?_
  rw [List.map_set] at h
  exact h
theorem mvAt_len {D : List (Int × Int × Int)} {x : List Int} {k : Nat} : (mvAt D x k).length ≤ 2 := by
  unfold mvAt
  split <;> split <;> simp
theorem mvs_len {D : List (Int × Int × Int)} {x : List Int} : ∀ (js : List Nat), (js.flatMap (mvAt D x)).length ≤ 2 * js.length
  | [] => Nat.le_refl _
  | k :: js => by
    rw [List.flatMap_cons, List.length_append, List.length_cons]
    have := mvs_len (D := D) (x := x) js
    have := mvAt_len (D := D) (x := x) (k := k)
    omega
inductive StpI (D : List (Int × Int × Int)) (x : List Int) (d c a : Addr) (σ : Sto) (ps : List PV) (ρ : Env') (σ' : Sto) : Prop
  | mk (ds js : List Nat) : ρ "debts" = some (.ref d) → ρ "cut" = some (.ref c) → ρ "found" = some (.ref a) → ps = rg js → ds ++ js = List.range D.length → σ' = upd σ a (.list ((ds.flatMap (mvAt D x)).map encM)) → StpI D x d c a σ ps ρ σ'
section
variable {n : Nat} {D : List (Int × Int × Int)} {x : List Int} {d c a : Addr} {σ : Sto} {ρ : Env'} {Qb : Fl → Env' → Sto → Prop} {XS : Addr → Env' → Sto → Prop} {zs : List PV} {k : Nat}
theorem stp_back (ha : σ a = none) (hc : σ c = some (.list (x.map .int))) (hk : k < x.length) (hx : x.length ≤ 1000) (hz : zs.length ≤ 1000) (e2 : ρ "cut" = some (.ref c)) (e3 : ρ "found" = some (.ref a)) (e4 : ρ "number" = some (.int (k : Nat))) (e5 : ρ "debt" = some (.tup [.int (deb D k), .int (cre D k), .int (amt D k)]))
    (hq : Qb .next ρ (upd σ a (.list (zs ++ (if x.getD k 0 > 0 then [(⟨cre D k, deb D k, 1, x.getD k 0, k, -1⟩ : Mv)] else []).map encM)))) : tb_steps_3 ρ (upd σ a (.list zs)) Qb XS := by
  have hca : c ≠ a := by rintro rfl; rw [ha] at hc; cases hc
  have hc' := upd_other (o := .list zs) hca hc
  refine i_seq (i_if ?_)
  walk_at "ex"
  refine i_numk hc' hk hx ?_
  walk_at "ex"
  refine ite_d (fun y => ?_) fun y => ?_
  · rw [if_pos y] at hq
    refine i_seq (i_expr (i_meth (i_name e3 ⟨⟨_, upd_same⟩, ?_⟩)))
    walk_at "ex"
    refine i_numk hc' hk hx ?_
    walk_at "ex"
    refine i_append upd_same (by omega) ?_
    rw [upd_upd]
    exact i_nil (i_nil hq)
  · rw [if_neg y] at hq
    have e : zs ++ List.map encM [] = zs := List.append_nil _
    rw [e] at hq
    exact i_nil (i_nil hq)
theorem stp_body (ha : σ a = none) (hd : σ d = some (.list (D.map enc))) (hc : σ c = some (.list (x.map .int))) (hk : k < D.length) (hl : D.length ≤ 1000) (hx : x.length = D.length) (hz : zs.length ≤ 900) (e1 : ρ "debts" = some (.ref d)) (e2 : ρ "cut" = some (.ref c)) (e3 : ρ "found" = some (.ref a)) (e4 : ρ "number" = some (.int (k : Nat)))
    (hq : ∀ ρ', ρ' "debts" = some (.ref d) → ρ' "cut" = some (.ref c) → ρ' "found" = some (.ref a) → Qb .next ρ' (upd σ a (.list (zs ++ (mvAt D x k).map encM)))) : tb_steps_6 ρ (upd σ a (.list zs)) Qb XS := by
  have hca : c ≠ a := by rintro rfl; rw [ha] at hc; cases hc
  have hda : d ≠ a := by rintro rfl; rw [ha] at hd; cases hd
  have hc' := upd_other (o := .list zs) hca hc
  have hd' := upd_other (o := .list zs) hda hd
  refine i_seq (i_set ?_)
  walk_at "ex"
  refine i_debt hd' hk hl ?_
  refine i_seq (i_if ?_)
  walk_at "ex"
  refine i_numk hc' (by omega) (by omega) ?_
  walk_at "ex"
  have fin : ∀ (A : List PV), A.length ≤ 1 → A = (if x.getD k 0 < amt D k then [(⟨deb D k, cre D k, -1, amt D k - x.getD k 0, k, 1⟩ : Mv)] else []).map encM → tb_steps_3 (setL ρ "debt" (.tup [.int (deb D k), .int (cre D k), .int (amt D k)])) (upd σ a (.list (zs ++ A))) Qb XS := fun A hA eA => by
    refine stp_back (D := D) (k := k) ha hc (by omega) (by omega) (by rw [List.length_append]; omega) (by walk_at "nm") (by walk_at "nm") (by walk_at "nm") (by walk_at "nm") ?_
    have := hq (setL ρ "debt" (.tup [.int (deb D k), .int (cre D k), .int (amt D k)])) (by walk_at "nm") (by walk_at "nm") (by walk_at "nm")
    unfold mvAt at this
    rw [List.map_append, ← eA, ← List.append_assoc] at this
    exact this
  refine ite_d (fun y => ?_) fun y => ?_
  · refine i_seq (i_expr (i_meth (i_name (setL_other (by decide +kernel) e3) ⟨⟨_, upd_same⟩, ?_⟩)))
    walk_at "ex"
    refine i_numk hc' (by omega) (by omega) ?_
    walk_at "ex"
    refine i_append upd_same (by omega) ?_
    rw [upd_upd]
    refine i_nil ?_
    exact fin _ (Nat.le_refl 1) (by rw [if_pos y]; rfl)
  · refine i_nil ?_
    have := fin [] (Nat.zero_le _) (by rw [if_neg y]; rfl)
    rw [List.append_nil] at this
    exact this
theorem p_steps {Q : PV → Sto → Prop} {X : Addr → Sto → Prop} (hd : σ d = some (.list (D.map enc))) (hc : σ c = some (.list (x.map .int))) (hl : D.length ≤ 40) (hx : x.length = D.length)
    (hq : ∀ a, σ a = none → Q (.ref a) (upd σ a (.list ((moves D x).map encM)))) : T_steps [.ref d, .ref c] σ Q X := by
  unfold T_steps tb_steps
  refine i_fun2 (i_seq (i_set ?_))
  walk_at "ex"
  intro a ha
  have hda : d ≠ a := by rintro rfl; rw [ha] at hd; cases hd
  refine i_seq (i_for ?_)
  walk_at "ex"
  refine i_lenm (upd_other hda hd) (by omega) ?_
  walk_at "ex"
  refine i_rng (by omega) ?_
  refine forL_step (StpI D x d c a σ) (fun _ _ _ => False) ?_ ?_ (fun _ _ _ h => h.elim) _ _ _ ?_
  · rintro p ps ρ' σ' Qb ⟨ds, js, f1, f2, f3, f4, f5, rfl⟩ hnx _
    cases js with
    | nil => exact (rg_nil f4).elim
    | cons k js =>
      obtain ⟨rfl, rfl⟩ := rg_cons f4
      have hk : k < D.length := by
        have : k ∈ List.range D.length := by rw [← f5]; simp
        exact List.mem_range.mp this
      have hdl : ds.length ≤ 40 := by
        have := congrArg List.length f5
        rw [List.length_append, List.length_range] at this
        omega
      have := mvs_len (D := D) (x := x) ds
      refine stp_body ha hd hc hk (by omega) hx (by rw [List.length_map]; omega) (by walk_at "nm") (by walk_at "nm") (by walk_at "nm") (by walk_at "nm") fun ρ2 g1 g2 g3 => ?_
      refine hnx _ _ rg_items ⟨ds ++ [k], js, g1, g2, g3, rfl, by rw [List.append_assoc]; exact f5, ?_⟩
      rw [List.flatMap_append, List.map_append, List.flatMap_singleton]
  · rintro ρ' σ' ⟨ds, js, f1, f2, f3, f4, f5, rfl⟩
    have : js = [] := by cases js with | nil => rfl | cons k js => cases f4
    subst this
    rw [List.append_nil] at f5
    subst f5
    refine i_seq (i_ret (i_name f3 ?_))
    exact hq a ha
  · exact ⟨[], _, by walk_at "nm", by walk_at "nm", by walk_at "nm", rfl, rfl, rfl⟩
end

/-! cheapest -/
noncomputable def nones (α : Type) (n : Nat) : List (Option α) := List.replicate n none
theorem all_same {q : PV} : ∀ {xs ys : List PV}, Paired (fun _ y => y = q) xs ys → ys = List.replicate xs.length q
  | _, _, .nil => rfl
  | _, _, .cons h r => by rw [h, all_same r]; rfl
theorem c_nones {n : Nat} {x c : Str} {ρ : Env'} {σ : Sto} {Q : PV → Sto → Prop} {X : Addr → Sto → Prop} (e : ρ c = some (.int (n : Nat))) (hn : n ≤ 1000) (hq : ∀ a, σ a = none → Q (.ref a) (upd σ a (.list (List.replicate n .none)))) :
    tComp x [] (tCall (tEcons (tName c) tEnil) rangeF) tTrue (tConst .none) ρ σ Q X := by
  refine i_comp (i_call (i_econs (i_name e (i_enil (i_range ?_)))))
  refine ⟨_, rg_items, ⟨by decide, by decide, by omega, by omega⟩, by rw [rg, List.length_map, List.length_range]; exact Nat.le_trans hn (by decide), ?_⟩
  refine compL_all (fun _ y => y = PV.none) (by rfl) _ [] (fun p hp Q' hQ => hQ _ rfl) fun ys hys => ?_
  rw [List.nil_append, all_same hys, rg, List.length_map, List.length_range]
  exact hq
theorem nonesK {n : Nat} : List.replicate n PV.none = (nones (Int × Int) n).map encK := by unfold nones; rw [List.map_replicate]; rfl
theorem nonesT {n : Nat} : List.replicate n PV.none = (nones Mv n).map encT := by unfold nones; rw [List.map_replicate]; rfl
theorem kv_nones {n : Nat} {v : Int} : kv (nones (Int × Int) n) v = none := by
  unfold kv nones
  rw [List.getD, List.getElem?_replicate]
  split <;> rfl
theorem tv_nones {n : Nat} {v : Int} : tv (nones Mv n) v = none := by
  unfold tv nones
  rw [List.getD, List.getElem?_replicate]
  split <;> rfl
theorem pass_same {M : List Mv} {s : KT} (Z : Settled M s.1) : ∀ (M1 : List Mv), (∀ m ∈ M1, m ∈ M) → M1.foldl relax s = s
  | [], _ => rfl
  | m :: M1, h => by
    have e : relax s m = s := by
      unfold relax
      cases hu : kv s.1 m.u with
      | none => rfl
      | some a =>
        obtain ⟨b, hb, hl⟩ := Z m (h m (.head _)) a hu
        rw [hb]
        exact if_neg hl
    rw [List.foldl_cons, e]
    exact pass_same Z M1 fun q hq => h q (.tail _ hq)
theorem less_irrefl {n : Nat} {p : Int → Int} {B : Int} {K : List (Option (Int × Int))} (h : Less n p B K K) : False := by
  unfold Less at h
  omega
section
variable {n : Nat} {M : List Mv} {S : List Int} {p : Int → Int} {B : Int} {ka la ms : Addr} {σ0 : Sto}
/-- the names and the lists of cheapest -/
structure ChE (n : Nat) (M : List Mv) (ka la ms : Addr) (σ0 : Sto) (K : List (Option (Int × Int))) (T : List (Option Mv)) (b : Bool) (ρ : Env') (σ : Sto) : Prop where
  k : ρ "known" = some (.ref ka)
  l : ρ "last" = some (.ref la)
  m : ρ "moves" = some (.ref ms)
  c : ρ "changing" = some (.bool b)
  uk : σ ka = some (.list (K.map encK))
  ul : σ la = some (.list (T.map encT))
  x : Ext σ0 σ
inductive ChF (n : Nat) (M : List Mv) (S : List Int) (p : Int → Int) (B : Int) (ka la ms : Addr) (σ0 : Sto) (K : List (Option (Int × Int))) (T : List (Option Mv)) (ps : List PV) (ρ : Env') (σ : Sto) : Prop
  | mk (M1 M2 : List Mv) (s' : KT) (f : Bool) : ChE n M ka la ms σ0 s'.1 s'.2 f ρ σ → ps = M2.map encM → M1 ++ M2 = M → s' = M1.foldl relax (K, T) → CPass n M S p B M1 K T s'.1 s'.2 f → ChF n M S p B ka la ms σ0 K T ps ρ σ
inductive ChW (n : Nat) (M : List Mv) (S : List Int) (p : Int → Int) (B : Int) (ka la ms : Addr) (σ0 : Sto) (j : Nat) (ρ : Env') (σ : Sto) : Prop
  | mk (K : List (Option (Int × Int))) (T : List (Option Mv)) (b : Bool) : ChE n M ka la ms σ0 K T b ρ σ → Chp n M S p B K T → (b = true → ∃ i, j = i + 1 ∧ Ends M i (K, T)) → (b = false → Settled M K) → ChW n M S p B ka la ms σ0 j ρ σ
theorem ch_body {m : Mv} {K' : List (Option (Int × Int))} {T' : List (Option Mv)} {f : Bool} {ρ : Env'} {σ : Sto} {Qb : Fl → Env' → Sto → Prop} {XS : Addr → Env' → Sto → Prop} (hn : n ≤ 1000) (hka : σ0 ka = none) (hla : σ0 la = none) (hne : ka ≠ la) (lk : K'.length = n) (lt : T'.length = n) (hu : Within n m.u) (hv : Within n m.v)
    (E : ChE n M ka la ms σ0 K' T' f ρ σ) (em : ρ "move" = some (encM m))
    (keep : (∀ a, kv K' m.u = some a → ∃ b, kv K' m.v = some b ∧ ¬ lexlt (a.1 + m.c, a.2 + 1) b) → relax (K', T') m = (K', T') → ∀ ρ', ChE n M ka la ms σ0 K' T' f ρ' σ → Qb .next ρ' σ)
    (rise : ∀ a, kv K' m.u = some a → (kv K' m.v = none ∨ ∃ b, kv K' m.v = some b ∧ lexlt (a.1 + m.c, a.2 + 1) b) → relax (K', T') m = putKT (K', T') m (a.1 + m.c, a.2 + 1) → ∀ ρ' σ', ChE n M ka la ms σ0 (putKT (K', T') m (a.1 + m.c, a.2 + 1)).1 (putKT (K', T') m (a.1 + m.c, a.2 + 1)).2 true ρ' σ' → Qb .next ρ' σ') :
    tb_cheapest_7 ρ σ Qb XS := by
  obtain ⟨e1, e2, e3, e4, uk, ul, x⟩ := E
  unfold encM at em
  refine i_seq (i_if ?_)
  walk_at "ex"
  refine i_at' (z := none) uk lk hn hu (i_const ?_)
  show cmpP .IsNot σ (encK (kv K' m.u)) .none _
  cases hku : kv K' m.u with
  | none =>
    refine i_isnot ?_
    refine ite_nf (i_nil (i_nil ?_))
    exact keep (fun a e => by rw [hku] at e; cases e) (by unfold relax; dsimp only; rw [hku]) _ ⟨e1, e2, e3, e4, uk, ul, x⟩
  | some a =>
    refine i_isnot ?_
    refine ite_nt ?_
    refine i_seq (i_set ?_)
    walk_at "ex"
    refine i_at' (z := none) uk lk hn hu (i_const ?_)
    show getP σ (encK (kv K' m.u)) (.int 0) _
    rw [hku]
    refine i_g0 ?_
    walk_at "ex"
    refine i_at' (z := none) uk lk hn hu (i_const ?_)
    show getP σ (encK (kv K' m.u)) (.int 1) _
    rw [hku]
    refine i_g1 ?_
    walk_at "ex"
    have up : ∀ ρ', ρ' "known" = some (.ref ka) → ρ' "last" = some (.ref la) → ρ' "moves" = some (.ref ms) → ρ' "move" = some (.tup [.int m.u, .int m.v, .int m.c, .int m.cap, .int (m.num : Nat), .int m.sg]) → ρ' "here" = some (.tup [.int (a.1 + m.c), .int (a.2 + 1)]) → (kv K' m.v = none ∨ ∃ b, kv K' m.v = some b ∧ lexlt (a.1 + m.c, a.2 + 1) b) → relax (K', T') m = putKT (K', T') m (a.1 + m.c, a.2 + 1) → tb_cheapest_4 ρ' σ Qb XS := fun ρ' g1 g2 g3 g4 g5 hr er => by
      refine i_seq (i_store ?_)
      walk_at "ex"
      refine i_put' (f := encK) (z := some (a.1 + m.c, a.2 + 1)) uk lk hn hv ?_
      refine i_seq (i_store ?_)
      walk_at "ex"
      refine i_put' (f := encT) (z := some m) (upd_other (Ne.symm hne) ul) lt hn hv ?_
      refine i_seq (i_set (i_const (i_nil ?_)))
      refine rise a hku hr er _ _ ⟨by walk_at "nm", by walk_at "nm", by walk_at "nm", setL_same, upd_other hne upd_same, upd_same, (x.upd' hka).upd' hla⟩
    refine i_seq (i_if ?_)
    walk_at "ex"
    refine i_at' (z := none) uk lk hn hv (i_const ?_)
    show cmpP .Is σ (encK (kv K' m.v)) .none _
    cases hkv : kv K' m.v with
    | none =>
      refine i_is ?_
      refine ite_t (ite_t ?_)
      exact up _ (by walk_at "nm") (by walk_at "nm") (by walk_at "nm") (by walk_at "nm") (by walk_at "nm") (.inl hkv) (by unfold relax; dsimp only; rw [hku, hkv])
    | some b =>
      refine i_is ?_
      refine ite_f ?_
      walk_at "ex"
      refine i_at' (z := none) uk lk hn hv ?_
      show cmpP .Lt σ _ (encK (kv K' m.v)) _
      rw [hkv]
      refine i_lt2 ?_
      refine ite_d (fun y => ?_) fun y => ?_
      · refine ite_t ?_
        exact up _ (by walk_at "nm") (by walk_at "nm") (by walk_at "nm") (by walk_at "nm") (by walk_at "nm") (.inr ⟨b, hkv, y⟩) (by unfold relax; dsimp only; rw [hku, hkv]; exact if_pos y)
      · refine i_false (ite_f (i_nil (i_nil (i_nil ?_))))
        exact keep (fun a' e => by rw [hku] at e; cases e; exact ⟨b, hkv, y⟩) (by unfold relax; dsimp only; rw [hku, hkv]; exact if_neg y) _ ⟨by walk_at "nm", by walk_at "nm", by walk_at "nm", by walk_at "nm", uk, ul, x⟩
theorem ch_while {QS : Fl → Env' → Sto → Prop} {XS : Addr → Env' → Sto → Prop} {ρ : Env'} {σ : Sto} {K : List (Option (Int × Int))} {T : List (Option Mv)} (hn : n ≤ 1000) (hM : InM n M) (hp : ∀ m ∈ M, p m.v ≤ p m.u + m.c) (hka : σ0 ka = none) (hla : σ0 la = none) (hne : ka ≠ la) (hms : σ0 ms = some (.list (M.map encM)))
    (E : ChE n M ka la ms σ0 K T true ρ σ) (C : Chp n M S p B K T) (hq : ∀ ρ' σ' K' T', ChE n M ka la ms σ0 K' T' false ρ' σ' → Chp n M S p B K' T' → Settled M K' → QS .next ρ' σ') : tWhile (tTest (tName "changing")) tb_cheapest_9 ρ σ QS XS := by
  obtain ⟨i0, h0⟩ := ends_some hM hp (s := (K, T)) C
  refine i_while (ChW n M S p B ka la ms σ0) (fun _ _ _ => False) (i0 + 1) ⟨K, T, true, E, C, fun _ => ⟨i0, rfl, h0⟩, fun h => by cases h⟩ ?_ (fun _ _ _ h => h.elim)
  rintro j ρ' σ' Qb ⟨K', T', b, E', C', hb, hb'⟩ hnx _
  refine i_test (i_name E'.c ?_)
  cases b with
  | false => exact ite_f (hq ρ' σ' K' T' E' C' (hb' rfl))
  | true =>
    obtain ⟨i, rfl, hi⟩ := hb rfl
    refine ite_t ?_
    obtain ⟨e1, e2, e3, e4, uk, ul, x⟩ := E'
    refine i_seq (i_set (i_const ?_))
    refine i_seq (i_for (i_name (by walk_at "nm") ⟨_, items_ref (x _ _ hms), trivial, ?_⟩))
    refine forL_step (ChF n M S p B ka la ms σ0 K' T') (fun _ _ _ => False) ?_ ?_ (fun _ _ _ h => h.elim) _ _ _ ?_
    · rintro q ps ρ2 σ2 Qc ⟨M1, M2, s', f, E2, f2, f3, f4, P⟩ hnx2 _
      cases M2 with
      | nil => cases f2
      | cons m M2 =>
        injection f2 with f2 f5
        subst f2 f5
        have hmM : m ∈ M := by rw [← f3]; exact List.mem_append_right _ (.head _)
        obtain ⟨wu, wv⟩ := hM m hmM
        obtain ⟨g1, g2, g3, g4, vk, vl, y⟩ := E2
        have f3' : (M1 ++ [m]) ++ M2 = M := by rw [List.append_assoc]; exact f3
        have f6 : ∀ s'', relax s' m = s'' → s'' = (M1 ++ [m]).foldl relax (K', T') := fun s'' e => by rw [List.foldl_append, ← f4, ← e]; rfl
        refine ch_body (M := M) hn hka hla hne P.inv.lenK P.inv.lenT wu wv ⟨by walk_at "nm", by walk_at "nm", by walk_at "nm", by walk_at "nm", vk, vl, y⟩ setL_same (fun hk er ρ3 E3 => ?_) fun a ha hr er ρ3 σ3 E3 => ?_
        · exact hnx2 _ _ (items_ref (y _ _ hms)) ⟨M1 ++ [m], M2, s', f, E3, rfl, f3', f6 s' er, P.keep hk⟩
        · exact hnx2 _ _ (items_ref (E3.x _ _ hms)) ⟨M1 ++ [m], M2, _, true, E3, rfl, f3', f6 _ er, P.rise hM hp hmM ha hr⟩
    · rintro ρ2 σ2 ⟨M1, M2, s', f, E2, f2, f3, f4, P⟩
      have : M2 = [] := by cases M2 with | nil => rfl | cons k js => cases f2
      subst this
      rw [List.append_nil] at f3
      subst f3
      refine i_nil ?_
      cases f with
      | false =>
        rcases P.flag with ⟨_, k1, k2, k3⟩ | ⟨k, _⟩
        · exact hnx 0 ρ2 σ2 (Nat.succ_pos _) ⟨s'.1, s'.2, false, E2, P.inv, fun h => (by cases h), fun _ => by rw [k1]; exact k3⟩
        · cases k
      | true =>
        have hlt : Less n p B s'.1 K' := by
          rcases P.flag with ⟨k, _⟩ | ⟨_, k⟩
          · cases k
          · exact k
        cases hi with
        | here hz =>
          have := pass_same (s := (K', T')) hz M1 fun m hm => hm
          rw [this] at f4
          rw [f4] at hlt
          exact (less_irrefl hlt).elim
        | later hl =>
          rename_i i
          refine hnx (i + 1) ρ2 σ2 (Nat.lt_succ_self _) ⟨s'.1, s'.2, true, E2, P.inv, fun _ => ⟨i, rfl, ?_⟩, fun h => by cases h⟩
          have e : pass M1 (K', T') = (s'.1, s'.2) := by unfold pass; rw [← f4]
          rw [← e]; exact hl
    · exact ⟨[], M, (K', T'), false, ⟨by walk_at "nm", by walk_at "nm", by walk_at "nm", setL_same, uk, ul, x⟩, rfl, rfl, rfl, CPass.nil C'⟩
inductive ChS (n : Nat) (S : List Int) (ka la ms ss : Addr) (σ0 : Sto) (ps : List PV) (ρ : Env') (σ : Sto) : Prop
  | mk (S1 S2 : List Int) (K : List (Option (Int × Int))) : ρ "known" = some (.ref ka) → ρ "last" = some (.ref la) → ρ "moves" = some (.ref ms) → σ ka = some (.list (K.map encK)) → σ la = some (.list ((nones Mv n).map encT)) → Ext σ0 σ → ps = S2.map .int → S1 ++ S2 = S → K.length = n → (∀ s ∈ S1, kv K s = some (0, 0)) → (∀ v b, Within n v → kv K v = some b → v ∈ S ∧ b = (0, 0)) → ChS n S ka la ms ss σ0 ps ρ σ
theorem p_cheapest {ss : Addr} {σ : Sto} {Q : PV → Sto → Prop} {X : Addr → Sto → Prop} (hn : n ≤ 1000) (hM : InM n M) (hS : ∀ s ∈ S, Within n s) (hp : ∀ m ∈ M, p m.v ≤ p m.u + m.c) (hms : σ ms = some (.list (M.map encM))) (hss : σ ss = some (.list (S.map .int)))
    (hq : ∀ B ka la K T σ', Ext σ σ' → σ' ka = some (.list (K.map encK)) → σ' la = some (.list (T.map encT)) → Chp n M S p B K T → Settled M K → Q (.tup [.ref ka, .ref la]) σ') : T_cheapest [.int (n : Nat), .ref ms, .ref ss] σ Q X := by
  obtain ⟨Z, hZ⟩ := bound_ex p n
  unfold T_cheapest tb_cheapest
  refine i_fun3 (i_seq (i_set (c_nones (by walk_at "nm") hn fun ka hka => ?_)))
  refine i_seq (i_set (c_nones (by walk_at "nm") hn fun la hla => ?_))
  obtain ⟨hne', hla0⟩ := upd_none hla
  have hne : ka ≠ la := Ne.symm hne'
  have x0 : Ext σ (upd (upd σ ka (.list (List.replicate n .none))) la (.list (List.replicate n .none))) := (Ext.upd hka).trans (Ext.upd hla)
  refine i_seq (i_for (i_name (by walk_at "nm") ⟨_, items_ref (x0 _ _ hss), trivial, ?_⟩))
  refine forL_step (ChS n S ka la ms ss σ) (fun _ _ _ => False) ?_ ?_ (fun _ _ _ h => h.elim) _ _ _ ?_
  · rintro q ps ρ' σ' Qb ⟨S1, S2, K, f1, f2, f3, f4, f5, f6, f7, f8, f9, f10, f11⟩ hnx _
    cases S2 with
    | nil => cases f7
    | cons s S2 =>
      injection f7 with f7 f12
      subst f7 f12
      have hsS : s ∈ S := by rw [← f8]; exact List.mem_append_right _ (.head _)
      have hws := hS s hsS
      refine i_seq (i_store ?_)
      walk_at "ex"
      refine i_put' (f := encK) (z := some (0, 0)) f4 f9 hn hws ?_
      have x' : Ext σ (upd σ' ka (.list ((K.set s.toNat (some (0, 0))).map encK))) := f6.upd' hka
      refine i_nil (hnx _ _ (items_ref (x' _ _ hss)) ⟨S1 ++ [s], S2, _, by walk_at "nm", by walk_at "nm", by walk_at "nm", upd_same, upd_other (Ne.symm hne) f5, x', rfl, by rw [List.append_assoc]; exact f8, by rw [List.length_set]; exact f9, fun t ht => ?_, fun v b hv e => ?_⟩)
      · have htw : Within n t := hS t (by
          rw [← f8]
          rcases List.mem_append.mp ht with h | h
          · exact List.mem_append_left _ h
          · rw [List.mem_singleton] at h; subst h; exact List.mem_append_right _ (.head _))
        rw [kv_set f9 hws htw]
        split
        · rfl
        · rename_i k
          rcases List.mem_append.mp ht with h | h
          · exact f10 t h
          · rw [List.mem_singleton] at h; exact absurd h.symm k
      · rw [kv_set f9 hws hv] at e
        split at e
        · rename_i k; cases e; rw [← k]; exact ⟨hsS, rfl⟩
        · exact f11 v b hv e
  · rintro ρ' σ' ⟨S1, S2, K, f1, f2, f3, f4, f5, f6, f7, f8, f9, f10, f11⟩
    have : S2 = [] := by cases S2 with | nil => rfl | cons k js => cases f7
    subst this
    rw [List.append_nil] at f8
    subst f8
    refine i_seq (i_set (i_const ?_))
    refine i_seq (ch_while (K := K) (T := nones Mv n) (B := -Z) (p := p) (S := S1) (σ0 := σ) hn hM hp hka hla0 hne hms ⟨by walk_at "nm", by walk_at "nm", by walk_at "nm", setL_same, f4, f5, f6⟩ (chp_start f9 (by simp [nones]) (fun v => tv_nones) (fun s hs => ⟨hS s hs, f10 s hs⟩) f11 fun v hv => by have := hZ v hv; omega) fun ρ2 σ2 K2 T2 E2 C2 Z2 => ?_)
    refine i_seq (i_ret ?_)
    obtain ⟨g1, g2, g3, g4, vk, vl, y⟩ := E2
    walk_at "ex"
    exact hq _ ka la K2 T2 σ2 y vk vl C2 Z2
  · refine ⟨[], S, nones (Int × Int) n, by walk_at "nm", by walk_at "nm", by walk_at "nm", ?_, ?_, x0, rfl, rfl, by simp [nones], fun s hs => (nomatch hs), fun v b _ e => (by rw [kv_nones] at e; cases e)⟩
    · rw [← nonesK]; exact upd_other hne upd_same
    · rw [← nonesT]; exact upd_same
end

theorem nodup_bound : ∀ (N : Nat) (l : List Nat), l.Nodup → (∀ x ∈ l, x < N) → l.length ≤ N
  | 0, [], _, _ => Nat.le_refl _
  | 0, x :: l, _, h => absurd (h x (.head _)) (Nat.not_lt_zero x)
  | N + 1, l, hn, h => by
    by_cases hm : N ∈ l
    · have := nodup_bound N (l.erase N) (hn.erase _) fun x hx => by
        obtain ⟨h1, h2⟩ := hn.mem_erase_iff.mp hx
        have := h x h2
        omega
      rw [List.length_erase_of_mem hm] at this
      omega
    · have := nodup_bound N l hn fun x hx => by
        have := h x hx
        have : x ≠ N := by rintro rfl; exact hm hx
        omega
      omega
section
variable {n : Nat} {D : List (Int × Int × Int)} {x : List Int} {S : List Int} {p : Int → Int} {B : Int} {K : List (Option (Int × Int))} {T : List (Option Mv)} {la : Addr} {σ : Sto}
theorem row_len {e h : Int} {row : List Mv} (C : Chp n (moves D x) S p B K T) (Z : Settled (moves D x) K) (R : RowTo n T e row h) : row.length ≤ D.length := by
  obtain ⟨r1, r2⟩ := row_facts C Z R
  have := nodup_bound D.length (row.map Mv.num) r2 fun k hk => by
    obtain ⟨m, hm, rfl⟩ := List.mem_map.mp hk
    exact (mem_moves.mp (r1 m hm).1).1
  rwa [List.length_map] at this
inductive RtW (n : Nat) (T : List (Option Mv)) (K : List (Option (Int × Int))) (la w : Addr) (e : Int) (σ0 : Sto) (j : Nat) (ρ : Env') (σ : Sto) : Prop
  | mk (row : List Mv) (h : Int) : ρ "last" = some (.ref la) → ρ "house" = some (.int h) → ρ "row" = some (.ref w) → σ = upd σ0 w (.list (row.map encM)) → RowTo n T e row h → Within n h → kv K h ≠ none → j = (stp K h).toNat → RtW n T K la w e σ0 j ρ σ
theorem p_row_to {e : Int} {Q : PV → Sto → Prop} {X : Addr → Sto → Prop} (hn : n ≤ 1000) (G : GoodL n D) (C : Chp n (moves D x) S p B K T) (Z : Settled (moves D x) K) (hl : σ la = some (.list (T.map encT))) (he : Within n e) (hk : kv K e ≠ none)
    (hq : ∀ w row h, σ w = none → RowTo n T e row h → Within n h → tv T h = none → kv K h ≠ none → Q (.ref w) (upd σ w (.list (row.map encM)))) : T_row_to [.ref la, .int e] σ Q X := by
  unfold T_row_to tb_row_to
  refine i_fun2 (i_seq (i_set ?_))
  walk_at "ex"
  intro w hw
  have hlw : la ≠ w := by rintro rfl; rw [hw] at hl; cases hl
  refine i_seq ?_
  refine i_while (RtW n T K la w e σ) (fun _ _ _ => False) (stp K e).toNat ⟨[], e, by walk_at "nm", by walk_at "nm", by walk_at "nm", rfl, .nil, he, hk, rfl⟩ ?_ (fun _ _ _ h => h.elim)
  rintro j ρ' σ' Qb ⟨row, h, f1, f2, f3, rfl, f5, f6, f7, rfl⟩ hnx _
  have hl' := upd_other (o := .list (row.map encM)) hlw hl
  have hrl := row_len C Z f5
  have hD := G.1
  walk_at "ex"
  refine i_at' (z := none) hl' C.lenT hn f6 (i_const ?_)
  show cmpP .IsNot _ (encT (tv T h)) .none _
  cases ht : tv T h with
  | none =>
    refine i_isnot ?_
    refine ite_nf ?_
    refine i_seq (i_ret (i_name f3 ?_))
    exact hq w row h hw f5 f6 ht f7
  | some m =>
    obtain ⟨g1, g2, a, g3, g4⟩ := tight C Z f6 ht
    obtain ⟨wu, wv⟩ := moves_in G m g1
    refine i_isnot ?_
    rw [show isNone (encT (some m)) = false from rfl]
    refine ite_nt ?_
    refine i_seq (i_expr (i_meth (i_name f3 ⟨⟨_, upd_same⟩, ?_⟩)))
    walk_at "ex"
    refine i_at' (z := none) hl' C.lenT hn f6 ?_
    walk_at "ex"
    refine i_append upd_same (by rw [List.length_map]; omega) ?_
    rw [upd_upd]
    have er : row.map encM ++ [encT (T.getD h.toNat none)] = (row ++ [m]).map encM := by
      rw [List.map_append]
      show _ ++ [encT (tv T h)] = _
      rw [ht]; rfl
    rw [er]
    refine i_seq (i_set ?_)
    walk_at "ex"
    refine i_at' (z := none) (upd_other hlw hl) C.lenT hn f6 (i_const ?_)
    show getP _ (encT (tv T h)) (.int 0) _
    rw [ht]
    refine i_g0 ?_
    have s1 : stp K h = a.2 + 1 := by unfold stp; rw [g4]
    have s2 : stp K m.u = a.2 := by unfold stp; rw [g3]
    have s3 := (C.lo m.u a wu g3).2
    refine i_nil (hnx (stp K m.u).toNat _ _ (by omega) ⟨row ++ [m], m.u, by walk_at "nm", setL_same, by walk_at "nm", rfl, .snoc f5 f6 ht, wu, by rw [g3]; exact fun h => (nomatch h), rfl⟩)
end
section
variable {n : Nat} {D : List (Int × Int × Int)} {cs : List Int} {d c : Addr} {σ : Sto} {Q : PV → Sto → Prop} {X : Addr → Sto → Prop}
theorem p_surplus (hn : n ≤ 1000) (hd : σ d = some (.list (D.map enc))) (G : GoodL n D) (hc : σ c = some (.list (cs.map .int))) (C : CutOk D cs) (hq : ∀ a σ', Ext σ σ' → σ' a = some (.list ((bals n (parts D cs)).map .int)) → Q (.ref a) σ') : T_surplus [.int (n : Nat), .ref d, .ref c] σ Q X := by
  unfold T_surplus tb_surplus
  refine i_fun3 (i_seq (i_ret (i_call (i_econs (i_name (by walk_at "nm") (i_econs ?_))))))
  refine c_parts (by decide +kernel) (by decide +kernel) hd G hc C (by walk_at "nm") (by walk_at "nm") (fun a ha => ?_) (by decide +kernel) (by decide +kernel)
  refine i_enil ?_
  refine p_balances hn upd_same (parts_in G) fun b hb => ?_
  exact hq b _ ((Ext.upd ha).trans (Ext.upd hb)) upd_same
end

/-! best -/
noncomputable abbrev LamS (σ : Sto) : Prop := LamOk lamP lamPos lamQual σ
theorem LamS.raw {σ : Sto} (h : LamS σ) : ∃ o, σ lamP = some (.raw o) := by
  rcases h with h | ⟨_, _, _, _, h, _⟩
  · exact ⟨_, h⟩
  · exact ⟨_, h⟩
theorem LamS.ext {σ σ' : Sto} (h : LamS σ) (x : Ext σ σ') : LamS σ' := by
  rcases h with h | ⟨c', oc, vs, t, h1, h2, h3⟩
  · exact .inl (x _ _ h)
  · exact .inr ⟨c', oc, vs, t, x _ _ h1, x _ _ h2, h3⟩
theorem LamS.put {σ : Sto} {a : Addr} {xs ys : List PV} (h : LamS σ) (e : σ a = some (.list xs)) : LamS (upd σ a (.list ys)) := by
  have ne : ∀ {b : Addr} {o : Obj}, σ b = some (.raw o) → b ≠ a := fun hb k => by rw [k, e] at hb; cases hb
  rcases h with h | ⟨c', oc, vs, t, h1, h2, h3⟩
  · exact .inl (upd_other (ne h) h)
  · exact .inr ⟨c', oc, vs, t, upd_other (ne h1) h1, upd_other (ne h2) h2, h3⟩
theorem LamS.ne {σ : Sto} {a : Addr} {xs : List PV} (h : LamS σ) (e : σ a = some (.list xs)) : a ≠ lamP := by
  rintro rfl
  obtain ⟨o, h⟩ := h.raw
  rw [e] at h; cases h
theorem ButP.ext {P : Addr} {σ σ' σ'' : Sto} (b : ButP P σ σ') (x : Ext σ' σ'') : ButP P σ σ'' := fun a o n e => x _ _ (b a o n e)
theorem ButP.trans {P : Addr} {σ σ' σ'' : Sto} (b : ButP P σ σ') (b' : ButP P σ' σ'') : ButP P σ σ'' := fun a o n e => b' a o n (b a o n e)
theorem Ext.but {P : Addr} {σ σ' : Sto} (x : Ext σ σ') : ButP P σ σ' := fun a o _ e => x _ _ e
theorem ButP.put {P a : Addr} {σ σ' : Sto} {o : AO} (b : ButP P σ σ') (h : σ a = none) : ButP P σ (upd σ' a o) := fun z q n e => upd_other (by rintro rfl; rw [h] at e; cases e) (b z q n e)
section
variable {n : Nat} {D : List (Int × Int × Int)} {x : List Int} {d c o : Addr} {σ0 σ : Sto} {ρ : Env'} {Qb : Fl → Env' → Sto → Prop} {XS : Addr → Env' → Sto → Prop}
structure BeE (n : Nat) (D : List (Int × Int × Int)) (d c o : Addr) (x : List Int) (σ0 : Sto) (ρ : Env') (σ : Sto) : Prop where
  cnt : ρ "count" = some (.int (n : Nat))
  deb : ρ "debts" = some (.ref d)
  cut : ρ "cut" = some (.ref c)
  over : ρ "over" = some (.ref o)
  ud : σ d = some (.list (D.map enc))
  uc : σ c = some (.list (x.map .int))
  uo : σ o = some (.list ((bals n (parts D x)).map .int))
  but : ButP lamP σ0 σ
  lam : LamS σ
inductive BeW (n : Nat) (D : List (Int × Int × Int)) (d c : Addr) (σ0 : Sto) (j : Nat) (ρ : Env') (σ : Sto) : Prop
  | mk (x : List Int) (o : Addr) (p : Int → Int) : BeE n D d c o x σ0 ρ σ → CutOk D x → Pot D x p → j = (phi n D x).toNat → BeW n D d c σ0 j ρ σ
inductive AddI (D : List (Int × Int × Int)) (n : Nat) (c d : Addr) (a : Int) (R : List Int) (row : List Mv) (σ0 : Sto) (ps : List PV) (ρ : Env') (σ : Sto) : Prop
  | mk (r2 : List Mv) (y : List Int) : ρ "count" = some (.int (n : Nat)) → ρ "debts" = some (.ref d) → ρ "cut" = some (.ref c) → ρ "amount" = some (.int a) → ps = r2.map encM → y.length = D.length → addRow a y r2 = R → addRow a y r2 = R → σ = upd σ0 c (.list (y.map .int)) → (∀ m ∈ r2, m ∈ row) → AddI D n c d a R row σ0 ps ρ σ
theorem over_at {v : Int} {kk : PV → Prop} (hn : n ≤ 1000) (G : GoodL n D) (uo : σ o = some (.list ((bals n (parts D x)).map .int))) (hv : Within n v) (h : kk (.int (exc D x v))) : getP σ (.ref o) (.int v) kk := by
  refine i_at' (f := PV.int) (z := 0) uo (bals_len (by simp [zeros])) hn hv ?_
  rw [← bals_at G hv] at h
  exact h
/-- the row is added, what is over told anew -/
theorem be_add {row : List Mv} {a : Int} {w : Addr} (hn : n ≤ 1000) (G : GoodL n D) (Cx : CutOk D x) (C' : CutOk D (addRow a x row)) (hw : σ w = some (.list (row.map encM))) (hwc : w ≠ c) (hdc : d ≠ c) (hsg : ∀ m ∈ row, m.num < D.length ∧ (m.sg = 1 ∨ m.sg = -1)) (hc0 : σ0 c = none)
    (e1 : ρ "count" = some (.int (n : Nat))) (e2 : ρ "debts" = some (.ref d)) (e3 : ρ "cut" = some (.ref c)) (e4 : ρ "row" = some (.ref w)) (e5 : ρ "amount" = some (.int a)) (ud : σ d = some (.list (D.map enc))) (uc : σ c = some (.list (x.map .int))) (but : ButP lamP σ0 σ) (lam : LamS σ)
    (hq : ∀ ρ' σ' o', BeE n D d c o' (addRow a x row) σ0 ρ' σ' → Qb .next ρ' σ') : tb_best_4 ρ σ Qb XS := by
  have hD := G.1
  refine i_seq (i_for (i_name e4 ⟨_, items_ref hw, trivial, ?_⟩))
  refine forL_step (AddI D n c d a (addRow a x row) row σ) (fun _ _ _ => False) ?_ ?_ (fun _ _ _ h => h.elim) _ _ _ ?_
  · rintro q ps ρ' σ' Qc ⟨r2, y, f1, f2, f3, f4, f5, f6, f7, f8, rfl, f10⟩ hnx _
    cases r2 with
    | nil => cases f5
    | cons m r2 =>
      injection f5 with f5 f11
      subst f5 f11
      obtain ⟨h1, h2⟩ := hsg m (f10 m (.head _))
      have hy : m.num < y.length := by rw [f6]; exact h1
      have em : setL ρ' "move" (encM m) "move" = some (.tup [.int m.u, .int m.v, .int m.c, .int m.cap, .int (m.num : Nat), .int m.sg]) := setL_same
      refine i_seq (i_store (i_bin (i_item ?_)))
      walk_at "ex"
      refine i_g4 ?_
      refine i_numk upd_same hy (by omega) ?_
      walk_at "ex"
      refine i_g5 ?_
      walk_at "ex"
      refine i_mul (.inl (by rcases h2 with h | h <;> rw [h] <;> decide)) ?_
      walk_at "ex"
      refine i_g4 ?_
      refine i_put upd_same ⟨Int.natCast_nonneg _, Int.ofNat_lt.mpr hy⟩ (by omega) ?_
      rw [upd_upd, Int.toNat_natCast]
      refine i_nil (hnx _ _ (items_ref (upd_other hwc hw)) ⟨r2, _, by walk_at "nm", by walk_at "nm", by walk_at "nm", by walk_at "nm", rfl, by rw [List.length_set]; exact f6, f8, f8, rfl, fun m' hm' => f10 m' (.tail _ hm')⟩)
  · rintro ρ' σ' ⟨r2, y, f1, f2, f3, f4, f5, f6, f7, f8, rfl, f10⟩
    have : r2 = [] := by cases r2 with | nil => rfl | cons k js => cases f5
    subst this
    have f7 : y = addRow a x row := f7
    subst f7
    refine i_seq (i_set ?_)
    walk_at "ex"
    refine p_surplus hn (upd_other hdc ud) G upd_same C' fun o' σ2 x2 u2 => ?_
    exact i_nil (hq _ σ2 o' ⟨by walk_at "nm", by walk_at "nm", by walk_at "nm", setL_same, x2 _ _ (upd_other hdc ud), x2 _ _ upd_same, u2, (but.put hc0).ext x2, (lam.put uc).ext x2⟩)
  · exact ⟨row, x, e1, e2, e3, e5, rfl, Cx.1, rfl, rfl, (upd_self uc).symm, fun m hm => hm⟩
end

section
variable {n : Nat} {D : List (Int × Int × Int)} {x : List Int} {d c o : Addr} {σ0 σ : Sto} {ρ : Env'} {Qb : Fl → Env' → Sto → Prop} {XS : Addr → Env' → Sto → Prop} {S : List Int} {p : Int → Int} {B : Int} {K : List (Option (Int × Int))} {T : List (Option Mv)}
theorem row_last {e h : Int} {row : List Mv} (R : RowTo n T e row h) (hr : row ≠ []) : ∃ m, row[row.length - 1]? = some m ∧ m.u = h := by
  cases R with
  | nil => exact absurd rfl hr
  | snoc R hw ht =>
    rename_i row h m
    exact ⟨m, by simp, rfl⟩
theorem row_nil {e h : Int} {row : List Mv} (R : RowTo n T e row h) (hr : row = []) : h = e := by
  cases R with
  | nil => rfl
  | snoc R hw ht => exact absurd hr (by simp)
theorem cap_pos {m : Mv} (h : m ∈ moves D x) : 1 ≤ m.cap := by
  obtain ⟨_, h⟩ := mem_moves.mp h
  rcases h with ⟨y, h⟩ | ⟨y, h⟩
  · rw [h]; show 1 ≤ amt D m.num - x.getD m.num 0; omega
  · rw [h]; show 1 ≤ x.getD m.num 0; omega
theorem sg_one {m : Mv} (h : m ∈ moves D x) : m.num < D.length ∧ (m.sg = 1 ∨ m.sg = -1) := by
  obtain ⟨k, h⟩ := mem_moves.mp h
  rcases h with ⟨y, h⟩ | ⟨y, h⟩
  · exact ⟨k, .inl (by rw [h])⟩
  · exact ⟨k, .inr (by rw [h])⟩
theorem paired_cap : ∀ {row : List Mv} {ys : List PV}, Paired (fun p y => ∀ m, p = encM m → y = PV.int m.cap) (row.map encM) ys → ys = (row.map Mv.cap).map PV.int
  | [], ys, h => by cases h; rfl
  | m :: row, _, .cons h r => by rw [h m rfl, paired_cap r]; rfl
theorem encM_cap {m m' : Mv} (h : encM m = encM m') : m.cap = m'.cap := by
  unfold encM at h
  injection h with h
  injection h with _ h
  injection h with _ h
  injection h with _ h
  injection h with h _
  injection h
/-- from the amount on -/
theorem be_amount {e h : Int} {row : List Mv} {w : Addr} (hn : n ≤ 1000) (G : GoodL n D) (Cx : CutOk D x) (C : Chp n (moves D x) S p B K T) (Z : Settled (moves D x) K) (R : RowTo n T e row h) (hr : row ≠ []) (he : Within n e) (hh : Within n h) (xe : exc D x e < 0) (xh : 0 < exc D x h) (hc0 : σ0 c = none)
    (hw : σ w = some (.list (row.map encM))) (hwc : w ≠ c) (hdc : d ≠ c) (E : BeE n D d c o x σ0 ρ σ) (e4 : ρ "row" = some (.ref w)) (e5 : ρ "end" = some (.int e))
    (hq : ∀ a ρ' σ' o', 1 ≤ a → (∀ m ∈ row, a ≤ m.cap) → a ≤ exc D x h → exc D x e + a ≤ 0 → BeE n D d c o' (addRow a x row) σ0 ρ' σ' → Qb .next ρ' σ') : tb_best_5 ρ σ Qb XS := by
  obtain ⟨g1, g2, g3, g4, ud, uc, uo, but, lam⟩ := E
  obtain ⟨r1, r2⟩ := row_facts C Z R
  have hrl := row_len C Z R
  have hD := G.1
  obtain ⟨ml, hml, hmu⟩ := row_last R hr
  refine i_seq (i_set (i_call (i_econs (i_bin (i_comp (i_name e4 ⟨_, items_ref hw, trivial, by rw [List.length_map]; exact Nat.le_trans hrl (Nat.le_trans hD (by decide)), ?_⟩))))))
  refine compL_all (fun p y => ∀ m, p = encM m → y = PV.int m.cap) (items_ref hw) _ [] (fun q hq' Q' hQ => ?_) fun ys hys => ?_
  · obtain ⟨m, hm, rfl⟩ := List.mem_map.mp hq'
    refine i_item (i_name compR_same (i_const ?_))
    exact i_g3 (hQ _ fun m' e => by rw [encM_cap e])
  · rw [List.nil_append, paired_cap hys]
    intro b hb
    generalize hσ1 : upd σ b _ = σ1
    obtain ⟨x1, u1⟩ := al hσ1 hb
    walk_at "ex"
    refine i_getn (by decide) (by decide) (items_ref (x1 _ _ hw)) trivial (x := encM ml) (by rw [List.length_map]; have := List.length_pos_iff.mpr hr; omega) ?_ ?_
    · rw [List.length_map, List.getElem?_map]
      have : (-1 + (row.length : Int)).toNat = row.length - 1 := by omega
      rw [this, hml]; rfl
    walk_at "ex"
    refine i_g0 ?_
    rw [hmu]
    refine over_at hn G (x1 _ _ uo) hh ?_
    walk_at "ex"
    refine over_at hn G (x1 _ _ uo) he ?_
    walk_at "ex"
    intro b2 hb2
    generalize hσ2 : upd σ1 b2 _ = σ2
    obtain ⟨x2, u2⟩ := al hσ2 hb2
    have e12 : (row.map Mv.cap).map PV.int ++ [PV.int (exc D x h), .int (0 - exc D x e)] = (row.map Mv.cap ++ [exc D x h, 0 - exc D x e]).map PV.int := by rw [List.map_append]; rfl
    refine i_cat (x2 _ _ u1) u2 (by rw [List.length_append, List.length_map, List.length_map]; show row.length + 2 ≤ 1000000; omega) fun b3 hb3 => ?_
    rw [e12]
    generalize hσ3 : upd σ2 b3 _ = σ3
    obtain ⟨x3, u3⟩ := al hσ3 hb3
    refine i_enil (i_minL u3 (by simp) fun a ha hmin => ?_)
    have xa := x1.trans (x2.trans x3)
    have a1 : ∀ m ∈ row, a ≤ m.cap := fun m hm => hmin _ (List.mem_append_left _ (List.mem_map.mpr ⟨m, hm, rfl⟩))
    have a2 : a ≤ exc D x h := hmin _ (List.mem_append_right _ (.head _))
    have a3 : a ≤ 0 - exc D x e := hmin _ (List.mem_append_right _ (.tail _ (.head _)))
    have a0 : 1 ≤ a := by
      rcases List.mem_append.mp ha with k | k
      · obtain ⟨m, hm, rfl⟩ := List.mem_map.mp k
        exact cap_pos (r1 m hm).1
      · simp only [List.mem_cons, List.not_mem_nil, or_false] at k
        rcases k with k | k <;> omega
    exact be_add (x := x) hn G Cx (aug_cut Cx C Z R a0 a1) (xa _ _ hw) hwc hdc (fun m hm => sg_one (r1 m hm).1) hc0 (by walk_at "nm") (by walk_at "nm") (by walk_at "nm") (by walk_at "nm") setL_same (xa _ _ ud) (xa _ _ uc) (but.ext xa) (lam.ext xa) fun ρ' σ' o' E' => hq a ρ' σ' o' a0 a1 a2 (by omega) E'
theorem nums_ints {ks : List Nat} : nums ks = (ks.map fun k : Nat => (k : Int)).map PV.int := by unfold nums; rw [List.map_map]; rfl
/-- the end is chosen -/
theorem be_ends {ka la : Addr} (hn : n ≤ 1000) (G : GoodL n D) (Cx : CutOk D x) (C : Chp n (moves D x) S p B K T) (Z : Settled (moves D x) K) (hS : ∀ v, v ∈ S ↔ Within n v ∧ 0 < exc D x v) (hx : ∃ v, Within n v ∧ 0 < exc D x v) (hc0 : σ0 c = none) (hdc : d ≠ c)
    (E : BeE n D d c o x σ0 ρ σ) (e6 : ρ "pair" = some (.tup [.ref ka, .ref la])) (uk : σ ka = some (.list (K.map encK))) (ul : σ la = some (.list (T.map encT)))
    (hq : ∀ a e h row ρ' σ' o', RowTo n T e row h → Within n e → Within n h → 1 ≤ a → (∀ m ∈ row, a ≤ m.cap) → a ≤ exc D x h → exc D x e + a ≤ 0 → BeE n D d c o' (addRow a x row) σ0 ρ' σ' → Qb .next ρ' σ') : tb_best_8 ρ σ Qb XS := by
  obtain ⟨g1, g2, g3, g4, ud, uc, uo, but, lam⟩ := E
  refine i_seq (i_set (i_comp (i_call (i_econs (i_name g1 (i_enil (i_range ?_)))))))
  refine ⟨_, rg_items, ⟨by decide, by decide, by omega, by omega⟩, by rw [rg, List.length_map, List.length_range]; exact Nat.le_trans hn (by decide), ?_⟩
  rw [rg_nums]
  refine compL_filt (fun p => match p with | .int k => decide (exc D x k < 0) && decide (kv K k ≠ none) | _ => false) id (by rw [rg_items, rg_nums]) _ [] (fun p hp QB hQ => ?_) (fun p hp _ Q' hQ => ?_) ?_
  · obtain ⟨k, hk, rfl⟩ := List.mem_map.mp hp
    have hk := List.mem_range.mp hk
    have hw : Within n (k : Int) := ⟨Int.natCast_nonneg _, Int.ofNat_lt.mpr hk⟩
    dsimp only at hQ
    refine i_and (i_cmpB (i_item ?_))
    walk_at "ex"
    refine over_at hn G uo hw ?_
    walk_at "ex"
    refine ite_d (fun y => ?_) fun y => ?_
    · rw [decide_eq_true y, Bool.true_and] at hQ
      walk_at "ex"
      refine i_at' (z := none) uk C.lenK hn hw (i_const ?_)
      show cmpP .IsNot _ (encK (kv K (k : Int))) .none _
      cases hkk : kv K (k : Int) with
      | none =>
        rw [hkk, decide_eq_false (fun h => h rfl)] at hQ
        exact i_isnot (ite_nf hQ)
      | some b =>
        rw [hkk, decide_eq_true (fun h => by cases h)] at hQ
        exact i_isnot (ite_nt (i_true hQ))
    · rw [decide_eq_false y, Bool.false_and] at hQ
      exact hQ
  · exact i_name compR_same hQ
  · rw [List.nil_append, filt_nums (q := fun k => decide (exc D x (k : Int) < 0) && decide (kv K (k : Int) ≠ none)) fun k => rfl, nums_ints]
    intro b hb
    generalize hks : (List.range n).filter (fun k : Nat => decide (exc D x (k : Int) < 0) && decide (kv K (k : Int) ≠ none)) = ks
    have hmem : ∀ k : Nat, k ∈ ks ↔ k < n ∧ exc D x (k : Int) < 0 ∧ kv K (k : Int) ≠ none := fun k => by rw [← hks, List.mem_filter, List.mem_range, Bool.and_eq_true, decide_eq_true_iff, decide_eq_true_iff]
    generalize hσ1 : upd σ b _ = σ1
    obtain ⟨x1, u1⟩ := al hσ1 hb
    have lam1 := lam.ext x1
    refine i_seq (i_set ?_)
    show tEcons (tName "ends") tEnil _ _ _ _
    refine i_econs (i_name setL_same (i_enil ?_))
    refine ⟨b, _, ka, [.ref la], K.map encK, rfl, u1, ?_, by walk_at "nm", x1 _ _ uk, fun z hz => ?_, lam1, fun e he σ2 lam2 but2 => ?_⟩
    · obtain ⟨v, hv, k1, k2⟩ := ends_ex G Cx Z (fun v hv k => C.st v ((hS v).mpr ⟨hv, k⟩)) hx
      obtain ⟨k, rfl⟩ := Int.eq_ofNat_of_zero_le hv.1
      intro e
      have : k ∈ ks := (hmem k).mpr ⟨by have := hv.2; omega, k1, k2⟩
      rw [List.map_eq_nil_iff] at e
      rw [e] at this; cases this
    · obtain ⟨k, hk, rfl⟩ := List.mem_map.mp hz
      obtain ⟨k1, k2, k3⟩ := (hmem k).mp hk
      obtain ⟨q, hq'⟩ := Option.ne_none_iff_exists'.mp k3
      refine ⟨Int.natCast_nonneg _, by omega, q.1, q.2, ?_⟩
      rw [List.getElem?_map]
      unfold kv at hq'
      rw [List.getD] at hq'
      cases hg : K[(k : Int).toNat]? with
      | none => rw [hg] at hq'; cases hq'
      | some z => rw [hg] at hq'; show some (encK z) = _; rw [show z = some q from hq']; rfl
    · obtain ⟨k, hk, rfl⟩ := List.mem_map.mp he
      obtain ⟨k1, k2, k3⟩ := (hmem k).mp hk
      have hw : Within n (k : Int) := ⟨Int.natCast_nonneg _, Int.ofNat_lt.mpr k1⟩
      have keep : ∀ {a : Addr} {xs : List PV}, σ a = some (.list xs) → σ2 a = some (.list xs) := fun {a xs} ha => but2 a _ (lam.ne ha) (x1 _ _ ha)
      refine i_seq (i_set (i_call (i_econs (i_item ?_))))
      walk_at "ex"
      refine p_row_to hn G C Z (keep ul) hw k3 fun w row h hw2 R hh ht hkh => ?_
      have hhS := (hS h).mp (C.root h hh ht hkh)
      have hr : row ≠ [] := by
        intro e0
        have := row_nil R e0
        have := hhS.2
        rw [row_nil R e0] at this
        omega
      have x3 : Ext σ2 (upd σ2 w (.list (row.map encM))) := Ext.upd hw2
      have hwc : w ≠ c := by rintro rfl; rw [keep uc] at hw2; cases hw2
      refine be_amount (S := S) (p := p) (B := B) (K := K) (σ0 := σ0) (o := o) hn G Cx C Z R hr hw hh k2 hhS.2 hc0 upd_same hwc hdc ⟨by walk_at "nm", by walk_at "nm", by walk_at "nm", by walk_at "nm", x3 _ _ (keep ud), x3 _ _ (keep uc), x3 _ _ (keep uo), ((but.ext x1).trans but2).ext x3, LamS.ext (σ := σ2) lam2 x3⟩ setL_same (by walk_at "nm") fun a ρ' σ' o' a0 a1 a2 a3 E' => hq a _ h row ρ' σ' o' R hw hh a0 a1 a2 a3 E'
end

section
variable {n : Nat} {D : List (Int × Int × Int)} {x : List Int} {d c o : Addr} {σ0 σ : Sto} {ρ : Env'} {Qb : Fl → Env' → Sto → Prop} {XS : Addr → Env' → Sto → Prop} {p : Int → Int}
theorem be_step (hn : n ≤ 1000) (G : GoodL n D) (Cx : CutOk D x) (P : Pot D x p) (hx : ∃ v, Within n v ∧ 0 < exc D x v) (hc0 : σ0 c = none) (hdc : d ≠ c) (E : BeE n D d c o x σ0 ρ σ)
    (hq : ∀ x' p' ρ' σ' o', BeE n D d c o' x' σ0 ρ' σ' → CutOk D x' → Pot D x' p' → phi n D x' < phi n D x → Qb .next ρ' σ') : tb_best_10 ρ σ Qb XS := by
  obtain ⟨g1, g2, g3, g4, ud, uc, uo, but, lam⟩ := E
  have hD := G.1
  refine i_seq (i_set (i_comp (i_call (i_econs (i_name g1 (i_enil (i_range ?_)))))))
  refine ⟨_, rg_items, ⟨by decide, by decide, by omega, by omega⟩, by rw [rg, List.length_map, List.length_range]; exact Nat.le_trans hn (by decide), ?_⟩
  rw [rg_nums]
  refine compL_filt (fun p => match p with | .int k => decide (exc D x k > 0) | _ => false) id (by rw [rg_items, rg_nums]) _ [] (fun p hp QB hQ => ?_) (fun p hp _ Q' hQ => ?_) ?_
  · obtain ⟨k, hk, rfl⟩ := List.mem_map.mp hp
    have hk := List.mem_range.mp hk
    dsimp only at hQ
    refine i_cmpB (i_item ?_)
    walk_at "ex"
    refine over_at hn G uo ⟨Int.natCast_nonneg _, Int.ofNat_lt.mpr hk⟩ ?_
    walk_at "ex"
    exact hQ
  · exact i_name compR_same hQ
  · rw [List.nil_append, filt_nums (q := fun k => decide (exc D x (k : Int) > 0)) fun k => rfl, nums_ints]
    intro b hb
    generalize hks : (List.range n).filter (fun k : Nat => decide (exc D x (k : Int) > 0)) = ks
    have hmem : ∀ k : Nat, k ∈ ks ↔ k < n ∧ exc D x (k : Int) > 0 := fun k => by rw [← hks, List.mem_filter, List.mem_range, decide_eq_true_iff]
    generalize hσ1 : upd σ b _ = σ1
    obtain ⟨x1, u1⟩ := al hσ1 hb
    have hS : ∀ v, v ∈ ks.map (fun k : Nat => (k : Int)) ↔ Within n v ∧ 0 < exc D x v := fun v => by
      rw [List.mem_map]
      constructor
      · rintro ⟨k, hk, rfl⟩
        obtain ⟨k1, k2⟩ := (hmem k).mp hk
        exact ⟨⟨Int.natCast_nonneg _, Int.ofNat_lt.mpr k1⟩, k2⟩
      · rintro ⟨hv, k2⟩
        obtain ⟨k, rfl⟩ := Int.eq_ofNat_of_zero_le hv.1
        exact ⟨k, (hmem k).mpr ⟨Int.ofNat_lt.mp hv.2, k2⟩, rfl⟩
    refine i_seq (i_set (i_call (i_econs (i_name (by walk_at "nm") (i_econs (i_call ?_))))))
    walk_at "ex"
    refine p_steps (x1 _ _ ud) (x1 _ _ uc) hD Cx.1 fun ms hms => ?_
    generalize hσ2 : upd σ1 ms _ = σ2
    obtain ⟨x2, u2⟩ := al hσ2 hms
    walk_at "ex"
    have hp : ∀ m ∈ moves D x, p m.v ≤ p m.u + m.c := fun m hm => by
      have := pot_steady P 0 m hm
      dsimp only at this
      omega
    refine p_cheapest (p := p) hn (moves_in G) (fun s hs => ((hS s).mp hs).1) hp u2 (x2 _ _ u1) fun B ka la K T σ3 x3 uk ul C Z => ?_
    have xa := x1.trans (x2.trans x3)
    refine be_ends (σ0 := σ0) (o := o) (B := B) hn G Cx C Z hS hx hc0 hdc ⟨by walk_at "nm", by walk_at "nm", by walk_at "nm", by walk_at "nm", xa _ _ ud, xa _ _ uc, xa _ _ uo, but.ext xa, lam.ext xa⟩ setL_same uk ul fun a e h row ρ' σ' o' R he hh a0 a1 a2 a3 E' => ?_
    obtain ⟨p', P'⟩ := aug_pot (a := a) G Cx P C Z R
    refine hq _ p' ρ' σ' o' E' (aug_cut Cx C Z R a0 a1) P' ?_
    obtain ⟨r1, r2⟩ := row_facts C Z R
    refine phi_less (e := e) (h := h) (a := a) a3 a2 a0 hh fun w => ?_
    rw [exc_row Cx.1 (fun m hm => ⟨(sg_one (r1 m hm).1).1, fwd_moves (r1 m hm).1⟩), row_tele C R]
theorem amts_pot : Pot D (D.map (·.2.2)) fun _ => 0 := fun k hk => by
  rw [amts_at hk]
  exact ⟨fun h => absurd h (Int.lt_irrefl _), fun _ => by show (0 : Int) ≤ 0 + 1; decide⟩
theorem p_best {Q : PV → Sto → Prop} {X : Addr → Sto → Prop} (hn : n ≤ 1000) (h1 : 1 ≤ n) (G : GoodL n D) (hd : σ d = some (.list (D.map enc))) (lam : LamS σ)
    (hq : ∀ c b p σ', ButP lamP σ σ' → LamS σ' → σ' c = some (.list (b.map .int)) → CutOk D b → Even n D b → Pot D b p → Q (.ref c) σ') : T_best [.int (n : Nat), .ref d] σ Q X := by
  have hl := G.1
  unfold T_best tb_best
  refine i_fun2 (i_seq (i_set (i_comp ?_)))
  walk_at "ex"
  refine ⟨_, items_ref hd, trivial, by rw [List.length_map]; exact Nat.le_trans (le_big hl) (by decide), ?_⟩
  refine compL_all (fun p y => ∀ t, p = enc t → y = PV.int t.2.2) (items_ref hd) _ [] (fun p hp Q' hQ => ?_) fun ys hys => ?_
  · obtain ⟨t, ht, rfl⟩ := List.mem_map.mp hp
    exact i_item (i_name compR_same (i_const (i_g2 (hQ _ fun t' e => by
      simp [enc] at e; rw [e.2.2]))))
  · rw [List.nil_append, paired_amt hys]
    intro c hc
    generalize hσ1 : upd σ c _ = σ1
    obtain ⟨x1, u1⟩ := al hσ1 hc
    have hdc : d ≠ c := by rintro rfl; rw [hc] at hd; cases hd
    refine i_seq (i_set ?_)
    walk_at "ex"
    refine p_surplus hn (x1 _ _ hd) G u1 (amts_ok G) fun o σ2 x2 u2 => ?_
    have xa := x1.trans x2
    refine i_seq ?_
    refine i_while (BeW n D d c σ) (fun _ _ _ => False) (phi n D (D.map (·.2.2))).toNat ⟨_, o, _, ⟨by walk_at "nm", by walk_at "nm", by walk_at "nm", setL_same, xa _ _ hd, x2 _ _ u1, u2, xa.but, lam.ext xa⟩, amts_ok G, amts_pot, rfl⟩ ?_ (fun _ _ _ h => h.elim)
    rintro j ρ' σ' Qb ⟨x, o', p, E, Cx, P, rfl⟩ hnx _
    obtain ⟨g1, g2, g3, g4, ud, uc, uo, but, lam'⟩ := id E
    have hbl : (bals n (parts D x)).length = n := bals_len (by simp [zeros])
    refine i_cmpB (i_call (i_econs (i_name g4 (i_enil (i_maxL uo (fun e => by rw [e] at hbl; simp at hbl; omega) fun m hm hmax => ?_)))))
    walk_at "ex"
    refine ite_d (fun y => ?_) fun y => ?_
    · have hx : ∃ v, Within n v ∧ 0 < exc D x v := by
        obtain ⟨k, hk⟩ := List.mem_iff_getElem?.mp hm
        have hk' : k < n := by rw [← hbl]; exact (List.getElem?_eq_some_iff.mp hk).1
        have hw : Within n (k : Int) := ⟨Int.natCast_nonneg _, Int.ofNat_lt.mpr hk'⟩
        refine ⟨k, hw, ?_⟩
        rw [← bals_at G hw]
        unfold av
        rw [Int.toNat_natCast, List.getD, hk]
        exact y
      exact be_step hn G Cx P hx hc hdc E fun x' p' ρ2 σ3 o2 E' C' P' hlt => hnx _ _ _ (by have := phi_pos (n := n) (D := D) (x := x'); omega) ⟨x', o2, p', E', C', P', rfl⟩
    · have hev : Even n D x := even_of G fun v hv => by
        rw [← bals_at G hv]
        have hv' : v.toNat < (bals n (parts D x)).length := by rw [hbl]; have := hv.1; have := hv.2; omega
        have := hmax _ (List.getElem_mem hv')
        unfold av
        rw [List.getD, List.getElem?_eq_getElem hv']
        show (bals n (parts D x))[v.toNat] ≤ 0
        omega
      refine i_seq (i_ret (i_name g3 ?_))
      exact hq c x p σ' but lam' uc Cx hev P
end

/-! even or not, better, prices -/
theorem eqv_ints : ∀ {xs ys : List Int}, PyData.eqvAll (xs.map .int) (ys.map .int) = true → xs = ys
  | [], [], _ => rfl
  | [], _ :: _, h => by simp [PyData.eqvAll] at h
  | _ :: _, [], h => by simp [PyData.eqvAll] at h
  | x :: xs, y :: ys, h => by
    simp only [List.map_cons, PyData.eqvAll, PyData.eqv, Bool.and_eq_true, beq_iff_eq] at h
    rw [h.1, eqv_ints h.2]
theorem eqv_same : ∀ {xs : List Int}, PyData.eqvAll (xs.map .int) (xs.map .int) = true
  | [] => rfl
  | x :: xs => by
    simp only [List.map_cons, PyData.eqvAll, PyData.eqv, Bool.and_eq_true, beq_iff_eq]
    exact ⟨trivial, eqv_same⟩
section
variable {n : Nat} {D : List (Int × Int × Int)} {cs : List Int} {d c : Addr} {σ : Sto} {Q : PV → Sto → Prop} {X : Addr → Sto → Prop}
theorem evenB_iff (G : GoodL n D) : evenB n D cs = true ↔ Even n D cs := by
  rw [even_bals G]
  unfold evenB
  show PyData.eqvAll _ _ = true ↔ _
  constructor
  · exact eqv_ints
  · intro h; rw [h]; exact eqv_same
theorem evenB_yes (G : GoodL n D) (E : Even n D cs) : evenB n D cs = true := (evenB_iff G).mpr E
theorem evenB_no (G : GoodL n D) (E : ¬ Even n D cs) : evenB n D cs = false := by
  cases h : evenB n D cs with
  | false => rfl
  | true => exact absurd ((evenB_iff G).mp h) E
theorem p_need_even (hn : n ≤ 1000) (hd : σ d = some (.list (D.map enc))) (G : GoodL n D) (hc : σ c = some (.list (cs.map .int))) (C : CutOk D cs) (h1 : Even n D cs → ∀ σ', Ext σ σ' → Q .none σ') (h2 : ¬ Even n D cs → ∀ σ', Ext σ σ' → X c_Uneven_07 σ') : T_need_even [.int (n : Nat), .ref d, .ref c] σ Q X := by
  unfold T_need_even tb_need_even
  refine i_fun3 (i_seq (i_if ?_))
  walk_at "ex"
  refine p_even hn hd G hc C fun σ' x => ?_
  by_cases E : Even n D cs
  · rw [evenB_yes G E]
    refine ite_nf (i_nil (i_nil ?_))
    exact h1 E σ' x
  · rw [evenB_no G E]
    refine ite_nt ?_
    walk_at "ev"
    exact h2 E σ' x
theorem p_need_even_bad {p : PV} (hd : σ d = some (.list (D.map enc))) (G : GoodL n D) (h : BadK D σ p) (hx : X c_BadCut_07 σ) : T_need_even [.int (n : Nat), .ref d, p] σ Q X := by
  unfold T_need_even tb_need_even
  refine i_fun3 (i_seq (i_if ?_))
  walk_at "ex"
  unfold T_even tb_even
  refine i_fun3 (i_seq (i_expr (i_call ?_)))
  walk_at "ex"
  exact p_need_cut_bad hd G h hx
theorem p_better (hn : n ≤ 1000) (h1 : 1 ≤ n) (hd : σ d = some (.list (D.map enc))) (G : GoodL n D) (hc : σ c = some (.list (cs.map .int))) (C : CutOk D cs) (E : Even n D cs) (lam : LamS σ)
    (hq1 : (¬ ∃ p, Pot D cs p) → ∀ f b σ', ButP lamP σ σ' → LamS σ' → σ' f = some (.list (b.map .int)) → CutOk D b → Even n D b → cs.sum < b.sum → Q (.ref f) σ') (hq2 : (∃ p, Pot D cs p) → ∀ σ', ButP lamP σ σ' → LamS σ' → Q .none σ') : T_better [.int (n : Nat), .ref d, .ref c] σ Q X := by
  unfold T_better tb_better
  refine i_fun3 (i_seq (i_expr (i_call ?_)))
  walk_at "ex"
  refine p_need_even hn hd G hc C (fun _ σ1 x1 => ?_) fun h => absurd E h
  refine i_seq (i_set (i_call ?_))
  walk_at "ex"
  refine p_best hn h1 G (x1 _ _ hd) (lam.ext x1) fun f b p σ2 but lam2 uf Cb Eb Pb => ?_
  have hc2 : σ2 c = some (.list (cs.map .int)) := but c _ ((lam.ext x1).ne (x1 _ _ hc)) (x1 _ _ hc)
  have but' : ButP lamP σ σ2 := x1.but.trans but
  refine i_seq (i_if (i_cmpB (i_call (i_econs (i_name setL_same (i_enil (i_sum uf ?_)))))))
  walk_at "ex"
  refine i_sum hc2 ?_
  walk_at "ex"
  rw [sum_tot Cb.1, sum_tot C.1]
  refine ite_d (fun y => ?_) fun y => ?_
  · refine i_seq (i_ret (i_name setL_same ?_))
    refine hq1 (fun ⟨p', P'⟩ => ?_) f b σ2 but' lam2 uf Cb Eb (by rw [sum_tot Cb.1, sum_tot C.1]; exact y)
    have := dual G Cb C Eb E P'
    omega
  · refine i_nil (i_seq (i_ret (i_const ?_)))
    exact hq2 ⟨p, dual_same G C Cb E Eb Pb (by omega)⟩ σ2 but' lam2
structure PrE (n : Nat) (d c t : Addr) (σ0 : Sto) (H : List Int) (b : Bool) (ρ : Env') (σ : Sto) : Prop where
  fd : ρ "debts" = some (.ref d)
  fc : ρ "cut" = some (.ref c)
  ft : ρ "tags" = some (.ref t)
  ch : ρ "changing" = some (.bool b)
  ut : σ t = some (.list (H.map .int))
  x : Ext σ0 σ
inductive PrF (n : Nat) (τ : Int → Int) (M : List Mv) (d c t ms : Addr) (σ0 : Sto) (H : List Int) (ps : List PV) (ρ : Env') (σ : Sto) : Prop
  | mk (M1 M2 : List Mv) (H' : List Int) (f : Bool) : PrE n d c t σ0 H' f ρ σ → σ ms = some (.list (M.map encM)) → ps = M2.map encM → M1 ++ M2 = M → Pass n True τ M1 H H' f → PrF n τ M d c t ms σ0 H ps ρ σ
inductive PrW (n : Nat) (τ : Int → Int) (M : List Mv) (d c t : Addr) (σ0 : Sto) (j : Nat) (ρ : Env') (σ : Sto) : Prop
  | mk (H : List Int) (b : Bool) : PrE n d c t σ0 H b ρ σ → H.length = n → (∀ v, Within n v → av H v ≤ τ v) → (b = true → j = (total n τ - total n (av H)).toNat + 1) → (b = false → Steady M (av H)) → PrW n τ M d c t σ0 j ρ σ
theorem pr_move {H' : List Int} {m : Mv} {f : Bool} {t : Addr} {σ0 : Sto} {ρ : Env'} {Qb : Fl → Env' → Sto → Prop} {XS : Addr → Env' → Sto → Prop} (hn : n ≤ 1000) (lh : H'.length = n) (hm : Within n m.u ∧ Within n m.v) (ht0 : σ0 t = none) (E : PrE n d c t σ0 H' f ρ σ) (em : ρ "move" = some (encM m))
    (keep : ¬ av H' m.v < av H' m.u - m.c → Qb .next ρ σ) (rise : av H' m.v < av H' m.u - m.c → ∀ ρ', PrE n d c t σ0 (H'.set m.v.toNat (av H' m.u - m.c)) true ρ' (upd σ t (.list ((H'.set m.v.toNat (av H' m.u - m.c)).map .int))) → Qb .next ρ' (upd σ t (.list ((H'.set m.v.toNat (av H' m.u - m.c)).map .int)))) : tb_prices_4 ρ σ Qb XS := by
  obtain ⟨e1, e2, e3, e4, ut, x⟩ := E
  unfold encM at em
  have atv : ∀ {v : Int} {kk : PV → Prop}, Within n v → kk (.int (av H' v)) → getP σ (.ref t) (.int v) kk := fun hv h => i_at' (f := PV.int) (z := 0) ut lh hn hv h
  refine i_seq (i_if ?_)
  walk_at "ex"
  refine atv hm.2 ?_
  walk_at "ex"
  refine atv hm.1 ?_
  walk_at "ex"
  refine ite_d (fun y => ?_) fun y => ?_
  · refine i_seq (i_store ?_)
    walk_at "ex"
    refine atv hm.1 ?_
    walk_at "ex"
    refine i_put' (f := PV.int) ut lh hn hm.2 ?_
    refine i_seq (i_set (i_const (i_nil (i_nil ?_))))
    exact rise y _ ⟨by walk_at "nm", by walk_at "nm", by walk_at "nm", setL_same, upd_same, x.upd' ht0⟩
  · exact i_nil (i_nil (keep y))
theorem p_prices (hn : n ≤ 1000) (h1 : 1 ≤ n) (hd : σ d = some (.list (D.map enc))) (G : GoodL n D) (hc : σ c = some (.list (cs.map .int))) (C : CutOk D cs) (E : Even n D cs) (lam : LamS σ)
    (hq : (∃ p, Pot D cs p) → ∀ t H σ', ButP lamP σ σ' → LamS σ' → σ' t = some (.list (H.map .int)) → H.length = n → Steady (moves D cs) (av H) → Q (.ref t) σ') (hx : (¬ ∃ p, Pot D cs p) → ∀ σ', ButP lamP σ σ' → LamS σ' → X c_NotBest_07 σ') : T_prices [.int (n : Nat), .ref d, .ref c] σ Q X := by
  have hD := G.1
  unfold T_prices tb_prices
  refine i_fun3 (i_seq (i_if (i_cmpB (i_call ?_))))
  walk_at "ex"
  refine p_better hn h1 hd G hc C E lam (fun hp f b σ1 but lam1 _ _ _ _ => ?_) fun hp σ1 but lam1 => ?_
  · walk_at "ex"
    rw [show isNone (PV.ref f) = false from rfl]
    refine ite_nt ?_
    walk_at "ev"
    exact hx hp σ1 but lam1
  · walk_at "ex"
    rw [show isNone PV.none = true from rfl]
    refine ite_nf (i_nil ?_)
    obtain ⟨p, P⟩ := hp
    obtain ⟨Z, hZ⟩ := bound_ex p n
    have hd1 : σ1 d = some (.list (D.map enc)) := but d _ (lam.ne hd) hd
    have hc1 : σ1 c = some (.list (cs.map .int)) := but c _ (lam.ne hc) hc
    refine i_seq (i_set (c_zeros (by walk_at "nm") hn fun t ht => ?_))
    have hS := pot_steady P Z
    refine i_seq (i_set (i_const ?_))
    refine i_seq ?_
    refine i_while (PrW n (fun v => Z - p v) (moves D cs) d c t σ1) (fun _ _ _ => False) ((total n (fun v => Z - p v) - total n (av (zeros n))).toNat + 1) ⟨zeros n, true, ⟨by walk_at "nm", by walk_at "nm", by walk_at "nm", setL_same, upd_same, Ext.upd ht⟩, by simp [zeros], fun v hv => by rw [av_zeros]; have := hZ v hv; omega, fun _ => rfl, fun h => by cases h⟩ ?_ (fun _ _ _ h => h.elim)
    rintro j ρ' σ' Qb ⟨H, b, E', lh, top, hb, hb'⟩ hnx _
    refine i_test (i_name E'.ch ?_)
    obtain ⟨e1, e2, e3, e4, ut, x⟩ := id E'
    cases b with
    | false =>
      refine ite_f (i_seq (i_ret (i_name e3 ?_)))
      exact hq ⟨p, P⟩ t H σ' (but.ext x) (lam1.ext x) ut lh (hb' rfl)
    | true =>
      obtain rfl := hb rfl
      refine ite_t (i_seq (i_set (i_const (i_seq (i_for (i_call ?_))))))
      walk_at "ex"
      refine p_steps (x _ _ hd1) (x _ _ hc1) hD C.1 fun ms hms => ?_
      generalize hσ2 : upd σ' ms _ = σ2
      obtain ⟨x2, u2⟩ := al hσ2 hms
      have hmt : ms ≠ t := by rintro rfl; rw [ut] at hms; cases hms
      refine ⟨_, items_ref u2, trivial, ?_⟩
      refine forL_step (PrF n (fun v => Z - p v) (moves D cs) d c t ms σ1 H) (fun _ _ _ => False) ?_ ?_ (fun _ _ _ h => h.elim) _ _ _ ?_
      · rintro q ps ρ2 σ3 Qc ⟨M1, M2, H', f, E2, um, f2, f3, Pa⟩ hnx2 _
        cases M2 with
        | nil => cases f2
        | cons m M2 =>
          injection f2 with f2 f5
          subst f2 f5
          have hmM : m ∈ moves D cs := by rw [← f3]; exact List.mem_append_right _ (.head _)
          have hmw := moves_in G m hmM
          have f3' : (M1 ++ [m]) ++ M2 = moves D cs := by rw [List.append_assoc]; exact f3
          obtain ⟨g1, g2, g3, g4, vt, y⟩ := E2
          refine pr_move (σ0 := σ1) hn Pa.len hmw ht ⟨by walk_at "nm", by walk_at "nm", by walk_at "nm", by walk_at "nm", vt, y⟩ setL_same (fun hk => ?_) fun hr ρ3 E3 => ?_
          · exact hnx2 _ _ (items_ref um) ⟨M1 ++ [m], M2, H', f, ⟨by walk_at "nm", by walk_at "nm", by walk_at "nm", by walk_at "nm", vt, y⟩, um, rfl, f3', Pa.keep hmw.1 hk⟩
          · have um' := upd_other (o := .list ((H'.set m.v.toNat (av H' m.u - m.c)).map .int)) hmt um
            exact hnx2 _ _ (items_ref um') ⟨M1 ++ [m], M2, _, true, E3, um', rfl, f3', Pa.rise hmw (fun _ => hS m hmM) hr⟩
      · rintro ρ2 σ3 ⟨M1, M2, H', f, E2, um, f2, f3, Pa⟩
        have : M2 = [] := by cases M2 with | nil => rfl | cons k js => cases f2
        subst this
        rw [List.append_nil] at f3
        subst f3
        refine i_nil ?_
        cases f with
        | false =>
          obtain ⟨k1, k2⟩ := Pa.still
          subst k1
          exact hnx 0 ρ2 σ3 (Nat.succ_pos _) ⟨H', false, E2, lh, top, fun h => (by cases h), fun _ => k2⟩
        | true =>
          have k1 := Pa.more
          have k2 : total n (av H') ≤ total n (fun v => Z - p v) := sm_le fun k hk => Pa.top trivial _ ⟨Int.natCast_nonneg _, Int.ofNat_lt.mpr hk⟩
          exact hnx ((total n (fun v => Z - p v) - total n (av H')).toNat + 1) ρ2 σ3 (by omega) ⟨H', true, E2, Pa.len, Pa.top trivial, fun _ => rfl, fun h => (by cases h)⟩
      · exact ⟨[], _, H, false, ⟨by walk_at "nm", by walk_at "nm", by walk_at "nm", setL_same, x2 _ _ ut, x.trans x2⟩, u2, rfl, rfl, Pass.nil lh fun _ => top⟩
end

theorem nine {P : Nat → Prop} (h0 : P 0) (h1 : P 1) (h2 : P 2) (h3 : P 3) (h4 : P 4) (h5 : P 5) (h6 : P 6) (h7 : P 7) (h8 : P 8) {j : Nat} (hj : j < 9) : P j := by
  rcases j with _ | _ | _ | _ | _ | _ | _ | _ | _ | j
  · exact h0
  · exact h1
  · exact h2
  · exact h3
  · exact h4
  · exact h5
  · exact h6
  · exact h7
  · exact h8
  · exact absurd hj (Nat.not_lt.mpr (Nat.le_add_left 9 j))
theorem mod9 {x : Int} : 0 ≤ x % 9 ∧ x % 9 < 2 ^ 62 ∧ (x % 9).toNat < 9 := by omega
section
variable {ρ : Env'} {σ : Sto} {Q : PV → Sto → Prop} {X : Addr → Sto → Prop}
theorem a_cat {x y : Addr} {xs ys : List PV} (h1 : σ x = some (.list xs)) (h2 : σ y = some (.list ys)) (h3 : (xs ++ ys).length ≤ 1000000) (h : ∀ σ1 c, Ext σ σ1 → σ1 c = some (.list (xs ++ ys)) → Q (.ref c) σ1) : opP .Add (.ref x) (.ref y) σ Q := i_cat h1 h2 h3 fun c hc => h _ c (Ext.upd hc) upd_same
theorem a_listm {α : Type} {f : α → PV} {D : List α} {d : Addr} (hd : σ d = some (.list (D.map f))) (hl : D.length ≤ 1000) (h : ∀ σ1 c, Ext σ σ1 → σ1 c = some (.list (D.map f)) → Q (.ref c) σ1) : listF [.ref d] σ Q X := i_listm hd hl fun c hc => h _ c (Ext.upd hc) upd_same
end
theorem p_var {nm : Str} {t : Addr} {ts : List Int} {m : Nat} {tm : TE} {v : PV} {ρ : Env'} {σ : Sto} {Q : PV → Sto → Prop} {X : Addr → Sto → Prop} (ht : σ t = some (.list (ts.map .int))) (hl : ts.length ≤ 1000) (hm : m < ts.length) (e1 : ρ nm = some (.ref t)) (e2 : ρ "_law_at" = some (.int (m : Nat)))
    (htm : ∀ σ' (Q' : PV → Sto → Prop), Ext σ σ' → Q' v σ' → tm ρ σ' Q' X) (hq : ∀ a σ', Ext σ σ' → σ' a = some (.list ((ts.take m).map .int ++ v :: (ts.drop (m + 1)).map .int)) → Q (.ref a) σ') :
    (tBin .Add (tBin .Add (tSlice (tName nm) (tPnone) (tPsome (tName "_law_at"))) (tList (tEcons tm (tEnil)))) (tSlice (tName nm) (tPsome (tBin .Add (tName "_law_at") (tConst (.int 1)))) (tPnone))) ρ σ Q X := by
  have len_le : (ts.map PV.int).length ≤ sizeLine := by rw [List.length_map]; exact Nat.le_trans hl (by decide)
  walk_at "ev"
  refine ⟨_, rfl, _, trivial, Int.natCast_nonneg m, trivial, items_ref ht, len_le, fun a ha => ?_⟩
  generalize hσ : upd σ a _ = σ1
  obtain ⟨x1, u1⟩ := al hσ ha
  clear hσ
  rw [show cutL (ts.map PV.int) none (some (m : Int)) = (ts.take m).map .int by simp [cutL, List.map_take]] at u1
  walk_at "ev"
  refine htm σ1 _ x1 ?_
  refine i_enil ⟨by simp, fun b hb => ?_⟩
  generalize hσ : upd σ1 b _ = σ2
  obtain ⟨x2, u2⟩ := al hσ hb
  clear hσ
  refine a_cat (x2 _ _ u1) u2 (by simp; omega) fun σ3 c x3 u3 => ?_
  have x13 := x1.trans (x2.trans x3)
  walk_at "ev"
  refine ⟨_, rfl, ?_⟩
  walk_at "ev"
  refine ⟨_, show (0 : Int) ≤ (m : Int) + 1 by omega, trivial, trivial, items_ref (x13 _ _ ht), len_le, fun d hd => ?_⟩
  generalize hσ : upd σ3 d _ = σ4
  obtain ⟨x4, u4⟩ := al hσ hd
  clear hσ
  rw [show cutL (ts.map PV.int) (some ((m : Int) + 1)) none = (ts.drop (m + 1)).map .int by
    rw [show (m : Int) + 1 = ((m + 1 : Nat) : Int) from rfl]
    simp [cutL, List.map_drop, List.take_of_length_le]] at u4
  refine a_cat (x4 _ _ u3) u4 (by simp; omega) fun σ5 e x5 u5 => ?_
  exact hq e σ5 (x13.trans (x4.trans x5)) (by rw [u5]; simp)
/-- one place changed -/
theorem bad_place {D : List (Int × Int × Int)} {cs : List Int} {m : Nat} {v : PV} {a : Addr} {σ : Sto} (C : CutOk D cs) (hl : D.length ≤ 40) (hm : m < D.length) (ha : σ a = some (.list ((cs.take m).map .int ++ v :: (cs.drop (m + 1)).map .int))) (hv : Told σ v) (hb : ∀ i, v = .int i → ¬ (0 ≤ i ∧ i ≤ amt D m)) : BadK D σ (.ref a) := by
  obtain ⟨hlen, C⟩ := C
  have hml : ((cs.take m).map PV.int).length = m := by simp; omega
  have hle : ((cs.take m).map PV.int ++ v :: (cs.drop (m + 1)).map PV.int).length = D.length := by simp; omega
  refine .inr ⟨a, _, rfl, ha, by omega, .inr ⟨hle, m, v, hm, ?_, hv, hb, fun j hj => ?_⟩⟩
  · rw [List.getElem?_append_right (by omega), hml, Nat.sub_self]; rfl
  · refine ⟨cs.getD j 0, ?_, C j (by omega)⟩
    rw [List.getElem?_append_left (by omega), List.getElem?_map, List.getElem?_take_of_lt hj, List.getElem?_eq_getElem (by omega)]
    simp [List.getD, show j < cs.length by omega]

theorem no_int {D : List (Int × Int × Int)} {m : Nat} {v : PV} (h : ∀ i, v ≠ .int i) : ∀ i, v = .int i → ¬ (0 ≤ i ∧ i ≤ amt D m) := fun i e => absurd e (h i)
theorem an_int {D : List (Int × Int × Int)} {m : Nat} {z : Int} (h : z < 0 ∨ amt D m < z) : ∀ i, PV.int z = .int i → ¬ (0 ≤ i ∧ i ≤ amt D m) := fun i e => by cases e; omega
theorem bool_no {b : Bool} : ∀ i, PV.bool b ≠ .int i := fun i e => by cases e
theorem none_no : ∀ i, PV.none ≠ .int i := fun i e => by cases e
theorem str_no {b : Str} : ∀ i, PV.str b ≠ .int i := fun i e => by cases e
theorem ref_no {b : Addr} : ∀ i, PV.ref b ≠ .int i := fun i e => by cases e
theorem cut_pick {D : List (Int × Int × Int)} {m : Nat} {a : Addr} {xs : List PV} {σ : Sto} (hG : 1 ≤ amt D m) (ha : σ a = some (.list xs)) {j : Nat} (hj : j < 9) :
    ∃ v, ([.int (-1), .int (amt D m + 1), .bool true, .none, .str "0", .int (-amt D m - 1), .int (amt D m * 2 + 1), .ref a, .bool false] : List PV)[j]? = some v ∧ Told σ v ∧ ∀ i, v = .int i → ¬ (0 ≤ i ∧ i ≤ amt D m) :=
  nine (P := fun j => ∃ v, ([.int (-1), .int (amt D m + 1), .bool true, .none, .str "0", .int (-amt D m - 1), .int (amt D m * 2 + 1), .ref a, .bool false] : List PV)[j]? = some v ∧ Told σ v ∧ ∀ i, v = .int i → ¬ (0 ≤ i ∧ i ≤ amt D m))
    ⟨_, rfl, told_int, an_int (by omega)⟩ ⟨_, rfl, told_int, an_int (by omega)⟩ ⟨_, rfl, told_bool, no_int bool_no⟩ ⟨_, rfl, told_none, no_int none_no⟩ ⟨_, rfl, told_str, no_int str_no⟩
    ⟨_, rfl, told_int, an_int (by omega)⟩ ⟨_, rfl, told_int, an_int (by omega)⟩ ⟨_, rfl, told_list ha, no_int ref_no⟩ ⟨_, rfl, told_bool, no_int bool_no⟩ hj
section
variable {n : Nat} {D : List (Int × Int × Int)} {cs : List Int} {d c : Addr} {x : Int} {ρ : Env'} {σ : Sto} {Q : PV → Sto → Prop} {X : Addr → Sto → Prop}
theorem cut_tup (hc : σ c = some (.list (cs.map .int))) (hl : cs.length ≤ 40) (y : x % 9 > 6) (hq : ∀ p σ', Ext σ σ' → BadK D σ' p → Q p σ') (e1 : ρ "_law_cut" = some (.ref c)) (e2 : ρ "_law_cell" = some (.int x)) : tb_law_bad_cut_9 ρ σ (funQ Q) (funX X) := by
  walk_at "ev"
  refine i_tupleF hc (by rw [List.length_map]; omega) ?_
  walk_at "ev"
  intro a ha
  generalize hσ : upd σ a _ = σ1
  obtain ⟨x1, u1⟩ := al hσ ha
  clear hσ
  walk_at "ev"
  have y' : x % 9 - 7 = 0 ∨ x % 9 - 7 = 1 := by omega
  rcases y' with e | e <;> rw [e]
  · exact i_get (by decide) (by decide) (items_ref u1) trivial rfl (hq _ _ x1 (.inl ⟨.tup, rfl, fun c e => (by cases e), fun e => (by cases e)⟩))
  · exact i_get (by decide) (by decide) (items_ref u1) trivial rfl (hq _ _ x1 (.inl ⟨.none, rfl, fun c e => (by cases e), fun e => (by cases e)⟩))
theorem cut_long (hc : σ c = some (.list (cs.map .int))) (hl : cs.length ≤ 40) (hlen : cs.length = D.length) (hq : ∀ p σ', Ext σ σ' → BadK D σ' p → Q p σ') (e : ρ "_law_cut" = some (.ref c)) : tb_law_bad_cut_7 ρ σ (funQ Q) (funX X) := by
  walk_at "ev"
  intro a ha
  generalize hσ : upd σ a _ = σ1
  obtain ⟨x1, u1⟩ := al hσ ha
  clear hσ
  have hL : ((cs.map PV.int) ++ [PV.int 0]).length = D.length + 1 := by rw [List.length_append, List.length_map, hlen]; rfl
  refine a_cat (x1 _ _ hc) u1 (by rw [hL]; omega) fun σ2 b x2 u2 => ?_
  exact hq _ _ (x1.trans x2) (.inr ⟨b, _, rfl, u2, by rw [hL]; omega, .inl (by rw [hL]; exact Nat.succ_ne_self _)⟩)
theorem cut_short (hc : σ c = some (.list (cs.map .int))) (hl : cs.length ≤ 40) (hlen : cs.length = D.length) (hne : 0 < D.length) (hq : ∀ p σ', Ext σ σ' → BadK D σ' p → Q p σ') (e : ρ "_law_cut" = some (.ref c)) : tb_law_bad_cut_5 ρ σ (funQ Q) (funX X) := by
  walk_at "ev"
  refine ⟨_, rfl, ?_⟩
  walk_at "ev"
  refine ⟨_, show (0 : Int) ≤ 1 by decide, trivial, trivial, items_ref hc, by rw [List.length_map]; exact Nat.le_trans (le_big hl) (by decide), fun a ha => ?_⟩
  generalize hσ : upd σ a _ = σ1
  obtain ⟨x1, u1⟩ := al hσ ha
  clear hσ
  have hL : (cutL (cs.map PV.int) (some 1) none).length = D.length - 1 := by simp [cutL, hlen]
  exact hq _ _ x1 (.inr ⟨a, _, rfl, u1, by rw [hL]; omega, .inl (by rw [hL]; omega)⟩)
theorem cut_odd (hd : σ d = some (.list (D.map enc))) (G : GoodL n D) (hc : σ c = some (.list (cs.map .int))) (C : CutOk D cs) (hne : 0 < (D.length : Int)) (hq : ∀ p σ', Ext σ σ' → BadK D σ' p → Q p σ') (e1 : ρ "_law_cut" = some (.ref c)) (e2 : ρ "_law_cell" = some (.int x)) (e3 : ρ "_law_debts_here" = some (.ref d)) : tb_law_bad_cut_4 ρ σ (funQ Q) (funX X) := by
  have hl := G.1
  walk_at "ev"
  refine i_lenm hd (le_big hl) ?_
  walk_at "ev"
  refine i_modp hne ?_
  have m1 := Int.emod_lt_of_pos (x / 4) hne
  obtain ⟨m, hm⟩ := Int.eq_ofNat_of_zero_le (Int.emod_nonneg (x / 4) (Int.ne_of_gt hne))
  rw [hm]
  rw [hm] at m1
  have hm' : m < D.length := Int.ofNat_lt.mp m1
  have hmc : m < cs.length := C.1 ▸ hm'
  walk_at "ev"
  refine i_debt hd hm' (le_big hl) ?_
  walk_at "ev"
  intro a ha
  generalize hσ : upd σ a _ = σ1
  obtain ⟨x1, u1⟩ := al hσ ha
  clear hσ
  walk_at "ev"
  intro b hb
  generalize hσ : upd σ1 b _ = σ2
  obtain ⟨x2, u2⟩ := al hσ hb
  clear hσ
  have x12 := x1.trans x2
  refine i_seq (i_ret ?_)
  obtain ⟨v, p1, p2, p3⟩ := cut_pick (G.2 m hm').2.2.1 (x2 _ _ u1) (mod9 (x := x / 240)).2.2
  refine p_var (nm := "_law_cut") (m := m) (v := v) (x12 _ _ hc) (C.1 ▸ le_big hl) hmc (by walk_at "nm") (by walk_at "nm") (fun σ' Q' x3 hQ => ?_) fun e σ' x3 u3 => ?_
  · walk_at "ev"
    exact i_get mod9.1 mod9.2.1 (items_ref (x3 _ _ u2)) trivial p1 hQ
  · exact hq _ _ (x12.trans x3) (bad_place C hl hm' u3 (p2.ext x3) p3)
theorem p_bad_cut (hd : σ d = some (.list (D.map enc))) (G : GoodL n D) (hc : σ c = some (.list (cs.map .int))) (C : CutOk D cs)
    (hq : ∀ p σ', Ext σ σ' → BadK D σ' p → Q p σ') : T_law_bad_cut [.ref d, .ref c, .int x] σ Q X := by
  have hlen := C.1
  have hl := G.1
  have hc4 : cs.length ≤ 40 := hlen ▸ hl
  unfold T_law_bad_cut tb_law_bad_cut
  refine i_fun3 (i_seq (i_if ?_))
  walk_at "ex"
  refine ite_d (fun y => ?_) fun y => ?_
  · exact cut_tup hc hc4 y hq (by walk_at "nm") (by walk_at "nm")
  · refine i_nil (i_seq (i_if ?_))
    walk_at "ex"
    refine i_lenm hd (le_big hl) ?_
    walk_at "ex"
    refine ite_d (fun y0 => ?_) fun y0 => ?_
    · refine ite_t ?_
      exact cut_long hc hc4 hlen hq (by walk_at "nm")
    · walk_at "ex"
      have hne : 0 < D.length := by omega
      refine ite_d (fun y1 => ?_) fun y1 => ?_
      · exact ite_t (cut_long hc hc4 hlen hq (by walk_at "nm"))
      · refine i_false (ite_f (i_nil (i_seq (i_if ?_))))
        walk_at "ex"
        refine ite_d (fun y2 => ?_) fun y2 => ?_
        · exact cut_short hc hc4 hlen hne hq (by walk_at "nm")
        · exact i_nil (cut_odd hd G hc C (Int.ofNat_lt.mpr hne) hq (by walk_at "nm") (by walk_at "nm") (by walk_at "nm"))
end

theorem p_kind_cut {e : Addr} {σ : Sto} {Q : PV → Sto → Prop} {X : Addr → Sto → Prop} (hq : ∀ σ', Ext σ σ' → Q (.str "cut") σ') : T_law_kind [.exc e c_BadCut_07] σ Q X := by
  unfold T_law_kind tb_law_kind
  refine i_fun1 ?_
  walk_at "ev"
  intro w hw
  walk_at "ev"
  refine ⟨_, false, rfl, rfl, ?_⟩
  walk_at "ev"
  refine ⟨_, false, rfl, rfl, ?_⟩
  walk_at "ev"
  refine ⟨_, true, rfl, rfl, ?_⟩
  walk_at "ev"
  refine ⟨⟨_, upd_same⟩, ?_⟩
  walk_at "ev"
  refine i_append upd_same (by decide) ?_
  rw [upd_upd]
  walk_at "ev"
  refine ⟨_, false, rfl, rfl, ?_⟩
  walk_at "ev"
  refine ⟨_, false, rfl, rfl, ?_⟩
  walk_at "ev"
  refine ⟨_, false, rfl, rfl, ?_⟩
  walk_at "ev"
  refine ⟨_, false, rfl, rfl, ?_⟩
  walk_at "ev"
  refine ⟨_, false, rfl, rfl, ?_⟩
  walk_at "ev"
  refine ⟨_, false, rfl, rfl, ?_⟩
  walk_at "ev"
  refine i_len trivial (items_ref upd_same) (by simp) ?_
  walk_at "ev"
  refine ite_nd (fun h => absurd rfl h) fun _ => ?_
  walk_at "ev"
  refine ⟨_, true, rfl, rfl, ?_⟩
  walk_at "ev"
  refine i_get (by decide) (by decide) (items_ref upd_same) trivial rfl ?_
  walk_at "ev"
  exact hq _ (Ext.upd hw)
theorem p_kind_uneven {e : Addr} {σ : Sto} {Q : PV → Sto → Prop} {X : Addr → Sto → Prop} (hq : ∀ σ', Ext σ σ' → Q (.str "uneven") σ') : T_law_kind [.exc e c_Uneven_07] σ Q X := by
  unfold T_law_kind tb_law_kind
  refine i_fun1 ?_
  walk_at "ev"
  intro w hw
  walk_at "ev"
  refine ⟨_, false, rfl, rfl, ?_⟩
  walk_at "ev"
  refine ⟨_, false, rfl, rfl, ?_⟩
  walk_at "ev"
  refine ⟨_, false, rfl, rfl, ?_⟩
  walk_at "ev"
  refine ⟨_, true, rfl, rfl, ?_⟩
  walk_at "ev"
  refine ⟨⟨_, upd_same⟩, ?_⟩
  walk_at "ev"
  refine i_append upd_same (by decide) ?_
  rw [upd_upd]
  walk_at "ev"
  refine ⟨_, false, rfl, rfl, ?_⟩
  walk_at "ev"
  refine ⟨_, false, rfl, rfl, ?_⟩
  walk_at "ev"
  refine ⟨_, false, rfl, rfl, ?_⟩
  walk_at "ev"
  refine ⟨_, false, rfl, rfl, ?_⟩
  walk_at "ev"
  refine ⟨_, false, rfl, rfl, ?_⟩
  walk_at "ev"
  refine i_len trivial (items_ref upd_same) (by simp) ?_
  walk_at "ev"
  refine ite_nd (fun h => absurd rfl h) fun _ => ?_
  walk_at "ev"
  refine ⟨_, true, rfl, rfl, ?_⟩
  walk_at "ev"
  refine i_get (by decide) (by decide) (items_ref upd_same) trivial rfl ?_
  walk_at "ev"
  exact hq _ (Ext.upd hw)
theorem p_kind_best {e : Addr} {σ : Sto} {Q : PV → Sto → Prop} {X : Addr → Sto → Prop} (hq : ∀ σ', Ext σ σ' → Q (.str "not best") σ') : T_law_kind [.exc e c_NotBest_07] σ Q X := by
  unfold T_law_kind tb_law_kind
  refine i_fun1 ?_
  walk_at "ev"
  intro w hw
  walk_at "ev"
  refine ⟨_, false, rfl, rfl, ?_⟩
  walk_at "ev"
  refine ⟨_, false, rfl, rfl, ?_⟩
  walk_at "ev"
  refine ⟨_, false, rfl, rfl, ?_⟩
  walk_at "ev"
  refine ⟨_, false, rfl, rfl, ?_⟩
  walk_at "ev"
  refine ⟨_, false, rfl, rfl, ?_⟩
  walk_at "ev"
  refine ⟨_, true, rfl, rfl, ?_⟩
  walk_at "ev"
  refine ⟨⟨_, upd_same⟩, ?_⟩
  walk_at "ev"
  refine i_append upd_same (by decide) ?_
  rw [upd_upd]
  walk_at "ev"
  refine ⟨_, false, rfl, rfl, ?_⟩
  walk_at "ev"
  refine ⟨_, false, rfl, rfl, ?_⟩
  walk_at "ev"
  refine ⟨_, false, rfl, rfl, ?_⟩
  walk_at "ev"
  refine i_len trivial (items_ref upd_same) (by simp) ?_
  walk_at "ev"
  refine ite_nd (fun h => absurd rfl h) fun _ => ?_
  walk_at "ev"
  refine ⟨_, true, rfl, rfl, ?_⟩
  walk_at "ev"
  refine i_get (by decide) (by decide) (items_ref upd_same) trivial rfl ?_
  walk_at "ev"
  exact hq _ (Ext.upd hw)

/-! settles, shows -/
section
variable {n : Nat} {D : List (Int × Int × Int)} {cs : List Int} {d c h : Addr} {σ σ0 : Sto} {ρ : Env'} {A : Prop} {τ : Int → Int} {H H' : List Int} {f : Bool} {Qb : Fl → Env' → Sto → Prop} {XS : Addr → Env' → Sto → Prop} {M1 : List Mv} {k : Nat}
structure SeN (n : Nat) (d c h : Addr) (ρ : Env') : Prop where
  fn : ρ "_law_count_here" = some (.int (n : Nat))
  fd : ρ "_law_debts_here" = some (.ref d)
  fc : ρ "_law_cut" = some (.ref c)
  fh : ρ "_law_heights" = some (.ref h)
theorem mv_fwd (G : GoodL n D) (hk : k < D.length) : Within n (deb D k) ∧ Within n (cre D k) := ⟨(G.2 k hk).1, (G.2 k hk).2.1⟩
/-- the second half of a number -/
theorem se_back (hn : n ≤ 1000) (G : GoodL n D) (hk : k < D.length) (hl : cs.length = D.length) (hc : σ0 c = some (.list (cs.map .int))) (hh : σ0 h = none) (st : A → Steady (moves D cs) τ) (P : Pass n A τ M1 H H' f)
    (N : SeN n d c h ρ) (e1 : ρ "_law_number" = some (.int (k : Nat))) (e2 : ρ "_law_debtor" = some (.int (deb D k))) (e3 : ρ "_law_creditor" = some (.int (cre D k))) (e4 : ρ "_law_rising" = some (.bool f))
    (hq : ∀ H2 f2 ρ', SeN n d c h ρ' → ρ' "_law_rising" = some (.bool f2) → Pass n A τ (M1 ++ (if cs.getD k 0 > 0 then [(⟨cre D k, deb D k, 1, cs.getD k 0, k, -1⟩ : Mv)] else [])) H H2 f2 → Qb .next ρ' (upd σ0 h (.list (H2.map .int)))) : tb_law_settles_6 ρ (upd σ0 h (.list (H'.map .int))) Qb XS := by
  have hD := G.1
  obtain ⟨wd, wc⟩ := mv_fwd G hk
  have hch : c ≠ h := by rintro rfl; rw [hh] at hc; cases hc
  have hc' := upd_other (o := .list (H'.map .int)) hch hc
  obtain ⟨g1, g2, g3, g4⟩ := id N
  have atv : ∀ {v : Int} {kk : PV → Prop}, Within n v → kk (.int (av H' v)) → getP (upd σ0 h (.list (H'.map .int))) (.ref h) (.int v) kk := fun hv h => i_at' (f := PV.int) (z := 0) upd_same P.len hn hv h
  refine i_seq (i_if (i_and (i_cmpB (i_item ?_))))
  walk_at "ex"
  refine i_numk hc' (by omega) (by omega) ?_
  walk_at "ex"
  refine ite_d (fun y => ?_) fun y => ?_
  · rw [if_pos y] at hq
    walk_at "ex"
    refine atv wc ?_
    walk_at "ex"
    refine atv wd ?_
    walk_at "ex"
    have hm : (⟨cre D k, deb D k, 1, cs.getD k 0, k, -1⟩ : Mv) ∈ moves D cs := mem_moves.mpr ⟨hk, .inr ⟨y, rfl⟩⟩
    refine ite_d (fun z => ?_) fun z => ?_
    · refine i_true (ite_t (i_seq (i_store ?_)))
      walk_at "ex"
      refine atv wc ?_
      walk_at "ex"
      refine i_put' (f := PV.int) upd_same P.len hn wd ?_
      rw [upd_upd]
      refine i_seq (i_set (i_const (i_nil (i_nil ?_))))
      exact hq _ true _ ⟨by walk_at "nm", by walk_at "nm", by walk_at "nm", by walk_at "nm"⟩ setL_same (P.rise (m := ⟨cre D k, deb D k, 1, cs.getD k 0, k, -1⟩) ⟨wc, wd⟩ (fun a => st a _ hm) z)
    · refine ite_f (i_nil (i_nil ?_))
      exact hq H' f _ N e4 (P.keep (m := ⟨cre D k, deb D k, 1, cs.getD k 0, k, -1⟩) wc (by show ¬ av H' (deb D k) < av H' (cre D k) - 1; omega))
  · rw [if_neg y, List.append_nil] at hq
    refine ite_f (i_nil (i_nil ?_))
    exact hq H' f _ N e4 P
theorem se_num (hn : n ≤ 1000) (G : GoodL n D) (hk : k < D.length) (hl : cs.length = D.length) (hd : σ0 d = some (.list (D.map enc))) (hc : σ0 c = some (.list (cs.map .int))) (hh : σ0 h = none) (st : A → Steady (moves D cs) τ) (P : Pass n A τ M1 H H' f)
    (N : SeN n d c h ρ) (e1 : ρ "_law_number" = some (.int (k : Nat))) (e4 : ρ "_law_rising" = some (.bool f))
    (hq : ∀ H2 f2 ρ', SeN n d c h ρ' → ρ' "_law_rising" = some (.bool f2) → Pass n A τ (M1 ++ mvAt D cs k) H H2 f2 → Qb .next ρ' (upd σ0 h (.list (H2.map .int)))) : tb_law_settles_11 ρ (upd σ0 h (.list (H'.map .int))) Qb XS := by
  have hD := G.1
  obtain ⟨wd, wc⟩ := mv_fwd G hk
  have hch : c ≠ h := by rintro rfl; rw [hh] at hc; cases hc
  have hdh : d ≠ h := by rintro rfl; rw [hh] at hd; cases hd
  have hc' := upd_other (o := .list (H'.map .int)) hch hc
  have hd' := upd_other (o := .list (H'.map .int)) hdh hd
  obtain ⟨g1, g2, g3, g4⟩ := id N
  have atv : ∀ {v : Int} {kk : PV → Prop}, Within n v → kk (.int (av H' v)) → getP (upd σ0 h (.list (H'.map .int))) (.ref h) (.int v) kk := fun hv h => i_at' (f := PV.int) (z := 0) upd_same P.len hn hv h
  refine i_seq (i_set (i_item (i_item ?_)))
  walk_at "ex"
  refine i_debt hd' hk (by omega) ?_
  walk_at "ex"
  refine i_seq (i_set (i_item (i_item ?_)))
  walk_at "ex"
  refine i_debt hd' hk (by omega) ?_
  walk_at "ex"
  refine i_seq (i_if (i_and (i_cmpB (i_item ?_))))
  walk_at "ex"
  refine i_numk hc' (by omega) (by omega) ?_
  walk_at "ex"
  refine i_debt hd' hk (by omega) ?_
  walk_at "ex"
  have fin : ∀ (F : List Mv) (H1 : List Int) (f1 : Bool) (ρ1 : Env'), F = (if cs.getD k 0 < amt D k then [(⟨deb D k, cre D k, -1, amt D k - cs.getD k 0, k, 1⟩ : Mv)] else []) → Pass n A τ (M1 ++ F) H H1 f1 → SeN n d c h ρ1 → ρ1 "_law_number" = some (.int (k : Nat)) → ρ1 "_law_debtor" = some (.int (deb D k)) → ρ1 "_law_creditor" = some (.int (cre D k)) → ρ1 "_law_rising" = some (.bool f1) → tb_law_settles_6 ρ1 (upd σ0 h (.list (H1.map .int))) Qb XS := fun F H1 f1 ρ1 eF P1 N1 z1 z2 z3 z4 => by
    refine se_back hn G hk hl hc hh st P1 N1 z1 z2 z3 z4 fun H2 f2 ρ' N' e' P2 => ?_
    refine hq H2 f2 ρ' N' e' ?_
    unfold mvAt
    rw [← eF, ← List.append_assoc]
    exact P2
  refine ite_d (fun y => ?_) fun y => ?_
  · walk_at "ex"
    refine atv wd ?_
    walk_at "ex"
    refine atv wc ?_
    walk_at "ex"
    have hm : (⟨deb D k, cre D k, -1, amt D k - cs.getD k 0, k, 1⟩ : Mv) ∈ moves D cs := mem_moves.mpr ⟨hk, .inl ⟨y, rfl⟩⟩
    refine ite_d (fun z => ?_) fun z => ?_
    · refine i_true (ite_t (i_seq (i_store ?_)))
      walk_at "ex"
      refine atv wd ?_
      walk_at "ex"
      refine i_put' (f := PV.int) upd_same P.len hn wc ?_
      rw [upd_upd]
      refine i_seq (i_set (i_const (i_nil ?_)))
      have P1 := P.rise (m := ⟨deb D k, cre D k, -1, amt D k - cs.getD k 0, k, 1⟩) ⟨wd, wc⟩ (fun a => st a _ hm) (by show av H' (cre D k) < av H' (deb D k) - -1; omega)
      have e : av H' (deb D k) - -1 = av H' (deb D k) + 1 := by omega
      dsimp only at P1
      rw [e] at P1
      exact fin _ _ true _ (by rw [if_pos y]) P1 ⟨by walk_at "nm", by walk_at "nm", by walk_at "nm", by walk_at "nm"⟩ (by walk_at "nm") (by walk_at "nm") (by walk_at "nm") setL_same
    · refine ite_f (i_nil ?_)
      exact fin _ H' f _ (by rw [if_pos y]) (P.keep (m := ⟨deb D k, cre D k, -1, amt D k - cs.getD k 0, k, 1⟩) wd (by show ¬ av H' (cre D k) < av H' (deb D k) - -1; omega)) ⟨by walk_at "nm", by walk_at "nm", by walk_at "nm", by walk_at "nm"⟩ (by walk_at "nm") (by walk_at "nm") (by walk_at "nm") (by walk_at "nm")
  · refine ite_f (i_nil ?_)
    exact fin [] H' f _ (by rw [if_neg y]) (by rw [List.append_nil]; exact P) ⟨by walk_at "nm", by walk_at "nm", by walk_at "nm", by walk_at "nm"⟩ (by walk_at "nm") (by walk_at "nm") (by walk_at "nm") (by walk_at "nm")
inductive SeF (n : Nat) (A : Prop) (τ : Int → Int) (D : List (Int × Int × Int)) (cs : List Int) (d c h : Addr) (σ0 : Sto) (H : List Int) (ps : List PV) (ρ : Env') (σ : Sto) : Prop
  | mk (ds js : List Nat) (H' : List Int) (f : Bool) : SeN n d c h ρ → ρ "_law_rising" = some (.bool f) → ps = rg js → ds ++ js = List.range D.length → σ = upd σ0 h (.list (H'.map .int)) → Pass n A τ (ds.flatMap (mvAt D cs)) H H' f → SeF n A τ D cs d c h σ0 H ps ρ σ
theorem se_turn (hn : n ≤ 1000) (G : GoodL n D) (hl : cs.length = D.length) (hd : σ0 d = some (.list (D.map enc))) (hc : σ0 c = some (.list (cs.map .int))) (hh : σ0 h = none) (st : A → Steady (moves D cs) τ) (lh : H.length = n) (top : A → ∀ v, Within n v → av H v ≤ τ v)
    (N : SeN n d c h ρ) (still : ∀ ρ', Steady (moves D cs) (av H) → Qb (.ret (.bool true)) ρ' (upd σ0 h (.list (H.map .int)))) (rise : ∀ H2 ρ', SeN n d c h ρ' → Pass n A τ (moves D cs) H H2 true → Qb .next ρ' (upd σ0 h (.list (H2.map .int)))) : tb_law_settles_13 ρ (upd σ0 h (.list (H.map .int))) Qb XS := by
  have hD := G.1
  have hdh : d ≠ h := by rintro rfl; rw [hh] at hd; cases hd
  obtain ⟨g1, g2, g3, g4⟩ := id N
  refine i_seq (i_set (i_const ?_))
  refine i_seq (i_for ?_)
  walk_at "ex"
  refine i_lenm (upd_other hdh hd) (by omega) ?_
  walk_at "ex"
  refine i_rng (by omega) ?_
  refine forL_step (SeF n A τ D cs d c h σ0 H) (fun _ _ _ => False) ?_ ?_ (fun _ _ _ h => h.elim) _ _ _ ?_
  · rintro q ps ρ' σ' Qc ⟨ds, js, H', f, N', f1, f2, f3, rfl, P⟩ hnx _
    cases js with
    | nil => exact (rg_nil f2).elim
    | cons k js =>
      obtain ⟨rfl, rfl⟩ := rg_cons f2
      have hk : k < D.length := by
        have : k ∈ List.range D.length := by rw [← f3]; simp
        exact List.mem_range.mp this
      obtain ⟨z1, z2, z3, z4⟩ := N'
      refine se_num (d := d) hn G hk hl hd hc hh st P ⟨by walk_at "nm", by walk_at "nm", by walk_at "nm", by walk_at "nm"⟩ setL_same (by walk_at "nm") fun H2 f2' ρ2 N2 e2 P2 => ?_
      refine hnx _ _ rg_items ⟨ds ++ [k], js, H2, f2', N2, e2, rfl, by rw [List.append_assoc]; exact f3, rfl, ?_⟩
      rw [List.flatMap_append, List.flatMap_singleton]
      exact P2
  · rintro ρ' σ' ⟨ds, js, H', f, N', f1, f2, f3, rfl, P⟩
    have : js = [] := by cases js with | nil => rfl | cons k js => cases f2
    subst this
    rw [List.append_nil] at f3
    subst f3
    refine i_seq (i_if (i_not (i_test (i_name f1 ?_))))
    cases f with
    | false =>
      obtain ⟨k1, k2⟩ := P.still
      subst k1
      refine ite_nt (i_seq (i_ret (i_const ?_)))
      exact still ρ' k2
    | true =>
      refine ite_nf (i_nil (i_nil ?_))
      exact rise H' ρ' N' P
  · exact ⟨[], _, H, false, ⟨by walk_at "nm", by walk_at "nm", by walk_at "nm", by walk_at "nm"⟩, setL_same, rfl, rfl, rfl, Pass.nil lh top⟩
inductive SeO (n : Nat) (A : Prop) (τ : Int → Int) (d c h : Addr) (σ0 : Sto) (ps : List PV) (ρ : Env') (σ : Sto) : Prop
  | mk (H : List Int) : SeN n d c h ρ → σ = upd σ0 h (.list (H.map .int)) → H.length = n → (A → (∀ v, Within n v → 0 ≤ av H v ∧ av H v ≤ τ v) ∧ (n : Int) + 2 ≤ cnt n τ H + ps.length) → SeO n A τ d c h σ0 ps ρ σ
theorem p_settles {Q : PV → Sto → Prop} {X : Addr → Sto → Prop} (hn : n ≤ 900) (h1 : 1 ≤ n) (G : GoodL n D) (hl : cs.length = D.length) (hd : σ d = some (.list (D.map enc))) (hc : σ c = some (.list (cs.map .int)))
    (hq1 : (∃ p, Pot D cs p) → ∀ σ', Ext σ σ' → Q (.bool true) σ') (hq2 : (¬ ∃ p, Pot D cs p) → ∀ σ', Ext σ σ' → Q (.bool false) σ') : T_law_settles [.int (n : Nat), .ref d, .ref c] σ Q X := by
  have hn' : n ≤ 1000 := by omega
  have hM := moves_in (x := cs) G
  obtain ⟨τ, hL⟩ : ∃ τ, (∃ p, Pot D cs p) → Least n (moves D cs) τ := by
    by_cases hp : ∃ p, Pot D cs p
    · obtain ⟨p, P⟩ := hp
      obtain ⟨τ, L⟩ := pot_least (n := n) P
      exact ⟨τ, fun _ => L⟩
    · exact ⟨fun _ => 0, fun h => absurd h hp⟩
  unfold T_law_settles tb_law_settles
  refine i_fun3 (i_seq (i_set (c_zeros (by walk_at "nm") hn' fun h hh => ?_)))
  refine i_seq (i_for ?_)
  walk_at "ex"
  rw [show ((n : Nat) : Int) + 1 = ((n + 1 : Nat) : Int) by omega]
  refine i_rng (by omega) ?_
  have xh : ∀ o, Ext σ (upd σ h o) := fun o => Ext.upd hh
  refine forL_step (SeO n (∃ p, Pot D cs p) τ d c h σ) (fun v ρ' σ' => v = .bool true ∧ (∃ p, Pot D cs p) ∧ Ext σ σ') ?_ ?_ (fun v ρ' σ' k => ?_) _ _ _ ?_
  · rintro q ps ρ' σ' Qc ⟨H, N, rfl, lh, hA⟩ hnx hret
    obtain ⟨z1, z2, z3, z4⟩ := N
    refine se_turn (A := ∃ p, Pot D cs p) (τ := τ) hn' G hl hd hc hh (fun a => (hL a).steady) lh (fun a v hv => ((hA a).1 v hv).2) ⟨by walk_at "nm", by walk_at "nm", by walk_at "nm", by walk_at "nm"⟩ (fun ρ2 S => ?_) fun H2 ρ2 N2 P => ?_
    · exact hret _ _ _ ⟨rfl, ⟨_, steady_pot S⟩, xh _⟩
    · refine hnx _ _ rg_items ⟨H2, N2, rfl, P.len, fun a => ?_⟩
      obtain ⟨a1, a2⟩ := hA a
      have hne : ∃ v, Within n v ∧ av H v ≠ τ v := by
        by_cases e : ∃ v, Within n v ∧ av H v ≠ τ v
        · exact e
        · exfalso
          have same : ∀ v, Within n v → av H v = τ v := fun v hv => Classical.byContradiction fun k => e ⟨v, hv, k⟩
          have := P.more
          have : total n (av H2) ≤ total n (av H) := sm_le fun k hk => by
            have w : Within n (k : Int) := ⟨Int.natCast_nonneg _, Int.ofNat_lt.mpr hk⟩
            rw [same _ w]; exact P.top a _ w
          omega
      have m := cnt_more (hL a) hM P a (fun v hv => (a1 v hv).1) hne
      refine ⟨fun v hv => ⟨Int.le_trans (a1 v hv).1 (P.up v hv), P.top a v hv⟩, ?_⟩
      rw [List.length_cons] at a2
      omega
  · rintro ρ' σ' ⟨H, N, rfl, lh, hA⟩
    refine i_seq (i_ret (i_const ?_))
    by_cases a : ∃ p, Pot D cs p
    · have := (hA a).2
      have := cnt_le (n := n) (τ := τ) (H := H)
      simp at *
      omega
    · exact hq2 a _ (xh _)
  · obtain ⟨rfl, k1, k2⟩ := k
    exact hq1 k1 σ' k2
  · refine ⟨zeros n, ⟨by walk_at "nm", by walk_at "nm", by walk_at "nm", setL_same⟩, rfl, by simp [zeros], fun a => ⟨fun v hv => ⟨by rw [av_zeros]; exact Int.le_refl _, by rw [av_zeros]; exact (hL a).pos v hv⟩, ?_⟩⟩
    have := cnt_zero (H := zeros n) (hL a) hM h1 fun v _ => av_zeros
    rw [rg, List.length_map, List.length_range]
    omega
end

/-! the rest of the law -/
theorem i_eqd {σ : Sto} {a b : Addr} {d : PyData} {k : Bool → Prop} (h1 : DataOf σ (.ref a) d) (h2 : DataOf σ (.ref b) d) (c : d.canLay0 = true) (hd : d.depth ≤ 64) (h : k true) : cmpP .Eq σ (.ref a) (.ref b) k := by
  have s : SeqAt.shaped d = true := by
    unfold SeqAt.shaped
    rw [c, decide_eq_true hd]; rfl
  exact .inr (.inr ⟨_, _, h1, h2, s, s, by rw [SeqAt.eqv_refl _ c]; exact h⟩)
theorem ints_flat {σ : Sto} {ts : List Int} : ∀ x ∈ ts.map PV.int, Flat 3 σ x := fun x hx => by
  obtain ⟨z, _, rfl⟩ := List.mem_map.mp hx
  exact flat_int
theorem encs_flat {σ : Sto} {D : List (Int × Int × Int)} : ∀ x ∈ D.map enc, Flat 3 σ x := fun x hx => by
  obtain ⟨t, _, rfl⟩ := List.mem_map.mp hx
  refine (flat_tup (k := 0) fun y hy => ?_).mono (by decide)
  simp only [List.mem_cons, List.not_mem_nil, or_false] at hy
  rcases hy with rfl | rfl | rfl <;> exact flat_int
theorem i_ne2 {σ : Sto} {a b l1 l2 m1 m2 : Addr} {x1 x2 : List PV} {k : Bool → Prop} (ha : σ a = some (.list [.ref l1, .ref l2])) (hb : σ b = some (.list [.ref m1, .ref m2]))
    (h1 : σ l1 = some (.list x1)) (h2 : σ l2 = some (.list x2)) (g1 : σ m1 = some (.list x1)) (g2 : σ m2 = some (.list x2)) (f1 : ∀ x ∈ x1, Flat 3 σ x) (f2 : ∀ x ∈ x2, Flat 3 σ x) (h : k false) : cmpP .NotEq σ (.ref a) (.ref b) k := by
  obtain ⟨d1, p1, q1, r1⟩ := flats f1
  obtain ⟨d2, p2, q2, r2⟩ := flats f2
  refine i_eqd (k := fun r => k (!r)) (d := .list [.list d1, .list d2]) (.list ha (.cons (.list h1 p1) (.cons (.list h2 p2) .nil))) (.list hb (.cons (.list g1 p1) (.cons (.list g2 p2) .nil))) ?_ ?_ h
  · simp [PyData.canLay0, PyData.canLayAll0, q1, q2]
  · simp [PyData.depth, PyData.depthAll]; omega
theorem i_nes {σ : Sto} {x y : Str} {k : Bool → Prop} (h : k (!decide (x = y))) : cmpP .NotEq σ (.str x) (.str y) k := .inr (.inl ⟨x, y, rfl, rfl, h⟩)
section
variable {n : Nat} {D : List (Int × Int × Int)} {cs H b : List Int} {d c t f : Addr} {σ : Sto} {Q : PV → Sto → Prop} {X : Addr → Sto → Prop}
inductive ShI (d c t : Addr) (m : Nat) (τ : Sto) (ps : List PV) (ρ : Env') (σ : Sto) : Prop
  | mk (ds js : List Nat) : ρ "_law_debts_here" = some (.ref d) → ρ "_law_cut" = some (.ref c) → ρ "_law_tags" = some (.ref t) → ps = rg js → ds ++ js = List.range m → σ = τ → ShI d c t m τ ps ρ σ
theorem p_shows (hn : n ≤ 1000) (G : GoodL n D) (hl : cs.length = D.length) (lh : H.length = n) (S : Steady (moves D cs) (av H)) (hd : σ d = some (.list (D.map enc))) (hc : σ c = some (.list (cs.map .int))) (ht : σ t = some (.list (H.map .int))) (hq : Q (.bool true) σ) : T_law_shows [.ref d, .ref c, .ref t] σ Q X := by
  have hD := G.1
  unfold T_law_shows tb_law_shows
  refine i_fun3 (i_seq (i_for ?_))
  walk_at "ex"
  refine i_lenm hd (by omega) ?_
  walk_at "ex"
  refine i_rng (by omega) ?_
  refine forL_step (ShI d c t D.length σ) (fun _ _ _ => False) ?_ ?_ (fun _ _ _ h => h.elim) _ _ _ ?_
  · rintro q ps ρ' σ' Qb ⟨ds, js, f1, f2, f3, f4, f5, rfl⟩ hnx _
    cases js with
    | nil => exact (rg_nil f4).elim
    | cons k js =>
      obtain ⟨rfl, rfl⟩ := rg_cons f4
      have hk : k < D.length := by
        have : k ∈ List.range D.length := by rw [← f5]; simp
        exact List.mem_range.mp this
      obtain ⟨wd, wc⟩ := mv_fwd G hk
      have atv : ∀ {v : Int} {kk : PV → Prop}, Within n v → kk (.int (av H v)) → getP σ' (.ref t) (.int v) kk := fun hv h => i_at' (f := PV.int) (z := 0) ht lh hn hv h
      have s1 : 0 < cs.getD k 0 → av H (cre D k) - 1 ≤ av H (deb D k) := fun y => S ⟨cre D k, deb D k, 1, cs.getD k 0, k, -1⟩ (mem_moves.mpr ⟨hk, .inr ⟨y, rfl⟩⟩)
      have s2 : cs.getD k 0 < amt D k → av H (deb D k) - -1 ≤ av H (cre D k) := fun y => S ⟨deb D k, cre D k, -1, amt D k - cs.getD k 0, k, 1⟩ (mem_moves.mpr ⟨hk, .inl ⟨y, rfl⟩⟩)
      refine i_seq (i_unpack (i_item ?_))
      walk_at "ex"
      refine i_debt hd hk (by omega) ?_
      refine ⟨_, rfl, rfl, ?_⟩
      dsimp only [bindP]
      refine i_seq (i_set ?_)
      walk_at "ex"
      refine atv wd ?_
      walk_at "ex"
      refine atv wc ?_
      walk_at "ex"
      have go : ∀ ρ2, ρ2 "_law_debts_here" = some (.ref d) → ρ2 "_law_cut" = some (.ref c) → ρ2 "_law_tags" = some (.ref t) → Qb .next ρ2 σ' := fun ρ2 z1 z2 z3 => hnx _ _ rg_items ⟨ds ++ [k], js, z1, z2, z3, rfl, by rw [List.append_assoc]; exact f5, rfl⟩
      have two : ∀ ρ2, ρ2 "_law_debts_here" = some (.ref d) → ρ2 "_law_cut" = some (.ref c) → ρ2 "_law_tags" = some (.ref t) → ρ2 "_law_number" = some (.int (k : Nat)) → ρ2 "_law_amount" = some (.int (amt D k)) → ρ2 "_law_lure" = some (.int (1 + av H (deb D k) - av H (cre D k))) → tb_law_shows_3 ρ2 σ' Qb (funX X) := fun ρ2 z1 z2 z3 z4 z5 z6 => by
        refine i_seq (i_if (i_and (i_cmpB ?_)))
        walk_at "ex"
        refine ite_d (fun y => ?_) fun y => ?_
        · walk_at "ex"
          refine i_numk hc (by omega) (by omega) ?_
          walk_at "ex"
          refine ite_d (fun z => ?_) fun z => ?_
          · have := s2 z; omega
          · exact ite_f (i_nil (i_nil (go ρ2 z1 z2 z3)))
        · exact ite_f (i_nil (i_nil (go ρ2 z1 z2 z3)))
      refine i_seq (i_if (i_and (i_cmpB ?_)))
      walk_at "ex"
      refine ite_d (fun y => ?_) fun y => ?_
      · walk_at "ex"
        refine i_numk hc (by omega) (by omega) ?_
        walk_at "ex"
        refine ite_d (fun z => ?_) fun z => ?_
        · have := s1 z; omega
        · refine ite_f (i_nil ?_)
          exact two _ (by walk_at "nm") (by walk_at "nm") (by walk_at "nm") (by walk_at "nm") (by walk_at "nm") setL_same
      · refine ite_f (i_nil ?_)
        exact two _ (by walk_at "nm") (by walk_at "nm") (by walk_at "nm") (by walk_at "nm") (by walk_at "nm") setL_same
  · rintro ρ' σ' ⟨ds, js, f1, f2, f3, f4, f5, rfl⟩
    exact i_seq (i_ret (i_const hq))
  · exact ⟨[], _, by walk_at "nm", by walk_at "nm", by walk_at "nm", rfl, rfl, rfl⟩
inductive IcI (d c : Addr) (m : Nat) (τ : Sto) (ps : List PV) (ρ : Env') (σ : Sto) : Prop
  | mk (ds js : List Nat) : ρ "_law_debts_here" = some (.ref d) → ρ "_law_cut" = some (.ref c) → ps = rg js → ds ++ js = List.range m → σ = τ → IcI d c m τ ps ρ σ
theorem p_is_cut (G : GoodL n D) (C : CutOk D b) (hd : σ d = some (.list (D.map enc))) (hf : σ f = some (.list (b.map .int))) (hq : Q (.bool true) σ) : T_law_is_cut [.ref d, .ref f] σ Q X := by
  have hD := G.1
  have hl := C.1
  unfold T_law_is_cut tb_law_is_cut
  refine i_fun2 (i_seq (i_if ?_))
  walk_at "ex"
  refine ⟨_, true, ty_list hf, rfl, ?_⟩
  refine ite_nf ?_
  walk_at "ex"
  refine i_lenm hf (by omega) ?_
  walk_at "ex"
  refine i_lenm hd (by omega) ?_
  walk_at "ex"
  refine ite_nd (fun y => absurd (by rw [hl]) y) fun _ => ?_
  refine i_false (ite_f (i_nil ?_))
  refine i_seq (i_for ?_)
  walk_at "ex"
  refine i_lenm hd (by omega) ?_
  walk_at "ex"
  refine i_rng (by omega) ?_
  refine forL_step (IcI d f D.length σ) (fun _ _ _ => False) ?_ ?_ (fun _ _ _ h => h.elim) _ _ _ ?_
  · rintro q ps ρ' σ' Qb ⟨ds, js, f1, f2, f4, f5, rfl⟩ hnx _
    cases js with
    | nil => exact (rg_nil f4).elim
    | cons k js =>
      obtain ⟨rfl, rfl⟩ := rg_cons f4
      have hk : k < D.length := by
        have : k ∈ List.range D.length := by rw [← f5]; simp
        exact List.mem_range.mp this
      obtain ⟨b1, b2⟩ := C.2 k hk
      refine i_seq (i_if ?_)
      walk_at "ex"
      refine i_numk hf (by omega) (by omega) ?_
      walk_at "ex"
      refine p_whole ?_
      refine ite_nf ?_
      walk_at "ex"
      refine i_numk hf (by omega) (by omega) ?_
      walk_at "ex"
      refine ite_d (fun _ => ?_) fun y => absurd b1 y
      walk_at "ex"
      refine i_debt hd hk (by omega) ?_
      walk_at "ex"
      refine ite_nd (fun y => absurd b2 y) fun _ => ?_
      refine i_false (ite_f (i_nil (i_nil ?_)))
      exact hnx _ _ rg_items ⟨ds ++ [k], js, by walk_at "nm", by walk_at "nm", rfl, by rw [List.append_assoc]; exact f5, rfl⟩
  · rintro ρ' σ' ⟨ds, js, f1, f2, f4, f5, rfl⟩
    exact i_seq (i_ret (i_const hq))
  · exact ⟨[], _, by walk_at "nm", by walk_at "nm", rfl, rfl, rfl⟩
inductive IpI (d c t : Addr) (τ : Sto) (ps : List PV) (ρ : Env') (σ : Sto) : Prop
  | mk (zs : List Int) : ρ "_law_debts_here" = some (.ref d) → ρ "_law_cut" = some (.ref c) → ρ "_law_tags" = some (.ref t) → ps = zs.map .int → σ = τ → IpI d c t τ ps ρ σ
theorem p_is_priced (hn : n ≤ 1000) (G : GoodL n D) (hl : cs.length = D.length) (lh : H.length = n) (S : Steady (moves D cs) (av H)) (hd : σ d = some (.list (D.map enc))) (hc : σ c = some (.list (cs.map .int))) (ht : σ t = some (.list (H.map .int))) (hq : Q (.bool true) σ) : T_law_is_priced [.int (n : Nat), .ref d, .ref c, .ref t] σ Q X := by
  unfold T_law_is_priced tb_law_is_priced
  refine i_fun4 (i_seq (i_if ?_))
  walk_at "ex"
  refine ⟨_, true, ty_list ht, rfl, ?_⟩
  refine ite_nf ?_
  walk_at "ex"
  refine i_lenm ht (by omega) ?_
  walk_at "ex"
  refine ite_nd (fun y => absurd (by rw [lh]) y) fun _ => ?_
  refine i_false (ite_f (i_nil ?_))
  refine i_seq (i_for (i_name (by walk_at "nm") ⟨_, items_ref ht, trivial, ?_⟩))
  refine forL_step (IpI d c t σ) (fun _ _ _ => False) ?_ ?_ (fun _ _ _ h => h.elim) _ _ _ ?_
  · rintro q ps ρ' σ' Qb ⟨zs, f1, f2, f3, f4, rfl⟩ hnx _
    cases zs with
    | nil => cases f4
    | cons z zs =>
      injection f4 with f4 f5
      subst f4 f5
      refine i_seq (i_if ?_)
      walk_at "ex"
      refine p_whole ?_
      refine ite_nf (i_nil (i_nil ?_))
      exact hnx _ _ (items_ref ht) ⟨zs, by walk_at "nm", by walk_at "nm", by walk_at "nm", rfl, rfl⟩
  · rintro ρ' σ' ⟨zs, f1, f2, f3, f4, rfl⟩
    refine i_seq (i_ret (i_call ?_))
    walk_at "ex"
    exact p_shows hn G hl lh S hd hc ht hq
  · exact ⟨H, by walk_at "nm", by walk_at "nm", by walk_at "nm", rfl, rfl⟩
/-! priced, bettered -/
theorem p_bettered (hn : n ≤ 1000) (h1 : 1 ≤ n) (hd : σ d = some (.list (D.map enc))) (G : GoodL n D) (hc : σ c = some (.list (cs.map .int))) (C : CutOk D cs) (E : Even n D cs) (lam : LamS σ)
    (hq1 : (¬ ∃ p, Pot D cs p) → ∀ f b σ', ButP lamP σ σ' → LamS σ' → σ' f = some (.list (b.map .int)) → CutOk D b → Even n D b → cs.sum < b.sum → Q (.ref f) σ') (hq2 : (∃ p, Pot D cs p) → ∀ σ', ButP lamP σ σ' → LamS σ' → Q .none σ') : T_law_bettered [.int (n : Nat), .ref d, .ref c] σ Q X := by
  unfold T_law_bettered tb_law_bettered
  refine i_fun3 ?_
  walk_at "ev"
  refine p_better hn h1 hd G hc C E lam (fun hp f b σ' u1 u2 u3 u4 u5 u6 => ?_) fun hp σ' u1 u2 => ?_
  · exact hq1 hp f b σ' u1 u2 u3 u4 u5 u6
  · exact hq2 hp σ' u1 u2
theorem p_priced (hn : n ≤ 1000) (h1 : 1 ≤ n) (hd : σ d = some (.list (D.map enc))) (G : GoodL n D) (hc : σ c = some (.list (cs.map .int))) (C : CutOk D cs) (E : Even n D cs) (lam : LamS σ)
    (hq : (∃ p, Pot D cs p) → ∀ t H σ', ButP lamP σ σ' → LamS σ' → σ' t = some (.list (H.map .int)) → H.length = n → Steady (moves D cs) (av H) → Q (.ref t) σ') (hx : (¬ ∃ p, Pot D cs p) → ∀ σ', ButP lamP σ σ' → LamS σ' → Q (.str "not best") σ') : T_law_priced [.int (n : Nat), .ref d, .ref c] σ Q X := by
  unfold T_law_priced tb_law_priced
  refine i_fun3 ?_
  walk_at "ev"
  refine p_prices hn h1 hd G hc C E lam (fun hp t H σ' u1 u2 u3 u4 u5 => ?_) fun hp σ' u1 u2 => ?_
  · exact hq hp t H σ' u1 u2 u3 u4 u5
  · refine ⟨by decide, fun e he => ?_⟩
    walk_at "ev"
    refine p_kind_best fun σ'' x => ?_
    exact hx hp σ'' (u1.ext x) (u2.ext x)
/-- what is refused, and how -/
noncomputable def Refuse (n : Nat) (D : List (Int × Int × Int)) (σ : Sto) (p : PV) (w : Str) : Prop := (w = "cut" ∧ BadK D σ p) ∨ (w = "uneven" ∧ ∃ c cs, p = .ref c ∧ σ c = some (.list (cs.map .int)) ∧ CutOk D cs ∧ ¬ Even n D cs)
theorem Refuse.ext {σ' : Sto} {p : PV} {w : Str} (h : Refuse n D σ p w) (x : Ext σ σ') : Refuse n D σ' p w := by
  rcases h with ⟨e, h⟩ | ⟨e, c, cs, h1, h2, h3⟩
  · exact .inl ⟨e, h.ext x⟩
  · exact .inr ⟨e, c, cs, h1, x _ _ h2, h3⟩
theorem need_refuse {p : PV} {w : Str} {Q0 : PV → Sto → Prop} {X0 : Addr → Sto → Prop} (hn : n ≤ 1000) (hd : σ d = some (.list (D.map enc))) (G : GoodL n D) (h : Refuse n D σ p w) (h1 : w = "cut" → X0 c_BadCut_07 σ) (h2 : w = "uneven" → ∀ σ', Ext σ σ' → X0 c_Uneven_07 σ') : T_need_even [.int (n : Nat), .ref d, p] σ Q0 X0 := by
  rcases h with ⟨e, h⟩ | ⟨e, c, cs, rfl, hc, C, hE⟩
  · exact p_need_even_bad hd G h (h1 e)
  · exact p_need_even hn hd G hc C (fun E => absurd E hE) fun _ => h2 e
theorem better_refuse {p : PV} {w : Str} {Q0 : PV → Sto → Prop} {X0 : Addr → Sto → Prop} (hn : n ≤ 1000) (hd : σ d = some (.list (D.map enc))) (G : GoodL n D) (h : Refuse n D σ p w) (h1 : w = "cut" → X0 c_BadCut_07 σ) (h2 : w = "uneven" → ∀ σ', Ext σ σ' → X0 c_Uneven_07 σ') : T_better [.int (n : Nat), .ref d, p] σ Q0 X0 := by
  unfold T_better tb_better
  refine i_fun3 (i_seq (i_expr (i_call ?_)))
  walk_at "ex"
  exact need_refuse hn hd G h h1 h2
theorem p_bettered_no {p : PV} {w : Str} (hn : n ≤ 1000) (hd : σ d = some (.list (D.map enc))) (G : GoodL n D) (h : Refuse n D σ p w) (hq : ∀ σ', Ext σ σ' → Q (.str w) σ') : T_law_bettered [.int (n : Nat), .ref d, p] σ Q X := by
  unfold T_law_bettered tb_law_bettered
  refine i_fun3 ?_
  walk_at "ev"
  refine better_refuse hn hd G h (fun e => ?_) fun e σ1 x1 => ?_
  · refine ⟨by decide, fun e' he => ?_⟩
    walk_at "ev"
    subst e
    refine p_kind_cut fun σ'' x => ?_
    exact hq σ'' x
  · refine ⟨by decide, fun e' he => ?_⟩
    walk_at "ev"
    subst e
    refine p_kind_uneven fun σ'' x => ?_
    exact hq σ'' (x1.trans x)
theorem p_priced_no {p : PV} {w : Str} (hn : n ≤ 1000) (hd : σ d = some (.list (D.map enc))) (G : GoodL n D) (h : Refuse n D σ p w) (hq : ∀ σ', Ext σ σ' → Q (.str w) σ') : T_law_priced [.int (n : Nat), .ref d, p] σ Q X := by
  unfold T_law_priced tb_law_priced
  refine i_fun3 ?_
  walk_at "ev"
  unfold T_prices tb_prices
  refine i_fun3 (i_seq (i_if (i_cmpB (i_call ?_))))
  walk_at "ex"
  refine better_refuse hn hd G h (fun e => ?_) fun e σ1 x1 => ?_
  · refine ⟨by decide, fun e' he => ?_⟩
    walk_at "ev"
    subst e
    refine p_kind_cut fun σ'' x => ?_
    exact hq σ'' x
  · refine ⟨by decide, fun e' he => ?_⟩
    walk_at "ev"
    subst e
    refine p_kind_uneven fun σ'' x => ?_
    exact hq σ'' (x1.trans x)
end

section
variable {n : Nat} {D : List (Int × Int × Int)} {cs : List Int} {d c : Addr} {ρ : Env'} {σ : Sto}
noncomputable abbrev Yes : PV → Sto → Prop := fun p σ => p = .bool true ∧ LamS σ
theorem keepL {σ σ' : Sto} {a : Addr} {xs : List PV} (lam : LamS σ) (b : ButP lamP σ σ') (h : σ a = some (.list xs)) : σ' a = some (.list xs) := b a _ (lam.ne h) h
theorem m5_yes {t : Addr} {H : List Int} (hn : n ≤ 900) (h1 : 1 ≤ n) (G : GoodL n D) (C : CutOk D cs) (hp : ∃ p, Pot D cs p) (hd : σ d = some (.list (D.map enc))) (hc : σ c = some (.list (cs.map .int))) (ht : σ t = some (.list (H.map .int))) (lh : H.length = n) (S : Steady (moves D cs) (av H)) (lam : LamS σ)
    (e1 : ρ "_law_count_here" = some (.int (n : Nat))) (e2 : ρ "_law_debts_here" = some (.ref d)) (e3 : ρ "_law_cut" = some (.ref c)) (e4 : ρ "_law_found" = some .none) (e5 : ρ "_law_tags" = some (.ref t)) : tb_law_main_5 ρ σ (funQ Yes) (funX nope) := by
  refine i_seq (i_if (i_test (i_call ?_)))
  walk_at "ex"
  refine p_settles hn h1 G C.1 hd hc (fun _ σ' x => ?_) fun h => absurd hp h
  refine ite_t ?_
  refine i_seq (i_ret (i_andE ?_))
  walk_at "ex"
  dsimp only [isNone]
  walk_at "ex"
  exact p_is_priced (by omega) G C.1 lh S (x _ _ hd) (x _ _ hc) (x _ _ ht) ⟨rfl, lam.ext x⟩
theorem m5_no {f : Addr} {b : List Int} (hn : n ≤ 900) (h1 : 1 ≤ n) (G : GoodL n D) (C : CutOk D cs) (hp : ¬ ∃ p, Pot D cs p) (hd : σ d = some (.list (D.map enc))) (hc : σ c = some (.list (cs.map .int))) (hf : σ f = some (.list (b.map .int))) (Cb : CutOk D b) (Eb : Even n D b) (hs : cs.sum < b.sum) (lam : LamS σ)
    (e1 : ρ "_law_count_here" = some (.int (n : Nat))) (e2 : ρ "_law_debts_here" = some (.ref d)) (e3 : ρ "_law_cut" = some (.ref c)) (e4 : ρ "_law_found" = some (.ref f)) (e5 : ρ "_law_tags" = some (.str "not best")) : tb_law_main_5 ρ σ (funQ Yes) (funX nope) := by
  refine i_seq (i_if (i_test (i_call ?_)))
  walk_at "ex"
  refine p_settles hn h1 G C.1 hd hc (fun h => absurd h hp) fun _ σ1 x1 => ?_
  refine ite_f (i_nil ?_)
  refine i_seq (i_if ?_)
  walk_at "ex"
  refine p_is_cut G Cb (x1 _ _ hd) (x1 _ _ hf) ?_
  refine ite_nf ?_
  walk_at "ex"
  refine p_is_even (by omega) (x1 _ _ hd) G (x1 _ _ hf) Cb fun σ2 x2 => ?_
  rw [evenB_yes G Eb]
  refine ite_nf (i_false (ite_f (i_nil ?_)))
  refine i_seq (i_ret (i_andE (i_cmp (i_call (i_econs (i_name e4 (i_enil (i_sum (x2 _ _ (x1 _ _ hf)) ?_))))))))
  walk_at "ex"
  refine i_sum (x2 _ _ (x1 _ _ hc)) ?_
  walk_at "ex"
  rw [decide_eq_true hs]
  dsimp only
  walk_at "ex"
  exact ⟨rfl, lam.ext (x1.trans x2)⟩
theorem m10 (hn : n ≤ 900) (h1 : 1 ≤ n) (G : GoodL n D) (C : CutOk D cs) (E : Even n D cs) (hd : σ d = some (.list (D.map enc))) (hc : σ c = some (.list (cs.map .int))) (lam : LamS σ)
    (e1 : ρ "_law_count_here" = some (.int (n : Nat))) (e2 : ρ "_law_debts_here" = some (.ref d)) (e3 : ρ "_law_cut" = some (.ref c)) : tb_law_main_10 ρ σ (funQ Yes) (funX nope) := by
  have hD := G.1
  have hl := C.1
  have hn' : n ≤ 1000 := by omega
  refine i_seq (i_set (i_list (i_econs (i_call (i_econs (i_name e2 (i_enil ?_)))))))
  refine a_listm hd (by omega) fun σ1 l1 x1 v1 => ?_
  walk_at "ex"
  refine a_listm (x1 _ _ hc) (by omega) fun σ2 l2 x2 v2 => ?_
  walk_at "ex"
  intro h hh
  generalize hσ3 : upd σ2 h _ = σ3
  obtain ⟨x3, u3⟩ := al hσ3 hh
  have lam3 := lam.ext (x1.trans (x2.trans x3))
  have hd3 := (x1.trans (x2.trans x3)) _ _ hd
  have hc3 := (x1.trans (x2.trans x3)) _ _ hc
  have w1 := (x2.trans x3) _ _ v1
  have w2 := x3 _ _ v2
  clear hσ3 hh
  refine i_seq (i_set (i_call (i_econs (i_name (by walk_at "nm") (i_econs (i_item ?_))))))
  walk_at "ex"
  refine i_get (by decide) (by decide) (items_ref u3) trivial rfl ?_
  walk_at "ex"
  refine i_get (by decide) (by decide) (items_ref u3) trivial rfl ?_
  walk_at "ex"
  -- the second call and what follows, whatever was found
  have rest : ∀ (v : PV) (σ4 : Sto), ButP lamP σ3 σ4 → LamS σ4 → (∀ (tg : PV) (σ5 : Sto) (ρ' : Env'), ButP lamP σ4 σ5 → LamS σ5 → (((∃ p, Pot D cs p) ∧ ∃ t H, tg = .ref t ∧ σ5 t = some (.list (H.map .int)) ∧ H.length = n ∧ Steady (moves D cs) (av H)) ∨ ((¬ ∃ p, Pot D cs p) ∧ tg = .str "not best")) → ρ' "_law_count_here" = some (.int (n : Nat)) → ρ' "_law_debts_here" = some (.ref d) → ρ' "_law_cut" = some (.ref c) → ρ' "_law_found" = some v → ρ' "_law_tags" = some tg → ∀ σ6, Ext σ5 σ6 → tb_law_main_5 ρ' σ6 (funQ Yes) (funX nope)) →
      tb_law_main_8 (setL (setL ρ "_law_handed" (.ref h)) "_law_found" v) σ4 (funQ Yes) (funX nope) := fun v σ4 but lam4 k => by
    have u4 := keepL lam3 but u3
    refine i_seq (i_set (i_call (i_econs (i_name (by walk_at "nm") (i_econs (i_item ?_))))))
    walk_at "ex"
    refine i_get (by decide) (by decide) (items_ref u4) trivial rfl ?_
    walk_at "ex"
    refine i_get (by decide) (by decide) (items_ref u4) trivial rfl ?_
    walk_at "ex"
    have after : ∀ (tg : PV) (σ5 : Sto), ButP lamP σ4 σ5 → LamS σ5 → (((∃ p, Pot D cs p) ∧ ∃ t H, tg = .ref t ∧ σ5 t = some (.list (H.map .int)) ∧ H.length = n ∧ Steady (moves D cs) (av H)) ∨ ((¬ ∃ p, Pot D cs p) ∧ tg = .str "not best")) → tb_law_main_7 (setL (setL (setL ρ "_law_handed" (.ref h)) "_law_found" v) "_law_tags" tg) σ5 (funQ Yes) (funX nope) := fun tg σ5 but5 lam5 ht => by
      have u5 := keepL lam4 but5 u4
      have d5 := keepL lam4 but5 (keepL lam3 but hd3)
      have c5 := keepL lam4 but5 (keepL lam3 but hc3)
      have y1 := keepL lam4 but5 (keepL lam3 but w1)
      have y2 := keepL lam4 but5 (keepL lam3 but w2)
      refine i_seq (i_if (i_cmpB (i_name (by walk_at "nm") (i_list ?_))))
      walk_at "ex"
      intro g hg
      have xg := Ext.upd (o := .list [.ref d, .ref c]) hg
      refine i_ne2 (xg _ _ u5) upd_same (xg _ _ y1) (xg _ _ y2) (xg _ _ d5) (xg _ _ c5) encs_flat ints_flat ?_
      refine ite_f (i_nil ?_)
      exact k tg σ5 _ but5 lam5 ht (by walk_at "nm") (by walk_at "nm") (by walk_at "nm") (by walk_at "nm") (by walk_at "nm") _ xg
    refine p_priced hn' h1 (keepL lam3 but w1) G (keepL lam3 but w2) C E lam4 (fun hp t H σ5 but5 lam5 ut lh S => ?_) fun hp σ5 but5 lam5 => ?_
    · exact after _ σ5 but5 lam5 (.inl ⟨hp, t, H, rfl, ut, lh, S⟩)
    · exact after _ σ5 but5 lam5 (.inr ⟨hp, rfl⟩)
  refine p_bettered hn' h1 w1 G w2 C E lam3 (fun hp f b σ4 but lam4 uf Cb Eb hs => ?_) fun hp σ4 but lam4 => ?_
  · refine rest _ σ4 but lam4 fun tg σ5 ρ' but5 lam5 ht z1 z2 z3 z4 z5 σ6 x6 => ?_
    rcases ht with ⟨h, _⟩ | ⟨_, rfl⟩
    · exact absurd h hp
    · exact m5_no hn h1 G C hp (x6 _ _ (keepL lam4 but5 (keepL lam3 but hd3))) (x6 _ _ (keepL lam4 but5 (keepL lam3 but hc3))) (x6 _ _ (keepL lam4 but5 uf)) Cb Eb hs (lam5.ext x6) z1 z2 z3 z4 z5
  · refine rest _ σ4 but lam4 fun tg σ5 ρ' but5 lam5 ht z1 z2 z3 z4 z5 σ6 x6 => ?_
    rcases ht with ⟨_, t, H, rfl, ut, lh, S⟩ | ⟨h, _⟩
    · exact m5_yes hn h1 G C hp (x6 _ _ (keepL lam4 but5 (keepL lam3 but hd3))) (x6 _ _ (keepL lam4 but5 (keepL lam3 but hc3))) (x6 _ _ ut) lh S (lam5.ext x6) z1 z2 z3 z4 z5
    · exact absurd hp h
/-- what is refused -/
theorem m13 {p : PV} {w : Str} (hn : n ≤ 1000) (G : GoodL n D) (hd : σ d = some (.list (D.map enc))) (hr : Refuse n D σ p w) (lam : LamS σ) (e1 : ρ "_law_count_here" = some (.int (n : Nat))) (e2 : ρ "_law_debts_here" = some (.ref d)) (e3 : ρ "_law_bad" = some p) (e4 : ρ "_law_due" = some (.str w)) : tb_law_main_13 ρ σ (funQ Yes) (funX nope) := by
  have hD := G.1
  refine i_seq (i_if (i_cmpB (i_call (i_econs (i_name e1 (i_econs (i_call (i_econs (i_name e2 (i_enil ?_)))))))))) 
  refine a_listm hd (by omega) fun σ1 l1 x1 v1 => ?_
  walk_at "ex"
  refine p_priced_no hn v1 G (hr.ext x1) fun σ2 x2 => ?_
  walk_at "ex"
  refine i_nes ?_
  refine ite_nd (fun k => absurd rfl k) fun _ => ?_
  refine i_nil ?_
  have xa := x1.trans x2
  refine i_seq (i_ret (i_cmp (i_call (i_econs (i_name e1 (i_econs (i_call (i_econs (i_name e2 (i_enil ?_))))))))))
  refine a_listm (xa _ _ hd) (by omega) fun σ3 l2 x3 v3 => ?_
  walk_at "ex"
  refine p_bettered_no hn v3 G (hr.ext (xa.trans x3)) fun σ4 x4 => ?_
  walk_at "ex"
  exact ⟨rfl, lam.ext (xa.trans (x3.trans x4))⟩
end

section
variable {n : Nat} {D : List (Int × Int × Int)} {cs : List Int} {d c : Addr} {ρ : Env'} {σ : Sto}
theorem set_set {cs : List Int} {j : Nat} {y z : Int} : (cs.set j y).set j z = cs.set j z := by
  apply List.ext_getElem?
  intro k
  rw [List.getElem?_set, List.getElem?_set, List.getElem?_set, List.length_set]
  by_cases e : j = k
  · rw [if_pos e, if_pos e]
  · rw [if_neg e, if_neg e, if_neg e]
theorem near_cut {j : Nat} {z : Int} (C : CutOk D cs) (hj : j < D.length) (h : 0 ≤ cs.getD j 0 + z ∧ cs.getD j 0 + z ≤ amt D j) : CutOk D (cs.set j (cs.getD j 0 + z)) := by
  refine ⟨by rw [List.length_set]; exact C.1, fun k hk => ?_⟩
  rw [getD_setn (by rw [C.1]; exact hj)]
  split
  · rename_i e; subst e; exact h
  · exact C.2 k hk
theorem m21 {way cell : Int} (hn : n ≤ 1000) (G : GoodL n D) (hne : ∀ k, k < D.length → deb D k ≠ cre D k) (C : CutOk D cs) (E : Even n D cs) (hd : σ d = some (.list (D.map enc))) (hc : σ c = some (.list (cs.map .int))) (hw : 0 ≤ way ∧ way < 2) (hD0 : 0 < (D.length : Int)) (lam : LamS σ)
    (e1 : ρ "_law_count_here" = some (.int (n : Nat))) (e2 : ρ "_law_debts_here" = some (.ref d)) (e3 : ρ "_law_cut" = some (.ref c)) (e4 : ρ "_law_way" = some (.int way)) (e5 : ρ "_law_cell" = some (.int cell)) : tb_law_main_21 ρ σ (funQ Yes) (funX nope) := by
  have hD := G.1
  have hl := C.1
  have due : ∀ (p : PV) (w : Str) (ρ' : Env') (σ' : Sto), Refuse n D σ' p w → (way = 0 ∧ w = "uneven" ∨ way = 1 ∧ w = "cut") → σ' d = some (.list (D.map enc)) → LamS σ' → ρ' "_law_count_here" = some (.int (n : Nat)) → ρ' "_law_debts_here" = some (.ref d) → ρ' "_law_bad" = some p → ρ' "_law_way" = some (.int way) → tb_law_main_14 ρ' σ' (funQ Yes) (funX nope) := fun p w ρ' σ' hr hway hd' lam' z1 z2 z3 z4 => by
    refine i_seq (i_set (i_item (i_list ?_)))
    walk_at "ex"
    intro g hg
    have xg := Ext.upd (o := .list [.str "uneven", .str "cut"]) hg
    walk_at "ex"
    rcases hway with ⟨rfl, rfl⟩ | ⟨rfl, rfl⟩
    · refine i_get (by decide) (by decide) (items_ref upd_same) trivial rfl ?_
      exact m13 hn G (xg _ _ hd') (hr.ext xg) (lam'.ext xg) (by walk_at "nm") (by walk_at "nm") (by walk_at "nm") setL_same
    · refine i_get (by decide) (by decide) (items_ref upd_same) trivial rfl ?_
      exact m13 hn G (xg _ _ hd') (hr.ext xg) (lam'.ext xg) (by walk_at "nm") (by walk_at "nm") (by walk_at "nm") setL_same
  refine i_seq (i_set (i_call ?_))
  walk_at "ex"
  refine p_bad_cut hd G hc C fun p σ1 x1 B => ?_
  refine i_seq (i_if ?_)
  walk_at "ex"
  refine ite_d (fun y => ?_) fun y => ?_
  · refine i_seq (i_set (i_bin ?_))
    walk_at "ex"
    refine i_lenm (x1 _ _ hd) (by omega) ?_
    refine i_modp hD0 ?_
    have m1 := Int.emod_lt_of_pos cell hD0
    obtain ⟨j, hj⟩ := Int.eq_ofNat_of_zero_le (Int.emod_nonneg cell (Int.ne_of_gt hD0))
    rw [hj] at m1
    rw [hj]
    have hjD : j < D.length := Int.ofNat_lt.mp m1
    have hjc : j < cs.length := by omega
    have wj : Within D.length ((j : Nat) : Int) := ⟨Int.natCast_nonneg _, m1⟩
    obtain ⟨b1, b2⟩ := C.2 j hjD
    have a1 := (G.2 j hjD).2.2.1
    refine i_seq (i_set (i_call ?_))
    walk_at "ex"
    refine i_listm (x1 _ _ hc) (by omega) fun g hg => ?_
    have xg := Ext.upd (o := .list (cs.map .int)) hg
    have hcg : c ≠ g := by rintro rfl; rw [x1 _ _ hc] at hg; cases hg
    have hdg : d ≠ g := by rintro rfl; rw [x1 _ _ hd] at hg; cases hg
    refine i_seq (i_store (i_bin (i_item ?_)))
    walk_at "ex"
    refine i_numk upd_same hjc (by omega) ?_
    walk_at "ex"
    refine i_put upd_same ⟨Int.natCast_nonneg _, by omega⟩ (by omega) ?_
    rw [upd_upd, Int.toNat_natCast]
    have hc2 := upd_other (o := .list ((cs.set j (cs.getD j 0 + 1)).map .int)) hcg (x1 _ _ hc)
    have hd2 := upd_other (o := .list ((cs.set j (cs.getD j 0 + 1)).map .int)) hdg (x1 _ _ hd)
    refine i_seq (i_if (i_cmpB (i_item ?_)))
    walk_at "ex"
    refine i_numk hc2 hjc (by omega) ?_
    walk_at "ex"
    refine i_debt hd2 hjD (by omega) ?_
    walk_at "ex"
    refine ite_d (fun z => ?_) fun z => ?_
    · refine i_seq (i_store (i_bin (i_item ?_)))
      walk_at "ex"
      refine i_numk hc2 hjc (by omega) ?_
      walk_at "ex"
      refine i_put upd_same ⟨Int.natCast_nonneg _, by rw [List.length_set]; omega⟩ (by rw [List.length_set]; omega) ?_
      rw [upd_upd, Int.toNat_natCast, set_set]
      refine i_nil (i_nil ?_)
      have eq : cs.getD j 0 - 1 = cs.getD j 0 + -1 := by omega
      rw [eq]
      exact due (.ref g) "uneven" _ _ (.inr ⟨rfl, g, _, rfl, upd_same, near_cut C hjD (by omega), uneven G hl hjD (hne j hjD) (by decide) E⟩) (.inl ⟨y, rfl⟩) (upd_other hdg (x1 _ _ hd)) ((lam.ext x1).ext (Ext.upd hg)) (by walk_at "nm") (by walk_at "nm") (by walk_at "nm") (by walk_at "nm")
    · refine i_nil (i_nil ?_)
      exact due (.ref g) "uneven" _ _ (.inr ⟨rfl, g, _, rfl, upd_same, near_cut C hjD (by omega), uneven G hl hjD (hne j hjD) (by decide) E⟩) (.inl ⟨y, rfl⟩) hd2 ((lam.ext x1).ext (Ext.upd hg)) (by walk_at "nm") (by walk_at "nm") (by walk_at "nm") (by walk_at "nm")
  · refine i_nil ?_
    exact due p "cut" _ σ1 (.inl ⟨rfl, B⟩) (.inr ⟨by omega, rfl⟩) (x1 _ _ hd) (lam.ext x1) (by walk_at "nm") (by walk_at "nm") (by walk_at "nm") (by walk_at "nm")
theorem m25 {a : Addr} {ns : List Int} (h : ns.length ≤ 63) (hn : n ≤ 900) (h1 : 1 ≤ n) (G : GoodL n D) (hne : ∀ k, k < D.length → deb D k ≠ cre D k) (hd : σ d = some (.list (D.map enc))) (lam : LamS σ)
    (e0 : ρ "_law_script" = some (.lst a ns)) (e1 : ρ "_law_count_here" = some (.int (n : Nat))) (e2 : ρ "_law_debts_here" = some (.ref d)) : tb_law_main_25 ρ σ (funQ Yes) (funX nope) := by
  have hD := G.1
  refine i_seq (i_set (i_call (i_econs (i_name e2 (i_econs (i_comp (i_call (i_econs (i_bin (i_call ?_))))))))))
  walk_at "ex"
  refine p_cell_at (by decide) h ?_
  walk_at "ex"
  have c0 : 0 ≤ cellN ns 7 % 6 := Int.emod_nonneg _ (by decide)
  have c6 : cellN ns 7 % 6 < 6 := Int.emod_lt_of_pos _ (by decide)
  generalize cellN ns 7 % 6 = m0 at c0 c6
  obtain ⟨m, rfl⟩ := Int.eq_ofNat_of_zero_le c0
  refine ⟨_, rg_items, ⟨by decide, by decide, by omega, by omega⟩, by rw [rg, List.length_map, List.length_range]; exact Nat.le_trans (show m ≤ 6 by omega) (by decide), ?_⟩
  refine compL_all (fun p y => ∀ k : Nat, p = PV.int (0 + (k : Int)) → y = PV.int (cellN ns (2 + (k : Int)))) rg_items _ [] (fun p hp Q' hQ => ?_) fun ys hys => ?_
  · obtain ⟨k, hk, rfl⟩ := List.mem_map.mp hp
    refine i_call ?_
    walk_at "ex"
    refine p_cell_at (by omega) h ?_
    refine hQ _ fun k' e => ?_
    injection e with e
    rw [show (0 : Int) + (k : Int) = (k' : Int) by omega]
  · rw [List.nil_append, paired_fun (f := fun k => PV.int (cellN ns (2 + (k : Int)))) hys]
    intro l hl0
    generalize hσ2 : upd σ l _ = σ2
    obtain ⟨x2, u2⟩ := al hσ2 hl0
    have u2 : σ2 l = some (.list (((List.range m).map fun k : Nat => cellN ns (2 + (k : Int))).map .int)) := by rw [u2, List.map_map]; rfl
    walk_at "ex"
    refine p_even_cut G (x2 _ _ hd) u2 fun c cs σ3 x3 hc C E => ?_
    have xa := x2.trans x3
    refine i_seq (i_set (i_bin (i_bin (i_call ?_))))
    walk_at "ex"
    refine p_cell_at (by decide) h ?_
    walk_at "ex"
    have w0 : 0 ≤ cellN ns 7 / 6 % 16 := Int.emod_nonneg _ (by decide)
    generalize cellN ns 7 / 6 % 16 = way at w0
    refine i_seq (i_set (i_call ?_))
    walk_at "ex"
    refine p_cell_at (by decide) h ?_
    refine i_seq (i_if (i_and (i_cmpB ?_)))
    walk_at "ex"
    refine ite_d (fun y => ?_) fun y => ?_
    · walk_at "ex"
      refine i_lenm (xa _ _ hd) (by omega) ?_
      walk_at "ex"
      refine ite_d (fun z => ?_) fun z => ?_
      · refine i_true (ite_t ?_)
        exact m21 (by omega) G hne C E (xa _ _ hd) hc ⟨w0, y⟩ z (lam.ext xa) (by walk_at "nm") (by walk_at "nm") (by walk_at "nm") (by walk_at "nm") (by walk_at "nm")
      · refine ite_f (i_nil ?_)
        exact m10 hn h1 G C E (xa _ _ hd) hc (lam.ext xa) (by walk_at "nm") (by walk_at "nm") (by walk_at "nm")
    · refine ite_f (i_nil ?_)
      exact m10 hn h1 G C E (xa _ _ hd) hc (lam.ext xa) (by walk_at "nm") (by walk_at "nm") (by walk_at "nm")
theorem plain07 (a : Addr) (ns : List Int) (h : ns.length ≤ 63) : T_law_main [.lst a ns] (sto0 lamP) Yes nope := by
  have lam : LamS (sto0 lamP) := .inl sto0_at
  unfold T_law_main tb_law_main
  refine i_fun1 (i_seq (i_set (i_call ?_)))
  walk_at "ex"
  refine p_count h fun n' n2 n20 => ?_
  obtain ⟨n, rfl⟩ := Int.eq_ofNat_of_zero_le (show 0 ≤ n' by omega)
  refine i_seq (i_set (i_call ?_))
  walk_at "ex"
  refine p_debts h (by decide) n2 n20 fun d xs hd0 hl hg => ?_
  obtain ⟨D, rfl, hw, hne⟩ := good_enc hg
  rw [List.length_map] at hl
  have G : GoodL n D := ⟨hl, hw⟩
  generalize hσ1 : upd (sto0 lamP) d _ = σ1
  obtain ⟨x1, hd⟩ := al hσ1 hd0
  have lam1 := lam.ext x1
  refine i_seq (i_if (i_cmpB (i_bin (i_call ?_))))
  walk_at "ex"
  refine p_cell_at (by decide) h ?_
  walk_at "ex"
  refine ite_d (fun _ => ?_) fun _ => ?_
  · refine i_seq (i_set (i_const ?_))
    refine i_seq (i_set (i_list (i_enil ⟨by decide, fun d2 hd2 => ?_⟩)))
    refine i_nil ?_
    have G0 : GoodL 1 ([] : List (Int × Int × Int)) := ⟨by decide, fun k hk => (by cases hk)⟩
    exact m25 (n := 1) (D := []) h (by decide) (by decide) G0 (fun k hk => (by cases hk)) upd_same (lam1.ext (Ext.upd hd2)) (by walk_at "nm") (by exact setL_other (by decide +kernel) setL_same) setL_same
  · refine i_nil ?_
    exact m25 h (by omega) (by omega) G hne hd lam1 (by walk_at "nm") (by walk_at "nm") (by walk_at "nm")
end

theorem ints_map {vs : List Value} {ns : List Int} (h : IntsAre vs ns) : vs.map (fun v => match v with | Value.int i _ => some i | _ => Option.none) = ns.map some := by
  induction h with
  | nil => rfl
  | cons _ _ _ ih => simp [ih]
theorem tail_get {K : Frag} {P : Addr} {o : Obj} {h : Heap} (X : Frag.In ((P, o) :: K) h) (hn : K.lookup P = none) : ∀ a q, K.lookup a = some q → (h.hide P).get? a = some q := fun a q e => by
  have n : a ≠ P := by rintro rfl; rw [hn] at e; cases e
  rw [hide_other n]
  refine X a q ?_
  show List.lookup a ((P, o) :: K) = some q
  rw [List.lookup_cons]
  have : (a == P) = false := by simpa using n
  rw [this]
  exact e
theorem list_hid {h : Heap} {P l : Addr} {vs : Array Value} (t : h.get? P = some (tabObj #[])) (L : h.IsList l vs) : (h.hide P).IsList l vs := L.at fun o e => by
  rw [hide_other]
  · exact e
  · rintro rfl
    obtain ⟨o', z1, z2, z3⟩ := L
    rw [t] at z1; cases z1; cases z2
theorem old_table {h h' : Heap} {P c : Addr} (C : CodeHd h c P) (t : h.get? P = some (tabObj #[])) (keep : ∀ b o, b ≠ P → h.get? b = some o → h'.get? b = some o) (e : ∃ ps, h'.get? P = some (tabObj ps)) : OldK h h' := by
  obtain ⟨ps, e⟩ := e
  refine ⟨fun b o eb => ?_, fun b o eb => ?_⟩
  · by_cases q : b = P
    · subst q
      rw [t] at eb; cases eb
      obtain ⟨oc, vs, _, _, _, _, _, _, _, z1, z2, z3, z4, _⟩ := C
      refine .inr (.inl ⟨⟨c, oc, vs, z1, z2, z3, z4⟩, rfl, #[], ps, rfl, ?_⟩)
      rw [e, Array.empty_append]
    · exact .inl (keep b o q eb)
  · by_cases q : b = P
    · subst q; exact ⟨_, e⟩
    · exact ⟨o, keep b o q eb⟩

end Mine

open PySem PyProof.Rows PySem.Calls PySem.W Mine
set_option maxRecDepth 100000 in
set_option maxHeartbeats 8000000 in
theorem PySem.Challenge.cw_uf030027_07_holds : PySem.Challenge.rw_uf030027_07.Holds :=
  hd07 (fun d kwd hdef => by
  intro w s₀ s₁ mg mb G Y fa o pm cd doc dV kV ho hd hcd hD hmg hg args vals as hpre hlay hrd hwl hlo
  rw [defOf_name hdef] at hmg
  have KX := kIn_of Y
  refine Ground.open G ?_
  intro T B D TE TW
  wrow_args hpre hlay hrd hwl hlo
  rename_i ns _ _ _ _ _ _ _ l vs _ hL _ _ _ hI _ hcond _
  have tab : s₁.heap.get? lamP = some (tabObj #[]) := KX lamP (o205 w.params) (by kernel_rfl)
  have code : CodeHd s₁.heap 187 lamP := ⟨o207 w.params, _, _, _, _, _, _, _, _, KX 187 (o207 w.params) (by kernel_rfl), rfl, rfl, rfl, rfl, rfl, rfl, rfl, rfl, by decide⟩
  have hKt : ∀ a q, (H07 w.params).tail.lookup a = some q → (s₁.heap.hide lamP).get? a = some q := tail_get (P := lamP) (o := o205 w.params) KX (by kernel_rfl)
  obtain ⟨f, o', fd, h1, h2, h3, hS⟩ := s_law_main (fx07 (g0 := ⟨V07, w, s₁.heap, H07 w.params, mg, mb, KX, T.g, T.b, T.nolimit, .none, ""⟩) (g := ⟨_, w, s₁.heap.hide lamP, (H07 w.params).tail, mg, mb, hKt, ns_hid T.g tab, ns_hid T.b tab, nolimit_hid T.nolimit tab, .ref 187, "best.<locals>."⟩) T ⟨rfl, rfl, rfl, tab⟩ rfl rfl rfl)
  obtain rfl : f = fa := by
    have e : some (Value.ref f) = some (Value.ref fa) := h1.symm.trans hmg
    injection e with e; injection e
  refine wpAny_mono (hS callerA [] s₁ [_] [.lst l ns] (sto0 lamP) Yes nope rfl ⟨by decide, by decide⟩ (fun _ => rfl) (hp_startL tab) (.cons (.lst (list_hid tab hL) ?_) .nil) (plain07 _ _ (by omega))) (fun v s' hp => ?_) (fun e s' hp => hp.no)
  · exact ints_map hI
  · obtain ⟨h', tk, p, σ', rfl, st, sm, r, rfl, lam⟩ := hp
    cases r
    have keep : ∀ b o, b ≠ lamP → s₁.heap.get? b = some o → h'.get? b = some o := fun b o n e => st.other b o e (by simp [frs]) id (sto0_ne n)
    have etab : ∃ ps, h'.get? lamP = some (tabObj ps) := by
      rcases lam with z | ⟨_, _, _, _, z, _⟩
      · exact ⟨_, (sm _ _ z).1⟩
      · exact ⟨_, (sm _ _ z).1⟩
    refine ⟨.inl ⟨_, .bool true, [], rfl, ?_, ?_, ?_, ?_⟩, old_table code tab keep etab, rfl, .of_eq hg⟩
    · intro cls; rfl
    · exact .bool true
    · wrow_post
    · exact fun _ => ⟨List.nodup_nil, fun _ m => by cases m⟩)
