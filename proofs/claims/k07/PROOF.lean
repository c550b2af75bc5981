import PyProof.Rows.All
import Wide.All
import OpenK.AllK
import Wide.FinOn
import HandS.ForMost
import HandS.Exc
import HandS.WordsExc
import HandS.IsInst
import HandS.Nested
import HandS.CallSlots
import HandS.Deep
import HandS.TupLe
import HandS.TupAny
import HandS.Conv
import HandS.ExcOwn
import HandS.WideBits
import KE.GoesEnum
import HandS.NoneIn
import HandS.Defaults
import HandS.TupSets
import HandS.SortInts
import KE.OsArith
import KE.BitLaws
import HandS.HeadHook4
import KE.DataMinMax
import KE.SortData
import HandS.HeadHook1
import HandS.HeadHook2
import HandS.EndTab
import HandS.Ends
import HandS.More
import HandS.Head0
import HandS.Head1
import HandS.Head2
import HandS.HeadEnd
import PySem.Challenge.RW_lozengefloor_k07_whole_floors_of_what_is
set_option Elab.async false
set_option linter.all false
set_option maxRecDepth 100000
namespace RR
open PySem PySem.Spec PyProof.Rows L2

/-- a value as data; what may be changed stands in the store and is told by its number -/
inductive D where
  | non | bl (b : Bool) | int (i : Int) | str (x : Str) | ty (n : String) | adr (a : Addr)
  | tup (ds : List D) | ktp (ds : List D) | lst (ds : List D) | scr (ns : List Int) | ref (i : Nat)
  | obj (t : Nat) (ns : List Str) (ds : List D)
  | dT (ks : List (List Key)) (ds : List D)
  | dK (ks : List Key) (ds : List D)

inductive Cell where
  | lst (ds : List D)
  | dT (ks : List (List Key)) (ds : List D)
  | dK (ks : List Key) (ds : List D)
  | ins (t : Nat) (ns : List Str) (ds : List D)

abbrev Env := List (Option D)
abbrev Store := List Cell

inductive Ex where
  | pl (t : Nat)
  | fl (t : Nat) (f : Str) (d : D)

inductive Rs (A : Type) where
  | ok (a : A) (st : Store)
  | exc (e : Ex) (st : Store)
  | no

abbrev ME (A : Type) := Env → Store → Rs A

/-- the store's cells stand at f; all that is tracked besides stays as it is -/
structure Ext (f : List Addr) (H : Hp) (f' : List Addr) (H' : Hp) : Prop where
  pre : ∃ g, f' = f ++ g
  keep : ∀ a o, a ∉ f → H a = some o → (∀ ps, o ≠ .tbl ps) → a ∉ f' ∧ H' a = some o

/-- what data lean on: cells known by number, things beside the cells -/
structure Lean1 (f : List Addr) (H : Hp) (f' : List Addr) (H' : Hp) : Prop where
  num : ∀ (i : Nat) (a : Addr), f[i]? = some a → f'[i]? = some a
  keep : ∀ a o, a ∉ f → H a = some o → (∀ ps, o ≠ .tbl ps) → a ∉ f' ∧ H' a = some o

/-- what readings lean on besides: classes, tables of code, what else is known of the heap -/
structure Ctx where
  at_ : Nat → Addr
  tabs : List NdefX.NTab
  Phi : List Addr → Hp → Prop
  phx : ∀ {f H f' H'}, Phi f H → Lean1 f H f' H' → Phi f' H'
instance : CoeFun Ctx fun _ => Nat → Addr := ⟨Ctx.at_⟩
def Ctx.Plain (c : Ctx) : Prop := ∀ f H, c.Phi f H

/-- the world that values are read in -/
structure Wd where
  K : PySem.W.Frag
  cls : Ctx

mutual
inductive Rep (W : Wd) (f : List Addr) (H : Hp) : V → D → Prop
  | non : Rep W f H .non .non
  | bl (b : Bool) : Rep W f H (.bl b) (.bl b)
  | int (i : Int) : Rep W f H (.int i) (.int i)
  | str (x : Str) : Rep W f H (.str x) (.str x)
  | ty (n : String) : Rep W f H (.ty n) (.ty n)
  | adr (a : Addr) : Rep W f H (.ref a) (.adr a)
  | tup {a : Addr} {vs : List V} {ds : List D} : a ∉ f → H a = some (.tup vs) → Reps W f H vs ds → Rep W f H (.ref a) (.tup ds)
  | ktp {a : Addr} {vs : List V} {ds : List D} : SqT W.K (fun _ => none) a vs → Reps W f H vs ds → Rep W f H (.ref a) (.ktp ds)
  | lst {a : Addr} {vs : List V} {ds : List D} : a ∉ f → H a = some (.lst vs) → Reps W f H vs ds → Rep W f H (.ref a) (.lst ds)
  | scr {a : Addr} {ns : List Int} : ((a ∉ f ∧ Rd H a (.lst (ns.map V.int))) ∨ SqL W.K (fun _ => none) a (ns.map V.int)) → Rep W f H (.ref a) (.scr ns)
  | ref {a : Addr} {i : Nat} : f[i]? = some a → Rep W f H (.ref a) (.ref i)
  | obj {a dx : Addr} {t : Nat} {ns : List Str} {vs : List V} {ds : List D} : a ∉ f → H a = some (.ins (W.cls t) dx (ns.zip vs)) → ns.length = vs.length → Reps W f H vs ds → Rep W f H (.ref a) (.obj t ns ds)
  | dT {a : Addr} {ks : List (List Key)} {vs : List V} {ds : List D} : a ∉ f → H a = some (.dT (ks.zip vs)) → ks.length = vs.length → Reps W f H vs ds → Rep W f H (.ref a) (.dT ks ds)
  | dK {a : Addr} {ks : List Key} {vs : List V} {ds : List D} : a ∉ f → H a = some (.dK (ks.zip vs)) → ks.length = vs.length → Reps W f H vs ds → Rep W f H (.ref a) (.dK ks ds)
inductive Reps (W : Wd) (f : List Addr) (H : Hp) : List V → List D → Prop
  | nil : Reps W f H [] []
  | cons {v : V} {vs : List V} {d : D} {ds : List D} : Rep W f H v d → Reps W f H vs ds → Reps W f H (v :: vs) (d :: ds)
end

theorem Ext.lean {f H f' H'} (e : Ext f H f' H') : Lean1 f H f' H' := ⟨fun i a h => by
  obtain ⟨g, rfl⟩ := e.pre
  rw [List.getElem?_append_left (List.getElem?_eq_some_iff.mp h).1]; exact h, e.keep⟩

mutual
theorem Rep.mono {W : Wd} {f f' : List Addr} {H H' : Hp} (e : Lean1 f H f' H') : ∀ {v : V} {d : D}, Rep W f H v d → Rep W f' H' v d
  | _, _, .non => .non
  | _, _, .bl b => .bl b
  | _, _, .int i => .int i
  | _, _, .str x => .str x
  | _, _, .ty n => .ty n
  | _, _, .adr a => .adr a
  | _, _, .tup h q r => .tup (e.keep _ _ h q (fun _ => nofun)).1 (e.keep _ _ h q (fun _ => nofun)).2 (Reps.mono e r)
  | _, _, .ktp h r => .ktp h (Reps.mono e r)
  | _, _, .lst h q r => .lst (e.keep _ _ h q (fun _ => nofun)).1 (e.keep _ _ h q (fun _ => nofun)).2 (Reps.mono e r)
  | _, _, .scr h => .scr (h.imp (fun ⟨h, q⟩ => q.elim (fun q => ⟨(e.keep _ _ h q (fun _ => nofun)).1, .inl (e.keep _ _ h q (fun _ => nofun)).2⟩) fun ⟨o, q⟩ => ⟨(e.keep _ _ h q (fun _ => nofun)).1, .inr ⟨o, (e.keep _ _ h q (fun _ => nofun)).2⟩⟩) id)
  | _, _, .ref h => .ref (e.num _ _ h)
  | _, _, .obj h q l r => .obj (e.keep _ _ h q (fun _ => nofun)).1 (e.keep _ _ h q (fun _ => nofun)).2 l (Reps.mono e r)
  | _, _, .dT h q l r => .dT (e.keep _ _ h q (fun _ => nofun)).1 (e.keep _ _ h q (fun _ => nofun)).2 l (Reps.mono e r)
  | _, _, .dK h q l r => .dK (e.keep _ _ h q (fun _ => nofun)).1 (e.keep _ _ h q (fun _ => nofun)).2 l (Reps.mono e r)
theorem Reps.mono {W : Wd} {f f' : List Addr} {H H' : Hp} (e : Lean1 f H f' H') : ∀ {v : List V} {d : List D}, Reps W f H v d → Reps W f' H' v d
  | _, _, .nil => .nil
  | _, _, .cons a b => .cons (Rep.mono e a) (Reps.mono e b)
end

theorem Ext.refl (f H) : Ext f H f H := ⟨⟨[], by simp⟩, fun _ _ h q _ => ⟨h, q⟩⟩
theorem Ext.trans {f H f1 H1 f2 H2} (a : Ext f H f1 H1) (b : Ext f1 H1 f2 H2) : Ext f H f2 H2 := ⟨by
  obtain ⟨g, rfl⟩ := a.pre
  obtain ⟨g', rfl⟩ := b.pre
  exact ⟨g ++ g', by simp⟩, fun x o h q n => let ⟨h1, q1⟩ := a.keep x o h q n; b.keep x o h1 q1 n⟩

theorem Reps.length {W f H} : ∀ {vs : List V} {ds : List D}, Reps W f H vs ds → vs.length = ds.length
  | _, _, .nil => rfl
  | _, _, .cons _ t => by simp [Reps.length t]
theorem Reps.get {W f H} : ∀ {vs : List V} {ds : List D} {i : Nat} {d : D}, Reps W f H vs ds → ds[i]? = some d → ∃ v, vs[i]? = some v ∧ Rep W f H v d
  | _, _, _, _, .nil, e => by simp at e
  | _, _, 0, _, .cons r _, e => by simp at e; subst e; exact ⟨_, rfl, r⟩
  | _, _, i + 1, d, .cons _ t, e => by
    obtain ⟨u, h1, h2⟩ := Reps.get (i := i) (d := d) t (by simpa using e)
    exact ⟨u, by simpa using h1, h2⟩
theorem Reps.getV {W f H} : ∀ {vs : List V} {ds : List D} {i : Nat} {v : V}, Reps W f H vs ds → vs[i]? = some v → ∃ d, ds[i]? = some d ∧ Rep W f H v d
  | _, _, _, _, .nil, e => by simp at e
  | _, _, 0, _, .cons r _, e => by simp at e; subst e; exact ⟨_, rfl, r⟩
  | _, _, i + 1, v, .cons _ t, e => by
    obtain ⟨u, h1, h2⟩ := Reps.getV (i := i) (v := v) t (by simpa using e)
    exact ⟨u, by simpa using h1, h2⟩
theorem Reps.append {W f H} : ∀ {xs ys : List V} {us ws : List D}, Reps W f H xs us → Reps W f H ys ws → Reps W f H (xs ++ ys) (us ++ ws)
  | _, _, _, _, .nil, s => s
  | _, _, _, _, .cons r t, s => .cons r (Reps.append t s)
theorem Reps.take {W f H} : ∀ {xs : List V} {us : List D} (n : Nat), Reps W f H xs us → Reps W f H (xs.take n) (us.take n)
  | _, _, 0, _ => .nil
  | _, _, _ + 1, .nil => .nil
  | _, _, n + 1, .cons r t => .cons r (Reps.take n t)
theorem Reps.drop {W f H} : ∀ {xs : List V} {us : List D} (n : Nat), Reps W f H xs us → Reps W f H (xs.drop n) (us.drop n)
  | _, _, 0, r => r
  | _, _, _ + 1, .nil => .nil
  | _, _, n + 1, .cons _ t => Reps.drop n t
theorem Reps.set {W f H} {v : V} {d : D} (r : Rep W f H v d) : ∀ {xs : List V} {us : List D} (i : Nat), Reps W f H xs us → Reps W f H (xs.set i v) (us.set i d)
  | _, _, _, .nil => .nil
  | _, _, 0, .cons _ t => .cons r t
  | _, _, i + 1, .cons q t => .cons q (Reps.set r i t)
theorem Reps.reverse {W f H} : ∀ {xs : List V} {us : List D}, Reps W f H xs us → Reps W f H xs.reverse us.reverse
  | _, _, .nil => .nil
  | _, _, .cons r t => by
    rw [List.reverse_cons, List.reverse_cons]
    exact Reps.append (Reps.reverse t) (.cons r .nil)
theorem Reps.dropLast {W f H} {xs : List V} {us : List D} (r : Reps W f H xs us) : Reps W f H xs.dropLast us.dropLast := by
  rw [List.dropLast_eq_take, List.dropLast_eq_take, r.length]
  exact r.take _
theorem Reps.ints {W f H} : ∀ {vs : List V} (ns : List Int), Reps W f H vs (ns.map D.int) → vs = ns.map V.int
  | _, [], .nil => rfl
  | _, _ :: ns, .cons (.int _) t => by rw [Reps.ints ns t]; rfl
theorem Reps.of_ints {W f H} : ∀ (ns : List Int), Reps W f H (ns.map V.int) (ns.map D.int)
  | [] => .nil
  | _ :: ns => .cons (.int _) (Reps.of_ints ns)
theorem Reps.bls {W f H} : ∀ {vs : List V} (ns : List Bool), Reps W f H vs (ns.map D.bl) → vs = ns.map V.bl
  | _, [], .nil => rfl
  | _, _ :: ns, .cons (.bl _) t => by rw [Reps.bls ns t]; rfl

def CellOk (W : Wd) (f : List Addr) (H : Hp) (a : Addr) : Cell → Prop
  | .lst ds => ∃ vs, H a = some (.lst vs) ∧ Reps W f H vs ds
  | .dT ks ds => ∃ vs, H a = some (.dT (ks.zip vs)) ∧ ks.length = vs.length ∧ Reps W f H vs ds
  | .dK ks ds => ∃ vs, H a = some (.dK (ks.zip vs)) ∧ ks.length = vs.length ∧ Reps W f H vs ds
  | .ins t ns ds => ∃ dx vs, H a = some (.ins (W.cls t) dx (ns.zip vs)) ∧ ns.length = vs.length ∧ Reps W f H vs ds

structure Sim (W : Wd) (f : List Addr) (H : Hp) (st : Store) : Prop where
  len : f.length = st.length
  nod : f.Nodup
  cel : ∀ (i : Nat) (a : Addr) (c : Cell), f[i]? = some a → st[i]? = some c → CellOk W f H a c
  tab : NdefX.TabsN W.cls.tabs H

/-- the names' values -/
structure EnvOk (W : Wd) (f : List Addr) (H : Hp) (σ : L2.St) (env : Env) : Prop where
  len : env.length = σ.length
  val : ∀ (i : Nat) (d : D), env[i]? = some (some d) → ∃ v, σ[i]? = some (some v) ∧ Rep W f H v d
  phi : W.cls.Phi f H

theorem EnvOk.mono {W f H f' H' σ env} (h : EnvOk W f H σ env) (e : Lean1 f H f' H') : EnvOk W f' H' σ env :=
  ⟨h.len, fun i d q => let ⟨v, h1, h2⟩ := h.val i d q; ⟨v, h1, h2.mono e⟩, W.cls.phx h.phi e⟩
theorem EnvOk.ext {W f H f' H' σ env} (h : EnvOk W f H σ env) (e : Ext f H f' H') : EnvOk W f' H' σ env := h.mono e.lean
theorem EnvOk.set {W f H σ env} (h : EnvOk W f H σ env) {v : V} {d : D} (r : Rep W f H v d) (i : Nat) : EnvOk W f H (σ.set i (some v)) (env.set i (some d)) := by
  refine ⟨by simp [h.len], fun j d' q => ?_, h.phi⟩
  by_cases hj : i = j
  · subst hj
    by_cases hl : i < env.length
    · rw [List.getElem?_set_self hl] at q
      cases q
      exact ⟨v, by rw [List.getElem?_set_self (h.len ▸ hl)], r⟩
    · rw [List.set_eq_of_length_le (by omega)] at q
      have := (List.getElem?_eq_some_iff.mp q).1
      omega
  · rw [List.getElem?_set_ne hj] at q ⊢
    exact h.val j d' q

/-- an exception as data -/
inductive RepX (W : Wd) (f : List Addr) (H : Hp) : Value → Option Addr → Ex → Prop
  | pl (t : Nat) : RepX W f H (.ref (W.cls t)) none (.pl t)
  | fl {t : Nat} {x : Str} {d : D} {v : V} {a : Addr} : a ∉ f → H a = some (.xd [(x, v)]) → Rep W f H v d → RepX W f H (.ref (W.cls t)) (some a) (.fl t x d)

section
variable {A B : Type}
def Rs.bind (r : Rs A) (k : A → Store → Rs B) : Rs B := match r with
  | .ok a st => k a st
  | .exc e st => .exc e st
  | .no => .no
def mbind (m : ME A) (k : A → ME B) : ME B := fun env st => (m env st).bind fun a st => k a env st
def mret (a : A) : ME A := fun _ st => .ok a st
def mno : ME A := fun _ _ => .no
end

/-- from here the run r ends well for Q, or is raised for Wx -/
def RunAt {A B : Type} (W : Wd) (Wx : WX) (rel : List Addr → Hp → B → A → Prop) (f : List Addr) (H : Hp) (σ : L2.St) (r : Rs A) (Q : B → Hp → Prop) : Prop := match r with
  | .ok d st' => ∀ v f' H', Ext f H f' H' → Sim W f' H' st' → rel f' H' v d → Q v H'
  | .exc e st' => ∀ c dd f' H', Ext f H f' H' → Sim W f' H' st' → RepX W f' H' c dd e → Wx c dd σ H'
  | .no => False

def rdG {A B : Type} (W : Wd) (Wx : WX) (rel : List Addr → Hp → B → A → Prop) (m : ME A) : L2.St → Hp → (B → Hp → Prop) → Prop := fun σ H Q =>
  ∃ f env st, Sim W f H st ∧ EnvOk W f H σ env ∧ RunAt W Wx rel f H σ (m env st) Q
abbrev rdE (W : Wd) (Wx : WX) (m : ME D) : TE := rdG W Wx (Rep W) m
abbrev rdT (W : Wd) (Wx : WX) (m : ME Bool) : TT := rdG W Wx (fun _ _ a b => a = b) m
abbrev rdA (W : Wd) (Wx : WX) (m : ME (List D)) : TA := rdG W Wx (Reps W) m

theorem RunAt.mono {A B : Type} {W Wx f H σ} {rel : List Addr → Hp → B → A → Prop} {r : Rs A} {Q Q' : B → Hp → Prop} (h : RunAt W Wx rel f H σ r Q) (hQ : ∀ v H, Q v H → Q' v H) : RunAt W Wx rel f H σ r Q' := by
  cases r with
  | ok d st => exact fun v f' H' e s q => hQ _ _ (h v f' H' e s q)
  | exc e st => exact h
  | no => exact h
theorem rdG.mono {A B : Type} {W Wx σ H} {rel : List Addr → Hp → B → A → Prop} {m : ME A} {Q Q' : B → Hp → Prop} (h : rdG W Wx rel m σ H Q) (hQ : ∀ v H, Q v H → Q' v H) : rdG W Wx rel m σ H Q' :=
  let ⟨f, env, st, a, b, c⟩ := h
  ⟨f, env, st, a, b, c.mono hQ⟩
theorem RunAt.shift {A B : Type} {W Wx f H f' H' σ} {rel : List Addr → Hp → B → A → Prop} {r : Rs A} {Q : B → Hp → Prop} (h : RunAt W Wx rel f H σ r Q) (e : Ext f H f' H') : RunAt W Wx rel f' H' σ r Q := by
  cases r with
  | ok d st => exact fun v f2 H2 e2 s q => h v f2 H2 (e.trans e2) s q
  | exc x st => exact fun c dd f2 H2 e2 s q => h c dd f2 H2 (e.trans e2) s q
  | no => exact h

/-- the state behind an expression of data d -/
structure At {A B : Type} (W : Wd) (rel : List Addr → Hp → B → A → Prop) (f0 : List Addr) (H0 : Hp) (σ : L2.St) (env : Env) (d : A) (st1 : Store) (v : B) (H1 : Hp) (f1 : List Addr) : Prop where
  ext : Ext f0 H0 f1 H1
  sim : Sim W f1 H1 st1
  env : EnvOk W f1 H1 σ env
  rel : rel f1 H1 v d

/-- a first part, then the rest -/
theorem RunAt.bind {A B A' B' : Type} {W Wx f H σ env st} {rel : List Addr → Hp → B → A → Prop} {rel' : List Addr → Hp → B' → A' → Prop} {m : ME A} {k : A → ME A'} {Q : B' → Hp → Prop} {Q' : B → Hp → Prop}
    (S : Sim W f H st) (N : EnvOk W f H σ env) (h : RunAt W Wx rel' f H σ (mbind m k env st) Q)
    (hk : ∀ v H1 f1 d st1, At W rel f H σ env d st1 v H1 f1 → RunAt W Wx rel' f1 H1 σ (k d env st1) Q → Q' v H1) : rdG W Wx rel m σ H Q' := by
  refine ⟨f, env, st, S, N, ?_⟩
  unfold mbind at h
  cases e : m env st with
  | ok d st1 =>
    rw [e] at h
    intro v f1 H1 x s1 r
    exact hk v H1 f1 d st1 ⟨x, s1, N.ext x, r⟩ (h.shift x)
  | exc x st1 => rw [e] at h; exact h
  | no => rw [e] at h; exact h

theorem RunAt.seq {A B A' B' : Type} {W Wx f H σ env st} {rel : List Addr → Hp → B → A → Prop} {rel' : List Addr → Hp → B' → A' → Prop} {r : Rs A} {k : A → Store → Rs A'} {Q : B' → Hp → Prop} {Q' : B → Hp → Prop}
    (S : Sim W f H st) (N : EnvOk W f H σ env) (h : RunAt W Wx rel' f H σ (r.bind k) Q)
    (hk : ∀ v H1 f1 d st1, At W rel f H σ env d st1 v H1 f1 → RunAt W Wx rel' f1 H1 σ (k d st1) Q → Q' v H1) : RunAt W Wx rel f H σ r Q' := by
  cases r with
  | ok d st1 => exact fun v f1 H1 x s1 r => hk v H1 f1 d st1 ⟨x, s1, N.ext x, r⟩ (RunAt.shift (r := k d st1) h x)
  | exc x st1 => exact h
  | no => exact h

theorem RunAt.okv {A B : Type} {W Wx f H σ st} {rel : List Addr → Hp → B → A → Prop} {d : A} {Q : B → Hp → Prop} (S : Sim W f H st) (h : RunAt W Wx rel f H σ (.ok d st) Q) {v : B} (r : rel f H v d) : Q v H := h v f H (.refl f H) S r

theorem PE.imp {X : Cx} {e : Expr} {t t' : TE} (h : PE X e t) (i : ∀ σ H Q, t' σ H Q → t σ H Q) : PE X e t' := ⟨fun pins s σ H Q I q => h.run pins s σ H Q I (i σ H Q q)⟩
theorem PT.imp {X : Cx} {e : Expr} {t t' : TT} (h : PT X e t) (i : ∀ σ H Q, t' σ H Q → t σ H Q) : PT X e t' := ⟨fun pins s σ H Q I q => h.run pins s σ H Q I (i σ H Q q)⟩
theorem PW.imp {X : Cx} {e : Expr} {t t' : TT} (h : PW X e t) (i : ∀ σ H Q, t' σ H Q → t σ H Q) : PW X e t' := ⟨fun wh pins s σ H Q I q => h.run wh pins s σ H Q I (i σ H Q q)⟩
theorem PA.imp {X : Cx} {e : List Expr} {t t' : TA} (h : PA X e t) (i : ∀ σ H Q, t' σ H Q → t σ H Q) : PA X e t' := ⟨fun pos pins s σ H Q I q => h.run pos pins s σ H Q I (i σ H Q q)⟩
theorem PS.imp {X : Cx} {e : Stmt} {t t' : TS} (h : PS X e t) (i : ∀ E σ H, t' E σ H → t E σ H) : PS X e t' := ⟨fun pins s σ H E I q => h.run pins s σ H E I (i E σ H q)⟩
theorem PSs.imp {X : Cx} {e : List Stmt} {t t' : TS} (h : PSs X e t) (i : ∀ E σ H, t' E σ H → t E σ H) : PSs X e t' := ⟨fun pins s σ H E I q => h.run pins s σ H E I (i E σ H q)⟩
end RR

set_option maxRecDepth 100000
namespace RR
open PySem PySem.Spec PyProof.Rows L2

/-! ### the heap's steps -/
section
variable {W : Wd} {f : List Addr} {H : Hp} {st : Store}
theorem CellOk.alive {a : Addr} {c : Cell} (h : CellOk W f H a c) : ∃ o, H a = some o ∧ Mut (some o) := by
  cases c with
  | lst ds => obtain ⟨vs, e, _⟩ := h; exact ⟨_, e, trivial⟩
  | dT ks ds => obtain ⟨vs, e, _⟩ := h; exact ⟨_, e, trivial⟩
  | dK ks ds => obtain ⟨vs, e, _⟩ := h; exact ⟨_, e, trivial⟩
  | ins t ns ds => obtain ⟨dx, vs, e, _⟩ := h; exact ⟨_, e, trivial⟩
theorem CellOk.mono {f' : List Addr} {H' : Hp} {a : Addr} {c : Cell} (e : Lean1 f H f' H') (s : H' a = H a) (h : CellOk W f H a c) : CellOk W f' H' a c := by
  cases c with
  | lst ds => obtain ⟨vs, q, r⟩ := h; exact ⟨vs, s.trans q, r.mono e⟩
  | dT ks ds => obtain ⟨vs, q, l, r⟩ := h; exact ⟨vs, s.trans q, l, r.mono e⟩
  | dK ks ds => obtain ⟨vs, q, l, r⟩ := h; exact ⟨vs, s.trans q, l, r.mono e⟩
  | ins t ns ds => obtain ⟨dx, vs, q, l, r⟩ := h; exact ⟨dx, vs, s.trans q, l, r.mono e⟩
theorem Sim.cell (S : Sim W f H st) {i : Nat} {c : Cell} (h : st[i]? = some c) : ∃ a, f[i]? = some a ∧ CellOk W f H a c := by
  have hl : i < f.length := by rw [S.len]; exact (List.getElem?_eq_some_iff.mp h).1
  exact ⟨f[i], by simp [hl], S.cel i _ c (by simp [hl]) h⟩
theorem Sim.at (S : Sim W f H st) {i : Nat} {a : Addr} (h : f[i]? = some a) : ∃ c, st[i]? = some c ∧ CellOk W f H a c := by
  have hl : i < st.length := by rw [← S.len]; exact (List.getElem?_eq_some_iff.mp h).1
  exact ⟨st[i], by simp [hl], S.cel i a _ h (by simp [hl])⟩
theorem Sim.mem (S : Sim W f H st) {a : Addr} (h : a ∈ f) : ∃ o, H a = some o ∧ Mut (some o) := by
  obtain ⟨i, hi, e⟩ := List.mem_iff_getElem.mp h
  obtain ⟨c, _, q⟩ := S.at (i := i) (a := a) (by simp [hi, e])
  exact q.alive
theorem Sim.new (S : Sim W f H st) {p : Addr} (hp : H p = none) : p ∉ f := fun h => by
  obtain ⟨o, e, _⟩ := S.mem h
  rw [hp] at e; cases e
theorem Ext.laid (S : Sim W f H st) {p : Addr} {o : HO} (hp : H p = none) : Ext f H f (upd H p o) :=
  ⟨⟨[], by simp⟩, fun a u h q _ => ⟨h, by rw [upd_ne (ne_of_none q hp)]; exact q⟩⟩
/-- a new thing that never changes -/
theorem Sim.laid (S : Sim W f H st) {p : Addr} {o : HO} (hp : H p = none) : Sim W f (upd H p o) st := by
  refine ⟨S.len, S.nod, fun i a c h1 h2 => (S.cel i a c h1 h2).mono (Ext.laid S hp).lean ?_, S.tab.ext fun b o e => by rw [upd_ne (ne_of_none e hp)]; exact e⟩
  obtain ⟨u, e, _⟩ := (S.cel i a c h1 h2).alive
  rw [upd_ne (ne_of_none e hp)]
/-- a new cell -/
theorem Ext.cell (S : Sim W f H st) {p : Addr} {o : HO} (hp : H p = none) : Ext f H (f ++ [p]) (upd H p o) :=
  ⟨⟨[p], rfl⟩, fun a u h q _ => by
    have n := ne_of_none q hp
    exact ⟨by simp [h, n], by rw [upd_ne n]; exact q⟩⟩
theorem Sim.grow (S : Sim W f H st) {p : Addr} {o : HO} {c : Cell} (hp : H p = none) (hc : CellOk W (f ++ [p]) (upd H p o) p c) : Sim W (f ++ [p]) (upd H p o) (st ++ [c]) := by
  refine ⟨by simp [S.len], ?_, fun i a d h1 h2 => ?_, S.tab.ext fun b o e => by rw [upd_ne (ne_of_none e hp)]; exact e⟩
  · refine List.nodup_append.mpr ⟨S.nod, by simp, fun a ha b hb => ?_⟩
    have : b = p := by simpa using hb
    subst this
    rintro rfl
    exact S.new hp ha
  · by_cases hi : i < f.length
    · rw [List.getElem?_append_left hi] at h1
      rw [List.getElem?_append_left (S.len ▸ hi)] at h2
      obtain ⟨u, e, _⟩ := (S.cel i a d h1 h2).alive
      exact (S.cel i a d h1 h2).mono (Ext.cell S hp).lean (by rw [upd_ne (ne_of_none e hp)])
    · have e1 : i = f.length := by
        have := (List.getElem?_eq_some_iff.mp h1).1
        simp at this; omega
      subst e1
      simp at h1
      rw [S.len] at h2
      simp at h2
      subst h1; subst h2
      exact hc
/-- a cell is written -/
theorem Ext.write {a : Addr} {o : HO} (h : a ∈ f) : Ext f H f (upd H a o) :=
  ⟨⟨[], by simp⟩, fun b u hb q _ => ⟨hb, by rw [upd_ne (show b ≠ a from fun z => hb (z ▸ h))]; exact q⟩⟩
theorem CellOk.plain {a : Addr} {c : Cell} (h : CellOk W f H a c) : ∃ o, H a = some o ∧ (∀ ps, o ≠ .tbl ps) ∧ ∀ q, o ≠ LamX.CodeO a q := by
  cases c with
  | lst ds => obtain ⟨vs, e, _⟩ := h; exact ⟨_, e, fun _ => nofun, fun _ => nofun⟩
  | dT ks ds => obtain ⟨vs, e, _⟩ := h; exact ⟨_, e, fun _ => nofun, fun _ => nofun⟩
  | dK ks ds => obtain ⟨vs, e, _⟩ := h; exact ⟨_, e, fun _ => nofun, fun _ => nofun⟩
  | ins t ns ds => obtain ⟨dx, vs, e, _⟩ := h; exact ⟨_, e, fun _ => nofun, fun _ => nofun⟩
theorem Sim.tab_write (S : Sim W f H st) {a : Addr} {o : HO} (h : a ∈ f) : NdefX.TabsN W.cls.tabs (upd H a o) := by
  obtain ⟨i, hi, e⟩ := List.mem_iff_getElem.mp h
  obtain ⟨c, _, q⟩ := S.at (i := i) (a := a) (by simp [hi, e])
  obtain ⟨u, h1, h2, h3⟩ := q.plain
  intro p hp
  obtain ⟨ps, a1, a2, a3⟩ := S.tab p hp
  have n1 : p.1 ≠ a := fun z => h2 ps (by rw [z, h1] at a1; exact Option.some.inj a1)
  refine ⟨ps, by rw [upd_ne n1]; exact a1, a2, fun pos cv hc => ?_⟩
  obtain ⟨k, e1, e2⟩ := a3 pos cv hc
  have n2 : k ≠ a := fun z => h3 _ (by rw [z, h1] at e2; exact Option.some.inj e2)
  exact ⟨k, e1, by rw [upd_ne n2]; exact e2⟩
theorem Sim.write (S : Sim W f H st) {i : Nat} {a : Addr} {o : HO} {c : Cell} (h : f[i]? = some a) (hc : CellOk W f (upd H a o) a c) : Sim W f (upd H a o) (st.set i c) := by
  have hm : a ∈ f := List.mem_of_getElem? h
  refine ⟨by simp [S.len], S.nod, fun j b d h1 h2 => ?_, S.tab_write hm⟩
  by_cases hj : i = j
  · subst hj
    rw [h] at h1; cases h1
    have hl : i < st.length := by rw [← S.len]; exact (List.getElem?_eq_some_iff.mp h).1
    rw [List.getElem?_set_self hl] at h2
    cases h2
    exact hc
  · rw [List.getElem?_set_ne hj] at h2
    refine (S.cel j b d h1 h2).mono (Ext.write hm).lean ?_
    rw [upd_ne]
    rintro rfl
    exact hj (nd_ix S.nod h h1)

/-- the list that data tell: frozen, or as it stands in the store -/
def lstOf (st : Store) : D → Option (List D)
  | .lst ds => some ds
  | .ref i => match st[i]? with
    | some (.lst ds) => some ds
    | _ => none
  | _ => none
/-- .. the script's too -/
def seqOf (st : Store) : D → Option (List D)
  | .lst ds => some ds
  | .scr ns => some (ns.map D.int)
  | .ref i => match st[i]? with
    | some (.lst ds) => some ds
    | _ => none
  | _ => none
theorem Sim.lst (S : Sim W f H st) {v : V} {d : D} {ds : List D} (r : Rep W f H v d) (h : lstOf st d = some ds) : ∃ a vs, v = .ref a ∧ H a = some (.lst vs) ∧ Reps W f H vs ds := by
  cases r with
  | lst h1 h2 h3 => cases h; exact ⟨_, _, rfl, h2, h3⟩
  | @ref a i q =>
    obtain ⟨c, e, k⟩ := S.at q
    dsimp only [lstOf] at h
    rw [e] at h
    cases c with
    | lst ds' => cases h; obtain ⟨vs, x, y⟩ := k; exact ⟨a, vs, rfl, x, y⟩
    | _ => cases h
  | _ => cases h
theorem Sim.seq (S : Sim W f H st) {v : V} {d : D} {ds : List D} (r : Rep W f H v d) (h : seqOf st d = some ds) : ∃ a vs, v = .ref a ∧ SqL W.K H a vs ∧ Reps W f H vs ds := by
  cases r with
  | lst h1 h2 h3 => cases h; exact ⟨_, _, rfl, .of h2, h3⟩
  | scr h1 => cases h; exact ⟨_, _, rfl, h1.elim (fun h => .inl h.2) (fun h => h.elim (fun r => r.elim (fun e => nomatch e) fun ⟨_, e⟩ => nomatch e) .inr), .of_ints _⟩
  | @ref a i q =>
    obtain ⟨c, e, k⟩ := S.at q
    dsimp only [seqOf] at h
    rw [e] at h
    cases c with
    | lst ds' => cases h; obtain ⟨vs, x, y⟩ := k; exact ⟨a, vs, rfl, .of x, y⟩
    | _ => cases h
  | _ => cases h
theorem Rep.tupS {v : V} {ds : List D} (r : Rep W f H v (.tup ds)) : ∃ a vs, v = .ref a ∧ SqT W.K H a vs ∧ Reps W f H vs ds := by
  cases r with
  | @tup a vs _ h q r => exact ⟨a, vs, rfl, .of q, r⟩
theorem Rep.ktpS {v : V} {ds : List D} (r : Rep W f H v (.ktp ds)) : ∃ a vs, v = .ref a ∧ SqT W.K H a vs ∧ Reps W f H vs ds := by
  cases r with
  | @ktp a vs _ h q => exact ⟨a, vs, rfl, h.elim (fun z => z.elim (fun z => nomatch z) fun ⟨_, z⟩ => nomatch z) .inr, q⟩
end

/-! ### names, constants -/
abbrev PV (X : Cx) (cl : Ctx) (Wx : WX) (e : Expr) (m : ME D) : Prop := PE X e (rdE ⟨X.K, cl⟩ Wx m)
abbrev PVT (X : Cx) (cl : Ctx) (Wx : WX) (e : Expr) (m : ME Bool) : Prop := PT X e (rdT ⟨X.K, cl⟩ Wx m)
abbrev PVA (X : Cx) (cl : Ctx) (Wx : WX) (es : List Expr) (m : ME (List D)) : Prop := PA X es (rdA ⟨X.K, cl⟩ Wx m)

def mVar (i : Nat) : ME D := fun env st => match env[i]? with
  | some (some d) => .ok d st
  | _ => .no
section
variable {X : Cx} {cl : Ctx} {Wx : WX}
theorem pv_var (i : Nat) {x : Str} {pos : Pos} (hN : X.N[i]? = some x := by rfl) (hv : Vis X.env.scope x := by first | exact Or.inl rfl | exact Or.inr (Or.inl rfl) | exact Or.inr (Or.inr rfl)) (hd : (x == ("__debug__" : Str)) = false := by decide)
    (hcd : (x == ("__classdict__" : Str)) = false := by decide) : PV X cl Wx (.Name x pos) (mVar i) := by
  refine PE.imp (pe_var hN hv hd hcd) fun σ H Q h => ?_
  obtain ⟨f, env, st, S, N, h⟩ := h
  unfold mVar at h
  cases e : env[i]? with
  | none => rw [e] at h; exact h.elim
  | some o =>
    cases o with
    | none => rw [e] at h; exact h.elim
    | some d =>
      rw [e] at h
      obtain ⟨v, h1, h2⟩ := N.val i d e
      exact ⟨v, h1, h.okv S h2⟩
theorem pv_const {e : Expr} {v : V} {d : D} (h : PE X e (tC v)) (r : ∀ f H, Rep ⟨X.K, cl⟩ f H v d) : PV X cl Wx e (mret d) := by
  refine PE.imp h fun σ H Q h => ?_
  obtain ⟨f, env, st, S, N, h⟩ := h
  exact h.okv S (r f H)
theorem pv_int {i j pos} : PV X cl Wx (.Constant (.int i) j pos) (mret (.int i)) := pv_const pe_int fun _ _ => .int _
theorem pv_bl {b j pos} : PV X cl Wx (.Constant (.bool b) j pos) (mret (.bl b)) := pv_const pe_bl fun _ _ => .bl _
theorem pv_non {j pos} : PV X cl Wx (.Constant .none j pos) (mret .non) := pv_const pe_non fun _ _ => .non
theorem pv_str {x j pos} : PV X cl Wx (.Constant (.str x) j pos) (mret (.str x)) := pv_const pe_str fun _ _ => .str _
theorem pv_glob {x : Str} {u : Value} {v : V} {d : D} {pos : Pos} (hg : Gl X x) (hm : X.mg x = some u) (rv : RelV v u) (r : ∀ f H, Rep ⟨X.K, cl⟩ f H v d) (hd : (x == ("__debug__" : Str)) = false := by decide) : PV X cl Wx (.Name x pos) (mret d) :=
  pv_const (pe_glob hg hm rv hd) r
theorem pv_type {x : Str} {n : String} {pos : Pos} (hg : Gl X x) (hm : X.mg x = none) (hv : bootBuiltins x = some (.type n)) (hn : x ≠ "__name__" := by decide) (hd : (x == ("__debug__" : Str)) = false := by decide) : PV X cl Wx (.Name x pos) (mret (.ty n)) :=
  pv_const (pe_bltn (v := .ty n) hg hm hv rfl hn hd) fun _ _ => .ty _

/-! ### two-place operations -/
def op2 (g : D → D → Store → Rs D) (ma mb : ME D) : ME D := mbind ma fun x => mbind mb fun y => fun _ st => g x y st
/-- an operation on data is borne by a rule -/
def Op2 (X : Cx) (cl : Ctx) (Wx : WX) (r : R2) (g : D → D → Store → Rs D) : Prop := ∀ (f : List Addr) (H : Hp) (st : Store) (σ : L2.St) (x y : D) (u v : V) (Q : VK), Sim ⟨X.K, cl⟩ f H st → Rep ⟨X.K, cl⟩ f H u x → Rep ⟨X.K, cl⟩ f H v y →
  RunAt ⟨X.K, cl⟩ Wx (Rep ⟨X.K, cl⟩) f H σ (g x y st) Q → r u v H Q
theorem rd_op2 {r : R2} {g : D → D → Store → Rs D} {ma mb : ME D} (o : Op2 X cl Wx r g) {σ H Q} (h : rdE ⟨X.K, cl⟩ Wx (op2 g ma mb) σ H Q) : tOp r (rdE ⟨X.K, cl⟩ Wx ma) (rdE ⟨X.K, cl⟩ Wx mb) σ H Q := by
  obtain ⟨f, env, st, S, N, h⟩ := h
  refine h.bind S N fun u H1 f1 x st1 A1 h1 => ?_
  refine h1.bind A1.sim A1.env fun v H2 f2 y st2 A2 h2 => ?_
  exact o f2 H2 st2 σ x y u v Q A2.sim (A1.rel.mono A2.ext.lean) A2.rel h2
theorem pv_op {op : Operator} {r : R2} {g : D → D → Store → Rs D} {a b : Expr} {ma mb : ME D} {pos : Pos} (ho : OpR X (binaryOp op) r) (o : Op2 X cl Wx r g) (ha : PV X cl Wx a ma) (hb : PV X cl Wx b mb) : PV X cl Wx (.BinOp a op b pos) (op2 g ma mb) :=
  PE.imp (pe_op ho ha hb) fun _ _ _ h => rd_op2 o h
theorem pv_cmp {op : CmpOp} {r : R2} {g : D → D → Store → Rs D} {a b : Expr} {ma mb : ME D} {pos : Pos} (ho : OpR X (compareOp op) r) (o : Op2 X cl Wx r g) (ha : PV X cl Wx a ma) (hb : PV X cl Wx b mb) (hm : behindInMarks op b = false) : PV X cl Wx (.Compare a [op] [b] pos) (op2 g ma mb) :=
  PE.imp (pe_cmpR ho ha hb hm) fun _ _ _ h => rd_op2 o h
/-- a value that is a bool, as a test -/
def mTest (m : ME D) : ME Bool := mbind m fun d => match d with
  | .bl b => mret b
  | _ => mno
theorem rd_test {m : ME D} {σ H} {Q : Bool → Hp → Prop} (h : rdT ⟨X.K, cl⟩ Wx (mTest m) σ H Q) : rdE ⟨X.K, cl⟩ Wx m σ H (fun x H' => ∃ k, x = .bl k ∧ Q k H') := by
  obtain ⟨f, env, st, S, N, h⟩ := h
  refine h.bind S N fun u H1 f1 x st1 A1 h1 => ?_
  have r := A1.rel
  cases r with
  | bl b => exact ⟨b, rfl, h1.okv A1.sim rfl⟩
  | _ => exact h1.elim
theorem pvt_cmp {op : CmpOp} {r : R2} {g : D → D → Store → Rs D} {a b : Expr} {ma mb : ME D} {pos : Pos} (ho : OpR X (compareOp op) r) (o : Op2 X cl Wx r g) (ha : PV X cl Wx a ma) (hb : PV X cl Wx b mb) (hm : behindInMarks op b = false) : PVT X cl Wx (.Compare a [op] [b] pos) (mTest (op2 g ma mb)) :=
  PT.imp (pt_cmpR ho ha hb hm) fun _ _ _ h => rd_op2 o (rd_test h)
end
end RR

set_option maxRecDepth 100000
set_option maxHeartbeats 1000000
namespace RR
open PySem PySem.Spec PyProof.Rows L2

section
variable {X : Cx} {cl : Ctx} {Wx : WX}
/-! ### arithmetic -/
def gAdd : D → D → Store → Rs D
  | .int i, .int j, st => .ok (.int (i + j)) st
  | .str x, .str y, st => if x.length + y.length ≤ sizeLine then .ok (.str (x ++ y)) st else .no
  | .tup a, .tup b, st => if a.length + b.length ≤ sizeLine then .ok (.tup (a ++ b)) st else .no
  | x, y, st => match lstOf st x, lstOf st y with
    | some a, some b => if a.length + b.length ≤ sizeLine then .ok (.lst (a ++ b)) st else .no
    | _, _ => .no
def rAddA (K : PySem.W.Frag) : R2 := fun x y H Q => rI0 (fun i j => .int (i + j)) x y H Q ∨ (∃ i j, x = .str i ∧ y = .str j ∧ i.length + j.length ≤ sizeLine ∧ Q (.str (i ++ j)) H) ∨ rCat x y H Q ∨ rCatA K x y H Q
theorem or_add : OpR X (binaryOp .Add) (rAddA X.K) := op_add.or (op_add_str.or (op_cat.or op_catA))
theorem two_lists {W : Wd} {f H st σ x y u v} {Q : VK} (S : Sim W f H st) (ru : Rep W f H u x) (rv : Rep W f H v y)
    (h : RunAt W Wx (Rep W) f H σ (match lstOf st x, lstOf st y with
    | some a, some b => if a.length + b.length ≤ sizeLine then .ok (.lst (a ++ b)) st else .no
    | _, _ => .no) Q) : rCat u v H Q := by
  cases ea : lstOf st x with
  | none => rw [ea] at h; exact h.elim
  | some a =>
    cases eb : lstOf st y with
    | none => rw [ea, eb] at h; exact h.elim
    | some b =>
      rw [ea, eb] at h
      dsimp only at h
      split at h
      · rename_i hz
        obtain ⟨p, vs, rfl, hp, rp⟩ := S.lst ru ea
        obtain ⟨q, ws, rfl, hq, rq⟩ := S.lst rv eb
        refine ⟨p, q, vs, ws, rfl, rfl, hp, hq, by rw [rp.length, rq.length]; exact hz, fun l hl => ?_⟩
        have e := Ext.laid (o := .lst (vs ++ ws)) S hl
        exact h _ f _ e (S.laid hl) (.lst (S.new hl) upd_same ((rp.append rq).mono e.lean))
      · exact h.elim
theorem o_add : Op2 X cl Wx (rAddA X.K) gAdd := by
  intro f H st σ x y u v Q S ru rv h
  unfold gAdd at h
  split at h
  · cases ru; cases rv; exact .inl ⟨_, _, rfl, rfl, h.okv S (.int _)⟩
  · cases ru; cases rv
    split at h
    · exact .inr (.inl ⟨_, _, rfl, rfl, by assumption, h.okv S (.str _)⟩)
    · exact h.elim
  · obtain ⟨p, vs, rfl, hp, rp⟩ := ru.tupS
    obtain ⟨q, ws, rfl, hq, rq⟩ := rv.tupS
    split at h
    · rename_i hz
      refine .inr (.inr (.inr ⟨p, q, vs, ws, rfl, rfl, hp, hq, by rw [rp.length, rq.length]; exact hz, fun e => ?_, fun _ e => ?_, fun _ _ l hl => ?_⟩))
      · subst e; cases rp; exact h.okv S rv
      · subst e; cases rq; rw [List.append_nil] at h; exact h.okv S ru
      · exact h _ f _ (Ext.laid S hl) (S.laid hl) (.tup (S.new hl) upd_same ((rp.append rq).mono (Ext.laid S hl).lean))
    · exact h.elim
  · exact .inr (.inr (.inl (two_lists S ru rv h)))
theorem pv_add {a b : Expr} {ma mb : ME D} {pos : Pos} (ha : PV X cl Wx a ma) (hb : PV X cl Wx b mb) : PV X cl Wx (.BinOp a .Add b pos) (op2 gAdd ma mb) := pv_op or_add o_add ha hb

/-- ints in, a value out, where c holds -/
def gI (c : Int → Int → Bool) (g : Int → Int → D) : D → D → Store → Rs D
  | .int i, .int j, st => if c i j = true then .ok (g i j) st else .no
  | _, _, _ => .no
theorem o_I {C : Int → Int → Prop} {c : Int → Int → Bool} {g : Int → Int → D} {g' : Int → Int → V} (hc : ∀ i j, c i j = true → C i j) (hg : ∀ W f H i j, Rep W f H (g' i j) (g i j)) : Op2 X cl Wx (rI C g') (gI c g) := by
  intro f H st σ x y u v Q S ru rv h
  unfold gI at h
  split at h
  · cases ru; cases rv
    split at h
    · exact ⟨_, _, rfl, rfl, hc _ _ (by assumption), h.okv S (hg _ _ _ _ _)⟩
    · exact h.elim
  · exact h.elim
def gI0 (g : Int → Int → D) : D → D → Store → Rs D
  | .int i, .int j, st => .ok (g i j) st
  | _, _, _ => .no
theorem o_I0 {g : Int → Int → D} {g' : Int → Int → V} (hg : ∀ W f H i j, Rep W f H (g' i j) (g i j)) : Op2 X cl Wx (rI0 g') (gI0 g) := by
  intro f H st σ x y u v Q S ru rv h
  unfold gI0 at h
  split at h
  · cases ru; cases rv; exact ⟨_, _, rfl, rfl, h.okv S (hg _ _ _ _ _)⟩
  · exact h.elim
abbrev gSub := gI0 fun i j => .int (i - j)
abbrev gDiv := gI (fun i j => decide (0 < j) && decide (j < 1073741824)) fun i j => .int (i / j)
abbrev gMod := gI (fun i j => decide (0 < j)) fun i j => .int (i % j)
abbrev gPow := gI (fun i j => decide (0 ≤ j) && decide (j ≤ 1000000) && decide (i.natAbs < 18446744073709551616)) fun i j => .int (i ^ j.toNat)
abbrev gShl := gI (fun i j => decide (0 ≤ j) && decide (j ≤ 1000000) && decide (i.natAbs < 18446744073709551616)) fun i j => .int (i * 2 ^ j.toNat)
abbrev gShr := gI (fun i j => decide (0 ≤ j)) fun i j => .int (i / 2 ^ j.toNat)
abbrev gAnd := gI0 fun i j => .int (Builtin.bitAnd i j)
abbrev gOr := gI0 fun i j => .int (Builtin.bitOr i j)
abbrev gXor := gI0 fun i j => .int (Builtin.bitXor i j)
variable {a b : Expr} {ma mb : ME D} {pos : Pos}
theorem pv_sub (ha : PV X cl Wx a ma) (hb : PV X cl Wx b mb) : PV X cl Wx (.BinOp a .Sub b pos) (op2 gSub ma mb) := pv_op op_sub (o_I0 fun _ _ _ _ _ => .int _) ha hb
theorem pv_div (ha : PV X cl Wx a ma) (hb : PV X cl Wx b mb) : PV X cl Wx (.BinOp a .FloorDiv b pos) (op2 gDiv ma mb) := pv_op op_fdiv (o_I (fun i j h => by simp at h; exact h) fun _ _ _ _ _ => .int _) ha hb
theorem pv_mod (ha : PV X cl Wx a ma) (hb : PV X cl Wx b mb) : PV X cl Wx (.BinOp a .Mod b pos) (op2 gMod ma mb) := pv_op op_mod (o_I (fun i j h => by simpa using h) fun _ _ _ _ _ => .int _) ha hb
theorem cpow_of {i j : Int} (h : (decide (0 ≤ j) && decide (j ≤ 1000000) && decide (i.natAbs < 18446744073709551616)) = true) : CPow i j := by
  simp only [Bool.and_eq_true, decide_eq_true_eq] at h
  exact ⟨h.1.1, h.1.2, by have := h.2; omega⟩
theorem pv_pow (ha : PV X cl Wx a ma) (hb : PV X cl Wx b mb) : PV X cl Wx (.BinOp a .Pow b pos) (op2 gPow ma mb) := pv_op op_pow (o_I (fun i j h => cpow_of h) fun _ _ _ _ _ => .int _) ha hb
theorem pv_shl (ha : PV X cl Wx a ma) (hb : PV X cl Wx b mb) : PV X cl Wx (.BinOp a .LShift b pos) (op2 gShl ma mb) := pv_op op_shl (o_I (fun i j h => cpow_of h) fun _ _ _ _ _ => .int _) ha hb
theorem pv_shr (ha : PV X cl Wx a ma) (hb : PV X cl Wx b mb) : PV X cl Wx (.BinOp a .RShift b pos) (op2 gShr ma mb) := pv_op op_shr (o_I (fun i j h => by simpa using h) fun _ _ _ _ _ => .int _) ha hb
theorem pv_and (ha : PV X cl Wx a ma) (hb : PV X cl Wx b mb) : PV X cl Wx (.BinOp a .BitAnd b pos) (op2 gAnd ma mb) := pv_op op_and (o_I0 fun _ _ _ _ _ => .int _) ha hb
theorem pv_or (ha : PV X cl Wx a ma) (hb : PV X cl Wx b mb) : PV X cl Wx (.BinOp a .BitOr b pos) (op2 gOr ma mb) := pv_op op_or (o_I0 fun _ _ _ _ _ => .int _) ha hb
theorem pv_xor (ha : PV X cl Wx a ma) (hb : PV X cl Wx b mb) : PV X cl Wx (.BinOp a .BitXor b pos) (op2 gXor ma mb) := pv_op op_xor (o_I0 fun _ _ _ _ _ => .int _) ha hb

/-- * of ints, of a list and an int -/
def gMul : D → D → Store → Rs D
  | .int i, .int j, st => if (decide (i.natAbs < 18446744073709551616) || decide (j.natAbs < 18446744073709551616)) = true then .ok (.int (i * j)) st else .no
  | x, .int k, st => match lstOf st x with
    | some a => if -1000000 ≤ k ∧ k ≤ 1000000 ∧ a.length * k.toNat ≤ sizeLine then .ok (.lst (List.replicate k.toNat a).flatten) st else .no
    | none => .no
  | _, _, _ => .no
def rMulA : R2 := fun x y H Q => rI CMul (fun i j => .int (i * j)) x y H Q ∨ rRep x y H Q
theorem or_mul : OpR X (binaryOp .Mult) rMulA := op_mul.or op_rep
theorem Reps.rep {W f H} {xs : List V} {us : List D} (h : Reps W f H xs us) : ∀ k : Nat, Reps W f H (List.replicate k xs).flatten (List.replicate k us).flatten
  | 0 => .nil
  | k + 1 => by
    rw [List.replicate_succ, List.replicate_succ, List.flatten_cons, List.flatten_cons]
    exact h.append (Reps.rep h k)
theorem o_mul : Op2 X cl Wx rMulA gMul := by
  intro f H st σ x y u v Q S ru rv h
  unfold gMul at h
  split at h
  · cases ru; cases rv
    split at h
    · rename_i hc
      refine .inl ⟨_, _, rfl, rfl, ?_, h.okv S (.int _)⟩
      simp only [Bool.or_eq_true, decide_eq_true_eq] at hc
      rcases hc with hc | hc
      · exact .inl (by omega)
      · exact .inr (by omega)
    · exact h.elim
  · cases rv
    cases ea : lstOf st x with
    | none => rw [ea] at h; exact h.elim
    | some a =>
      rw [ea] at h
      dsimp only at h
      split at h
      · rename_i hz
        obtain ⟨p, vs, rfl, hp, rp⟩ := S.lst ru ea
        refine .inr ⟨p, _, vs, rfl, rfl, hp, by omega, by omega, by rw [rp.length]; exact hz.2.2, fun l hl => ?_⟩
        exact h _ f _ (Ext.laid S hl) (S.laid hl) (.lst (S.new hl) upd_same ((rp.rep _).mono (Ext.laid S hl).lean))
      · exact h.elim
  · exact h.elim
theorem pv_mul (ha : PV X cl Wx a ma) (hb : PV X cl Wx b mb) : PV X cl Wx (.BinOp a .Mult b pos) (op2 gMul ma mb) := pv_op or_mul o_mul ha hb

/-- a new list of the store, a list times an int -/
def gMulN : D → D → Store → Rs D
  | x, .int k, st => match lstOf st x with
    | some a => if -1000000 ≤ k ∧ k ≤ 1000000 ∧ a.length * k.toNat ≤ sizeLine then .ok (.ref st.length) (st ++ [.lst (List.replicate k.toNat a).flatten]) else .no
    | none => .no
  | _, _, _ => .no
theorem o_mulN : Op2 X cl Wx rRep gMulN := by
  intro f H st σ x y u v Q S ru rv h
  unfold gMulN at h
  split at h
  · cases rv
    split at h
    · rename_i a ea
      split at h
      · rename_i hz
        obtain ⟨p, vs, rfl, hp, rp⟩ := S.lst ru ea
        refine ⟨p, _, vs, rfl, rfl, hp, by omega, by omega, by rw [rp.length]; exact hz.2.2, fun l hl => ?_⟩
        exact h _ (f ++ [l]) _ (Ext.cell S hl) (S.grow hl ⟨_, upd_same, (rp.rep _).mono (Ext.cell S hl).lean⟩) (.ref (by rw [← S.len]; simp))
      · exact h.elim
    · exact h.elim
  · exact h.elim
theorem pv_mulN (ha : PV X cl Wx a ma) (hb : PV X cl Wx b mb) : PV X cl Wx (.BinOp a .Mult b pos) (op2 gMulN ma mb) := pv_op op_rep o_mulN ha hb
/-! ### one-place -/
def gNeg : D → Store → Rs D
  | .int i, st => .ok (.int (-i)) st
  | _, _ => .no
def op1 (g : D → Store → Rs D) (ma : ME D) : ME D := mbind ma fun x _ st => g x st
theorem pv_neg (ha : PV X cl Wx a ma) : PV X cl Wx (.UnaryOp .USub a pos) (op1 gNeg ma) := by
  refine PE.imp (pe_un un_neg ha) fun σ H Q h => ?_
  obtain ⟨f, env, st, S, N, h⟩ := h
  refine h.bind S N fun u H1 f1 x st1 A1 h1 => ?_
  have r := A1.rel
  unfold gNeg at h1
  split at h1
  · cases r; exact ⟨_, rfl, h1.okv A1.sim (.int _)⟩
  · exact h1.elim
def gInv : D → Store → Rs D
  | .int i, st => .ok (.int (Builtin.bitNot i)) st
  | _, _ => .no
theorem pv_inv (ha : PV X cl Wx a ma) : PV X cl Wx (.UnaryOp .Invert a pos) (op1 gInv ma) := by
  refine PE.imp (pe_un un_inv ha) fun σ H Q h => ?_
  obtain ⟨f, env, st, S, N, h⟩ := h
  refine h.bind S N fun u H1 f1 x st1 A1 h1 => ?_
  have r := A1.rel
  unfold gInv at h1
  split at h1
  · cases r; exact ⟨_, rfl, h1.okv A1.sim (.int _)⟩
  · exact h1.elim

/-! ### comparisons -/
abbrev gLt := gI0 fun i j => .bl (decide (i < j))
abbrev gLe := gI0 fun i j => .bl (decide (i ≤ j))
abbrev gGt := gI0 fun i j => .bl (decide (j < i))
abbrev gGe := gI0 fun i j => .bl (decide (j ≤ i))
theorem o_lt : Op2 X cl Wx (rI0 fun i j => .bl (decide (i < j))) gLt := o_I0 fun _ _ _ _ _ => .bl _
theorem o_le : Op2 X cl Wx (rI0 fun i j => .bl (decide (i ≤ j))) gLe := o_I0 fun _ _ _ _ _ => .bl _
theorem o_gt : Op2 X cl Wx (rI0 fun i j => .bl (decide (j < i))) gGt := o_I0 fun _ _ _ _ _ => .bl _
theorem o_ge : Op2 X cl Wx (rI0 fun i j => .bl (decide (j ≤ i))) gGe := o_I0 fun _ _ _ _ _ => .bl _
theorem pv_lt (ha : PV X cl Wx a ma) (hb : PV X cl Wx b mb) : PV X cl Wx (.Compare a [.Lt] [b] pos) (op2 gLt ma mb) := pv_cmp op_lt o_lt ha hb (nomark _)
theorem pv_le (ha : PV X cl Wx a ma) (hb : PV X cl Wx b mb) : PV X cl Wx (.Compare a [.LtE] [b] pos) (op2 gLe ma mb) := pv_cmp op_le o_le ha hb (nomark _)
theorem pv_gt (ha : PV X cl Wx a ma) (hb : PV X cl Wx b mb) : PV X cl Wx (.Compare a [.Gt] [b] pos) (op2 gGt ma mb) := pv_cmp op_gt o_gt ha hb (nomark _)
theorem pv_ge (ha : PV X cl Wx a ma) (hb : PV X cl Wx b mb) : PV X cl Wx (.Compare a [.GtE] [b] pos) (op2 gGe ma mb) := pv_cmp op_ge o_ge ha hb (nomark _)
theorem pt_lt (ha : PV X cl Wx a ma) (hb : PV X cl Wx b mb) : PVT X cl Wx (.Compare a [.Lt] [b] pos) (mTest (op2 gLt ma mb)) := pvt_cmp op_lt o_lt ha hb (nomark _)
theorem pt_le (ha : PV X cl Wx a ma) (hb : PV X cl Wx b mb) : PVT X cl Wx (.Compare a [.LtE] [b] pos) (mTest (op2 gLe ma mb)) := pvt_cmp op_le o_le ha hb (nomark _)
theorem pt_gt (ha : PV X cl Wx a ma) (hb : PV X cl Wx b mb) : PVT X cl Wx (.Compare a [.Gt] [b] pos) (mTest (op2 gGt ma mb)) := pvt_cmp op_gt o_gt ha hb (nomark _)
theorem pt_ge (ha : PV X cl Wx a ma) (hb : PV X cl Wx b mb) : PVT X cl Wx (.Compare a [.GtE] [b] pos) (mTest (op2 gGe ma mb)) := pvt_cmp op_ge o_ge ha hb (nomark _)

/-! ### == of data -/
mutual
def toPy : D → Option PyData
  | .non => some .none
  | .bl b => some (.bool b)
  | .int i => some (.int i)
  | .str x => some (.str x)
  | .lst ds => (toPys ds).map .list
  | .tup ds => (toPys ds).map .tuple
  | .ktp ds => (toPys ds).map .tuple
  | _ => none
def toPys : List D → Option (List PyData)
  | [] => some []
  | d :: ds => match toPy d, toPys ds with
    | some x, some xs => some (x :: xs)
    | _, _ => none
end
/-- .. a list in the store as it stands -/
def toPyS (st : Store) (d : D) : Option PyData := match d with
  | .ref _ => match lstOf st d with
    | some ds => toPy (.lst ds)
    | none => none
  | d => toPy d
mutual
theorem dp_of {W : Wd} {f H} : ∀ (d : D) {v : V} {p : PyData}, Rep W f H v d → toPy d = some p → Dp W.K H v p
  | .non, _, _, r, h => by cases r; simp [toPy] at h; subst h; exact .non
  | .bl b, _, _, r, h => by cases r; simp [toPy] at h; subst h; exact .bl b
  | .int b, _, _, r, h => by cases r; simp [toPy] at h; subst h; exact .int b
  | .str b, _, _, r, h => by cases r; simp [toPy] at h; subst h; exact .str b
  | .lst ds, _, _, r, h => by
    cases r with
    | lst h1 h2 h3 =>
      simp [toPy] at h
      obtain ⟨ps, e, rfl⟩ := h
      exact .lst (.of h2) (dps_of ds h3 e)
  | .tup ds, _, _, r, h => by
    obtain ⟨a, vs, rfl, h2, h3⟩ := r.tupS
    simp [toPy] at h
    obtain ⟨ps, e, rfl⟩ := h
    exact .tup h2 (dps_of ds h3 e)
  | .ktp ds, _, _, r, h => by
    obtain ⟨a, vs, rfl, h2, h3⟩ := r.ktpS
    simp [toPy] at h
    obtain ⟨ps, e, rfl⟩ := h
    exact .tup h2 (dps_of ds h3 e)
  | .ty _, _, _, _, h => by simp [toPy] at h
  | .adr _, _, _, _, h => by simp [toPy] at h
  | .scr _, _, _, _, h => by simp [toPy] at h
  | .ref _, _, _, _, h => by simp [toPy] at h
  | .obj _ _ _, _, _, _, h => by simp [toPy] at h
  | .dT _ _, _, _, _, h => by simp [toPy] at h
  | .dK _ _, _, _, _, h => by simp [toPy] at h
theorem dps_of {W : Wd} {f H} : ∀ (ds : List D) {vs : List V} {ps : List PyData}, Reps W f H vs ds → toPys ds = some ps → DpAll W.K H vs ps
  | [], _, _, .nil, h => by simp [toPys] at h; subst h; exact .nil
  | d :: ds, _, _, .cons r t, h => by
    simp only [toPys] at h
    cases e1 : toPy d with
    | none => simp [e1] at h
    | some p =>
      cases e2 : toPys ds with
      | none => simp [e1, e2] at h
      | some ps =>
        simp [e1, e2] at h
        subst h
        exact .cons (dp_of d r e1) (dps_of ds t e2)
end
theorem dpS_of {W : Wd} {f H st} (S : Sim W f H st) {d : D} {v : V} {p : PyData} (r : Rep W f H v d) (h : toPyS st d = some p) : Dp W.K H v p := by
  unfold toPyS at h
  split at h
  · split at h
    · rename_i ds e
      obtain ⟨a, vs, rfl, h1, h2⟩ := S.lst r e
      simp [toPy] at h
      obtain ⟨ps, e2, rfl⟩ := h
      exact .lst (.of h1) (dps_of ds h2 e2)
    · cases h
  · exact dp_of _ r h
def gEqB (neg : Bool) : D → D → Store → Rs D := fun x y st => match toPyS st x, toPyS st y with
  | some p, some q => if SeqAt.shaped p && SeqAt.shaped q then .ok (.bl (if neg then !PyData.eqv p q else PyData.eqv p q)) st else .no
  | _, _ => .no
theorem o_eq : Op2 X cl Wx (rEqD X.K) (gEqB false) := by
  intro f H st σ x y u v Q S ru rv h
  unfold gEqB at h
  cases e1 : toPyS st x with
  | none => simp only [e1] at h; exact h.elim
  | some p =>
    cases e2 : toPyS st y with
    | none => simp only [e1, e2] at h; exact h.elim
    | some q =>
      simp only [e1, e2] at h
      split at h
      · rename_i hs
        simp only [Bool.and_eq_true] at hs
        exact ⟨p, q, dpS_of S ru e1, dpS_of S rv e2, hs.1, hs.2, h.okv S (.bl _)⟩
      · exact h.elim
theorem o_ne : Op2 X cl Wx (rNeD X.K) (gEqB true) := by
  intro f H st σ x y u v Q S ru rv h
  unfold gEqB at h
  cases e1 : toPyS st x with
  | none => simp only [e1] at h; exact h.elim
  | some p =>
    cases e2 : toPyS st y with
    | none => simp only [e1, e2] at h; exact h.elim
    | some q =>
      simp only [e1, e2] at h
      split at h
      · rename_i hs
        simp only [Bool.and_eq_true] at hs
        exact ⟨p, q, dpS_of S ru e1, dpS_of S rv e2, hs.1, hs.2, h.okv S (.bl _)⟩
      · exact h.elim
abbrev gEq := gEqB false
abbrev gNe := gEqB true
theorem pv_eq (hu : X.A.units + 64 < cLine) (ha : PV X cl Wx a ma) (hb : PV X cl Wx b mb) : PV X cl Wx (.Compare a [.Eq] [b] pos) (op2 gEq ma mb) := pv_cmp (op_eqD hu) o_eq ha hb (nomark _)
theorem pv_ne (hu : X.A.units + 64 < cLine) (ha : PV X cl Wx a ma) (hb : PV X cl Wx b mb) : PV X cl Wx (.Compare a [.NotEq] [b] pos) (op2 gNe ma mb) := pv_cmp (op_neD hu) o_ne ha hb (nomark _)
theorem pt_eq (hu : X.A.units + 64 < cLine) (ha : PV X cl Wx a ma) (hb : PV X cl Wx b mb) : PVT X cl Wx (.Compare a [.Eq] [b] pos) (mTest (op2 gEq ma mb)) := pvt_cmp (op_eqD hu) o_eq ha hb (nomark _)
theorem pt_ne (hu : X.A.units + 64 < cLine) (ha : PV X cl Wx a ma) (hb : PV X cl Wx b mb) : PVT X cl Wx (.Compare a [.NotEq] [b] pos) (mTest (op2 gNe ma mb)) := pvt_cmp (op_neD hu) o_ne ha hb (nomark _)

/-! ### is None -/
def gIsN (neg : Bool) : D → Store → Rs D := fun x st => .ok (.bl (match x with | .non => !neg | _ => neg)) st
theorem rep_non {W f H v d} (r : Rep W f H v d) : decide (v = .non) = (match d with | .non => true | _ => false) := by
  cases r <;> rfl
theorem pv_isN {j pos'} (ha : PV X cl Wx a ma) : PV X cl Wx (.Compare a [.Is] [.Constant .none j pos'] pos) (op1 (gIsN false) ma) := by
  refine PE.imp (pe_cmp (pc_isN ha) rfl) fun σ H Q h => ?_
  obtain ⟨f, env, st, S, N, h⟩ := h
  refine h.bind S N fun u H1 f1 x st1 A1 h1 => ?_
  have e := rep_non A1.rel
  refine h1.okv A1.sim ?_
  rw [e]
  cases x <;> exact .bl _
theorem pv_notN {j pos'} (ha : PV X cl Wx a ma) : PV X cl Wx (.Compare a [.IsNot] [.Constant .none j pos'] pos) (op1 (gIsN true) ma) := by
  refine PE.imp (pe_cmp (pc_notN ha) rfl) fun σ H Q h => ?_
  obtain ⟨f, env, st, S, N, h⟩ := h
  refine h.bind S N fun u H1 f1 x st1 A1 h1 => ?_
  have e := rep_non A1.rel
  refine h1.okv A1.sim ?_
  rw [e]
  cases x <;> exact .bl _
end
end RR

set_option maxRecDepth 100000
set_option maxHeartbeats 1000000
namespace RR
open PySem PySem.Spec PyProof.Rows L2

section
variable {X : Cx} {cl : Ctx} {Wx : WX} {a b c : Expr} {ma mb mc : ME D} {pos : Pos} {rest : List Expr}
/-! ### and, or, not, if -/
def mAnd (ma mb : ME D) : ME D := mbind ma fun d => match d with
  | .bl true => mb
  | .bl false => mret (.bl false)
  | _ => mno
def mOr (ma mb : ME D) : ME D := mbind ma fun d => match d with
  | .bl true => mret (.bl true)
  | .bl false => mb
  | _ => mno
def mNot (ma : ME D) : ME D := mbind ma fun d => match d with
  | .bl b => mret (.bl (!b))
  | _ => mno
def tAnd2 (ma mb : ME Bool) : ME Bool := mbind ma fun d => match d with
  | true => mb
  | false => mret false
def tOr2 (ma mb : ME Bool) : ME Bool := mbind ma fun d => match d with
  | true => mret true
  | false => mb
def tNot1 (ma : ME Bool) : ME Bool := mbind ma fun d => mret (!d)
def mIf (t : ME Bool) (ma mb : ME D) : ME D := mbind t fun d => match d with
  | true => ma
  | false => mb
theorem At.rd {A B A' B' : Type} {W Wx f0 H0 σ env} {rel : List Addr → Hp → B → A → Prop} {rel' : List Addr → Hp → B' → A' → Prop} {d : A} {st1 : Store} {v : B} {H1 f1} (t : At W rel f0 H0 σ env d st1 v H1 f1) {m : ME A'} {Q : B' → Hp → Prop}
    (h : RunAt W Wx rel' f1 H1 σ (m env st1) Q) : rdG W Wx rel' m σ H1 Q := ⟨f1, env, st1, t.sim, t.env, h⟩
theorem pv_one {op} (ha : PV X cl Wx a ma) : PV X cl Wx (.BoolOp op [a] pos) ma := pe_one ha
theorem pv_andv (ha : PV X cl Wx a ma) (hb : PV X cl Wx (.BoolOp .And (b :: rest) pos) mb) : PV X cl Wx (.BoolOp .And (a :: b :: rest) pos) (mAnd ma mb) := by
  refine PE.imp (pe_and ha hb) fun σ H Q h => ?_
  obtain ⟨f, env, st, S, N, h⟩ := h
  refine h.bind S N fun u H1 f1 x st1 A1 h1 => ?_
  have r := A1.rel
  cases r with
  | bl b =>
    cases b with
    | true => exact ⟨true, rfl, by rw [if_pos rfl]; exact A1.rd h1⟩
    | false => exact ⟨false, rfl, by rw [if_neg (by decide)]; exact h1.okv A1.sim (.bl _)⟩
  | _ => exact h1.elim
theorem pv_orv (ha : PV X cl Wx a ma) (hb : PV X cl Wx (.BoolOp .Or (b :: rest) pos) mb) : PV X cl Wx (.BoolOp .Or (a :: b :: rest) pos) (mOr ma mb) := by
  refine PE.imp (pe_or ha hb) fun σ H Q h => ?_
  obtain ⟨f, env, st, S, N, h⟩ := h
  refine h.bind S N fun u H1 f1 x st1 A1 h1 => ?_
  have r := A1.rel
  cases r with
  | bl b =>
    cases b with
    | false => exact ⟨false, rfl, by rw [if_neg (by decide)]; exact A1.rd h1⟩
    | true => exact ⟨true, rfl, by rw [if_pos rfl]; exact h1.okv A1.sim (.bl _)⟩
  | _ => exact h1.elim
theorem pv_notv (ha : PV X cl Wx a ma) : PV X cl Wx (.UnaryOp .Not a pos) (mNot ma) := by
  refine PE.imp (pe_not ha) fun σ H Q h => ?_
  obtain ⟨f, env, st, S, N, h⟩ := h
  refine h.bind S N fun u H1 f1 x st1 A1 h1 => ?_
  have r := A1.rel
  cases r with
  | bl b => exact ⟨b, rfl, h1.okv A1.sim (.bl _)⟩
  | _ => exact h1.elim
abbrev PVW (X : Cx) (cl : Ctx) (Wx : WX) (e : Expr) (m : ME Bool) : Prop := PW X e (rdT ⟨X.K, cl⟩ Wx m)
variable {ta tb : ME Bool}
theorem pw_a1 (ha : PVT X cl Wx a ta) : PVW X cl Wx (.BoolOp .And [a] pos) ta := pw_and1 ha
theorem pw_o1 (ha : PVT X cl Wx a ta) : PVW X cl Wx (.BoolOp .Or [a] pos) ta := pw_or1 ha
theorem pw_a2 (ha : PVT X cl Wx a ta) (hb : PVW X cl Wx (.BoolOp .And (b :: rest) pos) tb) : PVW X cl Wx (.BoolOp .And (a :: b :: rest) pos) (tAnd2 ta tb) := by
  refine PW.imp (pw_and ha hb) fun σ H Q h => ?_
  obtain ⟨f, env, st, S, N, h⟩ := h
  refine h.bind S N fun u H1 f1 x st1 A1 h1 => ?_
  have r := A1.rel
  subst r
  cases u with
  | true => rw [if_pos rfl]; exact A1.rd h1
  | false => rw [if_neg (by decide)]; exact h1.okv A1.sim rfl
theorem pw_o2 (ha : PVT X cl Wx a ta) (hb : PVW X cl Wx (.BoolOp .Or (b :: rest) pos) tb) : PVW X cl Wx (.BoolOp .Or (a :: b :: rest) pos) (tOr2 ta tb) := by
  refine PW.imp (pw_or ha hb) fun σ H Q h => ?_
  obtain ⟨f, env, st, S, N, h⟩ := h
  refine h.bind S N fun u H1 f1 x st1 A1 h1 => ?_
  have r := A1.rel
  subst r
  cases u with
  | false => rw [if_neg (by decide)]; exact A1.rd h1
  | true => rw [if_pos rfl]; exact h1.okv A1.sim rfl
theorem pt_wh (h : PVW X cl Wx a ta) : PVT X cl Wx a ta := PW.pt h
theorem pt_no (ha : PVT X cl Wx a ta) : PVT X cl Wx (.UnaryOp .Not a pos) (tNot1 ta) := by
  refine PT.imp (pt_not ha) fun σ H Q h => ?_
  obtain ⟨f, env, st, S, N, h⟩ := h
  refine h.bind S N fun u H1 f1 x st1 A1 h1 => ?_
  have r := A1.rel
  subst r
  exact h1.okv A1.sim rfl
/-- an expression that gives a bool, as a test -/
theorem pt_v (h : PV X cl Wx a ma) (he : ∀ whole, isTrue a X.env whole = (do let v ← whole; standAt a.pos; holding [v] (truthy v)) := by intro _; rfl) : PVT X cl Wx a (mTest ma) :=
  PT.imp (pt_val h he) fun _ _ _ h => rd_test h
theorem pv_if (hc : PVT X cl Wx c ta) (ha : PV X cl Wx a ma) (hb : PV X cl Wx b mb) : PV X cl Wx (.IfExp c a b pos) (mIf ta ma mb) := by
  refine PE.imp (pe_ifExp hc ha hb) fun σ H Q h => ?_
  obtain ⟨f, env, st, S, N, h⟩ := h
  refine h.bind S N fun u H1 f1 x st1 A1 h1 => ?_
  have r := A1.rel
  subst r
  cases u with
  | true => rw [if_pos rfl]; exact A1.rd h1
  | false => rw [if_neg (by decide)]; exact A1.rd h1
/-- x op y op' z -/
def mChain (g g' : D → D → Store → Rs D) (ma mb mc : ME D) : ME D := mbind ma fun x => mbind mb fun y => mbind (fun _ st => g x y st) fun t => match t with
  | .bl true => mbind mc fun z => fun _ st => g' y z st
  | .bl false => mret (.bl false)
  | _ => mno
theorem rd_chain {r r' : R2} {g g' : D → D → Store → Rs D} (o : Op2 X cl Wx r g) (o' : Op2 X cl Wx r' g') {σ H Q} (h : rdE ⟨X.K, cl⟩ Wx (mChain g g' ma mb mc) σ H Q) : tChain r r' (rdE ⟨X.K, cl⟩ Wx ma) (rdE ⟨X.K, cl⟩ Wx mb) (rdE ⟨X.K, cl⟩ Wx mc) σ H Q := by
  obtain ⟨f, env, st, S, N, h⟩ := h
  refine h.bind S N fun u H1 f1 x st1 A1 h1 => ?_
  refine h1.bind A1.sim A1.env fun v H2 f2 y st2 A2 h2 => ?_
  refine o f2 H2 st2 σ x y u v _ A2.sim (A1.rel.mono A2.ext.lean) A2.rel (RunAt.seq (rel := Rep ⟨X.K, cl⟩) A2.sim A2.env h2 fun z H3 f3 t st3 A3 h3 => ?_)
  have r := A3.rel
  cases r with
  | bl k =>
    refine ⟨k, rfl, ?_⟩
    cases k with
    | true =>
      rw [if_pos rfl]
      refine h3.bind A3.sim A3.env fun w' H4 f4 zz st4 A4 h4 => ?_
      exact o' f4 H4 st4 σ y zz v w' Q A4.sim ((A2.rel.mono A3.ext.lean).mono A4.ext.lean) A4.rel h4
    | false => rw [if_neg (by decide)]; exact h3.okv A3.sim (.bl _)
  | _ => exact h3.elim
theorem pv_chain {op op' : CmpOp} {r r' : R2} {g g' : D → D → Store → Rs D} (ho : OpR X (compareOp op) r) (ho' : OpR X (compareOp op') r') (o : Op2 X cl Wx r g) (o' : Op2 X cl Wx r' g') (ha : PV X cl Wx a ma) (hb : PV X cl Wx b mb) (hc : PV X cl Wx c mc)
    (hm : lastMarks [op, op'] [b, c] = false := by with_unfolding_all rfl) : PV X cl Wx (.Compare a [op, op'] [b, c] pos) (mChain g g' ma mb mc) := PE.imp (pe_chain ho ho' ha hb hc hm) fun _ _ _ h => rd_chain o o' h
theorem pvt_chain {op op' : CmpOp} {r r' : R2} {g g' : D → D → Store → Rs D} (ho : OpR X (compareOp op) r) (ho' : OpR X (compareOp op') r') (o : Op2 X cl Wx r g) (o' : Op2 X cl Wx r' g') (ha : PV X cl Wx a ma) (hb : PV X cl Wx b mb) (hc : PV X cl Wx c mc)
    (hm : lastMarks [op, op'] [b, c] = false := by with_unfolding_all rfl) : PVT X cl Wx (.Compare a [op, op'] [b, c] pos) (mTest (mChain g g' ma mb mc)) := PT.imp (pt_chain ho ho' ha hb hc hm) fun _ _ _ h => rd_chain o o' (rd_test h)

/-! ### argument lists, displays -/
def aNil : ME (List D) := mret []
def aCons (m : ME D) (r : ME (List D)) : ME (List D) := mbind m fun d => mbind r fun ds => mret (d :: ds)
variable {e : Expr} {es : List Expr} {m : ME D} {r : ME (List D)}
theorem va_nil : PVA X cl Wx [] aNil := by
  refine PA.imp pa_nil fun σ H Q h => ?_
  obtain ⟨f, env, st, S, N, h⟩ := h
  exact h.okv S .nil
theorem va_cons (ha : PV X cl Wx e m) (hr : PVA X cl Wx es r) (hs : starEach (e :: es) X.env = (false, eval e X.env) :: starEach es X.env := by rfl) : PVA X cl Wx (e :: es) (aCons m r) := by
  refine PA.imp (pa_cons ha hr hs) fun σ H Q h => ?_
  obtain ⟨f, env, st, S, N, h⟩ := h
  refine h.bind S N fun u H1 f1 x st1 A1 h1 => ?_
  refine h1.bind A1.sim A1.env fun v H2 f2 y st2 A2 h2 => ?_
  exact h2.okv A2.sim (.cons (A1.rel.mono A2.ext.lean) A2.rel)
def mTup (r : ME (List D)) : ME D := mbind r fun ds _ st => if ds.length ≤ 16777216 then .ok (.tup ds) st else .no
def mLst (r : ME (List D)) : ME D := mbind r fun ds _ st => if ds.length ≤ 16777216 then .ok (.lst ds) st else .no
/-- a list that is to be changed -/
def mNewL (r : ME (List D)) : ME D := mbind r fun ds _ st => if ds.length ≤ 16777216 then .ok (.ref st.length) (st ++ [.lst ds]) else .no
theorem lay_tup {W : Wd} {f H σ st} {vs : List V} {ds : List D} {Q : VK} (S : Sim W f H st) (rs : Reps W f H vs ds) (h : RunAt W Wx (Rep W) f H σ (.ok (.tup ds) st) Q) : ∀ p, H p = none → Q (.ref p) (upd H p (.tup vs)) := fun p hp =>
  h _ f _ (Ext.laid S hp) (S.laid hp) (.tup (S.new hp) upd_same (rs.mono (Ext.laid S hp).lean))
theorem lay_lst {W : Wd} {f H σ st} {vs : List V} {ds : List D} {Q : VK} (S : Sim W f H st) (rs : Reps W f H vs ds) (h : RunAt W Wx (Rep W) f H σ (.ok (.lst ds) st) Q) : ∀ p, H p = none → Q (.ref p) (upd H p (.lst vs)) := fun p hp =>
  h _ f _ (Ext.laid S hp) (S.laid hp) (.lst (S.new hp) upd_same (rs.mono (Ext.laid S hp).lean))
theorem lay_cell {W : Wd} {f H σ st} {o : HO} {c : Cell} {Q : VK} (S : Sim W f H st) (hc : ∀ p, H p = none → CellOk W (f ++ [p]) (upd H p o) p c) (h : RunAt W Wx (Rep W) f H σ (.ok (.ref st.length) (st ++ [c])) Q) : ∀ p, H p = none → Q (.ref p) (upd H p o) := fun p hp =>
  h _ (f ++ [p]) _ (Ext.cell S hp) (S.grow hp (hc p hp)) (.ref (by rw [← S.len]; simp))
theorem pv_tup {x1} (h : PVA X cl Wx es r) : PV X cl Wx (.Tuple es x1 pos) (mTup r) := by
  refine PE.imp (pe_tup h) fun σ H Q h => ?_
  obtain ⟨f, env, st, S, N, h⟩ := h
  refine h.bind S N fun u H1 f1 x st1 A1 h1 => ?_
  split at h1
  · rename_i hz
    exact ⟨by rw [A1.rel.length]; exact hz, lay_tup A1.sim A1.rel h1⟩
  · exact h1.elim
theorem pv_lst (h : PVA X cl Wx es r) : PV X cl Wx (.List es pos) (mLst r) := by
  refine PE.imp (pe_lst h) fun σ H Q h => ?_
  obtain ⟨f, env, st, S, N, h⟩ := h
  refine h.bind S N fun u H1 f1 x st1 A1 h1 => ?_
  split at h1
  · rename_i hz
    exact ⟨by rw [A1.rel.length]; exact hz, lay_lst A1.sim A1.rel h1⟩
  · exact h1.elim
theorem pv_newl (h : PVA X cl Wx es r) : PV X cl Wx (.List es pos) (mNewL r) := by
  refine PE.imp (pe_lst h) fun σ H Q h => ?_
  obtain ⟨f, env, st, S, N, h⟩ := h
  refine h.bind S N fun u H1 f1 x st1 A1 h1 => ?_
  split at h1
  · rename_i hz
    exact ⟨by rw [A1.rel.length]; exact hz, lay_cell (c := .lst x) A1.sim (fun p hp => ⟨u, upd_same, A1.rel.mono (Ext.cell A1.sim hp).lean⟩) h1⟩
  · exact h1.elim
/-- {}: keys that are tuples, keys that are numbers or texts -/
def mNewT : ME D := fun _ st => .ok (.ref st.length) (st ++ [.dT [] []])
def mNewK : ME D := fun _ st => .ok (.ref st.length) (st ++ [.dK [] []])
theorem pv_newT : PV X cl Wx (.Dict [] [] pos) mNewT := by
  refine PE.imp pe_dnewT fun σ H Q h => ?_
  obtain ⟨f, env, st, S, N, h⟩ := h
  exact lay_cell (c := .dT [] []) S (fun p hp => ⟨[], upd_same, rfl, .nil⟩) h
theorem pv_newK : PV X cl Wx (.Dict [] [] pos) mNewK := by
  refine PE.imp pe_dnewK fun σ H Q h => ?_
  obtain ⟨f, env, st, S, N, h⟩ := h
  exact lay_cell (c := .dK [] []) S (fun p hp => ⟨[], upd_same, rfl, .nil⟩) h

/-! ### calls of what is built in, by data -/
def OpL (X : Cx) (cl : Ctx) (Wx : WX) (r : List V → Hp → VK → Prop) (g : List D → Store → Rs D) : Prop := ∀ (f : List Addr) (H : Hp) (st : Store) (σ : L2.St) (xs : List D) (us : List V) (Q : VK), Sim ⟨X.K, cl⟩ f H st → Reps ⟨X.K, cl⟩ f H us xs →
  RunAt ⟨X.K, cl⟩ Wx (Rep ⟨X.K, cl⟩) f H σ (g xs st) Q → r us H Q
def mCall (g : List D → Store → Rs D) (r : ME (List D)) : ME D := mbind r fun ds _ st => g ds st
theorem rd_call {rr : List V → Hp → VK → Prop} {g : List D → Store → Rs D} (o : OpL X cl Wx rr g) {σ H Q} (h : rdE ⟨X.K, cl⟩ Wx (mCall g r) σ H Q) : rdA ⟨X.K, cl⟩ Wx r σ H (fun vs H1 => rr vs H1 Q) := by
  obtain ⟨f, env, st, S, N, h⟩ := h
  refine h.bind S N fun u H1 f1 x st1 A1 h1 => ?_
  exact o f1 H1 st1 σ x u Q A1.sim A1.rel h1
theorem pv_callB {x : Str} {id : String} {rr : List V → Hp → VK → Prop} {g : List D → Store → Rs D} {p : Pos} (hc : CallR X (.builtin id) rr) (o : OpL X cl Wx rr g) (hg : Gl X x) (hm : X.mg x = none) (hv : bootBuiltins x = some (.builtin id)) (ha : PVA X cl Wx (e :: es) r)
    (hn : x ≠ "__name__" := by decide) (hdb : (x == ("__debug__" : Str)) = false := by decide)
    (he : starEach (e :: es) X.env = (false, eval e X.env) :: starEach es X.env := by rfl) (hpl : (backTo pos (starEach es X.env)).any (·.1) = false := by rfl) : PV X cl Wx (.Call (.Name x p) (e :: es) [] pos) (mCall g r) :=
  PE.imp (pe_callB hc hg hm hv ha hn hdb he hpl) fun _ _ _ h => rd_call o h
theorem pv_callT {x : Str} {T : String} {rr : List V → Hp → VK → Prop} {g : List D → Store → Rs D} {p : Pos} (hc : CallR X (.type T) rr) (o : OpL X cl Wx rr g) (hg : Gl X x) (hm : X.mg x = none) (hv : bootBuiltins x = some (.type T)) (ha : PVA X cl Wx (e :: es) r)
    (hn : x ≠ "__name__" := by decide) (hdb : (x == ("__debug__" : Str)) = false := by decide)
    (he : starEach (e :: es) X.env = (false, eval e X.env) :: starEach es X.env := by rfl) (hpl : (backTo pos (starEach es X.env)).any (·.1) = false := by rfl) : PV X cl Wx (.Call (.Name x p) (e :: es) [] pos) (mCall g r) :=
  PE.imp (pe_callTy hc hg hm hv ha hn hdb he hpl) fun _ _ _ h => rd_call o h
end
end RR

set_option maxRecDepth 100000
set_option maxHeartbeats 1000000
namespace RR
open PySem PySem.Spec PyProof.Rows L2

section
variable {X : Cx} {cl : Ctx} {Wx : WX} {a b c e : Expr} {ma mb mc m : ME D} {pos p : Pos} {es : List Expr} {r : ME (List D)}
theorem Reps.one {W f H us d} (h : Reps W f H us [d]) : ∃ u, us = [u] ∧ Rep W f H u d := by
  cases h with
  | cons h t => cases t; exact ⟨_, rfl, h⟩
theorem Reps.two {W f H us d d'} (h : Reps W f H us [d, d']) : ∃ u v, us = [u, v] ∧ Rep W f H u d ∧ Rep W f H v d' := by
  cases h with
  | cons h t =>
    obtain ⟨v, rfl, q⟩ := t.one
    exact ⟨_, v, rfl, h, q⟩

/-! ### len -/
def gLen : List D → Store → Rs D
  | [.tup ds], st => .ok (.int ds.length) st
  | [.ktp ds], st => .ok (.int ds.length) st
  | [.str x], st => if x.length ≤ sizeLine then .ok (.int x.length) st else .no
  | [d], st => match seqOf st d with
    | some ds => .ok (.int ds.length) st
    | none => .no
  | _, _ => .no
def rLenA (K : PySem.W.Frag) : List V → Hp → VK → Prop := fun xs H Q => (∃ p ys, xs = [.ref p] ∧ (SqL K H p ys ∨ SqT K H p ys) ∧ Q (.int ys.length) H) ∨ (∃ z, xs = [.str z] ∧ z.length ≤ sizeLine ∧ Q (.int z.length) H)
theorem cr_len : CallR X (.builtin "len") (rLenA X.K) := call_len_seq.or call_len_str
theorem o_len : OpL X cl Wx (rLenA X.K) gLen := by
  intro f H st σ xs us Q S rs h
  unfold gLen at h
  split at h
  · obtain ⟨u, rfl, q⟩ := rs.one
    obtain ⟨p, vs, rfl, hp, rp⟩ := q.tupS
    refine .inl ⟨p, vs, rfl, .inr hp, ?_⟩
    rw [rp.length]
    exact h.okv S (.int _)
  · obtain ⟨u, rfl, q⟩ := rs.one
    obtain ⟨p, vs, rfl, hp, rp⟩ := q.ktpS
    refine .inl ⟨p, vs, rfl, .inr hp, ?_⟩
    rw [rp.length]
    exact h.okv S (.int _)
  · obtain ⟨u, rfl, q⟩ := rs.one
    cases q
    split at h
    · exact .inr ⟨_, rfl, by assumption, h.okv S (.int _)⟩
    · exact h.elim
  · obtain ⟨u, rfl, q⟩ := rs.one
    split at h
    · rename_i ds eq
      obtain ⟨p, vs, rfl, hp, rp⟩ := S.seq q eq
      refine .inl ⟨p, vs, rfl, .inl hp, ?_⟩
      rw [rp.length]
      exact h.okv S (.int _)
    · exact h.elim
  · exact h.elim
theorem pv_len (hg : Gl X "len") (hm : X.mg "len" = none) (ha : PVA X cl Wx [e] r) (he : starEach [e] X.env = (false, eval e X.env) :: starEach [] X.env := by rfl) : PV X cl Wx (.Call (.Name "len" p) [e] [] pos) (mCall gLen r) :=
  pv_callB cr_len o_len hg hm PySem.boot_len ha (he := he)

/-! ### list(x), tuple(x) of a list or tuple -/
def itemsOf (st : Store) : D → Option (List D)
  | .tup ds => some ds
  | .ktp ds => some ds
  | d => seqOf st d
theorem Sim.items {W : Wd} {f H st} (S : Sim W f H st) {v : V} {d : D} {ds : List D} (rv : Rep W f H v d) (h : itemsOf st d = some ds) : ∃ a vs, v = .ref a ∧ (SqL W.K H a vs ∨ SqT W.K H a vs) ∧ Reps W f H vs ds := by
  unfold itemsOf at h
  split at h
  · cases h
    obtain ⟨p, vs, rfl, hp, rp⟩ := rv.tupS
    exact ⟨p, vs, rfl, .inr hp, rp⟩
  · cases h
    obtain ⟨p, vs, rfl, hp, rp⟩ := rv.ktpS
    exact ⟨p, vs, rfl, .inr hp, rp⟩
  · obtain ⟨p, vs, rfl, hp, rp⟩ := S.seq rv h
    exact ⟨p, vs, rfl, .inl hp, rp⟩
def gList (new : Bool) : List D → Store → Rs D
  | [d], st => match itemsOf st d with
    | some ds => if new then .ok (.ref st.length) (st ++ [.lst ds]) else .ok (.lst ds) st
    | none => .no
  | _, _ => .no
def rListA (K : PySem.W.Frag) : List V → Hp → VK → Prop := fun xs H Q => ∃ p ys, xs = [.ref p] ∧ (SqL K H p ys ∨ SqT K H p ys) ∧ ∀ l, H l = none → Q (.ref l) (upd H l (.lst ys))
theorem o_list {new : Bool} : OpL X cl Wx (rListA X.K) (gList new) := by
  intro f H st σ xs us Q S rs h
  unfold gList at h
  split at h
  · obtain ⟨u, rfl, q⟩ := rs.one
    split at h
    · rename_i ds eq
      obtain ⟨p, vs, rfl, hp, rp⟩ := S.items q eq
      refine ⟨p, vs, rfl, hp, ?_⟩
      split at h
      · exact lay_cell (c := .lst ds) S (fun p hp => ⟨vs, upd_same, rp.mono (Ext.cell S hp).lean⟩) h
      · exact lay_lst S rp h
    · exact h.elim
  · exact h.elim
theorem pv_list {new : Bool} (hg : Gl X "list") (hm : X.mg "list" = none) (ha : PVA X cl Wx [e] r) (he : starEach [e] X.env = (false, eval e X.env) :: starEach [] X.env := by rfl) : PV X cl Wx (.Call (.Name "list" p) [e] [] pos) (mCall (gList new) r) :=
  pv_callT (call_list_of) o_list hg hm boot_list ha (he := he)
def gTupOf : List D → Store → Rs D
  | [.tup ds], st => .ok (.tup ds) st
  | [d], st => match seqOf st d with
    | some ds => .ok (.tup ds) st
    | none => .no
  | _, _ => .no
theorem o_tupOf : OpL X cl Wx (fun xs H Q => ∃ p ys, xs = [.ref p] ∧ ((SqL X.K H p ys ∧ ∀ l, H l = none → Q (.ref l) (upd H l (.tup ys))) ∨ (SqT X.K H p ys ∧ Q (.ref p) H))) gTupOf := by
  intro f H st σ xs us Q S rs h
  unfold gTupOf at h
  split at h
  · obtain ⟨u, rfl, q⟩ := rs.one
    have q' := q
    obtain ⟨p, vs, rfl, hp, rp⟩ := q.tupS
    exact ⟨p, vs, rfl, .inr ⟨hp, h.okv S q'⟩⟩
  · obtain ⟨u, rfl, q⟩ := rs.one
    split at h
    · rename_i ds eq
      obtain ⟨p, vs, rfl, hp, rp⟩ := S.seq q eq
      exact ⟨p, vs, rfl, .inl ⟨hp, lay_tup S rp h⟩⟩
    · exact h.elim
  · exact h.elim
theorem pv_tupOf (hg : Gl X "tuple") (hm : X.mg "tuple" = none) (ha : PVA X cl Wx [e] r) (he : starEach [e] X.env = (false, eval e X.env) :: starEach [] X.env := by rfl) : PV X cl Wx (.Call (.Name "tuple" p) [e] [] pos) (mCall gTupOf r) :=
  pv_callT (call_tuple_of) o_tupOf hg hm boot_tuple ha (he := he)

/-! ### list(range(n)), list(range(a, b)) -/
def rgD (a b : Int) : List D := (List.range (b - a).toNat).map fun i => D.int (a + (i : Nat))
theorem rep_rg {W f H a b} : Reps W f H (rgV a b) (rgD a b) := by
  unfold rgV rgD
  generalize List.range (b - a).toNat = l
  induction l with
  | nil => exact .nil
  | cons x xs ih => exact .cons (.int _) ih
def gRg (new : Bool) : List D → Store → Rs D
  | [.int n], st => if -1000000 ≤ n ∧ n ≤ 1000000 then (if new then .ok (.ref st.length) (st ++ [.lst (rgD 0 n)]) else .ok (.lst (rgD 0 n)) st) else .no
  | [.int a, .int b], st => if -1000000 ≤ a ∧ a ≤ 1000000 ∧ -1000000 ≤ b ∧ b ≤ 1000000 then (if new then .ok (.ref st.length) (st ++ [.lst (rgD a b)]) else .ok (.lst (rgD a b)) st) else .no
  | _, _ => .no
theorem pv_listRg1 {new : Bool} {p2 pos2 : Pos} (hc : X.calm = true) (hg : Gl X "list") (hm : X.mg "list" = none) (hg2 : Gl X "range") (hm2 : X.mg "range" = none) (ha : PV X cl Wx a ma)
    (na : starEach [a] X.env = (false, eval a X.env) :: starEach [] X.env := by rfl) (nb : starEach [Expr.Call (.Name "range" p2) [a] [] pos2] X.env = (false, eval (Expr.Call (.Name "range" p2) [a] [] pos2) X.env) :: starEach [] X.env := by rfl) :
    PV X cl Wx (.Call (.Name "list" p) [.Call (.Name "range" p2) [a] [] pos2] [] pos) (mCall (gRg new) (aCons ma aNil)) := by
  refine PE.imp (pe_listRg hc hg hm (prg_1 hg2 hm2 ha na) nb) fun σ H Q h => ?_
  obtain ⟨f, env, st, S, N, h⟩ := h
  unfold tLstRg tRg1
  obtain ⟨_, _, _, _, _, _⟩ : True ∧ True ∧ True ∧ True ∧ True ∧ True := ⟨trivial, trivial, trivial, trivial, trivial, trivial⟩
  have h' : RunAt ⟨X.K, cl⟩ Wx (Rep ⟨X.K, cl⟩) f H σ (mbind ma (fun d _ st => gRg new [d] st) env st) Q := by
    have e : mCall (gRg new) (aCons ma aNil) env st = mbind ma (fun d _ st => gRg new [d] st) env st := by
      unfold mCall aCons aNil mbind mret
      cases ma env st <;> rfl
    rw [← e]; exact h
  refine h'.bind S N fun u H1 f1 x st1 A1 h1 => ?_
  have rr := A1.rel
  unfold gRg at h1
  split at h1
  · rename_i n heq
    cases heq
    cases rr
    split at h1
    · refine ⟨_, rfl, ⟨by omega, by omega, by omega, by omega, by omega⟩, ?_⟩
      split at h1
      · exact lay_cell (c := .lst (rgD 0 _)) A1.sim (fun p hp => ⟨_, upd_same, rep_rg⟩) h1
      · exact lay_lst A1.sim rep_rg h1
    · exact h1.elim
  · rename_i heq; cases heq
  · exact h1.elim

/-! ### sums, all, any, least and greatest -/
def intsOf : List D → Option (List Int)
  | [] => some []
  | .int i :: ds => (intsOf ds).map (i :: ·)
  | _ :: _ => none
theorem intsOf_eq : ∀ {ds : List D} {ns : List Int}, intsOf ds = some ns → ds = ns.map D.int
  | [], ns, h => by cases h; rfl
  | .int i :: ds, ns, h => by
    simp [intsOf] at h
    obtain ⟨ms, e, rfl⟩ := h
    rw [intsOf_eq e]; rfl
  | .non :: _, _, h | .bl _ :: _, _, h | .str _ :: _, _, h | .ty _ :: _, _, h | .adr _ :: _, _, h | .tup _ :: _, _, h | .ktp _ :: _, _, h | .lst _ :: _, _, h | .scr _ :: _, _, h | .ref _ :: _, _, h | .obj _ _ _ :: _, _, h | .dT _ _ :: _, _, h | .dK _ _ :: _, _, h => by simp [intsOf] at h
theorem intsOf_map (ns : List Int) : intsOf (ns.map D.int) = some ns := by
  induction ns with
  | nil => rfl
  | cons n ns ih => simp [intsOf, ih]
def blsOf : List D → Option (List Bool)
  | [] => some []
  | .bl i :: ds => (blsOf ds).map (i :: ·)
  | _ :: _ => none
theorem blsOf_eq : ∀ {ds : List D} {ns : List Bool}, blsOf ds = some ns → ds = ns.map D.bl
  | [], ns, h => by cases h; rfl
  | .bl i :: ds, ns, h => by
    simp [blsOf] at h
    obtain ⟨ms, e, rfl⟩ := h
    rw [blsOf_eq e]; rfl
  | .non :: _, _, h | .int _ :: _, _, h | .str _ :: _, _, h | .ty _ :: _, _, h | .adr _ :: _, _, h | .tup _ :: _, _, h | .ktp _ :: _, _, h | .lst _ :: _, _, h | .scr _ :: _, _, h | .ref _ :: _, _, h | .obj _ _ _ :: _, _, h | .dT _ _ :: _, _, h | .dK _ _ :: _, _, h => by simp [blsOf] at h
theorem blsOf_map (ns : List Bool) : blsOf (ns.map D.bl) = some ns := by
  induction ns with
  | nil => rfl
  | cons n ns ih => simp [blsOf, ih]
/-! sum of a tuple -/
theorem sum_tupG {prog : Program} {w : World} {A : Around} {E : Value → Shared → Prop} {s : Shared} {l : Addr} {xs : Array (Int × Tok)} {Q : Value → Shared → Prop} (hh : A.handled = none) (hl : s.heap.IsTuple l (intItems xs))
    (h : ∀ h' tk t', (∀ b o, s.heap.get? b = some o → h'.get? b = some o) → Q (.int (preSum (numAt xs) xs.size) t') { s with heap := h', toks := tk }) :
    wpAny (model prog w) A (call (.builtin "sum") [.ref l]) Q E s := by
  have hlt : l < s.heap.objs.size := by obtain ⟨_, e, _⟩ := hl; exact Heap.lt_size e
  refine PySem.call_sum_walkG (wpAny_pyIter_tuple hl ?_)
  refine ⟨_, [s.heap.objs.size, l], [s.heap.objs.size], _, _, _, numAt xs, rfl, Walks.tuple (A := A.in1) hh _ l (Nat.ne_of_lt hlt) (intItems xs), ⟨⟨_, Heap.get?_push_size _ rfl, rfl, rfl⟩, ?_⟩, fun b hb => ?_, (fun _ _ => intItems_at), fun h' tk t' hk => ?_⟩
  · obtain ⟨o, e, c, n, d⟩ := hl
    exact ⟨o, Heap.get?_push_of_some _ e, c, n, d⟩
  · show b < (s.heap.push _).objs.size
    rw [Heap.size_push]
    rcases List.mem_cons.mp hb with rfl | hb
    · exact Nat.lt_succ_self _
    · rcases List.mem_cons.mp hb with rfl | hb
      · exact Nat.lt_succ_of_lt hlt
      · cases hb
  · have := h h' tk t' (fun b o e => hk b o (fun hm => by
      rcases List.mem_cons.mp hm with e1 | hm
      · exact absurd (e1 ▸ Heap.lt_size e) (Nat.lt_irrefl _)
      · cases hm) (Heap.get?_push_of_some _ e))
    simpa [intItems] using this
theorem sum_tup_raw {prog : Program} {w : World} {A : Around} {E : Value → Shared → Prop} {s : Shared} {l : Addr} {its : List Value} {ns : List Int} {Q : Value → Shared → Prop} (hh : A.handled = none) (hl : s.heap.IsTuple l its.toArray) (hi : IntsAre its ns)
    (h : ∀ h' tk t', (∀ b o, s.heap.get? b = some o → h'.get? b = some o) → Q (.int ns.sum t') { s with heap := h', toks := tk }) : wpAny (model prog w) A (call (.builtin "sum") [.ref l]) Q E s := by
  obtain ⟨xs, e⟩ := hi.allInts.items
  have hn : numsOf (intItems xs).toList = ns := by rw [← e]; exact hi.numsOf
  rw [nums_intItems] at hn
  rw [e] at hl
  refine sum_tupG hh hl fun h' tk t' hk => ?_
  have := h h' tk t' hk
  rw [preSum_eq, List.take_of_length_le (by simp), hn]; exact this
def rSumT (K : PySem.W.Frag) : List V → Hp → VK → Prop := fun vs H Q => ∃ (a : Addr) (ns : List Int), vs = [V.ref a] ∧ SqT K H a (ns.map V.int) ∧ Q (.int ns.sum) H
theorem cr_sumT (hc : X.calm = true) : CallR X (.builtin "sum") (rSumT X.K) := by
  intro pins s σ H vs us Q I r h
  obtain ⟨a, ns, rfl, hs, q⟩ := h
  obtain ⟨its, rv, hl, _⟩ := I.tuple hs
  rw [Vals.ref1 r]
  exact sum_tup_raw (I.ok.hd hc) hl rv.ints fun h' tk t' hk => ⟨.int _, H, I.kept hk, ⟨_, rfl⟩, q⟩
/-- a list of ints to an int, where it may be -/
def gInts (q : List Int → Option Int) : List D → Store → Rs D
  | [d], st => match (seqOf st d).bind intsOf with
    | some ns => match q ns with
      | some k => .ok (.int k) st
      | none => .no
    | none => .no
  | _, _ => .no
theorem ints_at {W : Wd} {f H st} (S : Sim W f H st) {v : V} {d : D} {ns : List Int} (rv : Rep W f H v d) (h : (seqOf st d).bind intsOf = some ns) : ∃ a, v = .ref a ∧ SqL W.K H a (ns.map V.int) := by
  cases e : seqOf st d with
  | none => rw [e] at h; cases h
  | some ds =>
    rw [e] at h
    have h : intsOf ds = some ns := h
    obtain ⟨p, vs, rfl, hp, rp⟩ := S.seq rv e
    rw [intsOf_eq h] at rp
    rw [rp.ints] at hp
    exact ⟨p, rfl, hp⟩
def gSum : List D → Store → Rs D
  | [d], st => match (itemsOf st d).bind intsOf with
    | some ns => .ok (.int ns.sum) st
    | none => .no
  | _, _ => .no
theorem o_sum : OpL X cl Wx (fun xs H Q => rSum X.K xs H Q ∨ rSumT X.K xs H Q) gSum := by
  intro f H st σ xs us Q S rs h
  unfold gSum at h
  split at h
  · obtain ⟨u, rfl, q⟩ := rs.one
    split at h
    · rename_i ns eq
      cases e : itemsOf st _ with
      | none => rw [e] at eq; cases eq
      | some ds =>
        rw [e] at eq
        have eq : intsOf ds = some ns := eq
        obtain ⟨p, vs, rfl, hp, rp⟩ := S.items q e
        rw [intsOf_eq eq] at rp
        rw [rp.ints] at hp
        rcases hp with hp | hp
        · exact .inl ⟨p, ns, rfl, hp, h.okv S (.int _)⟩
        · exact .inr ⟨p, ns, rfl, hp, h.okv S (.int _)⟩
    · exact h.elim
  · exact h.elim
theorem pv_sum (hc : X.calm = true) (hg : Gl X "sum") (hm : X.mg "sum" = none) (ha : PVA X cl Wx [e] r) (he : starEach [e] X.env = (false, eval e X.env) :: starEach [] X.env := by rfl) : PV X cl Wx (.Call (.Name "sum" p) [e] [] pos) (mCall gSum r) :=
  pv_callB ((cr_sum hc).or (cr_sumT hc)) o_sum hg hm (by decide +kernel) ha (he := he)
theorem o_max : OpL X cl Wx (rMax X.K) (gInts List.max?) := by
  intro f H st σ xs us Q S rs h
  unfold gInts at h
  split at h
  · obtain ⟨u, rfl, q⟩ := rs.one
    split at h
    · rename_i ns eq
      obtain ⟨a, rfl, ha⟩ := ints_at S q eq
      split at h
      · rename_i k ek
        have hk := List.max?_eq_some_iff.mp ek
        refine ⟨a, ns, rfl, ha, List.length_pos_iff.mpr (fun z => by subst z; cases ek), fun m' h1 h2 => ?_⟩
        have : m' = k := Int.le_antisymm (hk.2 _ h1) (h2 _ hk.1)
        subst this
        exact h.okv S (.int _)
      · exact h.elim
    · exact h.elim
  · exact h.elim
theorem o_min : OpL X cl Wx (rMin X.K) (gInts List.min?) := by
  intro f H st σ xs us Q S rs h
  unfold gInts at h
  split at h
  · obtain ⟨u, rfl, q⟩ := rs.one
    split at h
    · rename_i ns eq
      obtain ⟨a, rfl, ha⟩ := ints_at S q eq
      split at h
      · rename_i k ek
        have hk := List.min?_eq_some_iff.mp ek
        refine ⟨a, ns, rfl, ha, List.length_pos_iff.mpr (fun z => by subst z; cases ek), fun m' h1 h2 => ?_⟩
        have : m' = k := Int.le_antisymm (h2 _ hk.1) (hk.2 _ h1)
        subst this
        exact h.okv S (.int _)
      · exact h.elim
    · exact h.elim
  · exact h.elim
theorem pv_max (hc : X.calm = true) (hg : Gl X "max") (hm : X.mg "max" = none) (ha : PVA X cl Wx [e] r) (he : starEach [e] X.env = (false, eval e X.env) :: starEach [] X.env := by rfl) : PV X cl Wx (.Call (.Name "max" p) [e] [] pos) (mCall (gInts List.max?) r) :=
  pv_callB (cr_max hc) o_max hg hm (by decide +kernel) ha (he := he)
theorem pv_min (hc : X.calm = true) (hg : Gl X "min") (hm : X.mg "min" = none) (ha : PVA X cl Wx [e] r) (he : starEach [e] X.env = (false, eval e X.env) :: starEach [] X.env := by rfl) : PV X cl Wx (.Call (.Name "min" p) [e] [] pos) (mCall (gInts List.min?) r) :=
  pv_callB (cr_min hc) o_min hg hm (by decide +kernel) ha (he := he)
def gInt2 (q : Int → Int → Int) : List D → Store → Rs D
  | [.int i, .int j], st => .ok (.int (q i j)) st
  | _, _ => .no
theorem o_int2 {q : Int → Int → Int} : OpL X cl Wx (fun xs H Q => ∃ i j, xs = [.int i, .int j] ∧ Q (.int (q i j)) H) (gInt2 q) := by
  intro f H st σ xs us Q S rs h
  unfold gInt2 at h
  split at h
  · obtain ⟨u, v, rfl, q, q'⟩ := rs.two
    cases q; cases q'
    exact ⟨_, _, rfl, h.okv S (.int _)⟩
  · exact h.elim
abbrev qMin (i j : Int) : Int := if j < i then j else i
abbrev qMax (i j : Int) : Int := if j > i then j else i
theorem pv_min2 (hc : X.calm = true) (hg : Gl X "min") (hm : X.mg "min" = none) (ha : PVA X cl Wx (e :: es) r) (he : starEach (e :: es) X.env = (false, eval e X.env) :: starEach es X.env := by rfl) (hpl : (backTo pos (starEach es X.env)).any (·.1) = false := by rfl) : PV X cl Wx (.Call (.Name "min" p) (e :: es) [] pos) (mCall (gInt2 qMin) r) :=
  pv_callB (call_min2 hc) o_int2 hg hm (by decide +kernel) ha (he := he) (hpl := hpl)
theorem pv_max2 (hc : X.calm = true) (hg : Gl X "max") (hm : X.mg "max" = none) (ha : PVA X cl Wx (e :: es) r) (he : starEach (e :: es) X.env = (false, eval e X.env) :: starEach es X.env := by rfl) (hpl : (backTo pos (starEach es X.env)).any (·.1) = false := by rfl) : PV X cl Wx (.Call (.Name "max" p) (e :: es) [] pos) (mCall (gInt2 qMax) r) :=
  pv_callB (call_max2 hc) o_int2 hg hm (by decide +kernel) ha (he := he) (hpl := hpl)
theorem bls_at {W : Wd} {f H st} (S : Sim W f H st) {v : V} {d : D} {ns : List Bool} (rv : Rep W f H v d) (h : (seqOf st d).bind blsOf = some ns) : ∃ a, v = .ref a ∧ SqL W.K H a (ns.map V.bl) := by
  cases e : seqOf st d with
  | none => rw [e] at h; cases h
  | some ds =>
    rw [e] at h
    have h : blsOf ds = some ns := h
    obtain ⟨p, vs, rfl, hp, rp⟩ := S.seq rv e
    rw [blsOf_eq h] at rp
    rw [rp.bls] at hp
    exact ⟨p, rfl, hp⟩
def gBls (q : List Bool → Bool) : List D → Store → Rs D
  | [d], st => match (seqOf st d).bind blsOf with
    | some ns => .ok (.bl (q ns)) st
    | none => .no
  | _, _ => .no
theorem o_bls {q : List Bool → Bool} : OpL X cl Wx (fun vs H Q => ∃ (a : Addr) (bs : List Bool), vs = [V.ref a] ∧ SqL X.K H a (bs.map V.bl) ∧ Q (.bl (q bs)) H) (gBls q) := by
  intro f H st σ xs us Q S rs h
  unfold gBls at h
  split at h
  · obtain ⟨u, rfl, qq⟩ := rs.one
    split at h
    · rename_i ns eq
      obtain ⟨p, rfl, hp⟩ := bls_at S qq eq
      exact ⟨p, ns, rfl, hp, h.okv S (.bl _)⟩
    · exact h.elim
  · exact h.elim
theorem pv_all (hc : X.calm = true) (hg : Gl X "all") (hm : X.mg "all" = none) (ha : PVA X cl Wx [e] r) (he : starEach [e] X.env = (false, eval e X.env) :: starEach [] X.env := by rfl) : PV X cl Wx (.Call (.Name "all" p) [e] [] pos) (mCall (gBls fun bs => bs.all id) r) :=
  pv_callB (cr_all hc) o_bls hg hm (by decide +kernel) ha (he := he)
theorem pv_any (hc : X.calm = true) (hg : Gl X "any") (hm : X.mg "any" = none) (ha : PVA X cl Wx [e] r) (he : starEach [e] X.env = (false, eval e X.env) :: starEach [] X.env := by rfl) : PV X cl Wx (.Call (.Name "any" p) [e] [] pos) (mCall (gBls fun bs => bs.any id) r) :=
  pv_callB (cr_any hc) o_bls hg hm (by decide +kernel) ha (he := he)
/-- int(x) -/
def gToInt : List D → Store → Rs D
  | [.int i], st => .ok (.int i) st
  | [.bl b], st => .ok (.int (if b then 1 else 0)) st
  | _, _ => .no
theorem o_toInt : OpL X cl Wx (fun xs H Q => (∃ i, xs = [.int i] ∧ Q (.int i) H) ∨ ∃ k, xs = [.bl k] ∧ Q (.int (if k then 1 else 0)) H) gToInt := by
  intro f H st σ xs us Q S rs h
  unfold gToInt at h
  split at h
  · obtain ⟨u, rfl, qq⟩ := rs.one
    cases qq
    exact .inl ⟨_, rfl, h.okv S (.int _)⟩
  · obtain ⟨u, rfl, qq⟩ := rs.one
    cases qq
    exact .inr ⟨_, rfl, h.okv S (.int _)⟩
  · exact h.elim
theorem pv_int1 (hg : Gl X "int") (hm : X.mg "int" = none) (ha : PVA X cl Wx [e] r) (he : starEach [e] X.env = (false, eval e X.env) :: starEach [] X.env := by rfl) : PV X cl Wx (.Call (.Name "int" p) [e] [] pos) (mCall gToInt r) :=
  pv_callT call_int1 o_toInt hg hm boot_int ha (he := he)
def gAbs : List D → Store → Rs D
  | [.int i], st => .ok (.int (if i < 0 then -i else i)) st
  | _, _ => .no
theorem o_abs : OpL X cl Wx (fun xs H Q => ∃ i, xs = [.int i] ∧ Q (.int (if i < 0 then -i else i)) H) gAbs := by
  intro f H st σ xs us Q S rs h
  unfold gAbs at h
  split at h
  · obtain ⟨u, rfl, qq⟩ := rs.one
    cases qq
    exact ⟨_, rfl, h.okv S (.int _)⟩
  · exact h.elim
theorem pv_abs (hg : Gl X "abs") (hm : X.mg "abs" = none) (ha : PVA X cl Wx [e] r) (he : starEach [e] X.env = (false, eval e X.env) :: starEach [] X.env := by rfl) : PV X cl Wx (.Call (.Name "abs" p) [e] [] pos) (mCall gAbs r) :=
  pv_callB call_abs o_abs hg hm (by decide +kernel) ha (he := he)
end
end RR

set_option maxRecDepth 100000
set_option maxHeartbeats 1000000
namespace RR
open PySem PySem.Spec PyProof.Rows L2

section
variable {X : Cx} {cl : Ctx} {Wx : WX} {a b c e o : Expr} {ma mb mc m mo : ME D} {pos p apos : Pos} {es : List Expr} {r : ME (List D)}
/-! ### places -/
theorem Reps.at {W f H} {vs : List V} {ds : List D} (r : Reps W f H vs ds) {i : Int} {d : D} (h : atI ds i = some d) : ∃ v, atI vs i = some v ∧ Rep W f H v d := by
  unfold atI at h ⊢
  rw [r.length]
  cases e : ixN ds.length i with
  | none => rw [e] at h; cases h
  | some j =>
    rw [e] at h
    obtain ⟨v, h1, h2⟩ := r.get (i := j) (d := d) h
    exact ⟨v, h1, h2⟩
def gIx : D → D → Store → Rs D
  | .str x, .int i, st => if x.length ≤ sizeLine then (match atI x.cps.toList i with
    | some c => .ok (.str ⟨#[c]⟩) st
    | none => .no) else .no
  | d, .int i, st => match itemsOf st d with
    | some ds => (match atI ds i with
      | some x => .ok x st
      | none => .no)
    | none => .no
  | _, _, _ => .no
theorem o_ix : Op2 X cl Wx (rIx X.K) gIx := by
  intro f H st σ x y u v Q S ru rv h
  unfold gIx at h
  split at h
  · cases ru; cases rv
    split at h
    · split at h
      · rename_i hz _ c hc
        exact .inr (.inr ⟨_, _, c, rfl, rfl, hz, hc, h.okv S (.str _)⟩)
      · exact h.elim
    · exact h.elim
  · cases rv
    split at h
    · rename_i ds eq
      split at h
      · rename_i d hd
        obtain ⟨p, vs, rfl, hp, rp⟩ := S.items ru eq
        obtain ⟨w, h1, h2⟩ := rp.at hd
        rcases hp with hp | hp
        · exact .inl ⟨p, vs, _, w, rfl, rfl, hp, h1, h.okv S h2⟩
        · exact .inr (.inl ⟨p, vs, _, w, rfl, rfl, hp, h1, h.okv S h2⟩)
      · exact h.elim
    · exact h.elim
  · exact h.elim
theorem pv_ix (ha : PV X cl Wx a ma) (hb : PV X cl Wx b mb) (hs : PlainIx b := by intro _ _; rfl) : PV X cl Wx (.Subscript a b pos) (op2 gIx ma mb) := PE.imp (pe_ix ix_seq ha hb hs) fun _ _ _ h => rd_op2 o_ix h

/-! ### slices -/
def mPart (m : ME D) : ME (Option Int) := mbind m fun d => match d with
  | .int i => mret (some i)
  | _ => mno
abbrev PVO (X : Cx) (cl : Ctx) (Wx : WX) (e : Option Expr) (m : ME (Option Int)) : Prop := PO X e (rdG ⟨X.K, cl⟩ Wx (fun _ _ x y => x = y) m)
theorem PO.imp {X : Cx} {e : Option Expr} {t t' : TO} (h : PO X e t) (i : ∀ σ H Q, t' σ H Q → t σ H Q) : PO X e t' := ⟨fun pins s σ H Q I q => h.run pins s σ H Q I (i σ H Q q)⟩
theorem vo_none : PVO X cl Wx none (mret none) := by
  refine PO.imp po_none fun σ H Q h => ?_
  obtain ⟨f, env, st, S, N, h⟩ := h
  exact h.okv S rfl
theorem vo_some (h : PV X cl Wx e m) : PVO X cl Wx (some e) (mPart m) := by
  refine PO.imp (po_some h) fun σ H Q h => ?_
  obtain ⟨f, env, st, S, N, h⟩ := h
  refine h.bind S N fun u H1 f1 x st1 A1 h1 => ?_
  have rr := A1.rel
  cases rr with
  | int i => exact ⟨_, rfl, h1.okv A1.sim rfl⟩
  | _ => exact h1.elim
/-- the items of xs[lo:hi] -/
def cutD (xs : List D) (lo hi : Option Int) : List D := (xs.drop (HT.sIx xs.length 0 lo)).take (HT.sIx xs.length xs.length hi - HT.sIx xs.length 0 lo)
theorem Reps.cut {W f H} {vs : List V} {ds : List D} (r : Reps W f H vs ds) (lo hi : Option Int) : Reps W f H (cutV vs lo hi) (cutD ds lo hi) := by
  unfold cutV cutD
  rw [r.length]
  exact (r.drop _).take _
def gSl (d : D) (lo hi : Option Int) (st : Store) : Rs D := match d with
  | .tup ds => .ok (.tup (cutD ds lo hi)) st
  | d => match lstOf st d with
    | some ds => .ok (.lst (cutD ds lo hi)) st
    | none => .no
def mSl (m : ME D) (lo hi : ME (Option Int)) : ME D := mbind m fun d => mbind lo fun l => mbind hi fun h => fun _ st => gSl d l h st
theorem cut_all {xs : List D} {lo hi : Option Int} (h : HT.sIx xs.length 0 lo = 0 ∧ HT.sIx xs.length xs.length hi = xs.length) : cutD xs lo hi = xs := by
  unfold cutD
  rw [h.1, h.2]
  simp
theorem pv_slice {lo hi : Option Expr} {ml mh : ME (Option Int)} {p2 : Pos} (ha : PV X cl Wx a m) (hl : PVO X cl Wx lo ml) (hh : PVO X cl Wx hi mh) : PV X cl Wx (.Subscript a (.Slice lo hi none p2) pos) (mSl m ml mh) := by
  refine PE.imp (pe_slice (sl_list.or sl_tupA) ha hl hh) fun σ H Q h => ?_
  obtain ⟨f, env, st, S, N, h⟩ := h
  refine h.bind S N fun u H1 f1 x st1 A1 h1 => ?_
  refine h1.bind A1.sim A1.env fun l H2 f2 l' st2 A2 h2 => ?_
  refine h2.bind A2.sim A2.env fun k H3 f3 k' st3 A3 h3 => ?_
  have e1 := A2.rel
  have e2 := A3.rel
  subst e1 e2
  have S3 := A3.sim
  have ru : Rep _ f3 H3 u x := (A1.rel.mono A2.ext.lean).mono A3.ext.lean
  unfold gSl at h3
  split at h3
  · rename_i ds
    have ru' := ru
    obtain ⟨q, vs, rfl, hq, rq⟩ := ru.tupS
    refine .inr ⟨q, vs, rfl, hq, fun hw => ?_, fun _ => lay_tup S3 (rq.cut _ _) h3⟩
    rw [rq.length] at hw
    rw [cut_all hw] at h3
    exact h3.okv S3 ru'
  · split at h3
    · rename_i ds eq
      obtain ⟨q, vs, rfl, hq, rq⟩ := S3.lst ru eq
      exact .inl ⟨q, vs, rfl, .of hq, lay_lst S3 (rq.cut _ _) h3⟩
    · exact h3.elim

/-! ### dicts -/
section
variable {κ : Type} [DecidableEq κ]
def dget : List κ → List D → κ → Option D
  | k :: ks, d :: ds, j => if k = j then some d else dget ks ds j
  | _, _, _ => none
def dput (ks : List κ) (ds : List D) (k : κ) (d : D) : List κ × List D :=
  if k ∈ ks then (ks, List.zipWith (fun j x => if j = k then d else x) ks ds) else (ks ++ [k], ds ++ [d])
theorem rep_dget {W f H} : ∀ {ks : List κ} {vs : List V} {ds : List D} {k : κ}, ks.length = vs.length → Reps W f H vs ds → (∀ d, dget ks ds k = some d → ∃ v, valV (ks.zip vs) k = some v ∧ Rep W f H v d) ∧ (dget ks ds k = none → valV (ks.zip vs) k = none)
  | [], [], _, _, _, .nil => ⟨fun d h => by simp [dget] at h, fun _ => rfl⟩
  | k :: ks, v :: vs, d :: ds, j, hl, .cons r t => by
    have ih := rep_dget (ks := ks) (vs := vs) (ds := ds) (k := j) (by simpa using hl) t
    by_cases e : k = j
    · subst e
      refine ⟨fun d' h => ?_, fun h => by simp [dget] at h⟩
      simp [dget] at h
      subst h
      exact ⟨v, by rw [List.zip_cons_cons]; exact valV_pos rfl, r⟩
    · constructor
      · intro d' h
        simp only [dget, if_neg e] at h
        rw [List.zip_cons_cons, valV_neg (by exact e)]
        exact ih.1 d' h
      · intro h
        simp only [dget, if_neg e] at h
        rw [List.zip_cons_cons, valV_neg (by exact e)]
        exact ih.2 h
theorem zip_any {ks : List κ} {vs : List V} (hl : ks.length = vs.length) (k : κ) : ((ks.zip vs).any fun kv => decide (kv.1 = k)) = decide (k ∈ ks) := by
  induction ks generalizing vs with
  | nil => simp
  | cons x xs ih =>
    cases vs with
    | nil => simp at hl
    | cons v vs =>
      rw [List.zip_cons_cons, List.any_cons, ih (by simpa using hl)]
      by_cases e : x = k
      · simp [e]
      · have e' : ¬ k = x := fun z => e z.symm
        simp [e, e']
theorem zip_map {k : κ} {v : V} : ∀ {ks : List κ} {vs : List V}, (ks.zip vs).map (fun kv => if kv.1 = k then (kv.1, v) else kv) = ks.zip (List.zipWith (fun j x => if j = k then v else x) ks vs)
  | [], _ => by simp
  | _ :: _, [] => by simp
  | x :: xs, u :: us => by
    rw [List.zip_cons_cons, List.map_cons, List.zipWith_cons_cons, List.zip_cons_cons, zip_map (ks := xs) (vs := us)]
    by_cases e : x = k <;> simp [e]
theorem reps_zipWith {W f H} {k : κ} {v : V} {d : D} (r : Rep W f H v d) : ∀ {ks : List κ} {vs : List V} {ds : List D}, Reps W f H vs ds → Reps W f H (List.zipWith (fun j x => if j = k then v else x) ks vs) (List.zipWith (fun j x => if j = k then d else x) ks ds)
  | [], _, _, _ => by simp only [List.zipWith_nil_left]; exact .nil
  | _ :: _, _, _, .nil => by simp only [List.zipWith_nil_right]; exact .nil
  | x :: xs, _, _, .cons q t => by
    rw [List.zipWith_cons_cons, List.zipWith_cons_cons]
    refine .cons ?_ (reps_zipWith r t)
    by_cases e : x = k
    · simp only [e, if_true]; exact r
    · simp only [e, if_false]; exact q
theorem rep_dput {W f H} {ks : List κ} {vs : List V} {ds : List D} {k : κ} {v : V} {d : D} (hl : ks.length = vs.length) (r : Reps W f H vs ds) (rv : Rep W f H v d) : ∃ vs', putK (ks.zip vs) k v = (dput ks ds k d).1.zip vs' ∧ (dput ks ds k d).1.length = vs'.length ∧ Reps W f H vs' (dput ks ds k d).2 := by
  unfold putK dput
  rw [zip_any hl]
  by_cases e : k ∈ ks
  · rw [if_pos (by simpa using e), if_pos e, zip_map]
    exact ⟨_, rfl, by simp [hl], reps_zipWith rv r⟩
  · rw [if_neg (by simpa using e), if_neg e]
    refine ⟨vs ++ [v], ?_, by simp [hl], r.append (.cons rv .nil)⟩
    rw [List.zip_append hl]
    rfl
end
/-- a key of its own -/
def keyOf : D → Option Key
  | .int i => some (.inl i)
  | .str x => some (.inr x)
  | _ => none
def keysOf : List D → Option (List Key)
  | [] => some []
  | d :: ds => match keyOf d, keysOf ds with
    | some k, some ks => some (k :: ks)
    | _, _ => none
theorem rep_key {W f H v d k} (r : Rep W f H v d) (h : keyOf d = some k) : v = kV k := by
  cases r <;> simp [keyOf] at h <;> subst h <;> rfl
theorem rep_keys {W f H} : ∀ {vs : List V} {ds : List D} {ks : List Key}, Reps W f H vs ds → keysOf ds = some ks → vs = ks.map kV
  | _, _, _, .nil, h => by simp [keysOf] at h; subst h; rfl
  | _, _, _, .cons (d := d) (ds := ds) r t, h => by
    simp only [keysOf] at h
    cases e1 : keyOf d with
    | none => simp [e1] at h
    | some k =>
      cases e2 : keysOf ds with
      | none => simp [e1, e2] at h
      | some ks =>
        simp [e1, e2] at h
        subst h
        rw [rep_key r e1, rep_keys t e2]; rfl
inductive Dc where
  | t (ks : List (List Key)) (ds : List D)
  | k (ks : List Key) (ds : List D)
  | no
def dcOf (st : Store) : D → Dc
  | .dT ks ds => .t ks ds
  | .dK ks ds => .k ks ds
  | .ref i => match st[i]? with
    | some (.dT ks ds) => .t ks ds
    | some (.dK ks ds) => .k ks ds
    | _ => .no
  | _ => .no
def tkey : D → Option (List Key)
  | .tup xs => keysOf xs
  | _ => none
/-- what the dict holds at the key; none: the look is not served -/
def dlook (st : Store) (d k : D) : Option (Option D) := match dcOf st d with
  | .t ks ds => (tkey k).map (dget ks ds)
  | .k ks ds => (keyOf k).map (dget ks ds)
  | .no => none
theorem Sim.dict {W : Wd} {f H st} (S : Sim W f H st) {d k : D} {u v : V} (ru : Rep W f H u d) (rk : Rep W f H v k) {o : Option D} (h : dlook st d k = some o) :
    ∃ a o', u = .ref a ∧ DGet H a v o' ∧ (∀ x, o = some x → ∃ y, o' = some y ∧ Rep W f H y x) ∧ (o = none → o' = none) := by
  have goT : ∀ (a : Addr) (ks : List (List Key)) (ds : List D) (vs : List V), H a = some (.dT (ks.zip vs)) → ks.length = vs.length → Reps W f H vs ds → (tkey k).map (dget ks ds) = some o → ∃ o', DGet H a v o' ∧ (∀ x, o = some x → ∃ y, o' = some y ∧ Rep W f H y x) ∧ (o = none → o' = none) := by
    intro a ks ds vs h1 h2 h3 h4
    cases rk with
    | tup q1 q2 q3 =>
      simp only [tkey, Option.map_eq_some_iff] at h4
      obtain ⟨j, e1, e2⟩ := h4
      rw [rep_keys q3 e1] at q2
      refine ⟨_, DGet.t h1 q2, fun x hx => (rep_dget h2 h3).1 x (e2.trans hx), fun hn => (rep_dget h2 h3).2 (e2.trans hn)⟩
    | _ => cases h4
  have goK : ∀ (a : Addr) (ks : List Key) (ds : List D) (vs : List V), H a = some (.dK (ks.zip vs)) → ks.length = vs.length → Reps W f H vs ds → (keyOf k).map (dget ks ds) = some o →
      ∃ o', DGet H a v o' ∧ (∀ x, o = some x → ∃ y, o' = some y ∧ Rep W f H y x) ∧ (o = none → o' = none) := by
    intro a ks ds vs h1 h2 h3 h4
    simp only [Option.map_eq_some_iff] at h4
    obtain ⟨j, e1, e2⟩ := h4
    rw [rep_key rk e1]
    exact ⟨_, DGet.k h1, fun x hx => (rep_dget h2 h3).1 x (e2.trans hx), fun hn => (rep_dget h2 h3).2 (e2.trans hn)⟩
  unfold dlook at h
  cases ru with
  | dT h1 h2 h3 h4 =>
    obtain ⟨o', a, b, c⟩ := goT _ _ _ _ h2 h3 h4 h
    exact ⟨_, o', rfl, a, b, c⟩
  | dK h1 h2 h3 h4 =>
    obtain ⟨o', a, b, c⟩ := goK _ _ _ _ h2 h3 h4 h
    exact ⟨_, o', rfl, a, b, c⟩
  | @ref a i q =>
    obtain ⟨c, e, z⟩ := S.at q
    dsimp only [dcOf] at h
    rw [e] at h
    cases c with
    | dT ks ds =>
      obtain ⟨vs, h1, h2, h3⟩ := z
      obtain ⟨o', x, y, w⟩ := goT _ _ _ _ h1 h2 h3 h
      exact ⟨_, o', rfl, x, y, w⟩
    | dK ks ds =>
      obtain ⟨vs, h1, h2, h3⟩ := z
      obtain ⟨o', x, y, w⟩ := goK _ _ _ _ h1 h2 h3 h
      exact ⟨_, o', rfl, x, y, w⟩
    | _ => cases h
  | _ => cases h
def gDget : D → D → Store → Rs D := fun d k st => match dlook st d k with
  | some (some x) => .ok x st
  | _ => .no
theorem pv_dget (hu : X.A.units + 1 < cLine) (ha : PV X cl Wx a ma) (hb : PV X cl Wx b mb) (hs : NoSl b := by intro _ _; rfl) : PV X cl Wx (.Subscript a b pos) (op2 gDget ma mb) := by
  refine PE.imp (pe_dget hu ha hb hs) fun σ H Q h => ?_
  obtain ⟨f, env, st, S, N, h⟩ := h
  refine h.bind S N fun u H1 f1 x st1 A1 h1 => ?_
  refine h1.bind A1.sim A1.env fun v H2 f2 y st2 A2 h2 => ?_
  unfold gDget at h2
  split at h2
  · rename_i z eq
    obtain ⟨a, o', rfl, g, q, _⟩ := A2.sim.dict (A1.rel.mono A2.ext.lean) A2.rel eq
    obtain ⟨w, rfl, rw'⟩ := q z rfl
    exact ⟨a, w, rfl, g, h2.okv A2.sim rw'⟩
  · exact h2.elim
def gDin (neg : Bool) : D → D → Store → Rs D := fun k d st => match dlook st d k with
  | some o => .ok (.bl (if neg then !o.isSome else o.isSome)) st
  | none => .no
theorem some_same {o : Option D} {o' : Option V} {W f H} (h1 : ∀ x, o = some x → ∃ y, o' = some y ∧ Rep W f H y x) (h2 : o = none → o' = none) : o'.isSome = o.isSome := by
  cases o with
  | none => rw [h2 rfl]; rfl
  | some x => obtain ⟨y, e, _⟩ := h1 x rfl; rw [e]; rfl
theorem pv_din (hu : X.A.units + 1 < cLine) (ha : PV X cl Wx a ma) (hb : PV X cl Wx b mb) (hm : behindInMarks .In b = false := by with_unfolding_all rfl) : PV X cl Wx (.Compare a [.In] [b] pos) (op2 (gDin false) ma mb) := by
  refine PE.imp (pe_cmp (pc_din hu ha hb) hm) fun σ H Q h => ?_
  obtain ⟨f, env, st, S, N, h⟩ := h
  refine h.bind S N fun u H1 f1 x st1 A1 h1 => ?_
  refine h1.bind A1.sim A1.env fun v H2 f2 y st2 A2 h2 => ?_
  unfold gDin at h2
  split at h2
  · rename_i z eq
    obtain ⟨a, o', rfl, g, q1, q2⟩ := A2.sim.dict A2.rel (A1.rel.mono A2.ext.lean) eq
    refine ⟨a, o', rfl, g, h2.okv A2.sim ?_⟩
    rw [some_same q1 q2]
    exact .bl _
  · exact h2.elim
theorem pv_dnotin (hu : X.A.units + 1 < cLine) (ha : PV X cl Wx a ma) (hb : PV X cl Wx b mb) (hm : behindInMarks .NotIn b = false := by with_unfolding_all rfl) : PV X cl Wx (.Compare a [.NotIn] [b] pos) (op2 (gDin true) ma mb) := by
  refine PE.imp (pe_cmp (pc_dnotin hu ha hb) hm) fun σ H Q h => ?_
  obtain ⟨f, env, st, S, N, h⟩ := h
  refine h.bind S N fun u H1 f1 x st1 A1 h1 => ?_
  refine h1.bind A1.sim A1.env fun v H2 f2 y st2 A2 h2 => ?_
  unfold gDin at h2
  split at h2
  · rename_i z eq
    obtain ⟨a, o', rfl, g, q1, q2⟩ := A2.sim.dict A2.rel (A1.rel.mono A2.ext.lean) eq
    refine ⟨a, o', rfl, g, h2.okv A2.sim ?_⟩
    rw [some_same q1 q2]
    exact .bl _
  · exact h2.elim

/-! ### in, not in: a list or tuple of flat things; a list of data -/
def flatD : D → Bool
  | .non | .bl _ | .int _ | .str _ => true
  | _ => false
def toV : D → V
  | .bl b => .bl b
  | .int i => .int i
  | .str x => .str x
  | _ => .non
theorem rep_flat {W f H v d} (r : Rep W f H v d) (h : flatD d = true) : v = toV d := by cases r <;> first | rfl | cases h
theorem reps_flat {W f H} : ∀ {vs : List V} {ds : List D}, Reps W f H vs ds → ds.all flatD = true → vs = ds.map toV
  | _, _, .nil, _ => rfl
  | _, _, .cons r t, h => by
    simp only [List.all_cons, Bool.and_eq_true] at h
    rw [rep_flat r h.1, reps_flat t h.2]; rfl
theorem flat_toV {d : D} (h : flatD d = true) : flatV (toV d) = true := by cases d <;> first | rfl | cases h
theorem flats_toV {ds : List D} (h : ds.all flatD = true) : (ds.map toV).all flatV = true := by
  rw [List.all_map]
  rw [List.all_eq_true] at h ⊢
  exact fun d hd => flat_toV (h d hd)
def gIn (neg : Bool) : D → D → Store → Rs D := fun x y st => match itemsOf st y with
  | some ds => if flatD x && ds.all flatD then .ok (.bl (if neg then !inV (toV x) (ds.map toV) else inV (toV x) (ds.map toV))) st else .no
  | none => .no
theorem o_in {neg : Bool} : Op2 X cl Wx (rIn X.K neg) (gIn neg) := by
  intro f H st σ x y u v Q S ru rv h
  unfold gIn at h
  split at h
  · rename_i ds eq
    split at h
    · rename_i hf
      simp only [Bool.and_eq_true] at hf
      obtain ⟨p, vs, rfl, hp, rp⟩ := S.items rv eq
      have e1 := rep_flat ru hf.1
      have e2 := reps_flat rp hf.2
      subst e1 e2
      exact ⟨p, _, rfl, hp, flat_toV hf.1, flats_toV hf.2, h.okv S (.bl _)⟩
    · exact h.elim
  · exact h.elim
theorem pv_in (ha : PV X cl Wx a ma) (hb : PV X cl Wx b mb) (hm : behindInMarks .In b = false := by with_unfolding_all rfl) : PV X cl Wx (.Compare a [.In] [b] pos) (op2 (gIn false) ma mb) := pv_cmp op_in_seq o_in ha hb hm
theorem pv_notin (ha : PV X cl Wx a ma) (hb : PV X cl Wx b mb) (hm : behindInMarks .NotIn b = false := by with_unfolding_all rfl) : PV X cl Wx (.Compare a [.NotIn] [b] pos) (op2 (gIn true) ma mb) := pv_cmp op_notIn_seq o_in ha hb hm

/-! ### fields -/
def insOf (st : Store) : D → Option (Nat × List Str × List D)
  | .obj t ns ds => some (t, ns, ds)
  | .ref i => match st[i]? with
    | some (.ins t ns ds) => some (t, ns, ds)
    | _ => none
  | _ => none
theorem Sim.ins {W : Wd} {f H st} (S : Sim W f H st) {v : V} {d : D} {t ns ds} (rv : Rep W f H v d) (h : insOf st d = some (t, ns, ds)) : ∃ a dx vs, v = .ref a ∧ H a = some (.ins (W.cls t) dx (ns.zip vs)) ∧ ns.length = vs.length ∧ Reps W f H vs ds := by
  cases rv with
  | obj h1 h2 h3 h4 => cases h; exact ⟨_, _, _, rfl, h2, h3, h4⟩
  | @ref a i q =>
    obtain ⟨c, e, k⟩ := S.at q
    dsimp only [insOf] at h
    rw [e] at h
    cases c with
    | ins t' ns' ds' => cases h; obtain ⟨dx, vs, x, y, z⟩ := k; exact ⟨a, dx, vs, rfl, x, y, z⟩
    | _ => cases h
  | _ => cases h
def fget : List Str → List D → Str → Option D
  | k :: ks, d :: ds, j => if j == k then some d else fget ks ds j
  | _, _, _ => none
theorem rep_fget {W f H} : ∀ {ks : List Str} {vs : List V} {ds : List D} {k : Str}, ks.length = vs.length → Reps W f H vs ds → (∀ d, fget ks ds k = some d → ∃ v, (ks.zip vs).lookup k = some v ∧ Rep W f H v d) ∧ (fget ks ds k = none → (ks.zip vs).lookup k = none)
  | [], [], _, _, _, .nil => ⟨fun d h => by simp [fget] at h, fun _ => rfl⟩
  | k :: ks, v :: vs, d :: ds, j, hl, .cons r t => by
    have ih := rep_fget (ks := ks) (vs := vs) (ds := ds) (k := j) (by simpa using hl) t
    cases e : j == k with
    | true =>
      refine ⟨fun d' h => ?_, fun h => by simp [fget, e] at h⟩
      simp [fget, e] at h
      subst h
      exact ⟨v, by simp [List.lookup, e], r⟩
    | false =>
      constructor
      · intro d' h
        simp only [fget, e] at h
        simp only [List.zip_cons_cons, List.lookup, e]
        exact ih.1 d' (by simpa using h)
      · intro h
        simp only [fget, e] at h
        simp only [List.zip_cons_cons, List.lookup, e]
        exact ih.2 (by simpa using h)
def gFld (t : Nat) (x : Str) : D → Store → Rs D := fun d st => match insOf st d with
  | some (t', ns, ds) => if t' = t then (match fget ns ds x with
    | some y => .ok y st
    | none => .no) else .no
  | none => .no
theorem pv_fld {t : Nat} {x : Str} (hC : Cls X.K (cl t)) (hA : NoAttr X.K (cl t) x) (ha : PV X cl Wx a m) (hb : attributeBase a x X.env (eval a X.env) = eval a X.env := by rfl) : PV X cl Wx (.Attribute a x pos) (op1 (gFld t x) m) := by
  refine PE.imp (pe_fld ha hb) fun σ H Q h => ?_
  obtain ⟨f, env, st, S, N, h⟩ := h
  refine h.bind S N fun u H1 f1 d st1 A1 h1 => ?_
  unfold gFld at h1
  split at h1
  · rename_i t' ns ds eq
    split at h1
    · rename_i et
      subst et
      split at h1
      · rename_i y hy
        obtain ⟨q, dx, vs, rfl, g1, g2, g3⟩ := A1.sim.ins A1.rel eq
        obtain ⟨w, hw, rw'⟩ := (rep_fget g2 g3).1 y hy
        exact ⟨q, _, dx, _, w, rfl, g1, hC, hA, hw, h1.okv A1.sim rw'⟩
      · exact h1.elim
    · exact h1.elim
  · exact h1.elim
end
end RR

set_option maxRecDepth 100000
set_option maxHeartbeats 1000000
namespace RR
open PySem PySem.Spec PyProof.Rows L2

section
variable {X : Cx} {cl : Ctx} {Wx : WX} {a b c e o : Expr} {ma mb mc m mo : ME D} {pos p apos cpos : Pos} {es : List Expr} {r : ME (List D)}
/-! ### methods of what is built in -/
def tyD (st : Store) (T : String) : D → Bool
  | .str _ => T == "str"
  | .int _ => T == "int"
  | .lst _ => T == "list"
  | .ref i => match st[i]? with
    | some (.lst _) => T == "list"
    | some (.dT _ _) => T == "dict"
    | some (.dK _ _) => T == "dict"
    | _ => false
  | _ => false
theorem tyD_ok {W : Wd} {f H st} (S : Sim W f H st) {v d} (rv : Rep W f H v d) {T : String} (h : tyD st T d = true) : tyV W.K T v H := by
  cases rv with
  | str x => show T = "str"; simpa [tyD] using h
  | int x => show T = "int"; simpa [tyD] using h
  | lst h1 h2 h3 => exact .inl ⟨by simpa [tyD] using h, _, .of h2⟩
  | @ref a i q =>
    obtain ⟨c, e, k⟩ := S.at q
    dsimp only [tyD] at h
    rw [e] at h
    cases c with
    | lst ds => obtain ⟨vs, x, _⟩ := k; exact .inl ⟨by simpa using h, _, .of x⟩
    | dT ks ds => obtain ⟨vs, x, _⟩ := k; exact .inr (.inr (.inl ⟨by simpa using h, .inr ⟨_, x⟩⟩))
    | dK ks ds => obtain ⟨vs, x, _⟩ := k; exact .inr (.inr (.inl ⟨by simpa using h, .inl ⟨_, x⟩⟩))
    | ins t ns ds => simp at h
  | _ => simp [tyD] at h
def OpM (X : Cx) (cl : Ctx) (Wx : WX) (rr : V → List V → Hp → VK → Prop) (g : D → List D → Store → Rs D) : Prop := ∀ (f : List Addr) (H : Hp) (st : Store) (σ : L2.St) (x : D) (xs : List D) (u : V) (us : List V) (Q : VK), Sim ⟨X.K, cl⟩ f H st → Rep ⟨X.K, cl⟩ f H u x → Reps ⟨X.K, cl⟩ f H us xs →
  RunAt ⟨X.K, cl⟩ Wx (Rep ⟨X.K, cl⟩) f H σ (g x xs st) Q → rr u us H Q
def mMeth (T : String) (g : D → List D → Store → Rs D) (mo : ME D) (r : ME (List D)) : ME D := mbind mo fun d env st => if tyD st T d = true then mbind r (fun ds _ st => g d ds st) env st else .no
def mMeth0 (T : String) (g : D → List D → Store → Rs D) (mo : ME D) : ME D := mbind mo fun d _ st => if tyD st T d = true then g d [] st else .no
theorem pv_bm {T id : String} {name : Str} {rr : V → List V → Hp → VK → Prop} {g : D → List D → Store → Rs D} (og : OpM X cl Wx rr g) (pa : PlainAttrs T) (slot : Slot T name id) (hty : typeOf (.builtin id) = pure (.type "method_descriptor")) (hm : MtR X id rr)
    (ho : PV X cl Wx o mo) (ha : PVA X cl Wx (e :: es) r)
    (hbase : attributeBase o name X.env (eval o X.env) = eval o X.env := by rfl)
    (hfew : ((backTo cpos (starEach (e :: es) X.env)).all (fun x => !x.1) && (backToKw cpos (keywordEach [] X.env)).all (fun x => x.1.isSome)
      && decide ((e :: es).length + ([] : List Keyword).length + (if ([] : List Keyword).isEmpty then 0 else 1) < 30)) = true := by rfl)
    (hline : (apos.endLine == cpos.line) = true := by rfl) (hs : starEach (e :: es) X.env = (false, eval e X.env) :: starEach es X.env := by rfl) (hplain : (backTo cpos (starEach es X.env)).any (·.1) = false := by rfl) :
    PV X cl Wx (.Call (.Attribute o name apos) (e :: es) [] cpos) (mMeth T g mo r) := by
  refine PE.imp (pe_bm pa slot hty hm ho ha hbase hfew hline hs hplain) fun σ H Q h => ?_
  obtain ⟨f, env, st, S, N, h⟩ := h
  refine h.bind S N fun u H1 f1 d st1 A1 h1 => ?_
  split at h1
  · rename_i ht
    refine ⟨tyD_ok A1.sim A1.rel ht, ?_⟩
    refine h1.bind A1.sim A1.env fun us H2 f2 ds st2 A2 h2 => ?_
    exact og f2 H2 st2 σ d ds u us Q A2.sim (A1.rel.mono A2.ext.lean) A2.rel h2
  · exact h1.elim
theorem pv_bm0 {T id : String} {name : Str} {rr : V → List V → Hp → VK → Prop} {g : D → List D → Store → Rs D} (og : OpM X cl Wx rr g) (pa : PlainAttrs T) (slot : Slot T name id) (hty : typeOf (.builtin id) = pure (.type "method_descriptor")) (hm : MtR X id rr)
    (ho : PV X cl Wx o mo) (hbase : attributeBase o name X.env (eval o X.env) = eval o X.env := by rfl) (hline : (apos.endLine == cpos.line) = true := by rfl) :
    PV X cl Wx (.Call (.Attribute o name apos) [] [] cpos) (mMeth0 T g mo) := by
  refine PE.imp (pe_bm0 pa slot hty hm ho hbase hline) fun σ H Q h => ?_
  obtain ⟨f, env, st, S, N, h⟩ := h
  refine h.bind S N fun u H1 f1 d st1 A1 h1 => ?_
  split at h1
  · rename_i ht
    exact ⟨tyD_ok A1.sim A1.rel ht, og f1 H1 st1 σ d [] u [] Q A1.sim A1.rel .nil h1⟩
  · exact h1.elim
/-- a list in the store -/
def cellL (st : Store) : D → Option (Nat × List D)
  | .ref i => match st[i]? with
    | some (.lst ds) => some (i, ds)
    | _ => none
  | _ => none
theorem Sim.cellL {W : Wd} {f H st} (S : Sim W f H st) {v d i ds} (rv : Rep W f H v d) (h : cellL st d = some (i, ds)) : ∃ a vs, v = .ref a ∧ f[i]? = some a ∧ H a = some (.lst vs) ∧ Reps W f H vs ds := by
  cases rv with
  | @ref a j q =>
    obtain ⟨c, e, k⟩ := S.at q
    dsimp only [RR.cellL] at h
    rw [e] at h
    cases c with
    | lst ds' => cases h; obtain ⟨vs, x, y⟩ := k; exact ⟨a, vs, rfl, q, x, y⟩
    | _ => cases h
  | _ => cases h
/-- a list of the store is written anew -/
theorem put_lst {W : Wd} {f H σ st} (S : Sim W f H st) {i : Nat} {a : Addr} (hf : f[i]? = some a) {vs : List V} {ds : List D} (rs : Reps W f H vs ds) {d : D} {v : V} (rv : Rep W f H v d) {Q : VK}
    (h : RunAt W Wx (Rep W) f H σ (.ok d (st.set i (.lst ds))) Q) : Q v (upd H a (.lst vs)) :=
  have e : Ext f H f (upd H a (.lst vs)) := Ext.write (List.mem_of_getElem? hf)
  h _ f _ e (S.write hf ⟨vs, upd_same, rs.mono e.lean⟩) (rv.mono e.lean)
def gAppend : D → List D → Store → Rs D := fun d xs st => match cellL st d, xs with
  | some (i, ds), [y] => if ds.length < 16777216 then .ok .non (st.set i (.lst (ds ++ [y]))) else .no
  | _, _ => .no
theorem o_append : OpM X cl Wx rAppend gAppend := by
  intro f H st σ x xs u us Q S ru rs h
  unfold gAppend at h
  split at h
  · rename_i i ds y eq
    obtain ⟨w, rfl, rw'⟩ := rs.one
    obtain ⟨a, vs, rfl, hf, hH, rp⟩ := S.cellL ru eq
    split at h
    · rename_i hz
      exact ⟨a, vs, w, rfl, rfl, hH, by rw [rp.length]; exact hz, put_lst S hf (rp.append (.cons rw' .nil)) .non h⟩
    · exact h.elim
  · exact h.elim
def gExtend : D → List D → Store → Rs D := fun d xs st => match cellL st d, xs with
  | some (i, ds), [y] => match lstOf st y with
    | some zs => if ds.length + zs.length ≤ 16777216 then .ok .non (st.set i (.lst (ds ++ zs))) else .no
    | none => .no
  | _, _ => .no
theorem o_extend : OpM X cl Wx rExtend gExtend := by
  intro f H st σ x xs u us Q S ru rs h
  unfold gExtend at h
  split at h
  · rename_i i ds y eq
    obtain ⟨w, rfl, rw'⟩ := rs.one
    obtain ⟨a, vs, rfl, hf, hH, rp⟩ := S.cellL ru eq
    split at h
    · rename_i zs ez
      obtain ⟨b, ws, rfl, hb, rb⟩ := S.lst rw' ez
      split at h
      · rename_i hz
        exact ⟨a, b, vs, ws, rfl, rfl, hH, hb, by rw [rp.length, rb.length]; exact hz, put_lst S hf (rp.append rb) .non h⟩
      · exact h.elim
    · exact h.elim
  · exact h.elim
def gPop : D → List D → Store → Rs D := fun d xs st => match cellL st d, xs with
  | some (i, ds), [] => match ds[ds.length - 1]? with
    | some y => .ok y (st.set i (.lst ds.dropLast))
    | none => .no
  | _, _ => .no
theorem o_pop : OpM X cl Wx rPop gPop := by
  intro f H st σ x xs u us Q S ru rs h
  unfold gPop at h
  split at h
  · rename_i i ds eq
    cases rs
    obtain ⟨a, vs, rfl, hf, hH, rp⟩ := S.cellL ru eq
    split at h
    · rename_i y ey
      obtain ⟨w, hw, rw'⟩ := rp.get ey
      exact ⟨a, vs, w, rfl, rfl, hH, by rw [rp.length]; exact hw, put_lst S hf rp.dropLast rw' h⟩
    · exact h.elim
  · exact h.elim
theorem Reps.eraseIdx {W f H} : ∀ {xs : List V} {us : List D} (i : Nat), Reps W f H xs us → Reps W f H (xs.eraseIdx i) (us.eraseIdx i)
  | _, _, _, .nil => .nil
  | _, _, 0, .cons _ t => t
  | _, _, i + 1, .cons q t => .cons q (Reps.eraseIdx i t)
def gPopAt : D → List D → Store → Rs D := fun d xs st => match cellL st d, xs with
  | some (i, ds), [.int j] => if -1000000 ≤ j ∧ j ≤ 1000000 then (match seqIndex? j ds.length with
    | some k => match ds[k]? with
      | some y => .ok y (st.set i (.lst (ds.eraseIdx k)))
      | none => .no
    | none => .no) else .no
  | _, _ => .no
theorem o_popAt : OpM X cl Wx rPopAt gPopAt := by
  intro f H st σ x xs u us Q S ru rs h
  unfold gPopAt at h
  split at h
  · rename_i i ds j eq
    obtain ⟨w, rfl, rj⟩ := rs.one
    cases rj
    obtain ⟨a, vs, rfl, hf, hH, rp⟩ := S.cellL ru eq
    split at h
    · rename_i hj
      split at h
      · rename_i k ek
        split at h
        · rename_i y ey
          obtain ⟨w, hw, rw'⟩ := rp.get ey
          exact ⟨a, vs, j, k, w, rfl, rfl, hH, by omega, by omega, by rw [rp.length]; exact ek, hw, put_lst S hf (rp.eraseIdx k) rw' h⟩
        · exact h.elim
      · exact h.elim
    · exact h.elim
  · exact h.elim
def gReverse : D → List D → Store → Rs D := fun d xs st => match cellL st d, xs with
  | some (i, ds), [] => .ok .non (st.set i (.lst ds.reverse))
  | _, _ => .no
theorem o_reverse : OpM X cl Wx rReverse gReverse := by
  intro f H st σ x xs u us Q S ru rs h
  unfold gReverse at h
  split at h
  · rename_i i ds eq
    cases rs
    obtain ⟨a, vs, rfl, hf, hH, rp⟩ := S.cellL ru eq
    exact ⟨a, vs, rfl, rfl, hH, put_lst S hf rp.reverse .non h⟩
  · exact h.elim
def gClear : D → List D → Store → Rs D := fun d xs st => match cellL st d, xs with
  | some (i, ds), [] => .ok .non (st.set i (.lst []))
  | _, _ => .no
theorem o_clear : OpM X cl Wx rClear gClear := by
  intro f H st σ x xs u us Q S ru rs h
  unfold gClear at h
  split at h
  · rename_i i ds eq
    cases rs
    obtain ⟨a, vs, rfl, hf, hH, rp⟩ := S.cellL ru eq
    exact ⟨a, vs, rfl, rfl, hH, put_lst S hf .nil .non h⟩
  · exact h.elim
/-- the first place of an equal one -/
def firstAt (p : D → Bool) : List D → Option Nat
  | [] => none
  | d :: ds => if p d then some 0 else (firstAt p ds).map (· + 1)
theorem firstAt_spec {p : D → Bool} : ∀ {ds : List D} {j : Nat}, firstAt p ds = some j → ∃ z, ds[j]? = some z ∧ p z = true ∧ ∀ (i : Nat) (y : D), i < j → ds[i]? = some y → p y = false
  | [], j, h => by simp [firstAt] at h
  | d :: ds, j, h => by
    simp only [firstAt] at h
    split at h
    · rename_i hp
      cases h
      exact ⟨d, rfl, hp, fun i y hi => by omega⟩
    · rename_i hp
      simp at h
      obtain ⟨k, e, rfl⟩ := h
      obtain ⟨z, h1, h2, h3⟩ := firstAt_spec e
      refine ⟨z, by simpa using h1, h2, fun i y hi hy => ?_⟩
      cases i with
      | zero => simp at hy; subst hy; simpa using hp
      | succ i => exact h3 i y (by omega) (by simpa using hy)
def gIndex : D → List D → Store → Rs D := fun d xs st => match seqOf st d, xs with
  | some ds, [y] => if flatD y && ds.all flatD then (match firstAt (fun z => eqV (toV z) (toV y)) ds with
    | some j => .ok (.int j) st
    | none => .no) else .no
  | _, _ => .no
theorem index_shape {K : PySem.W.Frag} {x : V} {xs : List V} {H : Hp} {Q : VK} {a : Addr} {ys : List V} {y : V} {j : Nat} {z : V} (h1 : x = V.ref a) (h2 : xs = [y]) (h3 : SqL K H a ys) (h4 : flatV y = true) (h5 : ys.all flatV = true) (h6 : ys[j]? = some z) (h7 : eqV z y = true)
    (h8 : ∀ (m : Nat) (z' : V), m < j → ys[m]? = some z' → eqV z' y = false) (h9 : Q (.int (j : Nat)) H) : rIndex K x xs H Q := ⟨a, ys, y, j, z, h1, h2, h3, h4, h5, h6, h7, h8, h9⟩
theorem o_index : OpM X cl Wx (rIndex X.K) gIndex := by
  intro f H st σ x xs u us Q S ru rs h
  unfold gIndex at h
  split at h
  · rename_i ds y eq
    obtain ⟨w, rfl, rw'⟩ := rs.one
    split at h
    · rename_i hf
      simp only [Bool.and_eq_true] at hf
      obtain ⟨a, vs, rfl, hp, rp⟩ := S.seq ru eq
      split at h
      · rename_i j ej
        obtain ⟨z, h1, h2, h3⟩ := firstAt_spec ej
        have e1 := rep_flat rw' hf.1
        have e2 := reps_flat rp hf.2
        subst e1 e2
        refine index_shape rfl rfl hp (flat_toV hf.1) (flats_toV hf.2) (j := j) (z := toV z) (by simp [h1]) h2 (fun i z' hi hz' => ?_) (h.okv S (.int _))
        simp only [List.getElem?_map, Option.map_eq_some_iff] at hz'
        obtain ⟨y', e1, rfl⟩ := hz'
        exact h3 i y' hi e1
      · exact h.elim
    · exact h.elim
  · exact h.elim
theorem pv_append (ho : PV X cl Wx o mo) (ha : PVA X cl Wx [e] r) (hbase : attributeBase o "append" X.env (eval o X.env) = eval o X.env := by rfl)
    (hfew : ((backTo cpos (starEach [e] X.env)).all (fun x => !x.1) && (backToKw cpos (keywordEach [] X.env)).all (fun x => x.1.isSome) && decide ([e].length + ([] : List Keyword).length + (if ([] : List Keyword).isEmpty then 0 else 1) < 30)) = true := by rfl)
    (hline : (apos.endLine == cpos.line) = true := by rfl) (hs : starEach [e] X.env = (false, eval e X.env) :: starEach [] X.env := by rfl) :
    PV X cl Wx (.Call (.Attribute o "append" apos) [e] [] cpos) (mMeth "list" gAppend mo r) := pv_bm o_append PySem.F.plainAttrs_list PySem.F.slot_list_append PySem.F.type_list_append mt_append ho ha hbase hfew hline hs
theorem pv_extend (ho : PV X cl Wx o mo) (ha : PVA X cl Wx [e] r) (hbase : attributeBase o "extend" X.env (eval o X.env) = eval o X.env := by rfl)
    (hfew : ((backTo cpos (starEach [e] X.env)).all (fun x => !x.1) && (backToKw cpos (keywordEach [] X.env)).all (fun x => x.1.isSome) && decide ([e].length + ([] : List Keyword).length + (if ([] : List Keyword).isEmpty then 0 else 1) < 30)) = true := by rfl)
    (hline : (apos.endLine == cpos.line) = true := by rfl) (hs : starEach [e] X.env = (false, eval e X.env) :: starEach [] X.env := by rfl) :
    PV X cl Wx (.Call (.Attribute o "extend" apos) [e] [] cpos) (mMeth "list" gExtend mo r) := pv_bm o_extend PySem.F.plainAttrs_list PySem.F.slot_list_extend PySem.F.type_list_extend mt_extend ho ha hbase hfew hline hs
theorem pv_index (ho : PV X cl Wx o mo) (ha : PVA X cl Wx [e] r) (hbase : attributeBase o "index" X.env (eval o X.env) = eval o X.env := by rfl)
    (hfew : ((backTo cpos (starEach [e] X.env)).all (fun x => !x.1) && (backToKw cpos (keywordEach [] X.env)).all (fun x => x.1.isSome) && decide ([e].length + ([] : List Keyword).length + (if ([] : List Keyword).isEmpty then 0 else 1) < 30)) = true := by rfl)
    (hline : (apos.endLine == cpos.line) = true := by rfl) (hs : starEach [e] X.env = (false, eval e X.env) :: starEach [] X.env := by rfl) :
    PV X cl Wx (.Call (.Attribute o "index" apos) [e] [] cpos) (mMeth "list" gIndex mo r) := pv_bm o_index PySem.F.plainAttrs_list PySem.F.slot_list_index PySem.F.type_list_index mt_index ho ha hbase hfew hline hs
theorem pv_popAt (ho : PV X cl Wx o mo) (ha : PVA X cl Wx [e] r) (hbase : attributeBase o "pop" X.env (eval o X.env) = eval o X.env := by rfl)
    (hfew : ((backTo cpos (starEach [e] X.env)).all (fun x => !x.1) && (backToKw cpos (keywordEach [] X.env)).all (fun x => x.1.isSome) && decide ([e].length + ([] : List Keyword).length + (if ([] : List Keyword).isEmpty then 0 else 1) < 30)) = true := by rfl)
    (hline : (apos.endLine == cpos.line) = true := by rfl) (hs : starEach [e] X.env = (false, eval e X.env) :: starEach [] X.env := by rfl) :
    PV X cl Wx (.Call (.Attribute o "pop" apos) [e] [] cpos) (mMeth "list" gPopAt mo r) := pv_bm o_popAt PySem.F.plainAttrs_list PySem.F.slot_list_pop PySem.F.type_list_pop mt_popAt ho ha hbase hfew hline hs
theorem pv_pop (ho : PV X cl Wx o mo) (hbase : attributeBase o "pop" X.env (eval o X.env) = eval o X.env := by rfl) (hline : (apos.endLine == cpos.line) = true := by rfl) :
    PV X cl Wx (.Call (.Attribute o "pop" apos) [] [] cpos) (mMeth0 "list" gPop mo) := pv_bm0 o_pop PySem.F.plainAttrs_list PySem.F.slot_list_pop PySem.F.type_list_pop mt_pop ho hbase hline
theorem pv_reverse (ho : PV X cl Wx o mo) (hbase : attributeBase o "reverse" X.env (eval o X.env) = eval o X.env := by rfl) (hline : (apos.endLine == cpos.line) = true := by rfl) :
    PV X cl Wx (.Call (.Attribute o "reverse" apos) [] [] cpos) (mMeth0 "list" gReverse mo) := pv_bm0 o_reverse PySem.F.plainAttrs_list PySem.F.slot_list_reverse PySem.F.type_list_reverse mt_reverse ho hbase hline
theorem pv_clear (ho : PV X cl Wx o mo) (hbase : attributeBase o "clear" X.env (eval o X.env) = eval o X.env := by rfl) (hline : (apos.endLine == cpos.line) = true := by rfl) :
    PV X cl Wx (.Call (.Attribute o "clear" apos) [] [] cpos) (mMeth0 "list" gClear mo) := pv_bm0 o_clear PySem.F.plainAttrs_list PySem.F.slot_list_clear PySem.F.type_list_clear mt_clear ho hbase hline
end
end RR

set_option maxRecDepth 100000
set_option maxHeartbeats 1000000
namespace RR
open PySem PySem.Spec PyProof.Rows L2

/-! ### the frame given up: cells from n on become things that don't change, or are dropped -/
mutual
def below (n : Nat) : D → Bool
  | .ref i => decide (i < n)
  | .tup ds => belows n ds
  | .ktp ds => belows n ds
  | .lst ds => belows n ds
  | .obj _ _ ds => belows n ds
  | .dT _ ds => belows n ds
  | .dK _ ds => belows n ds
  | _ => true
def belows (n : Nat) : List D → Bool
  | [] => true
  | d :: ds => below n d && belows n ds
end
def Cell.low (n : Nat) : Cell → Bool
  | .lst ds => belows n ds
  | .dT _ ds => belows n ds
  | .dK _ ds => belows n ds
  | .ins _ _ ds => belows n ds
mutual
theorem Rep.bel {W f H} : ∀ {v : V} {d : D}, Rep W f H v d → RR.below f.length d = true
  | _, _, .non => rfl
  | _, _, .bl b => rfl
  | _, _, .int i => rfl
  | _, _, .str x => rfl
  | _, _, .ty n => rfl
  | _, _, .adr a => rfl
  | _, _, .tup h q r => Reps.bels r
  | _, _, .ktp h r => Reps.bels r
  | _, _, .lst h q r => Reps.bels r
  | _, _, .scr h => rfl
  | _, _, .ref h => by simp [RR.below, (List.getElem?_eq_some_iff.mp h).1]
  | _, _, .obj h q l r => Reps.bels r
  | _, _, .dT h q l r => Reps.bels r
  | _, _, .dK h q l r => Reps.bels r
theorem Reps.bels {W f H} : ∀ {v : List V} {d : List D}, Reps W f H v d → RR.belows f.length d = true
  | _, _, .nil => rfl
  | _, _, .cons a b => by simp [RR.belows, Rep.bel a, Reps.bels b]
end
theorem notin_take {f : List Addr} {a : Addr} {n : Nat} (h : a ∉ f) : a ∉ f.take n := fun z => h (List.mem_of_mem_take z)
mutual
theorem Rep.shr {W : Wd} {f : List Addr} {H : Hp} {n : Nat} : ∀ {v : V} {d : D}, Rep W f H v d → below n d = true → Rep W (f.take n) H v d
  | _, _, .non, _ => .non
  | _, _, .bl b, _ => .bl b
  | _, _, .int i, _ => .int i
  | _, _, .str x, _ => .str x
  | _, _, .ty n, _ => .ty n
  | _, _, .adr a, _ => .adr a
  | _, _, .tup h q r, b => .tup (notin_take h) q (Reps.shr r b)
  | _, _, .ktp h r, b => .ktp h (Reps.shr r b)
  | _, _, .lst h q r, b => .lst (notin_take h) q (Reps.shr r b)
  | _, _, .scr h, _ => .scr (h.imp (fun ⟨h, q⟩ => ⟨notin_take h, q⟩) id)
  | _, _, .ref h, b => .ref (by rw [List.getElem?_take_of_lt (by simpa [below] using b)]; exact h)
  | _, _, .obj h q l r, b => .obj (notin_take h) q l (Reps.shr r b)
  | _, _, .dT h q l r, b => .dT (notin_take h) q l (Reps.shr r b)
  | _, _, .dK h q l r, b => .dK (notin_take h) q l (Reps.shr r b)
theorem Reps.shr {W : Wd} {f : List Addr} {H : Hp} {n : Nat} : ∀ {v : List V} {d : List D}, Reps W f H v d → belows n d = true → Reps W (f.take n) H v d
  | _, _, .nil, _ => .nil
  | _, _, .cons a b, h => by
    simp only [belows, Bool.and_eq_true] at h
    exact .cons (Rep.shr a h.1) (Reps.shr b h.2)
end
theorem CellOk.cut {W : Wd} {f H n a c} (h : CellOk W f H a c) (b : c.low n = true) : CellOk W (f.take n) H a c := by
  cases c with
  | lst ds => obtain ⟨vs, q, r⟩ := h; exact ⟨vs, q, r.shr b⟩
  | dT ks ds => obtain ⟨vs, q, l, r⟩ := h; exact ⟨vs, q, l, r.shr b⟩
  | dK ks ds => obtain ⟨vs, q, l, r⟩ := h; exact ⟨vs, q, l, r.shr b⟩
  | ins t ns ds => obtain ⟨dx, vs, q, l, r⟩ := h; exact ⟨dx, vs, q, l, r.shr b⟩
theorem CellOk.low {W : Wd} {f H a c} (h : CellOk W f H a c) : c.low f.length = true := by
  cases c with
  | lst ds => obtain ⟨vs, q, r⟩ := h; exact r.bels
  | dT ks ds => obtain ⟨vs, q, l, r⟩ := h; exact r.bels
  | dK ks ds => obtain ⟨vs, q, l, r⟩ := h; exact r.bels
  | ins t ns ds => obtain ⟨dx, vs, q, l, r⟩ := h; exact r.bels
mutual
theorem below_mono {n k : Nat} (h : n ≤ k) : ∀ d : D, below n d = true → below k d = true
  | .ref i, b => by simp [below] at b ⊢; omega
  | .tup ds, b => belows_mono h ds b
  | .ktp ds, b => belows_mono h ds b
  | .lst ds, b => belows_mono h ds b
  | .obj _ _ ds, b => belows_mono h ds b
  | .dT _ ds, b => belows_mono h ds b
  | .dK _ ds, b => belows_mono h ds b
  | .non, _ | .bl _, _ | .int _, _ | .str _, _ | .ty _, _ | .adr _, _ | .scr _, _ => rfl
theorem belows_mono {n k : Nat} (h : n ≤ k) : ∀ ds : List D, belows n ds = true → belows k ds = true
  | [], _ => rfl
  | d :: ds, b => by
    simp only [belows, Bool.and_eq_true] at b ⊢
    exact ⟨below_mono h d b.1, belows_mono h ds b.2⟩
end
theorem Cell.low_mono {n k : Nat} (h : n ≤ k) (c : Cell) (b : c.low n = true) : c.low k = true := by
  cases c <;> exact belows_mono h _ b
def mapO {A B : Type} (g : A → Option B) : List A → Option (List B)
  | [] => some []
  | a :: as => match g a, mapO g as with
    | some b, some bs => some (b :: bs)
    | _, _ => none
/-- data with the cells from n on made fast, as deep as k -/
def frz (n : Nat) (st : Store) : Nat → D → Option D
  | k + 1, .ref i => if i < n then some (.ref i) else match st[i]? with
    | some (.lst ds) => (mapO (frz n st k) ds).map D.lst
    | some (.dT ks ds) => (mapO (frz n st k) ds).map (D.dT ks)
    | some (.dK ks ds) => (mapO (frz n st k) ds).map (D.dK ks)
    | some (.ins t ns ds) => (mapO (frz n st k) ds).map (D.obj t ns)
    | none => none
  | _, d => if below n d then some d else none
theorem reps_mapO {W f f' H} {g : D → Option D} (hg : ∀ v d d', Rep W f H v d → g d = some d' → Rep W f' H v d') : ∀ {vs : List V} {ds ds' : List D}, Reps W f H vs ds → mapO g ds = some ds' → Reps W f' H vs ds'
  | _, _, _, .nil, h => by simp [mapO] at h; subst h; exact .nil
  | _, _, _, .cons (d := d) (ds := ds) r t, h => by
    simp only [mapO] at h
    cases e1 : g d with
    | none => simp [e1] at h
    | some x =>
      cases e2 : mapO g ds with
      | none => simp [e1, e2] at h
      | some xs =>
        simp [e1, e2] at h
        subst h
        exact .cons (hg _ _ _ r e1) (reps_mapO hg t e2)
theorem notin_take_of {f : List Addr} (hn : f.Nodup) {i n : Nat} {a : Addr} (h : f[i]? = some a) (hi : ¬ i < n) : a ∉ f.take n := fun z => by
  obtain ⟨j, hj, e⟩ := List.mem_iff_getElem.mp z
  have hj' : j < n := by simp at hj; omega
  have h2 : f[j]? = some a := by
    rw [← List.getElem?_take_of_lt hj']
    exact List.getElem?_eq_some_iff.mpr ⟨hj, e⟩
  exact hi (by rw [nd_ix hn h h2]; exact hj')
theorem frz_ok {W : Wd} {f H st n} (S : Sim W f H st) : ∀ (k : Nat) {v : V} {d d' : D}, Rep W f H v d → frz n st k d = some d' → Rep W (f.take n) H v d'
  | 0, v, d, d', r, h => by
    simp only [frz] at h
    split at h
    · cases h; exact r.shr (by assumption)
    · cases h
  | k + 1, v, d, d', r, h => by
    have ih := fun v d d' => frz_ok (n := n) S k (v := v) (d := d) (d' := d')
    cases d with
    | ref i =>
      obtain ⟨a, rfl, q⟩ : ∃ a, v = .ref a ∧ f[i]? = some a := by cases r with | ref q => exact ⟨_, rfl, q⟩
      simp only [frz] at h
      split at h
      · rename_i hi
        cases h
        exact .ref (by rw [List.getElem?_take_of_lt hi]; exact q)
      · rename_i hi
        obtain ⟨c, e, z⟩ := S.at q
        rw [e] at h
        have na := notin_take_of S.nod q hi
        cases c with
        | lst ds =>
          obtain ⟨vs, h1, h2⟩ := z
          simp only [Option.map_eq_some_iff] at h
          obtain ⟨xs, e1, rfl⟩ := h
          exact .lst na h1 (reps_mapO ih h2 e1)
        | dT ks ds =>
          obtain ⟨vs, h1, hl, h2⟩ := z
          simp only [Option.map_eq_some_iff] at h
          obtain ⟨xs, e1, rfl⟩ := h
          exact .dT na h1 hl (reps_mapO ih h2 e1)
        | dK ks ds =>
          obtain ⟨vs, h1, hl, h2⟩ := z
          simp only [Option.map_eq_some_iff] at h
          obtain ⟨xs, e1, rfl⟩ := h
          exact .dK na h1 hl (reps_mapO ih h2 e1)
        | ins t ns ds =>
          obtain ⟨dx, vs, h1, hl, h2⟩ := z
          simp only [Option.map_eq_some_iff] at h
          obtain ⟨xs, e1, rfl⟩ := h
          exact .obj na h1 hl (reps_mapO ih h2 e1)
    | _ =>
      simp only [frz] at h
      split at h
      · cases h; exact r.shr (by assumption)
      · cases h
/-- cells below n are those of st0, or lean on nothing from n on -/
def LowOk (st0 st : Store) (n : Nat) : Prop := ∀ (i : Nat) (c : Cell), i < n → st[i]? = some c → (i < st0.length ∧ st0[i]? = some c) ∨ c.low n = true
theorem Sim.drop {W : Wd} {f0 H0 st0 f H st n} (S0 : Sim W f0 H0 st0) (hn : st0.length ≤ n) (S : Sim W f H st) (hl : LowOk st0 st n) : Sim W (f.take n) H (st.take n) := by
  refine ⟨by simp [S.len], S.nod.sublist (List.take_sublist _ _), fun i a c h1 h2 => ?_, S.tab⟩
  have hi : i < n := by
    have := (List.getElem?_eq_some_iff.mp h1).1
    simp at this; omega
  rw [List.getElem?_take_of_lt hi] at h1 h2
  refine (S.cel i a c h1 h2).cut ?_
  rcases hl i c hi h2 with ⟨z1, z2⟩ | z
  · have hi0 : i < f0.length := by rw [S0.len]; exact z1
    have q := (S0.cel i f0[i] c (by simp [hi0]) z2).low
    exact Cell.low_mono (by rw [S0.len]; exact hn) c q
  · exact z
theorem Ext.drop {f0 H0 f H n} (e : Ext f0 H0 f H) (hn : f0.length ≤ n) : Ext f0 H0 (f.take n) H := ⟨by
  obtain ⟨g, rfl⟩ := e.pre
  exact ⟨g.take (n - f0.length), by rw [List.take_append, List.take_of_length_le hn]⟩, fun a o h q n => let ⟨h1, h2⟩ := e.keep a o h q n; ⟨notin_take h1, h2⟩⟩
end RR

set_option maxRecDepth 100000
set_option maxHeartbeats 1000000
namespace RR
open PySem PySem.Spec PyProof.Rows L2

/-! ### leaving a stretch: what was made there is made fast -/
open Classical in
noncomputable def leave (k : Nat) (n : Nat) (st0 : Store) (d : D) (st : Store) : Rs D :=
  if LowOk st0 st n then (match frz n st k d with
    | some d' => .ok d' (st.take n)
    | none => .no) else .no
noncomputable def mLeave (k : Nat) (m : ME D) : ME D := fun env st => (m env st).bind fun d st1 => leave k st.length st d st1
section
variable {X : Cx} {cl : Ctx} {Wx : WX} {e : Expr} {m : ME D}
theorem rd_leave {W : Wd} (k : Nat) {σ H Q} (h : rdE W Wx (mLeave k m) σ H Q) : rdE W Wx m σ H Q := by
  obtain ⟨f, env, st, S, N, h⟩ := h
  refine ⟨f, env, st, S, N, ?_⟩
  unfold mLeave at h
  cases er : m env st with
  | no => rw [er] at h; exact h
  | exc x s1 => rw [er] at h; exact h
  | ok d st1 =>
    rw [er] at h
    intro v f1 H1 x s1 r
    simp only [Rs.bind, leave] at h
    split at h
    · rename_i hl
      split at h
      · rename_i d' ed
        have hn : f.length = st.length := S.len
        exact h v (f1.take st.length) H1 (Ext.drop x (by omega)) (Sim.drop S (Nat.le_refl _) s1 hl) (frz_ok s1 k r ed)
      · exact h.elim
    · exact h.elim
theorem pv_leave (k : Nat) (h : PV X cl Wx e m) : PV X cl Wx e (mLeave k m) := PE.imp h fun σ H Q h => rd_leave k h
end

/-! ### statements -/
inductive Fl where
  | nx | bk | ct | rt (d : D)
inductive RS where
  | ok (fl : Fl) (env : Env) (st : Store)
  | exc (e : Ex) (env : Env) (st : Store)
  | no
abbrev MS := Env → Store → RS
def FlK (W : Wd) (f : List Addr) (H : Hp) (E : Ends) (σ : L2.St) : Fl → Prop
  | .nx => E.nx σ H
  | .bk => E.bk σ H
  | .ct => E.ct σ H
  | .rt d => ∀ v, Rep W f H v d → E.rt v H
def RunS (W : Wd) (Wx : WX) (f : List Addr) (H : Hp) (r : RS) (E : Ends) : Prop := match r with
  | .ok fl env' st' => ∀ σ' f' H', Ext f H f' H' → Sim W f' H' st' → EnvOk W f' H' σ' env' → FlK W f' H' E σ' fl
  | .exc e env' st' => ∀ c dd σ' f' H', Ext f H f' H' → Sim W f' H' st' → EnvOk W f' H' σ' env' → RepX W f' H' c dd e → Wx c dd σ' H'
  | .no => False
def rdS (W : Wd) (Wx : WX) (m : MS) : TS := fun E σ H => ∃ f env st, Sim W f H st ∧ EnvOk W f H σ env ∧ RunS W Wx f H (m env st) E
theorem RunS.shift {W Wx f H f' H' r E} (h : RunS W Wx f H r E) (e : Ext f H f' H') : RunS W Wx f' H' r E := by
  cases r with
  | ok fl env st => exact fun σ f2 H2 e2 s n => h σ f2 H2 (e.trans e2) s n
  | exc x env st => exact fun c dd σ f2 H2 e2 s n q => h c dd σ f2 H2 (e.trans e2) s n q
  | no => exact h
theorem FlK.mono {W f H σ fl} {E E' : Ends} (h : FlK W f H E σ fl) (h1 : ∀ σ H, E.nx σ H → E'.nx σ H) (h2 : ∀ v H, E.rt v H → E'.rt v H) (h3 : ∀ σ H, E.bk σ H → E'.bk σ H) (h4 : ∀ σ H, E.ct σ H → E'.ct σ H) : FlK W f H E' σ fl := by
  cases fl with
  | nx => exact h1 _ _ h
  | bk => exact h3 _ _ h
  | ct => exact h4 _ _ h
  | rt d => exact fun v r => h2 _ _ (h v r)
/-- an expression, then the rest -/
def sBind {A : Type} (m : ME A) (k : A → MS) : MS := fun env st => match m env st with
  | .ok d st1 => k d env st1
  | .exc e st1 => .exc e env st1
  | .no => .no
theorem RunS.bind {A B : Type} {W Wx f H σ env st} {rel : List Addr → Hp → B → A → Prop} {m : ME A} {k : A → MS} {E : Ends} {Q' : B → Hp → Prop}
    (S : Sim W f H st) (N : EnvOk W f H σ env) (h : RunS W Wx f H (sBind m k env st) E)
    (hk : ∀ v H1 f1 d st1, At W rel f H σ env d st1 v H1 f1 → RunS W Wx f1 H1 (k d env st1) E → Q' v H1) : rdG W Wx rel m σ H Q' := by
  refine ⟨f, env, st, S, N, ?_⟩
  unfold sBind at h
  cases e : m env st with
  | ok d st1 =>
    rw [e] at h
    intro v f1 H1 x s1 r
    exact hk v H1 f1 d st1 ⟨x, s1, N.ext x, r⟩ (RunS.shift h x)
  | exc x st1 =>
    rw [e] at h
    exact fun c dd f1 H1 x1 s1 r => h c dd σ f1 H1 x1 s1 (N.ext x1) r
  | no => rw [e] at h; exact h
theorem RunS.nxt {W Wx f H σ env st E} (S : Sim W f H st) (N : EnvOk W f H σ env) (h : RunS W Wx f H (.ok .nx env st) E) : E.nx σ H := h σ f H (.refl f H) S N
/-- what follows a statement -/
def RS.thn (r : RS) (k : Env → Store → RS) : RS := match r with
  | .ok .nx env st => k env st
  | r => r
def sSeq (m k : MS) : MS := fun env st => (m env st).thn k
def sNil : MS := fun env st => .ok .nx env st
section
variable {X : Cx} {cl : Ctx} {Wx : WX}
abbrev PVS (X : Cx) (cl : Ctx) (Wx : WX) (s : Stmt) (m : MS) : Prop := PS X s (rdS ⟨X.K, cl⟩ Wx m)
abbrev PVB (X : Cx) (cl : Ctx) (Wx : WX) (s : List Stmt) (m : MS) : Prop := PSs X s (rdS ⟨X.K, cl⟩ Wx m)
theorem rd_seq {W : Wd} {m k : MS} {E σ H} (h : rdS W Wx (sSeq m k) E σ H) : tSeq (rdS W Wx m) (rdS W Wx k) E σ H := by
  obtain ⟨f, env, st, S, N, h⟩ := h
  refine ⟨f, env, st, S, N, ?_⟩
  unfold sSeq at h
  cases e : m env st with
  | no => rw [e] at h; exact h
  | exc x e1 s1 => rw [e] at h; exact h
  | ok fl e1 s1 =>
    rw [e] at h
    cases fl with
    | nx => exact fun σ' f' H' x s n => ⟨f', e1, s1, s, n, RunS.shift (r := k e1 s1) h x⟩
    | bk => exact h
    | ct => exact h
    | rt d => exact h
variable {s : Stmt} {ss : List Stmt} {m k : MS} {pos pos' : Pos} {e c : Expr} {me : ME D}
theorem vb_nil : PVB X cl Wx [] sNil := by
  refine PSs.imp pss_nil fun E σ H h => ?_
  obtain ⟨f, env, st, S, N, h⟩ := h
  exact h.nxt S N
theorem vb_cons (h1 : PVS X cl Wx s m) (h2 : PVB X cl Wx ss k) : PVB X cl Wx (s :: ss) (sSeq m k) := PSs.imp (pss_cons h1 h2) fun _ _ _ h => rd_seq h
theorem vb_one (h1 : PVS X cl Wx s m) : PVB X cl Wx [s] m := pss_one h1
theorem vs_pass : PVS X cl Wx (.Pass pos) sNil := by
  refine PS.imp ps_pass fun E σ H h => ?_
  obtain ⟨f, env, st, S, N, h⟩ := h
  exact h.nxt S N
def sBreak : MS := fun env st => .ok .bk env st
def sCont : MS := fun env st => .ok .ct env st
theorem vs_break : PVS X cl Wx (.Break pos) sBreak := by
  refine PS.imp ps_break fun E σ H h => ?_
  obtain ⟨f, env, st, S, N, h⟩ := h
  exact h σ f H (.refl f H) S N
theorem vs_cont : PVS X cl Wx (.Continue pos) sCont := by
  refine PS.imp ps_continue fun E σ H h => ?_
  obtain ⟨f, env, st, S, N, h⟩ := h
  exact h σ f H (.refl f H) S N
/-- a statement that is never reached -/
def sNo : MS := fun _ _ => .no
theorem vs_no : PVS X cl Wx s sNo := ⟨fun pins s σ H E I h => by
  obtain ⟨f, env, st, S, N, h⟩ := h
  exact h.elim⟩
def sExpr (me : ME D) : MS := sBind me fun _ env st => .ok .nx env st
theorem vs_expr (he : PV X cl Wx e me) (hs : swapsWith e none pos.line X.env = pure false := by rfl) : PVS X cl Wx (.Expr e pos) (sExpr me) := by
  refine PS.imp (ps_expr he hs) fun E σ H h => ?_
  obtain ⟨f, env, st, S, N, h⟩ := h
  exact h.bind S N fun v H1 f1 d st1 A1 h1 => h1.nxt A1.sim A1.env
def sRet (me : ME D) : MS := sBind me fun d env st => .ok (.rt d) env st
theorem vs_ret (he : PV X cl Wx e me) : PVS X cl Wx (.Return (some e) pos) (sRet me) := by
  refine PS.imp (ps_ret he) fun E σ H h => ?_
  obtain ⟨f, env, st, S, N, h⟩ := h
  exact h.bind S N fun v H1 f1 d st1 A1 h1 => h1 σ f1 H1 (.refl _ _) A1.sim A1.env v A1.rel
def sSet (i : Nat) (me : ME D) : MS := sBind me fun d env st => .ok .nx (env.set i (some d)) st
theorem vs_set {i : Nat} {x : Str} (hN : X.N.Nodup) (hi : X.N[i]? = some x) (hx : Loc X.env.scope x) (he : PV X cl Wx e me) (hs : swapsWith e (some (.Name x pos')) pos.line X.env = pure false := by rfl) (hf : X.fn x = true ∨ X.env.scope.names.lookup x = some .local := by first | exact .inl rfl | exact .inr rfl | assumption) :
    PVS X cl Wx (.Assign [.Name x pos'] e pos) (sSet i me) := by
  refine PS.imp (ps_set hN hi hx he hs hf) fun E σ H h => ?_
  obtain ⟨f, env, st, S, N, h⟩ := h
  exact h.bind S N fun v H1 f1 d st1 A1 h1 => h1 _ f1 H1 (.refl _ _) A1.sim (A1.env.set A1.rel i)
def sIf (t : ME Bool) (a b : MS) : MS := sBind t fun k => match k with
  | true => a
  | false => b
theorem vs_if {t : ME Bool} {sa sb : List Stmt} {a b : MS} (hc : PVT X cl Wx c t) (ha : PVB X cl Wx sa a) (hb : PVB X cl Wx sb b) : PVS X cl Wx (.If c sa sb pos) (sIf t a b) := by
  refine PS.imp (ps_if hc ha hb) fun E σ H h => ?_
  obtain ⟨f, env, st, S, N, h⟩ := h
  refine h.bind S N fun v H1 f1 d st1 A1 h1 => ?_
  have r := A1.rel
  subst r
  cases v with
  | true => rw [if_pos rfl]; exact ⟨f1, env, st1, A1.sim, A1.env, h1⟩
  | false => rw [if_neg (by decide)]; exact ⟨f1, env, st1, A1.sim, A1.env, h1⟩

/-! ### targets -/
/-- behind a target: the slots besides ws stand -/
def RunG (W : Wd) (Wx : WX) (ws : List Nat) (f : List Addr) (H : Hp) (σ : L2.St) (r : RS) (Q : L2.St → Hp → Prop) : Prop := match r with
  | .ok .nx env' st' => ∀ σ' f' H', Ext f H f' H' → Sim W f' H' st' → EnvOk W f' H' σ' env' → (σ'.length = σ.length ∧ ∀ i, i ∉ ws → σ'[i]? = σ[i]?) → Q σ' H'
  | _ => False
def rdTg (W : Wd) (Wx : WX) (ws : List Nat) (g : D → MS) : TG := fun v σ H Q => ∃ f env st d, Sim W f H st ∧ EnvOk W f H σ env ∧ Rep W f H v d ∧ RunG W Wx ws f H σ (g d env st) Q
abbrev PVG (X : Cx) (cl : Ctx) (Wx : WX) (ws : List Nat) (tg : Expr) (g : D → MS) : Prop := PG X tg (rdTg ⟨X.K, cl⟩ Wx ws g)
theorem PG.imp {X : Cx} {e : Expr} {t t' : TG} (h : PG X e t) (i : ∀ v σ H Q, t' v σ H Q → t v σ H Q) : PG X e t' := ⟨fun pins s σ H v u Q I r q => h.run pins s σ H v u Q I r (i v σ H Q q)⟩
def gNm (i : Nat) : D → MS := fun d env st => .ok .nx (env.set i (some d)) st
theorem vg_name {i : Nat} {x : Str} (hN : X.N.Nodup) (hi : X.N[i]? = some x) (hx : Loc X.env.scope x) (hf : X.fn x = true ∨ X.env.scope.names.lookup x = some .local := by first | exact .inl rfl | exact .inr rfl | assumption) : PVG X cl Wx [i] (.Name x pos) (gNm i) := by
  refine PG.imp (pg_name hN hi hx hf) fun v σ H Q h => ?_
  obtain ⟨f, env, st, d, S, N, r, h⟩ := h
  exact h _ f H (.refl _ _) S (N.set r i) ⟨by simp, fun j hj => by rw [List.getElem?_set_ne (by intro z; subst z; simp at hj)]⟩
def rdTgs (W : Wd) (Wx : WX) (ws : List Nat) (g : List D → MS) : TGs := fun v σ H Q => ∃ f env st d, Sim W f H st ∧ EnvOk W f H σ env ∧ Reps W f H v d ∧ RunG W Wx ws f H σ (g d env st) Q
abbrev PVGs (X : Cx) (cl : Ctx) (Wx : WX) (ws : List Nat) (tg : List Expr) (g : List D → MS) : Prop := PGs X tg (rdTgs ⟨X.K, cl⟩ Wx ws g)
theorem PGs.imp {X : Cx} {e : List Expr} {t t' : TGs} (h : PGs X e t) (i : ∀ v σ H Q, t' v σ H Q → t v σ H Q) : PGs X e t' := ⟨fun pins s σ H v u Q I r q => h.run pins s σ H v u Q I r (i v σ H Q q)⟩
def gsNil : List D → MS := fun ds env st => match ds with
  | [] => .ok .nx env st
  | _ => .no
theorem vgs_nil : PVGs X cl Wx [] [] gsNil := by
  refine PGs.imp pgs_nil fun v σ H Q h => ?_
  obtain ⟨f, env, st, d, S, N, r, h⟩ := h
  cases r with
  | nil => exact ⟨rfl, h σ f H (.refl _ _) S N ⟨rfl, fun _ _ => rfl⟩⟩
  | cons a b => exact h.elim
def gsCons (g : D → MS) (gs : List D → MS) : List D → MS := fun ds env st => match ds with
  | d :: ds => (g d env st).thn (gs ds)
  | [] => .no
theorem vgs_cons {es : List Expr} {g : D → MS} {gs : List D → MS} {ws ws' : List Nat} (h1 : PVG X cl Wx ws e g) (h2 : PVGs X cl Wx ws' es gs)
    (hs : (assignEach (e :: es) X.env).map (·.2) = assign e X.env :: (assignEach es X.env).map (·.2) := by rfl) : PVGs X cl Wx (ws ++ ws') (e :: es) (gsCons g gs) := by
  refine PGs.imp (pgs_cons h1 h2 hs) fun v σ H Q h => ?_
  obtain ⟨f, env, st, d, S, N, r, h⟩ := h
  cases r with
  | nil => exact h.elim
  | @cons v vs d ds r t =>
    refine ⟨v, vs, rfl, f, env, st, d, S, N, r, ?_⟩
    dsimp only [gsCons] at h
    cases e : g d env st with
    | no => rw [e] at h; exact h
    | exc x a b => rw [e] at h; exact h
    | ok fl e1 s1 =>
      rw [e] at h
      cases fl with
      | nx =>
        intro σ' f' H' x s n ⟨q1, q2⟩
        refine ⟨f', e1, s1, ds, s, n, t.mono x.lean, ?_⟩
        have h : RunG _ Wx (ws ++ ws') f H σ (gs ds e1 s1) Q := h
        cases e2 : gs ds e1 s1 with
        | no => rw [e2] at h; exact h
        | exc x a b => rw [e2] at h; exact h
        | ok fl e3 s3 =>
          rw [e2] at h
          cases fl with
          | nx =>
            intro σ2 f2 H2 x2 s2 n2 ⟨q3, q4⟩
            exact h σ2 f2 H2 (x.trans x2) s2 n2 ⟨q3.trans q1, fun i hi => by
              simp only [List.mem_append, not_or] at hi
              exact (q4 i hi.2).trans (q2 i hi.1)⟩
          | _ => exact h
      | _ => exact h
def gTp (n : Nat) (gs : List D → MS) : D → MS := fun d env st => match d with
  | .tup ds => if ds.length = n then gs ds env st else .no
  | _ => .no
theorem vg_tup {es : List Expr} {k n : Nat} {gs : List D → MS} {ws : List Nat} (hc : X.calm = true) (h : PVGs X cl Wx ws es gs) (hn : (assignEach es X.env).length = n := by rfl) (hst : (assignEach es X.env).findIdx? (·.1) = none := by rfl) : PVG X cl Wx ws (.Tuple es k pos) (gTp n gs) := by
  refine PG.imp (pg_tup hc h hn hst) fun v σ H Q h => ?_
  obtain ⟨f, env, st, d, S, N, r, h⟩ := h
  unfold gTp at h
  split at h
  · split at h
    · rename_i hl
      obtain ⟨a, vs, rfl, hp, rp⟩ := r.tupS
      exact ⟨a, vs, rfl, hp, by rw [rp.length]; exact hl, f, env, st, _, S, N, rp, h⟩
    · exact h.elim
  · exact h.elim
def okNx (g : D → MS) : D → MS := fun d env st => match g d env st with
  | .ok .nx e s => .ok .nx e s
  | _ => .no
/-- target = e -/
def sAsg (me : ME D) (g : D → MS) : MS := sBind me g
theorem vs_asg {tg : Expr} {g : D → MS} {ws : List Nat} (he : PV X cl Wx e me) (hg : PVG X cl Wx ws tg g) (hs : swapsWithSole [tg] e pos.line X.env = pure false := by rfl) (hw : swappedStores [tg] e X.env = pure none := by rfl)
    (h1 : (assignEach [tg] X.env).map (·.2) = [assign tg X.env] := by rfl) : PVS X cl Wx (.Assign [tg] e pos) (sAsg me (okNx g)) := by
  refine PS.imp (ps_asg he hg hs hw h1) fun E σ H h => ?_
  obtain ⟨f, env, st, S, N, h⟩ := h
  refine h.bind S N fun v H1 f1 d st1 A1 h1 => ?_
  refine ⟨f1, env, st1, d, A1.sim, A1.env, A1.rel, ?_⟩
  unfold okNx at h1
  cases e2 : g d env st1 with
  | no => rw [e2] at h1; exact h1
  | exc x a b => rw [e2] at h1; exact h1
  | ok fl e3 s3 =>
    rw [e2] at h1
    cases fl with
    | nx => exact fun σ2 f2 H2 x2 s2 n2 _ => h1 σ2 f2 H2 x2 s2 n2
    | _ => exact h1
end
end RR

set_option maxRecDepth 100000
set_option maxHeartbeats 1000000
/-! enumerate of a tuple, for the layer -/
namespace PySem
theorem rr_meets_enumT (l : Addr) (items : Array Value) :
    Meets (Builtin.«enumerate.__new__» ⟨[.type "enumerate", .ref l], []⟩) (fun _ R s => s.heap.IsTuple l items ∧
      R (.ok (.ret (.ref (s.heap.push { cls := .type "tuple_iterator", data := .fields #[.ref l, .int 0 0] }).objs.size)))
        { s with heap := (s.heap.push { cls := .type "tuple_iterator", data := .fields #[.ref l, .int 0 0] }).push { cls := .type "enumerate", data := .fields #[.none, .bool false, .ref s.heap.objs.size, rawInt 0, .none, .none] } }) :=
  .of_wp fun prog w A R s h => by
    obtain ⟨hp, g, d, tk, os⟩ := s; obtain ⟨h1, h⟩ := h
    have hsub := sub_enumerate
    have q1 : ∀ {A' : Around} {E : Value → Shared → Prop} {Q : Value → Shared → Prop}, Q (.ref hp.objs.size) ⟨hp.push { cls := .type "tuple_iterator", data := .fields #[.ref l, .int 0 0] }, g, d, tk, os⟩ → wpAny (model prog w) A' (pyIter (.ref l)) Q E ⟨hp, g, d, tk, os⟩ :=
      fun q => wpAny_pyIter_tuple h1 q
    wp_walk using q1
    refine wpAny_stack_any fun st => wpAny_pure ?_
    split
    · rename_i c _ _ _ _ _
      cases (c == Value.type "enumerate")
      · wp_walk using q1
        exact ⟨_, rfl, h⟩
      · wp_walk using q1
        exact ⟨_, rfl, h⟩
    · wp_walk using q1
      exact ⟨_, rfl, h⟩
section
variable {prog : Program} {w : World} {A : Around} {E : Value → Shared → Prop} {s : Shared}
theorem rr_call_enumT {l : Addr} {items : Array Value} {Q : Value → Shared → Prop} (hL : s.heap.IsTuple l items)
    (h : ∀ h', IsEnum h' (s.heap.objs.size + 1) s.heap.objs.size 0 .none → h'.IsTupleIter s.heap.objs.size l 0 → h'.objs.size = s.heap.objs.size + 2 →
      (∀ b o, s.heap.get? b = some o → h'.get? b = some o) → Q (.ref (s.heap.objs.size + 1)) { s with heap := h' }) :
    wpAny (model prog w) A (call (.type "enumerate") [.ref l]) Q E s := by
  refine callType_new F.called_enumerate (by decide) (F.typeCall_enumerate_1 _) (F.newCall_enumerate_1 _) (fun obj => F.args_object_init_2 obj _) F.entry_enumerate_new
    (rr_meets_enumT l items) ⟨hL, ?_⟩
  have hz : (s.heap.push { cls := .type "tuple_iterator", data := .fields #[.ref l, .int 0 0] }).objs.size = s.heap.objs.size + 1 := Heap.size_push ..
  show _ ∧ _
  rw [hz]
  have he : IsEnum ((s.heap.push { cls := .type "tuple_iterator", data := .fields #[.ref l, .int 0 0] }).push
      { cls := .type "enumerate", data := .fields #[.none, .bool false, .ref s.heap.objs.size, rawInt 0, .none, .none] }) (s.heap.objs.size + 1) s.heap.objs.size 0 .none := by
    have := Heap.get?_push_size (s.heap.push { cls := .type "tuple_iterator", data := .fields #[.ref l, .int 0 0] })
      (o := { cls := .type "enumerate", data := .fields #[.none, .bool false, .ref s.heap.objs.size, rawInt 0, .none, .none] }) rfl
    rw [hz] at this; exact this
  refine ⟨⟨_, he, rfl⟩, h _ he ⟨_, Heap.get?_push_of_some _ (Heap.get?_push_size _ rfl), rfl, rfl⟩ (by rw [Heap.size_push, hz]) fun b o x => Heap.get?_push_of_some _ (Heap.get?_push_of_some _ x)⟩
end
end PySem
namespace RR
open PySem PySem.Spec PyProof.Rows L2
def IteT (K : PySem.W.Frag) (a : Addr) : It :=
  ⟨fun i H => ∃ (xs : List V) (x : V), SqT K H a xs ∧ xs[i]? = some x, fun i H v H' => ∃ T x, v = .ref T ∧ H T = none ∧ H' = upd H T (.tup [.int (i : Nat), x]) ∧ ∀ xs, SqT K H a xs → xs[i]? = some x, fun i H => ∃ xs : List V, SqT K H a xs ∧ xs.length ≤ i⟩
theorem turn_enumT {P : Program} {w : World} {K : PySem.W.Frag} {elts : List Expr} {kk : Nat} {tpos : Pos} (a e it : Addr) :
    Turn P w K (.Tuple elts kk tpos) (IteT K a) [e, it] e (fun i h => (∃ old, IsEnum h e it ((i : Nat) : Int) old) ∧ h.IsTupleIter it a i ∧ e ≠ it ∧ a ≠ it) where
  mem := by simp
  obj := fun i h st b hb => by
    obtain ⟨⟨old, he⟩, ⟨o, ho, hc, hd⟩, _⟩ := st
    have e' : b = e ∨ b = it := by simpa using hb
    rcases e' with z | z
    · rw [z]; exact ⟨_, he, fun v q => nomatch q⟩
    · rw [z]; exact ⟨o, ho, fun v q => by rw [hd] at q; cases q⟩
  keep := fun i h h' st k => let ⟨⟨old, he⟩, hi, hne⟩ := st; ⟨⟨old, k e (by simp) _ he⟩, hi.at fun o q => k it (by simp) o q, hne⟩
  item := by
    intro X hP hw hK hc i pins s σ H E I hf st hg
    subst hP hw hK
    obtain ⟨⟨old, he⟩, hit, hne, hait⟩ := st
    obtain ⟨xs, x, hq, hx⟩ := hg
    obtain ⟨its, rv, p, hz⟩ := I.tuple hq
    obtain ⟨u, hu, ru⟩ := rv.get hx
    have hel : e < s.heap.objs.size := Heap.lt_size he
    have hil : it < s.heap.objs.size := by obtain ⟨_, q, _⟩ := hit; exact Heap.lt_size q
    have hil' : i < its.toArray.size := by have := (List.getElem?_eq_some_iff.mp hu).1; simpa using this
    refine wpAny_pyNext_enum_itemD (Draws.tuple (A := X.A.in1) (I.ok.hd hc) it a hait its.toArray) he ⟨hit, p⟩ hil' hne (by
      intro z
      have z' : e = it ∨ e = a := by simpa using z
      rcases z' with z' | z'
      · exact hne z'
      · subst z'
        obtain ⟨o, ho, hc', _⟩ := p
        have he' : s.heap.get? e = some _ := he
        rw [he'] at ho; cases ho; exact absurd hc' (by simp)) fun x' h' tk hx' ho hst hT hsz hk => ?_
    have e1 : x' = u := by
      have q : its.toArray[i]? = some u := by simpa using hu
      rw [q] at hx'; exact (Option.some.inj hx').symm
    subst e1
    refine ⟨_, rfl, wpAny_letOwnedTupleGo_enum (s := { s with heap := h', toks := tk + 1 }) ho fun h'' he' sb => ?_⟩
    have hT2 : h''.get? s.heap.objs.size = some { cls := .type "tuple", data := .seq #[.int i tk, x'] } := (sb.2 _ (Nat.ne_of_gt hel)).trans hT
    have new : ObjOk X.prog X.w (upd H s.heap.objs.size (.tup [.int (i : Nat), x])) h'' s.heap.objs.size (.tup [.int (i : Nat), x]) :=
      ⟨by show 2 ≤ sizeLine; decide, [.int i tk, x'], .cons ⟨_, rfl⟩ (.cons ru .nil), ⟨_, hT2, rfl, _, rfl⟩⟩
    have I1 : Inv X pins σ (upd H s.heap.objs.size (.tup [.int (i : Nat), x])) { s with heap := h'', toks := tk + 1 } :=
      I.turnedNew (ch := [e, it]) (fun b ob hb q => (sb.2 b (fun z => hb (by simp [z]))).trans (hk b ob (fun z => hb (by simp [z])) (fun z => hb (by simp [z])) q)) hf (Nat.le_refl _) new
    refine ⟨.ref s.heap.objs.size, _, I1, rfl, ⟨_, x, rfl, I.hok.fresh (Nat.le_refl _), rfl, fun ys hy => by rw [I.tuple_inj hy hq]; exact hx⟩, ⟨⟨x', ?_⟩, hst.1.at fun o q => (sb.2 it (Ne.symm hne)).trans q, hne, hait⟩, fun b hb => ?_⟩
    · have e1 : ((i + 1 : Nat) : Int) = (i : Int) + 1 := by omega
      rw [e1]; exact he'
    · have hb' : b < s.heap.objs.size := by
        have e' : b = e ∨ b = it := by simpa using hb
        rcases e' with z | z
        · rw [z]; exact hel
        · rw [z]; exact hil
      rw [upd_ne (Nat.ne_of_lt hb')]
      exact (hf b hb).1
  done := by
    intro X hP hw hK hc i pins s σ H E I hf st hg
    subst hP hw hK
    obtain ⟨⟨old, he⟩, hit, hne, hait⟩ := st
    obtain ⟨xs, hq, hx⟩ := hg
    obtain ⟨its, rv, p, hz⟩ := I.tuple hq
    obtain ⟨f0, f1, f2, f3, f4, f5⟩ := hf it (by simp)
    have hl := rv.length
    have hT : s.TypeIs (.ref e) "enumerate" := ⟨_, he, rfl⟩
    unfold pyNext
    refine wpAny_bind (wpAny_attempt (wpAny_callSpecial?_slot (name := Str.ofString "__next__") hT F.slot_enumerate_next
      (wpAny_call_entry F.slot_enumerate_next hT F.entry_enumerate_next ?_ (F.args_enumerate_next_1 _))))
    show wpAny _ _ (field (.ref e) 2 >>= _) _ _ _
    refine wpAny_bind (wpAny_field he rfl (x := .ref it) rfl ?_)
    refine wpAny_bind (wpAny_nextOf_tuple_end (I.ok.hd hc) hit p (by simp; omega) fun h' x he' hx' => ?_)
    obtain ⟨o, ho, hc'⟩ := hx'
    refine wpAny_bind (wpAny_isInstance (T := "StopIteration") (b := true) ⟨o, ho, hc'⟩ isSubtype_stop ?_)
    exact wpAny_pure ⟨rfl, I.turned (t' := s.toks) (fun b o hb q => he' b o hb q) f0 f1 f3 f4 f5⟩
  self := fun A i s Q E st h => let ⟨⟨_, he⟩, _⟩ := st; wpAny_pyIter_enum he h
def iEnumT (K : PySem.W.Frag) (ta : TA) : TI := fun σ H R => ta σ H fun vs H1 => ∃ a xs, vs = [.ref a] ∧ SqT K H1 a xs ∧ R (IteT K a) H1
theorem pi_enumT {X : Cx} {e : Expr} {ta : TA} {p pos tpos : Pos} {elts : List Expr} {kk : Nat} (hg : Gl X "enumerate") (hm : X.mg "enumerate" = none) (ha : PA X [e] ta) (hs : starEach [e] X.env = [(false, eval e X.env)] := by rfl) :
    PI X (.Tuple elts kk tpos) (.Call (.Name "enumerate" p) [e] [] pos) (iEnumT X.K ta) := by
  refine ⟨fun pins s σ H R I h => ?_⟩
  refine Call_ (ld_blt I hg hm boot_enumerate (PyProof.Rows.callWith_type1 (thn (ha.run pos pins s σ H _ I h) fun us s1 ⟨vs, H1, I1, r1, q1⟩ => ?_) hs rfl))
  obtain ⟨a, xs, ex, hq, q⟩ := q1
  subst ex
  cases r1 with
  | cons r rr =>
    cases rr
    cases r
    obtain ⟨its, rv, p', hz⟩ := I1.tuple hq
    have hal : a < s1.heap.objs.size := p'.lt
    refine rr_call_enumT p' fun h' he hit hsz hk => wpAny_pyIter_enum he ?_
    have I2 : Inv X pins σ H1 { s1 with heap := h' } := I1.kept (t' := s1.toks) hk
    refine ⟨s1.heap.objs.size + 1, [s1.heap.objs.size + 1, s1.heap.objs.size], _, _, H1, rfl, I2, turn_enumT a (s1.heap.objs.size + 1) s1.heap.objs.size, ⟨⟨.none, he⟩, hit, Nat.succ_ne_self _, Nat.ne_of_lt hal⟩, fun b hb => ?_, q⟩
    have e' : b = s1.heap.objs.size + 1 ∨ b = s1.heap.objs.size := by simpa using hb
    have hle : s1.heap.objs.size ≤ b := by
      rcases e' with z | z
      · rw [z]; exact Nat.le_add_right _ _
      · rw [z]; exact Nat.le_refl _
    exact I1.fpOk hle (I1.hok.fresh hle)
end RR

set_option maxRecDepth 100000
set_option maxHeartbeats 1000000
namespace RR
open PySem PySem.Spec PyProof.Rows L2

/-! ### what a loop walks -/
inductive Src where
  | seq (d : D)
  | enum (d : D)
  | zip (d e : D)
  | rng (lo : Int) (n : Nat)
/-- the k-th thing (some none: the end); none: not served -/
def Src.get (st : Store) (k : Nat) : Src → Option (Option D)
  | .seq d => (itemsOf st d).map fun ds => ds[k]?
  | .enum d => (itemsOf st d).map fun ds => (ds[k]?).map fun x => .tup [.int k, x]
  | .zip d e => match seqOf st d, seqOf st e with
    | some xs, some ys => match xs[k]?, ys[k]? with
      | some x, some y => some (some (.tup [x, y]))
      | _, _ => some none
    | _, _ => none
  | .rng lo n => some (if k < n then some (.int (lo + k)) else none)
/-- the iterator J walks s -/
def Walks1 (W : Wd) (f : List Addr) (H : Hp) (J : It) (s : Src) : Prop := ∀ (k : Nat) (f' : List Addr) (H' : Hp) (st' : Store), Ext f H f' H' → Sim W f' H' st' →
  (∀ x, s.get st' k = some (some x) → J.go k H' ∧ ∀ y H'', J.yld k H' y H'' → Ext f' H' f' H'' ∧ Sim W f' H'' st' ∧ Rep W f' H'' y x) ∧ (s.get st' k = some none → J.stop k H')
theorem Walks1.ext {W f H J s f' H'} (w : Walks1 W f H J s) (e : Ext f H f' H') : Walks1 W f' H' J s := fun k f2 H2 st2 e2 S => w k f2 H2 st2 (e.trans e2) S
section
variable {X : Cx} {cl : Ctx} {Wx : WX}
abbrev PVI (X : Cx) (cl : Ctx) (Wx : WX) (tg iter : Expr) (m : ME Src) : Prop := PI X tg iter (rdG ⟨X.K, cl⟩ Wx (fun f H J s => Walks1 ⟨X.K, cl⟩ f H J s) m)
theorem PI.imp {X : Cx} {tg it : Expr} {t t' : TI} (h : PI X tg it t) (i : ∀ σ H Q, t' σ H Q → t σ H Q) : PI X tg it t' := ⟨fun pins s σ H R I q => h.run pins s σ H R I (i σ H R q)⟩
variable {tg it a b e : Expr} {m ma mb : ME D} {p pos tpos : Pos}
/-- what stands for the data through the loop: the thing at the address as it is there -/
theorem rep_ref {W f H v d st ds} (S : Sim W f H st) (r : Rep W f H v d) (h : itemsOf st d = some ds) : ∃ a, v = .ref a := by
  obtain ⟨a, vs, e, _⟩ := S.items r h
  exact ⟨a, e⟩
inductive Kd where | l | t
def kdOf (st : Store) : D → Option Kd
  | .tup _ | .ktp _ => some .t
  | d => match seqOf st d with
    | some _ => some .l
    | none => none
theorem seq_kept {W : Wd} {f : List Addr} {H : Hp} {f' : List Addr} {H' : Hp} {d : D} {v : V} {a : Addr} {st' : Store} {ds : List D} (r : Rep W f H v d) (hv : v = .ref a) (e : Ext f H f' H') (S' : Sim W f' H' st') (h : seqOf st' d = some ds) : ∃ vs, SqL W.K H' a vs ∧ Reps W f' H' vs ds := by
  subst hv
  obtain ⟨a', vs, e1, h1, h2⟩ := S'.seq (r.mono e.lean) h
  cases e1
  exact ⟨vs, h1, h2⟩
theorem walks_list {W : Wd} {f H d a} (r : Rep W f H (.ref a) d) (hd : ∀ st, itemsOf st d = seqOf st d) : Walks1 W f H (Itl W.K a) (.seq d) := by
  intro k f' H' st' e S
  constructor
  · intro x hx
    simp only [Src.get, hd, Option.map_eq_some_iff] at hx
    obtain ⟨ds, e1, e2⟩ := hx
    obtain ⟨vs, h1, h2⟩ := seq_kept r rfl e S e1
    obtain ⟨v, hv, rv⟩ := h2.get e2
    refine ⟨⟨vs, v, h1, hv⟩, fun y H'' hy => ?_⟩
    obtain ⟨rfl, hy⟩ := hy
    have := hy vs h1
    rw [hv] at this; cases this
    exact ⟨.refl _ _, S, rv⟩
  · intro hx
    simp only [Src.get, hd, Option.map_eq_some_iff] at hx
    obtain ⟨ds, e1, e2⟩ := hx
    obtain ⟨vs, h1, h2⟩ := seq_kept r rfl e S e1
    exact ⟨vs, h1, by rw [h2.length]; exact List.getElem?_eq_none_iff.mp e2⟩
theorem walks_tup {W : Wd} {f H ds a} {d : D} (hd : d = .tup ds ∨ d = .ktp ds) (r : Rep W f H (.ref a) d) : Walks1 W f H (Itt W.K a) (.seq d) := by
  have hi : ∀ st, itemsOf st d = some ds := fun st => by rcases hd with rfl | rfl <;> rfl
  have get : ∀ f' H', Ext f H f' H' → ∃ vs, SqT W.K H' a vs ∧ Reps W f' H' vs ds := fun f' H' e => by
    have r' := r.mono e.lean
    rcases hd with rfl | rfl
    · obtain ⟨a', vs, e1, h1, h2⟩ := r'.tupS
      cases e1; exact ⟨vs, h1, h2⟩
    · obtain ⟨a', vs, e1, h1, h2⟩ := r'.ktpS
      cases e1; exact ⟨vs, h1, h2⟩
  intro k f' H' st' e S
  obtain ⟨vs, h1, h2⟩ := get f' H' e
  constructor
  · intro x hx
    simp only [Src.get, hi, Option.map_some, Option.some.injEq] at hx
    obtain ⟨v, hv, rv⟩ := h2.get hx
    refine ⟨⟨vs, v, h1, hv⟩, fun y H'' hy => ?_⟩
    obtain ⟨rfl, hy⟩ := hy
    have := hy vs h1
    rw [hv] at this; cases this
    exact ⟨.refl _ _, S, rv⟩
  · intro hx
    simp only [Src.get, hi, Option.map_some, Option.some.injEq] at hx
    exact ⟨vs, h1, by rw [h2.length]; exact List.getElem?_eq_none_iff.mp hx⟩
theorem walks_rng {W : Wd} {f H lo n} : Walks1 W f H (Itr lo n) (.rng lo n) := by
  intro k f' H' st' e S
  constructor
  · intro x hx
    simp only [Src.get, Option.some.injEq] at hx
    split at hx
    · rename_i hk
      cases hx
      refine ⟨hk, fun y H'' hy => ?_⟩
      obtain ⟨rfl, rfl⟩ := hy
      exact ⟨.refl _ _, S, .int _⟩
    · cases hx
  · intro hx
    simp only [Src.get, Option.some.injEq] at hx
    split at hx
    · cases hx
    · rename_i hk
      exact Nat.le_of_not_lt hk
theorem pair_made {W : Wd} {f H st T x y dx dy} (S : Sim W f H st) (hT : H T = none) (rx : Rep W f H x dx) (ry : Rep W f H y dy) : Ext f H f (upd H T (.tup [x, y])) ∧ Sim W f (upd H T (.tup [x, y])) st ∧ Rep W f (upd H T (.tup [x, y])) (.ref T) (.tup [dx, dy]) := by
  have e := Ext.laid (o := .tup [x, y]) S hT
  exact ⟨e, S.laid hT, .tup (S.new hT) upd_same (.cons (rx.mono e.lean) (.cons (ry.mono e.lean) .nil))⟩
theorem walks_enumL {W : Wd} {f H d a} (r : Rep W f H (.ref a) d) (hd : ∀ st, itemsOf st d = seqOf st d) : Walks1 W f H (Ite W.K a) (.enum d) := by
  intro k f' H' st' e S
  constructor
  · intro x hx
    simp only [Src.get, hd, Option.map_eq_some_iff] at hx
    obtain ⟨ds, e1, z, e2, rfl⟩ := hx
    obtain ⟨vs, h1, h2⟩ := seq_kept r rfl e S e1
    obtain ⟨v, hv, rv⟩ := h2.get e2
    refine ⟨⟨vs, v, h1, hv⟩, fun y H'' hy => ?_⟩
    obtain ⟨T, w, rfl, hT, rfl, hy⟩ := hy
    have := hy vs h1
    rw [hv] at this; cases this
    exact pair_made S hT (.int _) rv
  · intro hx
    simp only [Src.get, hd, Option.map_eq_some_iff] at hx
    obtain ⟨ds, e1, e2⟩ := hx
    obtain ⟨vs, h1, h2⟩ := seq_kept r rfl e S e1
    exact ⟨vs, h1, by rw [h2.length]; exact List.getElem?_eq_none_iff.mp (by simpa using e2)⟩
theorem walks_enumT {W : Wd} {f H ds a} (r : Rep W f H (.ref a) (.tup ds)) : Walks1 W f H (IteT W.K a) (.enum (.tup ds)) := by
  intro k f' H' st' e S
  obtain ⟨a', vs, e1, h1, h2⟩ := (r.mono e.lean).tupS
  cases e1
  constructor
  · intro x hx
    simp only [Src.get, itemsOf, Option.map_some, Option.some.injEq, Option.map_eq_some_iff] at hx
    obtain ⟨z, e2, rfl⟩ := hx
    obtain ⟨v, hv, rv⟩ := h2.get e2
    refine ⟨⟨vs, v, h1, hv⟩, fun y H'' hy => ?_⟩
    obtain ⟨T, w, rfl, hT, rfl, hy⟩ := hy
    have := hy vs h1
    rw [hv] at this; cases this
    exact pair_made S hT (.int _) rv
  · intro hx
    simp only [Src.get, itemsOf, Option.map_some, Option.some.injEq, Option.map_eq_none_iff] at hx
    exact ⟨vs, h1, by rw [h2.length]; exact List.getElem?_eq_none_iff.mp hx⟩
theorem walks_zip {W : Wd} {f H d d' a b} (r : Rep W f H (.ref a) d) (r' : Rep W f H (.ref b) d') : Walks1 W f H (Itz W.K a b) (.zip d d') := by
  intro k f' H' st' e S
  constructor
  · intro x hx
    simp only [Src.get] at hx
    split at hx
    · rename_i xs ys e1 e2
      split at hx
      · rename_i x1 y1 e3 e4
        cases hx
        obtain ⟨vs, h1, h2⟩ := seq_kept r rfl e S e1
        obtain ⟨ws, h3, h4⟩ := seq_kept r' rfl e S e2
        obtain ⟨v, hv, rv⟩ := h2.get e3
        obtain ⟨w, hw, rw'⟩ := h4.get e4
        refine ⟨⟨vs, ws, v, w, h1, h3, hv, hw⟩, fun y H'' hy => ?_⟩
        obtain ⟨T, q1, q2, rfl, hT, rfl, hy1, hy2⟩ := hy
        have t1 := hy1 vs h1
        have t2 := hy2 ws h3
        rw [hv] at t1; cases t1
        rw [hw] at t2; cases t2
        exact pair_made S hT rv rw'
      · cases hx
    · cases hx
  · intro hx
    simp only [Src.get] at hx
    split at hx
    · rename_i xs ys e1 e2
      obtain ⟨vs, h1, h2⟩ := seq_kept r rfl e S e1
      obtain ⟨ws, h3, h4⟩ := seq_kept r' rfl e S e2
      refine ⟨vs, ws, h1, h3, ?_⟩
      rw [h2.length, h4.length]
      split at hx
      · cases hx
      · rename_i hno
        by_cases c1 : xs.length ≤ k
        · exact .inl c1
        · by_cases c2 : ys.length ≤ k
          · exact .inr c2
          · exact (hno xs[k] ys[k] (by simp) (by simp)).elim
    · cases hx
/-- a list, walked -/
def iSeq (m : ME D) : ME Src := mbind m fun d _ st => match d with
  | .tup _ => .no
  | .ktp _ => .no
  | d => match seqOf st d with
    | some _ => .ok (.seq d) st
    | none => .no
def iTupS (m : ME D) : ME Src := mbind m fun d => match d with
  | .tup ds => mret (.seq (.tup ds))
  | .ktp ds => mret (.seq (.ktp ds))
  | _ => mno
theorem vi_list (h : PV X cl Wx e m) : PVI X cl Wx tg e (iSeq m) := by
  refine PI.imp (pi_list h) fun σ H Q h => ?_
  obtain ⟨f, env, st, S, N, h⟩ := h
  refine h.bind S N fun u H1 f1 x st1 A1 h1 => ?_
  split at h1
  · exact h1.elim
  · exact h1.elim
  · rename_i n1 n2
    split at h1
    · rename_i ds eq
      obtain ⟨a, vs, rfl, hp, rp⟩ := A1.sim.seq A1.rel eq
      refine ⟨a, rfl, ⟨vs, hp⟩, h1.okv A1.sim (walks_list A1.rel fun st => ?_)⟩
      unfold itemsOf
      split
      · exact (n1 _ rfl).elim
      · exact (n2 _ rfl).elim
      · rfl
    · exact h1.elim
theorem vi_tup (h : PV X cl Wx e m) : PVI X cl Wx tg e (iTupS m) := by
  refine PI.imp (pi_tup h) fun σ H Q h => ?_
  obtain ⟨f, env, st, S, N, h⟩ := h
  refine h.bind S N fun u H1 f1 x st1 A1 h1 => ?_
  split at h1
  · have r := A1.rel
    obtain ⟨a, vs, rfl, hp, rp⟩ := A1.rel.tupS
    exact ⟨a, rfl, ⟨vs, hp⟩, h1.okv A1.sim (walks_tup (.inl rfl) r)⟩
  · have r := A1.rel
    obtain ⟨a, vs, rfl, hp, rp⟩ := A1.rel.ktpS
    exact ⟨a, rfl, ⟨vs, hp⟩, h1.okv A1.sim (walks_tup (.inr rfl) r)⟩
  · exact h1.elim
def iRng1 (r : ME (List D)) : ME Src := mbind r fun ds => match ds with
  | [.int n] => if -1000000 ≤ n ∧ n ≤ 1000000 then mret (.rng 0 n.toNat) else mno
  | _ => mno
def iRng2 (r : ME (List D)) : ME Src := mbind r fun ds => match ds with
  | [.int i, .int j] => if -1000000 ≤ i ∧ i ≤ 1000000 ∧ -1000000 ≤ j ∧ j ≤ 1000000 then mret (.rng i (j - i).toNat) else mno
  | _ => mno
variable {r : ME (List D)}
theorem vi_range1 (hg : Gl X "range") (hm : X.mg "range" = none) (ha : PVA X cl Wx [a] r) (hs : starEach [a] X.env = [(false, eval a X.env)] := by rfl) : PVI X cl Wx tg (.Call (.Name "range" p) [a] [] pos) (iRng1 r) := by
  refine PI.imp (pi_range1 hg hm ha hs) fun σ H Q h => ?_
  obtain ⟨f, env, st, S, N, h⟩ := h
  refine h.bind S N fun u H1 f1 x st1 A1 h1 => ?_
  have rl := A1.rel
  split at h1
  · obtain ⟨w, rfl, q⟩ := rl.one
    cases q
    split at h1
    · exact ⟨_, rfl, by omega, by omega, h1.okv A1.sim walks_rng⟩
    · exact h1.elim
  · exact h1.elim
theorem vi_range2 (hg : Gl X "range") (hm : X.mg "range" = none) (ha : PVA X cl Wx [a, b] r) (hs : starEach [a, b] X.env = [(false, eval a X.env), (false, eval b X.env)] := by rfl) (hs2 : starEach [b] X.env = [(false, eval b X.env)] := by rfl) : PVI X cl Wx tg (.Call (.Name "range" p) [a, b] [] pos) (iRng2 r) := by
  refine PI.imp (pi_range2 hg hm ha hs hs2) fun σ H Q h => ?_
  obtain ⟨f, env, st, S, N, h⟩ := h
  refine h.bind S N fun u H1 f1 x st1 A1 h1 => ?_
  have rl := A1.rel
  split at h1
  · obtain ⟨w, w', rfl, q, q'⟩ := rl.two
    cases q; cases q'
    split at h1
    · exact ⟨_, _, rfl, ⟨by omega, by omega, by omega, by omega⟩, h1.okv A1.sim walks_rng⟩
    · exact h1.elim
  · exact h1.elim
def iEnumL (r : ME (List D)) : ME Src := mbind r fun ds _ st => match ds with
  | [.tup _] => .no
  | [.ktp _] => .no
  | [d] => match seqOf st d with
    | some _ => .ok (.enum d) st
    | none => .no
  | _ => .no
def iEnumT1 (r : ME (List D)) : ME Src := mbind r fun ds => match ds with
  | [.tup ds] => mret (.enum (.tup ds))
  | _ => mno
variable {elts : List Expr} {kk : Nat}
theorem vi_enum (hg : Gl X "enumerate") (hm : X.mg "enumerate" = none) (ha : PVA X cl Wx [e] r) (hs : starEach [e] X.env = [(false, eval e X.env)] := by rfl) : PVI X cl Wx (.Tuple elts kk tpos) (.Call (.Name "enumerate" p) [e] [] pos) (iEnumL r) := by
  refine PI.imp (pi_enum hg hm ha hs) fun σ H Q h => ?_
  obtain ⟨f, env, st, S, N, h⟩ := h
  refine h.bind S N fun u H1 f1 x st1 A1 h1 => ?_
  have rl := A1.rel
  split at h1
  · exact h1.elim
  · exact h1.elim
  · rename_i n1 n2
    obtain ⟨w, rfl, q⟩ := rl.one
    split at h1
    · rename_i ds eq
      obtain ⟨a, vs, rfl, hp, rp⟩ := A1.sim.seq q eq
      refine ⟨a, vs, rfl, hp, h1.okv A1.sim (walks_enumL q fun st => ?_)⟩
      unfold itemsOf
      split
      · exact (n1 _ rfl).elim
      · exact (n2 _ rfl).elim
      · rfl
    · exact h1.elim
  · exact h1.elim
theorem vi_enumT (hg : Gl X "enumerate") (hm : X.mg "enumerate" = none) (ha : PVA X cl Wx [e] r) (hs : starEach [e] X.env = [(false, eval e X.env)] := by rfl) : PVI X cl Wx (.Tuple elts kk tpos) (.Call (.Name "enumerate" p) [e] [] pos) (iEnumT1 r) := by
  refine PI.imp (pi_enumT hg hm ha hs) fun σ H Q h => ?_
  obtain ⟨f, env, st, S, N, h⟩ := h
  refine h.bind S N fun u H1 f1 x st1 A1 h1 => ?_
  have rl := A1.rel
  split at h1
  · obtain ⟨w, rfl, q⟩ := rl.one
    have q' := q
    obtain ⟨a, vs, rfl, hp, rp⟩ := q.tupS
    exact ⟨a, vs, rfl, hp, h1.okv A1.sim (walks_enumT q')⟩
  · exact h1.elim
def iZipL (r : ME (List D)) : ME Src := mbind r fun ds _ st => match ds with
  | [d, e] => match seqOf st d, seqOf st e with
    | some _, some _ => .ok (.zip d e) st
    | _, _ => .no
  | _ => .no
theorem vi_zip (hg : Gl X "zip") (hm : X.mg "zip" = none) (ha : PVA X cl Wx [a, b] r) (hs : starEach [a, b] X.env = (false, eval a X.env) :: starEach [b] X.env := by rfl) (hpl : (backTo pos (starEach [b] X.env)).any (·.1) = false := by rfl) : PVI X cl Wx (.Tuple elts kk tpos) (.Call (.Name "zip" p) [a, b] [] pos) (iZipL r) := by
  refine PI.imp (pi_zip hg hm ha hs hpl) fun σ H Q h => ?_
  obtain ⟨f, env, st, S, N, h⟩ := h
  refine h.bind S N fun u H1 f1 x st1 A1 h1 => ?_
  have rl := A1.rel
  split at h1
  · obtain ⟨w, w', rfl, q, q'⟩ := rl.two
    split at h1
    · rename_i xs ys e1 e2
      obtain ⟨a, vs, rfl, hp, rp⟩ := A1.sim.seq q e1
      obtain ⟨b, ws, rfl, hq, rq⟩ := A1.sim.seq q' e2
      exact ⟨a, b, vs, ws, rfl, hp, hq, h1.okv A1.sim (walks_zip q q')⟩
    · exact h1.elim
  · exact h1.elim

/-! ### for -/
def RS.lp (r : RS) (k : Env → Store → RS) : RS := match r with
  | .ok .nx env st => k env st
  | .ok .ct env st => k env st
  | .ok .bk env st => .ok .nx env st
  | r => r
def RS.tgt (r : RS) (k : Env → Store → RS) : RS := match r with
  | .ok .nx env st => k env st
  | _ => .no
def sLoop (s : Src) (g : D → MS) (b : MS) : Nat → Nat → MS
  | 0, _ => fun _ _ => .no
  | n + 1, k => fun env st => match s.get st k with
    | some (some x) => (g x env st).tgt fun e1 s1 => (b e1 s1).lp (sLoop s g b n (k + 1))
    | some none => .ok .nx env st
    | none => .no
def FUEL : Nat := 100000
def sFor (m : ME Src) (g : D → MS) (b : MS) : MS := sBind m fun s => sLoop s g b FUEL 0
theorem rd_tg {W : Wd} {ws : List Nat} {g : D → MS} {k : Env → Store → RS} {f H st σ env d v} {E : Ends} {Q : L2.St → Hp → Prop} (S : Sim W f H st) (N : EnvOk W f H σ env) (r : Rep W f H v d) (h : RunS W Wx f H ((g d env st).tgt k) E)
    (hk : ∀ σ' f' H' e1 s1, Ext f H f' H' → Sim W f' H' s1 → EnvOk W f' H' σ' e1 → (σ'.length = σ.length ∧ ∀ i, i ∉ ws → σ'[i]? = σ[i]?) → RunS W Wx f' H' (k e1 s1) E → Q σ' H') : rdTg W Wx ws g v σ H Q := by
  refine ⟨f, env, st, d, S, N, r, ?_⟩
  cases e : g d env st with
  | no => rw [e] at h; exact h
  | exc x a b => rw [e] at h; exact h
  | ok fl e1 s1 =>
    rw [e] at h
    cases fl with
    | nx => exact fun σ' f' H' x s n q => hk σ' f' H' e1 s1 x s n q (RunS.shift (r := k e1 s1) h x)
    | _ => exact h
theorem vs_for {b : MS} {g : D → MS} {ws : List Nat} {ms : ME Src} {iter : Expr} {body : List Stmt} (hp : PassesOwn (model X.prog X.w) X.A X.env X.xe) (hc : X.calm = true) (hi : PVI X cl Wx tg iter ms) (hg : PVG X cl Wx ws tg g) (hb : PVB X cl Wx body b)
    (hs : ∀ x, foldedSetIterable iter X.env x = pure x := by intro _; rfl) : PVS X cl Wx (.For tg iter body [] pos) (sFor ms g b) := by
  refine PS.imp (ps_for hp hc hi hg hb hs) fun E σ H h => ?_
  obtain ⟨f, env, st, S, N, h⟩ := h
  refine RunS.bind S N h fun J H1 f1 s st1 A1 h1 => ?_
  have w := A1.rel
  refine ⟨fun i m σ H => ∃ f env st, Ext f1 H1 f H ∧ Sim ⟨X.K, cl⟩ f H st ∧ EnvOk ⟨X.K, cl⟩ f H σ env ∧ RunS ⟨X.K, cl⟩ Wx f H (sLoop s g b m i env st) E, ⟨FUEL, f1, env, st1, .refl _ _, A1.sim, A1.env, h1⟩, ?_⟩
  rintro i m σ2 H2 ⟨f2, env2, st2, x2, S2, N2, r2⟩
  cases m with
  | zero => exact r2.elim
  | succ m =>
    simp only [sLoop] at r2
    cases eg : s.get st2 i with
    | none => rw [eg] at r2; exact r2.elim
    | some o =>
      rw [eg] at r2
      cases o with
      | none => exact .inl ⟨(w i f2 H2 st2 x2 S2).2 eg, r2.nxt S2 N2⟩
      | some d =>
        obtain ⟨go, yl⟩ := (w i f2 H2 st2 x2 S2).1 d eg
        refine .inr ⟨go, fun σ' H' => ∃ f env st, Ext f1 H1 f H' ∧ Sim ⟨X.K, cl⟩ f H' st ∧ EnvOk ⟨X.K, cl⟩ f H' σ' env ∧ RunS ⟨X.K, cl⟩ Wx f H' (sLoop s g b m (i + 1) env st) E, fun σ' H' q => ⟨m, Nat.lt_succ_self _, q⟩, fun y H3 hy => ?_⟩
        obtain ⟨x3, S3, r3⟩ := yl y H3 hy
        refine rd_tg (Wx := Wx) S3 (N2.ext x3) r3 (RunS.shift r2 x3) fun σ' f' H' e1 s1 x4 S4 N4 _ h4 => ?_
        refine ⟨f', e1, s1, S4, N4, ?_⟩
        have x5 : Ext f1 H1 f' H' := (x2.trans x3).trans x4
        cases eb : b e1 s1 with
        | no => rw [eb] at h4; exact h4
        | exc x a c => rw [eb] at h4; exact h4
        | ok fl e5 s5 =>
          rw [eb] at h4
          cases fl with
          | nx => exact fun σ6 f6 H6 x6 S6 N6 => ⟨f6, e5, s5, x5.trans x6, S6, N6, RunS.shift (r := sLoop s g b m (i + 1) e5 s5) h4 x6⟩
          | ct => exact fun σ6 f6 H6 x6 S6 N6 => ⟨f6, e5, s5, x5.trans x6, S6, N6, RunS.shift (r := sLoop s g b m (i + 1) e5 s5) h4 x6⟩
          | bk => exact h4
          | rt d => exact h4

/-! ### while -/
def wLoop (t : ME Bool) (b : MS) : Nat → MS
  | 0 => fun _ _ => .no
  | n + 1 => sBind t fun k env st => match k with
    | true => (b env st).lp (wLoop t b n)
    | false => .ok .nx env st
def sWhile (t : ME Bool) (b : MS) : MS := wLoop t b FUEL
theorem vs_while {t : ME Bool} {b : MS} {c : Expr} {body : List Stmt} (hp : PassesOwn (model X.prog X.w) X.A X.env X.xe) (hc : PVT X cl Wx c t) (hb : PVB X cl Wx body b) : PVS X cl Wx (.While c body [] pos) (sWhile t b) := by
  refine PS.imp (ps_while hp hc hb) fun E σ H h => ?_
  obtain ⟨f, env, st, S, N, h⟩ := h
  refine ⟨fun m σ H => ∃ f env st, Sim ⟨X.K, cl⟩ f H st ∧ EnvOk ⟨X.K, cl⟩ f H σ env ∧ RunS ⟨X.K, cl⟩ Wx f H (wLoop t b m env st) E, ⟨FUEL, f, env, st, S, N, h⟩, ?_⟩
  rintro m σ2 H2 ⟨f2, env2, st2, S2, N2, r2⟩
  cases m with
  | zero => exact r2.elim
  | succ m =>
    refine RunS.bind S2 N2 r2 fun v H3 f3 d st3 A3 h3 => ?_
    have r := A3.rel
    subst r
    cases v with
    | false => rw [if_neg (by decide)]; exact h3.nxt A3.sim A3.env
    | true =>
      rw [if_pos rfl]
      refine ⟨fun σ' H' => ∃ f env st, Sim ⟨X.K, cl⟩ f H' st ∧ EnvOk ⟨X.K, cl⟩ f H' σ' env ∧ RunS ⟨X.K, cl⟩ Wx f H' (wLoop t b m env st) E, fun σ' H' q => ⟨m, Nat.lt_succ_self _, q⟩, f3, env2, st3, A3.sim, A3.env, ?_⟩
      cases eb : b env2 st3 with
      | no => simp only [eb] at h3; exact h3
      | exc x a c => simp only [eb] at h3; exact h3
      | ok fl e5 s5 =>
        simp only [eb] at h3
        cases fl with
        | nx => exact fun σ6 f6 H6 x6 S6 N6 => ⟨f6, e5, s5, S6, N6, RunS.shift (r := wLoop t b m e5 s5) h3 x6⟩
        | ct => exact fun σ6 f6 H6 x6 S6 N6 => ⟨f6, e5, s5, S6, N6, RunS.shift (r := wLoop t b m e5 s5) h3 x6⟩
        | bk => exact h3
        | rt d => exact h3
end
end RR

set_option maxRecDepth 100000
set_option maxHeartbeats 1000000
namespace RR
open PySem PySem.Spec PyProof.Rows L2

/-! ### list comprehensions -/
def wipeE (env : Env) : List Nat → Env
  | [] => env
  | v :: vs => (wipeE env vs).set v none
theorem EnvOk.unset {W f H σ env} (h : EnvOk W f H σ env) (i : Nat) : EnvOk W f H (σ.set i none) (env.set i none) := by
  refine ⟨by simp [h.len], fun j d q => ?_, h.phi⟩
  by_cases hj : i = j
  · subst hj
    rw [List.getElem?_set] at q
    simp at q
  · rw [List.getElem?_set_ne hj] at q ⊢
    exact h.val j d q
theorem EnvOk.wipe {W f H σ env} (h : EnvOk W f H σ env) : ∀ vs : List Nat, EnvOk W f H (L2.wipe σ vs) (wipeE env vs)
  | [] => h
  | v :: vs => by
    unfold L2.wipe wipeE
    exact (EnvOk.wipe h vs).unset v
theorem wipe_get (σ : L2.St) (i : Nat) : ∀ vs : List Nat, (L2.wipe σ vs)[i]? = if i ∈ vs then (σ[i]?).map (fun _ => none) else σ[i]?
  | [] => by simp [L2.wipe]
  | v :: vs => by
    unfold L2.wipe
    by_cases hv : v = i
    · subst hv
      rw [List.getElem?_set]
      simp only [wipe_length, List.mem_cons, true_or, if_true]
      by_cases hl : v < σ.length
      · simp [hl]
      · simp [hl]
    · rw [List.getElem?_set_ne hv, wipe_get σ i vs]
      have e : (i ∈ v :: vs) = (i ∈ vs) := by simp [Ne.symm hv]
      simp only [e]
theorem wipe_same {σ σ' : L2.St} {ws vs : List Nat} (hl : σ'.length = (L2.wipe σ vs).length) (hw : ∀ i ∈ ws, i ∈ vs) (h : ∀ i, i ∉ ws → σ'[i]? = (L2.wipe σ vs)[i]?) : L2.wipe σ' vs = L2.wipe σ vs := by
  apply List.ext_getElem?
  intro i
  rw [wipe_get, wipe_get]
  rw [wipe_length] at hl
  by_cases hi : i ∈ vs
  · rw [if_pos hi, if_pos hi]
    by_cases hb : i < σ.length
    · rw [List.getElem?_eq_getElem hb, List.getElem?_eq_getElem (hl ▸ hb)]; rfl
    · rw [List.getElem?_eq_none (by omega), List.getElem?_eq_none (by omega)]
  · rw [if_neg hi, if_neg hi, h i (fun z => hi (hw i z)), wipe_get, if_neg hi]
def Rs.nx {A : Type} (r : Rs A) : Rs A := match r with
  | .ok a st => .ok a st
  | _ => .no
def cLoop (s : Src) (g : D → MS) (tt : ME Bool) (te : ME D) (env0 : Env) (n : Nat) : Nat → Nat → Store → Rs Unit
  | 0, _, _ => .no
  | m + 1, k, st => match s.get st k with
    | none => .no
    | some none => .ok () st
    | some (some x) => match g x env0 st with
      | .ok .nx env1 st1 => (tt env1 st1).nx.bind fun b st2 => match b with
        | true => (te env1 st2).nx.bind fun y st3 => match cellL st3 (.ref n) with
          | some (_, acc) => if acc.length < 16777216 then cLoop s g tt te env0 n m (k + 1) (st3.set n (.lst (acc ++ [y]))) else .no
          | none => .no
        | false => cLoop s g tt te env0 n m (k + 1) st2
      | _ => .no
/-- the new list stands in the store -/
def mLcN (it : ME Src) (g : D → MS) (tt : ME Bool) (te : ME D) (vs : List Nat) : ME D := mbind it fun s env st => (cLoop s g tt te (wipeE env vs) st.length FUEL 0 (st ++ [.lst []])).bind fun _ st' => .ok (.ref st.length) st'
abbrev Wx0 : WX := fun _ _ _ _ => False
theorem nx_bind {A B A' B' : Type} {W Wx f H σ env st σ'} {rel : List Addr → Hp → B → A → Prop} {rel' : List Addr → Hp → B' → A' → Prop} {m : ME A} {k : A → Store → Rs A'} {Q : B' → Hp → Prop} {Q' : B → Hp → Prop}
    (S : Sim W f H st) (N : EnvOk W f H σ' env) (h : RunAt W Wx rel' f H σ ((m env st).nx.bind k) Q)
    (hk : ∀ v H1 f1 d st1, Ext f H f1 H1 → Sim W f1 H1 st1 → rel f1 H1 v d → RunAt W Wx rel' f1 H1 σ (k d st1) Q → Q' v H1) : rdG W Wx0 rel m σ' H Q' := by
  refine ⟨f, env, st, S, N, ?_⟩
  cases e : m env st with
  | ok d st1 =>
    rw [e] at h
    exact fun v f1 H1 x s1 r => hk v H1 f1 d st1 x s1 r (RunAt.shift (r := k d st1) h x)
  | exc x st1 => rw [e] at h; exact h.elim
  | no => rw [e] at h; exact h.elim
theorem bind_bind {A B C : Type} (r : Rs A) (k : A → Store → Rs B) (k' : B → Store → Rs C) : (r.bind k).bind k' = r.bind fun a st => (k a st).bind k' := by cases r <;> rfl
theorem rd_lc {K : PySem.W.Frag} {cl : Ctx} {Wx : WX} {it : ME Src} {g : D → MS} {ws vs : List Nat} {tt : ME Bool} {te : ME D} (hw : ∀ i ∈ ws, i ∈ vs) {σ H Q} (h : rdE ⟨K, cl⟩ Wx (mLcN it g tt te vs) σ H Q) :
    tLc (rdG ⟨K, cl⟩ Wx (fun f H J s => Walks1 ⟨K, cl⟩ f H J s) it) (rdTg ⟨K, cl⟩ Wx0 ws g) (rdT ⟨K, cl⟩ Wx0 tt) (rdE ⟨K, cl⟩ Wx0 te) vs σ H Q := by
  obtain ⟨f, env, st, S, N, h⟩ := h
  refine h.bind S N fun J H1 f1 s st1 A1 h1 => ?_
  intro D hD
  have w := A1.rel
  have hn : f1.length = st1.length := A1.sim.len
  have x0 : Ext f1 H1 (f1 ++ [D]) (upd H1 D (.lst [])) := Ext.cell A1.sim hD
  have S0 : Sim ⟨K, cl⟩ (f1 ++ [D]) (upd H1 D (.lst [])) (st1 ++ [.lst []]) := A1.sim.grow hD ⟨[], upd_same, .nil⟩
  have N0 : EnvOk ⟨K, cl⟩ f1 H1 (L2.wipe σ vs) (wipeE env vs) := A1.env.wipe vs
  refine ⟨fun i m H => ∃ f st, Ext (f1 ++ [D]) (upd H1 D (.lst [])) f H ∧ Sim ⟨K, cl⟩ f H st ∧ RunAt ⟨K, cl⟩ Wx (Rep ⟨K, cl⟩) f H σ ((cLoop s g tt te (wipeE env vs) st1.length m i st).bind fun _ st' => .ok (.ref st1.length) st') Q,
    ⟨FUEL, f1 ++ [D], st1 ++ [.lst []], .refl _ _, S0, h1.shift x0⟩, ?_⟩
  rintro i m H2 ⟨f2, st2, x2, S2, r2⟩
  have hfD : f2[st1.length]? = some D := by
    obtain ⟨g', rfl⟩ := x2.pre
    rw [List.append_assoc, List.getElem?_append_right (by omega)]
    simp [hn]
  cases m with
  | zero => exact r2.elim
  | succ m =>
    simp only [cLoop] at r2
    cases eg : s.get st2 i with
    | none => rw [eg] at r2; exact r2.elim
    | some o =>
      rw [eg] at r2
      cases o with
      | none => exact .inl ⟨(w i f2 H2 st2 (x0.trans x2) S2).2 eg, r2.okv S2 (.ref hfD)⟩
      | some d =>
        obtain ⟨go, yl⟩ := (w i f2 H2 st2 (x0.trans x2) S2).1 d eg
        refine .inr ⟨go, fun H' => ∃ f st, Ext (f1 ++ [D]) (upd H1 D (.lst [])) f H' ∧ Sim ⟨K, cl⟩ f H' st ∧ RunAt ⟨K, cl⟩ Wx (Rep ⟨K, cl⟩) f H' σ ((cLoop s g tt te (wipeE env vs) st1.length m (i + 1) st).bind fun _ st' => .ok (.ref st1.length) st') Q,
          fun H' q => ⟨m, Nat.lt_succ_self _, q⟩, fun y H3 hy => ?_⟩
        obtain ⟨x3, S3, r3⟩ := yl y H3 hy
        have r2 := r2.shift x3
        have N3 : EnvOk ⟨K, cl⟩ f2 H3 (L2.wipe σ vs) (wipeE env vs) := N0.ext ((x0.trans x2).trans x3)
        refine ⟨f2, wipeE env vs, st2, d, S3, N3, r3, ?_⟩
        cases e : g d (wipeE env vs) st2 with
        | no => simp only [e] at r2; exact r2.elim
        | exc x a b => simp only [e] at r2; exact r2.elim
        | ok fl e1 s1 =>
          simp only [e] at r2
          cases fl with
          | nx =>
            intro σ4 f4 H4 x4 S4 N4 ⟨fr1, fr2⟩
            refine ⟨wipe_same fr1 hw fr2, ?_⟩
            have r4 := RunAt.shift r2 x4
            simp only [bind_bind] at r4
            refine nx_bind S4 N4 r4 fun b H5 f5 b' st5 x5 S5 rb r5 => ?_
            subst rb
            have x15 := (((x2.trans x3).trans x4).trans x5)
            cases b with
            | false => rw [if_neg (by decide)]; exact ⟨f5, st5, x15, S5, r5⟩
            | true =>
              rw [if_pos rfl]
              simp only [bind_bind] at r5
              refine nx_bind S5 (N4.ext x5) r5 fun yv H6 f6 yd st6 x6 S6 ry r6 => ?_
              have x16 := x15.trans x6
              cases ec : cellL st6 (.ref st1.length) with
              | none => simp only [ec] at r6; exact r6.elim
              | some q =>
                obtain ⟨j, acc⟩ := q
                simp only [ec] at r6
                have hfD6 : f6[st1.length]? = some D := by
                  obtain ⟨g', rfl⟩ := x16.pre
                  rw [List.append_assoc, List.getElem?_append_right (by omega)]
                  simp [hn]
                obtain ⟨a', vs', e1, hf', hH', rp⟩ := S6.cellL (.ref hfD6) ec
                cases e1
                split at r6
                · rename_i hz
                  refine ⟨vs', hH', by rw [rp.length]; exact hz, f6, st6.set st1.length (.lst (acc ++ [yd])), ?_, ?_, ?_⟩
                  · exact x16.trans (Ext.write (List.mem_of_getElem? hfD6))
                  · exact S6.write hfD6 ⟨_, upd_same, (rp.append (.cons ry .nil)).mono (Ext.write (List.mem_of_getElem? hfD6)).lean⟩
                  · exact r6.shift (Ext.write (List.mem_of_getElem? hfD6))
                · exact r6.elim
          | _ => exact r2.elim
section
variable {X : Cx} {cl : Ctx} {Wx : WX}
abbrev PVTs (X : Cx) (cl : Ctx) (Wx : WX) (ifs : List Expr) (m : ME Bool) : Prop := PTs X ifs (rdT ⟨X.K, cl⟩ Wx m)
theorem vts_nil : PVTs X cl Wx [] (mret true) := ⟨fun pins s σ H Q I h => by
  obtain ⟨f, env, st, S, N, h⟩ := h
  exact pts_nil.run pins s σ H Q I (h.okv S rfl)⟩
theorem vts_one {c : Expr} {m : ME Bool} (h : PVT X cl Wx c m) : PVTs X cl Wx [c] m := pts_one h
theorem pv_lc {elt tg iter : Expr} {ifs : List Expr} {scope : Scope} {own : List (Str × Nat)} {ws : List Nat} {pos : Pos} {it : ME Src} {g : D → MS} {tt : ME Bool} {te : ME D} (hc : X.calm = true) (hN : X.N.Nodup) (hi : PVI X cl Wx tg iter it) (ok : BlkOk X.N X.env.scope scope own)
    (hg : ∀ (s : Shared) (H : Hp) (C : Addr) (clo : List (Str × Addr)) (fp : List Addr), PVG (X.blk s H scope (compEnvC scope clo C X.env) fp) cl Wx0 ws tg g)
    (ht : ∀ (s : Shared) (H : Hp) (C : Addr) (clo : List (Str × Addr)) (fp : List Addr), PVTs (X.blk s H scope (compEnvC scope clo C X.env) fp) cl Wx0 ifs tt)
    (he : ∀ (s : Shared) (H : Hp) (C : Addr) (clo : List (Str × Addr)) (fp : List Addr), PV (X.blk s H scope (compEnvC scope clo C X.env) fp) cl Wx0 elt te)
    (hw : ∀ i ∈ ws, i ∈ own.map (·.2) := by decide) (hs : ∀ x, foldedSetIterable iter X.env x = pure x := by intro _; rfl) :
    PV X cl Wx (.ListComp elt [⟨tg, iter, ifs, 0⟩] scope pos) (mLcN it g tt te (own.map (·.2))) :=
  PE.imp (pe_lc hc hN hi ok hg ht he hs) fun σ H Q h => rd_lc (Wx := Wx) hw h
/-- name = [..] on one line -/
theorem vs_setLc {i : Nat} {y : Str} {py : Pos} {elt tg iter : Expr} {ifs : List Expr} {scope : Scope} {own : List (Str × Nat)} {ws : List Nat} {pos spos : Pos} {it : ME Src} {g : D → MS} {tt : ME Bool} {te : ME D} (hc : X.calm = true) (hN : X.N.Nodup) (hy : X.N[i]? = some y) (hyl : X.env.scope.names.lookup y = some .local)
    (hsw : swapsWith (.ListComp elt [⟨tg, iter, ifs, 0⟩] scope pos) (some (.Name y py)) spos.line X.env = pure true) (hi : PVI X cl Wx tg iter it) (ok : BlkOk X.N X.env.scope scope own)
    (hg : ∀ (s : Shared) (H : Hp) (C : Addr) (clo : List (Str × Addr)) (fp : List Addr), PVG (X.blk s H scope (compEnvC scope clo C X.env) fp) cl Wx0 ws tg g)
    (ht : ∀ (s : Shared) (H : Hp) (C : Addr) (clo : List (Str × Addr)) (fp : List Addr), PVTs (X.blk s H scope (compEnvC scope clo C X.env) fp) cl Wx0 ifs tt)
    (he : ∀ (s : Shared) (H : Hp) (C : Addr) (clo : List (Str × Addr)) (fp : List Addr), PV (X.blk s H scope (compEnvC scope clo C X.env) fp) cl Wx0 elt te)
    (hw : ∀ i ∈ ws, i ∈ own.map (·.2) := by decide) (hs : ∀ x, foldedSetIterable iter X.env x = pure x := by intro _; rfl) :
    PVS X cl Wx (.Assign [.Name y py] (.ListComp elt [⟨tg, iter, ifs, 0⟩] scope pos) spos) (sSet i (mLcN it g tt te (own.map (·.2)))) := by
  refine PS.imp (ps_setLc (wi := rdG ⟨X.K, cl⟩ Wx (fun f H J s => Walks1 ⟨X.K, cl⟩ f H J s) it) (g := rdTg ⟨X.K, cl⟩ Wx0 ws g) (tt := rdT ⟨X.K, cl⟩ Wx0 tt) (te := rdE ⟨X.K, cl⟩ Wx0 te) hc hN hy hyl hsw hi ok hg ht he hs) fun E σ H h => ?_
  obtain ⟨f, env, st, S, N, h⟩ := h
  refine rd_lc hw (RunS.bind (rel := Rep ⟨X.K, cl⟩) S N h fun v H1 f1 d st1 A1 h1 => ?_)
  exact h1 _ f1 H1 (.refl _ _) A1.sim (A1.env.set A1.rel i)
theorem vs_setLcL {i k : Nat} {y : Str} {py : Pos} {elt tg iter : Expr} {ifs : List Expr} {scope : Scope} {own : List (Str × Nat)} {ws : List Nat} {pos spos : Pos} {it : ME Src} {g : D → MS} {tt : ME Bool} {te : ME D} (hc : X.calm = true) (hN : X.N.Nodup) (hy : X.N[i]? = some y) (hyl : X.env.scope.names.lookup y = some .local)
    (hsw : swapsWith (.ListComp elt [⟨tg, iter, ifs, 0⟩] scope pos) (some (.Name y py)) spos.line X.env = pure true) (hi : PVI X cl Wx tg iter it) (ok : BlkOk X.N X.env.scope scope own)
    (hg : ∀ (s : Shared) (H : Hp) (C : Addr) (clo : List (Str × Addr)) (fp : List Addr), PVG (X.blk s H scope (compEnvC scope clo C X.env) fp) cl Wx0 ws tg g)
    (ht : ∀ (s : Shared) (H : Hp) (C : Addr) (clo : List (Str × Addr)) (fp : List Addr), PVTs (X.blk s H scope (compEnvC scope clo C X.env) fp) cl Wx0 ifs tt)
    (he : ∀ (s : Shared) (H : Hp) (C : Addr) (clo : List (Str × Addr)) (fp : List Addr), PV (X.blk s H scope (compEnvC scope clo C X.env) fp) cl Wx0 elt te)
    (hw : ∀ i ∈ ws, i ∈ own.map (·.2) := by decide) (hs : ∀ x, foldedSetIterable iter X.env x = pure x := by intro _; rfl) :
    PVS X cl Wx (.Assign [.Name y py] (.ListComp elt [⟨tg, iter, ifs, 0⟩] scope pos) spos) (sSet i (mLeave k (mLcN it g tt te (own.map (·.2))))) := by
  refine PS.imp (ps_setLc (wi := rdG ⟨X.K, cl⟩ Wx (fun f H J s => Walks1 ⟨X.K, cl⟩ f H J s) it) (g := rdTg ⟨X.K, cl⟩ Wx0 ws g) (tt := rdT ⟨X.K, cl⟩ Wx0 tt) (te := rdE ⟨X.K, cl⟩ Wx0 te) hc hN hy hyl hsw hi ok hg ht he hs) fun E σ H h => ?_
  obtain ⟨f, env, st, S, N, h⟩ := h
  refine rd_lc hw (rd_leave k (RunS.bind (rel := Rep ⟨X.K, cl⟩) S N h fun v H1 f1 d st1 A1 h1 => ?_))
  exact h1 _ f1 H1 (.refl _ _) A1.sim (A1.env.set A1.rel i)
end
end RR

set_option maxRecDepth 100000
set_option maxHeartbeats 1000000
namespace RR
open PySem PySem.Spec PyProof.Rows L2

/-! ### the heart's rules with wishes at the caller's slots -/
section
variable {X : Cx} {CX : CXT} {k : Nat} {f C : Addr} {fd : FuncData} {ps : List Str} {sp : Sp} {dvs : List V} {ds : List Value} {E : L2.St → XK} {x m : Str} {p pos apos : Pos} {e o : Expr} {es : List Expr} {ta : TE} {t : TA}
theorem pe_call0SD (F : FnOk X.prog X.w X.K X.mg X.base CX k f fd ps sp) (hr : Room k X.A) (hg : Gl X x) (hm : X.mg x = some (.ref f)) (hk : PySem.W.keepIn X.K (.ref f) = true) (hb : Binds X.K fd ps ds) (hd : Vals dvs ds) (hx : ∀ σ, PassesAt CX X σ (E σ))
    (hdb : (x == ("__debug__" : Str)) = false := by decide) : PE X (.Call (.Name x p) [] [] pos) (tCallSD sp dvs E tNil) := by
  refine ⟨fun pins s σ H Q I h => ?_⟩
  refine wpAny_Call_Name_kw (ld_glob I hg hm ?_ hdb)
  exact PySem.W.callWith_K0 I.kIn hk (run_fnSD (us := []) F hr hb hd (hx σ) I .nil h)
def tMethSD (C : Addr) (m : Str) (sp : Sp) (dvs : List V) (E : L2.St → XK) (ta : TE) (t : TA) : TE := fun σ H Q => ta σ H fun x H1 => ∃ a dx fs, x = .ref a ∧ H1 a = some (.ins C dx fs) ∧ fs.lookup m = none ∧
  t σ H1 fun vs H2 => sp (x :: (vs ++ dvs)) H2 Q (E σ)
theorem pe_methSD {pl : Sem Bool} (he : PE X o ta) (c : Cls X.K C) (hm : Meth X.K C m f) (F : FnOk X.prog X.w X.K X.mg X.base CX k f fd ps sp) (hr : Room k X.A) (hb : Binds X.K fd ps ds) (hd : Vals dvs ds) (hx : ∀ σ, PassesAt CX X σ (E σ)) (ha : PA X (e :: es) t)
    (hst : starEach (e :: es) X.env = (false, eval e X.env) :: starEach es X.env := by rfl) (hpl : (backTo pos (starEach es X.env)).any (·.1) = false := by rfl)
    (ht : eval (.Call (.Attribute o m apos) (e :: es) [] pos) X.env = (do
      let ov ← eval o X.env
      standAt apos.atName
      let (f, first) ← holding [ov] (getMethod ov m pl)
      callWith pos f first (backTo pos (starEach (e :: es) X.env)) (backToKw pos (keywordEach [] X.env))) := by rfl) :
    PE X (.Call (.Attribute o m apos) (e :: es) [] pos) (tMethSD C m sp dvs E ta t) := by
  refine ⟨fun pins s σ H Q I h => ?_⟩
  refine PySem.W.methodCall_KW (pl := pl) (thn (he.run pins s σ H _ I h) fun u s1 ⟨x, H1, I1, rx, a, dx, fs, ex, ea, l, q⟩ => ?_) ht
  subst ex
  obtain rfl : u = Value.ref a := rx
  refine getmeth_ok I1 ea c hm l ?_
  refine PySem.W.callWith_K (first := [.ref a]) (h₀ := X.base) I.ok.mod.kin hm.kp (thn (ha.run pos pins s1 σ H1 _ I1 q) fun us s2 ⟨vs, H2, I2, r, q2⟩ => ⟨I2.kIn, ?_⟩) hst hpl
  exact run_fnSD (us := .ref a :: us) (vs := .ref a :: vs) F hr hb hd (hx σ) I2 (.cons rfl r) q2
theorem pe_meth0SD {pl : Sem Bool} (he : PE X o ta) (c : Cls X.K C) (hm : Meth X.K C m f) (F : FnOk X.prog X.w X.K X.mg X.base CX k f fd ps sp) (hr : Room k X.A) (hb : Binds X.K fd ps ds) (hd : Vals dvs ds) (hx : ∀ σ, PassesAt CX X σ (E σ))
    (ht : eval (.Call (.Attribute o m apos) [] [] pos) X.env = (do
      let ov ← eval o X.env
      standAt apos.atName
      let (f, first) ← holding [ov] (getMethod ov m pl)
      callWith pos f first (backTo pos (starEach [] X.env)) (backToKw pos (keywordEach [] X.env))) := by rfl) :
    PE X (.Call (.Attribute o m apos) [] [] pos) (tMethSD C m sp dvs E ta tNil) := by
  refine ⟨fun pins s σ H Q I h => ?_⟩
  refine PySem.W.methodCall_KW (pl := pl) (thn (he.run pins s σ H _ I h) fun u s1 ⟨x, H1, I1, rx, a, dx, fs, ex, ea, l, q⟩ => ?_) ht
  subst ex
  obtain rfl : u = Value.ref a := rx
  refine getmeth_ok I1 ea c hm l ?_
  exact PySem.W.callWith_K0 (first := [.ref a]) I1.kIn hm.kp (run_fnSD (us := [.ref a]) (vs := [.ref a]) F hr hb hd (hx σ) I1 (.cons rfl .nil) q)
def tMakeSD (C : Addr) (sp : Sp) (dvs : List V) (E : L2.St → XK) (t : TA) : TE := fun σ H Q => t σ H fun vs H1 => ∀ x dx, H1 x = none → H1 dx = none → dx ≠ x →
  sp (.ref x :: (vs ++ dvs)) (upd (upd H1 dx (.own x)) x (.ins C dx [])) (fun v H2 => v = .non ∧ Q (.ref x) H2) (E σ)
theorem run_makeSD {pins : List (Addr × Obj)} {σ : L2.St} {H : Hp} {s : Shared} {Q : VK} {us : List Value} {vs : List V} (M : Mk X.K C f) (F : FnOk X.prog X.w X.K X.mg X.base CX k f fd ps sp) (hr : Room (k + 1) X.A) (hb : Binds X.K fd ps ds) (hd : Vals dvs ds)
    (hx : PassesAt CX X σ (E σ)) (I : Inv X pins σ H s) (r : Vals vs us)
    (h : ∀ x dx, H x = none → H dx = none → dx ≠ x → sp (.ref x :: (vs ++ dvs)) (upd (upd H dx (.own x)) x (.ins C dx [])) (fun v H2 => v = .non ∧ Q (.ref x) H2) (E σ)) :
    wpAny (model X.prog X.w) X.A (call (.ref C) us) (EP X pins σ Q) X.xe s := by
  have hq := h (s.heap.objs.size + 1) s.heap.objs.size (I.hok.fresh (Nat.le_succ _)) (I.hok.fresh (Nat.le_refl _)) (Nat.ne_of_lt (Nat.lt_succ_self _))
  have I2 := Inv.made (C := C) I
  have r2 : Vals (V.ref (s.heap.objs.size + 1) :: (vs ++ dvs)) (Value.ref (s.heap.objs.size + 1) :: (us ++ ds)) := .cons rfl (r.append hd)
  have hl : (Value.ref (s.heap.objs.size + 1) :: us ++ ds).length = ps.length := by
    have e := r2.length
    rw [F.len _ _ _ _ hq] at e
    exact e.symm
  refine wpAny_call (make_map (f := f) I.kIn M.makes M.init (beq_iff_eq.mp M.fn) (codeAny_mono (F.run _ X.stack _ _ ⟨Value.ref (s.heap.objs.size + 1) :: us, []⟩ (Value.ref (s.heap.objs.size + 1) :: (us ++ ds)) _ _ (E σ) (hr.make C us [])
    (I2.env0.make C us []) (hb _ (Value.ref (s.heap.objs.size + 1) :: us) I2.kIn hl) r2 hq) fun r s' hq' => ?_))
  cases r with
  | error e => exact hx pins _ _ e s' I2 hq'
  | ok fl =>
    cases fl with
    | ret u =>
      obtain ⟨v, H', I3, rv, ev, q3⟩ := I2.after hq'
      subst ev
      exact ⟨rv, ⟨V.ref (s.heap.objs.size + 1), H', I3, rfl, q3⟩⟩
    | next => exact False.elim hq'
    | brk => exact False.elim hq'
    | cont => exact False.elim hq'
theorem pe_makeSD (M : Mk X.K C f) (F : FnOk X.prog X.w X.K X.mg X.base CX k f fd ps sp) (hr : Room (k + 1) X.A) (hg : Gl X x) (hm : X.mg x = some (.ref C)) (hb : Binds X.K fd ps ds) (hd : Vals dvs ds) (hx : ∀ σ, PassesAt CX X σ (E σ))
    (ha : PA X (e :: es) t) (hdb : (x == ("__debug__" : Str)) = false := by decide) (he : starEach (e :: es) X.env = (false, eval e X.env) :: starEach es X.env := by rfl) (hpl : (backTo pos (starEach es X.env)).any (·.1) = false := by rfl) :
    PE X (.Call (.Name x p) (e :: es) [] pos) (tMakeSD C sp dvs E t) := by
  refine ⟨fun pins s σ H Q I h => ?_⟩
  refine wpAny_Call_Name_kw (ld_glob I hg hm ?_ hdb)
  refine PySem.W.callWith_K (h₀ := X.base) I.ok.mod.kin M.kp (thn (ha.run pos pins s σ H _ I h) fun us s1 ⟨vs, H1, I1, r, q⟩ => ⟨I1.kIn, ?_⟩) he hpl
  exact run_makeSD M F hr hb hd (hx σ) I1 r q
end

/-! ### the promise of a def, by data -/
def spF (W : Wd) (n : Nat) (sem : List D → Store → Rs D) : Sp := fun vs H Q E => vs.length = n ∧ ∃ f st ds, Sim W f H st ∧ Reps W f H vs ds ∧ RunAt W (fun c dd _ H => E c dd H) (Rep W) f H [] (sem ds st) Q
/-- a def of the text keeps a meaning on data -/
abbrev FnD (P : Program) (w : World) (K : PySem.W.Frag) (cl : Ctx) (mg : Str → Option Value) (base : Heap) (k : Nat) (f : Addr) (fd : FuncData) (ps : List Str) (sem : List D → Store → Rs D) : Prop :=
  FnOk P w K mg base (L2.CX P w) k f fd ps (spF ⟨K, cl⟩ ps.length sem)
section
variable {X : Cx} {cl : Ctx} {Wx : WX} {k : Nat} {f : Addr} {fd : FuncData} {ps : List Str} {sem : List D → Store → Rs D} {dvs : List V} {dds : List D} {ds : List Value} {x m : Str} {p pos apos : Pos} {e o : Expr} {es : List Expr} {mo : ME D} {r : ME (List D)}
/-- a call: the arguments, then the defaults -/
def mFn (sem : List D → Store → Rs D) (dds : List D) (r : ME (List D)) : ME D := mbind r fun ds _ st => sem (ds ++ dds) st
theorem RunAt.wx {A B : Type} {W : Wd} {Wx Wx' : WX} {rel : List Addr → Hp → B → A → Prop} {f H σ σ'} {r : Rs A} {Q : B → Hp → Prop} (h : RunAt W Wx rel f H σ r Q) (hw : ∀ c dd H, Wx c dd σ H → Wx' c dd σ' H) : RunAt W Wx' rel f H σ' r Q := by
  cases r with
  | ok d st => exact h
  | exc e st => exact fun c dd f' H' x s q => hw _ _ _ (h c dd f' H' x s q)
  | no => exact h
theorem spF_of {W : Wd} {n : Nat} {f H st σ} {vs : List V} {ds : List D} {Q : VK} (S : Sim W f H st) (r : Reps W f H vs ds) (h : RunAt W Wx (Rep W) f H σ (sem ds st) Q) (hn : ds.length = n) : spF W n sem vs H Q (WE Wx σ) :=
  ⟨r.length.trans hn, f, st, ds, S, r, h.wx fun _ _ _ z => z⟩
/-- a meaning that is none but for n arguments -/
def HasArity (n : Nat) (sem : List D → Store → Rs D) : Prop := ∀ ds st, ds.length ≠ n → sem ds st = .no
theorem arity_of {W : Wd} {n : Nat} {f H st σ} {ds : List D} {Q : VK} (hA : HasArity n sem) (h : RunAt W Wx (Rep W) f H σ (sem ds st) Q) : ds.length = n := by
  by_cases e : ds.length = n
  · exact e
  · rw [hA ds st e] at h; exact h.elim
theorem pv_call (F : FnD X.prog X.w X.K cl X.mg X.base k f fd ps sem) (hA : HasArity ps.length sem) (hr : Room k X.A) (hg : Gl X x) (hm : X.mg x = some (.ref f)) (hk : PySem.W.keepIn X.K (.ref f) = true) (hb : Binds X.K fd ps ds) (hd : Vals dvs ds) (hD : ∀ f H, Reps ⟨X.K, cl⟩ f H dvs dds) (tk : Takes X Wx)
    (ha : PVA X cl Wx (e :: es) r) (hdb : (x == ("__debug__" : Str)) = false := by decide) (he : starEach (e :: es) X.env = (false, eval e X.env) :: starEach es X.env := by rfl) (hpl : (backTo pos (starEach es X.env)).any (·.1) = false := by rfl) :
    PV X cl Wx (.Call (.Name x p) (e :: es) [] pos) (mFn sem dds r) := by
  refine PE.imp (pe_callSD F hr hg hm hk hb hd (fun σ => passAt tk σ) ha hdb he hpl) fun σ H Q h => ?_
  obtain ⟨f, env, st, S, N, h⟩ := h
  refine h.bind S N fun u H1 f1 x st1 A1 h1 => ?_
  exact spF_of A1.sim (A1.rel.append (hD _ _)) h1 (arity_of hA h1)
theorem pv_call0 (F : FnD X.prog X.w X.K cl X.mg X.base k f fd ps sem) (hA : HasArity ps.length sem) (hr : Room k X.A) (hg : Gl X x) (hm : X.mg x = some (.ref f)) (hk : PySem.W.keepIn X.K (.ref f) = true) (hb : Binds X.K fd ps ds) (hd : Vals dvs ds) (hD : ∀ f H, Reps ⟨X.K, cl⟩ f H dvs dds) (tk : Takes X Wx)
    (hdb : (x == ("__debug__" : Str)) = false := by decide) : PV X cl Wx (.Call (.Name x p) [] [] pos) (mFn sem dds aNil) := by
  refine PE.imp (pe_call0SD F hr hg hm hk hb hd (fun σ => passAt tk σ) hdb) fun σ H Q h => ?_
  obtain ⟨f, env, st, S, N, h⟩ := h
  exact spF_of (ds := [] ++ dds) S (Reps.append .nil (hD _ _)) h (arity_of hA h)
/-- o.m(..), o an instance of the class t -/
def mMt (t : Nat) (m : Str) (sem : List D → Store → Rs D) (dds : List D) (mo : ME D) (r : ME (List D)) : ME D := mbind mo fun d env st => match insOf st d with
  | some (t', ns, xs) => if t' = t ∧ fget ns xs m = none then mbind r (fun ds _ st => sem (d :: (ds ++ dds)) st) env st else .no
  | none => .no
theorem pv_meth {t : Nat} {pl : Sem Bool} (ho : PV X cl Wx o mo) (c : Cls X.K (cl t)) (hm : Meth X.K (cl t) m f) (F : FnD X.prog X.w X.K cl X.mg X.base k f fd ps sem) (hA : HasArity ps.length sem) (hr : Room k X.A) (hb : Binds X.K fd ps ds) (hd : Vals dvs ds) (hD : ∀ f H, Reps ⟨X.K, cl⟩ f H dvs dds) (tk : Takes X Wx) (ha : PVA X cl Wx (e :: es) r)
    (hst : starEach (e :: es) X.env = (false, eval e X.env) :: starEach es X.env := by rfl) (hpl : (backTo pos (starEach es X.env)).any (·.1) = false := by rfl)
    (ht : eval (.Call (.Attribute o m apos) (e :: es) [] pos) X.env = (do
      let ov ← eval o X.env
      standAt apos.atName
      let (f, first) ← holding [ov] (getMethod ov m pl)
      callWith pos f first (backTo pos (starEach (e :: es) X.env)) (backToKw pos (keywordEach [] X.env))) := by rfl) :
    PV X cl Wx (.Call (.Attribute o m apos) (e :: es) [] pos) (mMt t m sem dds mo r) := by
  refine PE.imp (pe_methSD (pl := pl) ho c hm F hr hb hd (fun σ => passAt tk σ) ha hst hpl ht) fun σ H Q h => ?_
  obtain ⟨f, env, st, S, N, h⟩ := h
  refine h.bind S N fun u H1 f1 x st1 A1 h1 => ?_
  split at h1
  · rename_i t' ns xs eq
    split at h1
    · rename_i hc
      obtain ⟨rfl, hn⟩ := hc
      obtain ⟨a, dx, vs, rfl, g1, g2, g3⟩ := A1.sim.ins A1.rel eq
      refine ⟨a, dx, _, rfl, g1, (rep_fget g2 g3).2 hn, ?_⟩
      refine h1.bind A1.sim A1.env fun us H2 f2 dz st2 A2 h2 => ?_
      exact spF_of A2.sim (.cons (A1.rel.mono A2.ext.lean) (A2.rel.append (hD _ _))) h2 (arity_of hA h2)
    · exact h1.elim
  · exact h1.elim
theorem pv_meth0 {t : Nat} {pl : Sem Bool} (ho : PV X cl Wx o mo) (c : Cls X.K (cl t)) (hm : Meth X.K (cl t) m f) (F : FnD X.prog X.w X.K cl X.mg X.base k f fd ps sem) (hA : HasArity ps.length sem) (hr : Room k X.A) (hb : Binds X.K fd ps ds) (hd : Vals dvs ds) (hD : ∀ f H, Reps ⟨X.K, cl⟩ f H dvs dds) (tk : Takes X Wx)
    (ht : eval (.Call (.Attribute o m apos) [] [] pos) X.env = (do
      let ov ← eval o X.env
      standAt apos.atName
      let (f, first) ← holding [ov] (getMethod ov m pl)
      callWith pos f first (backTo pos (starEach [] X.env)) (backToKw pos (keywordEach [] X.env))) := by rfl) :
    PV X cl Wx (.Call (.Attribute o m apos) [] [] pos) (mMt t m sem dds mo aNil) := by
  refine PE.imp (pe_meth0SD (pl := pl) ho c hm F hr hb hd (fun σ => passAt tk σ) ht) fun σ H Q h => ?_
  obtain ⟨f, env, st, S, N, h⟩ := h
  refine h.bind S N fun u H1 f1 x st1 A1 h1 => ?_
  split at h1
  · rename_i t' ns xs eq
    split at h1
    · rename_i hc
      obtain ⟨rfl, hn⟩ := hc
      obtain ⟨a, dx, vs, rfl, g1, g2, g3⟩ := A1.sim.ins A1.rel eq
      refine ⟨a, dx, _, rfl, g1, (rep_fget g2 g3).2 hn, ?_⟩
      have h1 : RunAt _ Wx (Rep _) f1 H1 σ (sem (x :: ([] ++ dds)) st1) Q := h1
      exact spF_of A1.sim (.cons A1.rel (Reps.append .nil (hD _ _))) h1 (arity_of hA h1)
    · exact h1.elim
  · exact h1.elim
/-- C(..): a new instance, then its __init__ -/
def mMk (t : Nat) (sem : List D → Store → Rs D) (dds : List D) (r : ME (List D)) : ME D := mbind r fun ds _ st => (sem (.ref st.length :: (ds ++ dds)) (st ++ [.ins t [] []])).bind fun d st1 => match d with
  | .non => .ok (.ref st.length) st1
  | _ => .no
theorem pv_make {t : Nat} (M : Mk X.K (cl t) f) (F : FnD X.prog X.w X.K cl X.mg X.base k f fd ps sem) (hA : HasArity ps.length sem) (hr : Room (k + 1) X.A) (hg : Gl X x) (hm : X.mg x = some (.ref (cl t))) (hb : Binds X.K fd ps ds) (hd : Vals dvs ds) (hD : ∀ f H, Reps ⟨X.K, cl⟩ f H dvs dds) (tk : Takes X Wx)
    (ha : PVA X cl Wx (e :: es) r) (hdb : (x == ("__debug__" : Str)) = false := by decide) (he : starEach (e :: es) X.env = (false, eval e X.env) :: starEach es X.env := by rfl) (hpl : (backTo pos (starEach es X.env)).any (·.1) = false := by rfl) :
    PV X cl Wx (.Call (.Name x p) (e :: es) [] pos) (mMk t sem dds r) := by
  refine PE.imp (pe_makeSD M F hr hg hm hb hd (fun σ => passAt tk σ) ha hdb he hpl) fun σ H Q h => ?_
  obtain ⟨f, env, st, S, N, h⟩ := h
  refine h.bind S N fun u H1 f1 z st1 A1 h1 => ?_
  intro q dq hq hdq hne
  -- the own dict, then the instance
  have e1 : Ext f1 H1 f1 (upd H1 dq (.own q)) := Ext.laid A1.sim hdq
  have S1 : Sim ⟨X.K, cl⟩ f1 (upd H1 dq (.own q)) st1 := A1.sim.laid hdq
  have hq' : (upd H1 dq (.own q)) q = none := by rw [upd_ne (Ne.symm hne)]; exact hq
  have e2 : Ext f1 (upd H1 dq (.own q)) (f1 ++ [q]) (upd (upd H1 dq (.own q)) q (.ins (cl t) dq [])) := Ext.cell S1 hq'
  have S2 : Sim ⟨X.K, cl⟩ (f1 ++ [q]) (upd (upd H1 dq (.own q)) q (.ins (cl t) dq [])) (st1 ++ [.ins t [] []]) := S1.grow hq' ⟨dq, [], upd_same, rfl, .nil⟩
  have e12 := e1.trans e2
  have hlen : f1.length = st1.length := A1.sim.len
  have rq : Rep ⟨X.K, cl⟩ (f1 ++ [q]) (upd (upd H1 dq (.own q)) q (.ins (cl t) dq [])) (.ref q) (.ref st1.length) := .ref (by rw [← hlen]; simp)
  have rr : Reps ⟨X.K, cl⟩ (f1 ++ [q]) (upd (upd H1 dq (.own q)) q (.ins (cl t) dq [])) (.ref q :: (u ++ dvs)) (.ref st1.length :: (z ++ dds)) := .cons rq ((A1.rel.mono e12.lean).append (hD _ _))
  have h2 := RunAt.shift h1 e12
  have hn : (D.ref st1.length :: (z ++ dds)).length = ps.length := by
    by_cases e : (D.ref st1.length :: (z ++ dds)).length = ps.length
    · exact e
    · rw [hA _ _ e] at h2; exact h2.elim
  refine spF_of (σ := σ) (Wx := Wx) S2 rr ?_ hn
  cases er : sem (.ref st1.length :: (z ++ dds)) (st1 ++ [.ins t [] []]) with
  | no => simp only [er, Rs.bind] at h2; exact h2.elim
  | exc y s9 => simp only [er, Rs.bind] at h2; exact h2
  | ok d s9 =>
    simp only [er, Rs.bind] at h2
    intro v f3 H3 x3 S3 r3
    cases r3 with
    | non =>
      refine ⟨rfl, h2 _ f3 H3 x3 S3 (.ref ?_)⟩
      obtain ⟨g', rfl⟩ := x3.pre
      rw [List.append_assoc, List.getElem?_append_right (by omega)]
      simp [hlen]
    | _ => exact h2.elim
end
end RR

set_option maxRecDepth 100000
set_option maxHeartbeats 1000000
namespace RR
open PySem PySem.Spec PyProof.Rows L2

/-! ### xs[lo:hi] = ys -/
def sSlice0 (to tl th te : TE) : TS := fun D σ H => te σ H fun y H1 => to σ H1 fun x H2 => tl σ H2 fun l H3 => th σ H3 fun h H4 => ∃ (p b : Addr) (xs ys : List V) (i j : Int), x = .ref p ∧ y = .ref b ∧ l = .int i ∧ h = .int j ∧ H4 p = some (.lst xs) ∧ H4 b = some (.lst ys) ∧ p ≠ b ∧
      0 ≤ i ∧ i ≤ j ∧ j ≤ xs.length ∧ xs.length + ys.length ≤ sizeLine ∧ D.nx σ (upd H4 p (.lst (xs.take i.toNat ++ ys ++ xs.drop j.toNat)))
theorem ps_sliceSet {X : Cx} {o lo hi e : Expr} {to tl th te : TE} {p2 pos' pos : Pos} (ho : PE X o to) (hl : PE X lo tl) (hh : PE X hi th) (he : PE X e te)
    (hs : swapsWith e (some (.Subscript o (.Slice (some lo) (some hi) none p2) pos')) pos.line X.env = pure false := by rfl) :
    PS X (.Assign [.Subscript o (.Slice (some lo) (some hi) none p2) pos'] e pos) (sSlice0 to tl th te) := by
  refine ⟨fun pins s σ H D I h => ?_⟩
  refine wpAny_Assign_Subscript (thn (he.run pins s σ H _ I h) fun r s1 ⟨y, H1, I1, ry, q1⟩ => thn (ho.run pins s1 σ H1 _ I1 q1) fun u s2 ⟨x, H2, I2, rx, q2⟩ => ?_) hs
  refine wpAny_Slice ?_
  rw [evalPart_some]
  refine thn (hl.run pins s2 σ H2 _ I2 q2) fun vl s3 ⟨l, H3, I3, rl, q3⟩ => ?_
  rw [evalPart_some]
  refine thn (hh.run pins s3 σ H3 _ I3 q3) fun vu s4 ⟨h, H4, I4, rh, p, b, xs, ys, i, j, e1, e2, e3, e4, hp, hb, hne, h0, hij, hj, hz, q⟩ => ?_
  rw [evalPart_none]
  refine wpAny_pure ?_
  subst e1 e2 e3 e4
  cases rx
  cases ry
  have I5 : Inv X pins σ H4 { s4 with heap := s4.heap.push { cls := .type "slice", data := .fields #[vl, vu, .none] } } := I4.kept (t' := s4.toks) fun b ob q => Heap.get?_push_of_some _ q
  exact set_slice I5 hp hb hne (Heap.IsSliceOf.new ..) rl rh h0 hij hj hz fun s' I' => ⟨σ, _, I', q⟩

theorem Sim.putL {W : Wd} {f H st} (S : Sim W f H st) {i : Nat} {a : Addr} (hf : f[i]? = some a) {vs : List V} {ds : List D} (rs : Reps W f H vs ds) : Ext f H f (upd H a (.lst vs)) ∧ Sim W f (upd H a (.lst vs)) (st.set i (.lst ds)) :=
  have e : Ext f H f (upd H a (.lst vs)) := Ext.write (List.mem_of_getElem? hf)
  ⟨e, S.write hf ⟨vs, upd_same, rs.mono e.lean⟩⟩
theorem Sim.putI {W : Wd} {f H st} (S : Sim W f H st) {i : Nat} {a dx : Addr} (hf : f[i]? = some a) {t : Nat} {ns : List Str} {vs : List V} {ds : List D} (hl : ns.length = vs.length) (rs : Reps W f H vs ds) : Ext f H f (upd H a (.ins (W.cls t) dx (ns.zip vs))) ∧ Sim W f (upd H a (.ins (W.cls t) dx (ns.zip vs))) (st.set i (.ins t ns ds)) :=
  have e : Ext f H f (upd H a (.ins (W.cls t) dx (ns.zip vs))) := Ext.write (List.mem_of_getElem? hf)
  ⟨e, S.write hf ⟨dx, vs, upd_same, hl, rs.mono e.lean⟩⟩
theorem Sim.putDT {W : Wd} {f H st} (S : Sim W f H st) {i : Nat} {a : Addr} (hf : f[i]? = some a) {ks : List (List Key)} {vs : List V} {ds : List D} (hl : ks.length = vs.length) (rs : Reps W f H vs ds) : Ext f H f (upd H a (.dT (ks.zip vs))) ∧ Sim W f (upd H a (.dT (ks.zip vs))) (st.set i (.dT ks ds)) :=
  have e : Ext f H f (upd H a (.dT (ks.zip vs))) := Ext.write (List.mem_of_getElem? hf)
  ⟨e, S.write hf ⟨vs, upd_same, hl, rs.mono e.lean⟩⟩
theorem Sim.putDK {W : Wd} {f H st} (S : Sim W f H st) {i : Nat} {a : Addr} (hf : f[i]? = some a) {ks : List Key} {vs : List V} {ds : List D} (hl : ks.length = vs.length) (rs : Reps W f H vs ds) : Ext f H f (upd H a (.dK (ks.zip vs))) ∧ Sim W f (upd H a (.dK (ks.zip vs))) (st.set i (.dK ks ds)) :=
  have e : Ext f H f (upd H a (.dK (ks.zip vs))) := Ext.write (List.mem_of_getElem? hf)
  ⟨e, S.write hf ⟨vs, upd_same, hl, rs.mono e.lean⟩⟩
section
variable {X : Cx} {cl : Ctx} {Wx : WX} {o i e lo hi : Expr} {mo mi me ml mh : ME D} {pos pos' p2 tpos : Pos}
/-- a list of the store, written by a place list -/
def putL (st : Store) (d : D) (k : List D → Option (List D)) : Option Store := match cellL st d with
  | some (j, ds) => (k ds).map fun ds' => st.set j (.lst ds')
  | none => none
def isLst : D → Bool
  | .lst _ => true
  | _ => false
def sSliceSet (mo ml mh me : ME D) : MS := sBind me fun y => sBind mo fun x => sBind ml fun l => sBind mh fun h env st => match l, h, cellL st x, lstOf st y with
  | .int a, .int b, some (j, xs), some ys => if 0 ≤ a ∧ a ≤ b ∧ b ≤ xs.length ∧ xs.length + ys.length ≤ 16777216 ∧ isLst y = true then .ok .nx env (st.set j (.lst (xs.take a.toNat ++ ys ++ xs.drop b.toNat))) else .no
  | _, _, _, _ => .no
theorem vs_sliceSet (ho : PV X cl Wx o mo) (hl : PV X cl Wx lo ml) (hh : PV X cl Wx hi mh) (he : PV X cl Wx e me)
    (hs : swapsWith e (some (.Subscript o (.Slice (some lo) (some hi) none p2) pos')) pos.line X.env = pure false := by rfl) :
    PVS X cl Wx (.Assign [.Subscript o (.Slice (some lo) (some hi) none p2) pos'] e pos) (sSliceSet mo ml mh me) := by
  refine PS.imp (ps_sliceSet ho hl hh he hs) fun E σ H h => ?_
  obtain ⟨f, env, st, S, N, h⟩ := h
  refine h.bind S N fun y H1 f1 dy st1 A1 h1 => ?_
  refine h1.bind A1.sim A1.env fun x H2 f2 dx st2 A2 h2 => ?_
  refine h2.bind A2.sim A2.env fun l H3 f3 dl st3 A3 h3 => ?_
  refine h3.bind A3.sim A3.env fun k H4 f4 dk st4 A4 h4 => ?_
  have S4 := A4.sim
  have ry : Rep _ f4 H4 y dy := ((A1.rel.mono A2.ext.lean).mono A3.ext.lean).mono A4.ext.lean
  have rx : Rep _ f4 H4 x dx := (A2.rel.mono A3.ext.lean).mono A4.ext.lean
  have rl : Rep _ f4 H4 l dl := A3.rel.mono A4.ext.lean
  have rk : Rep _ f4 H4 k dk := A4.rel
  split at h4
  · rename_i a b j xs ys e1 e2
    split at h4
    · rename_i hc
      obtain ⟨c1, c2, c3, c4, c5⟩ := hc
      cases rl; cases rk
      obtain ⟨p, vs, rfl, hf, hp, rp⟩ := S4.cellL rx e1
      cases dy <;> try cases c5
      cases ry with
      | lst q1 q2 q3 =>
        cases e2
        refine ⟨p, _, vs, _, a, b, rfl, rfl, rfl, rfl, hp, q2, ?_, c1, c2, by rw [rp.length]; exact c3, by rw [rp.length, q3.length]; exact c4, ?_⟩
        · rintro rfl
          exact q1 (List.mem_of_getElem? hf)
        · obtain ⟨ex, S5⟩ := S4.putL hf ((rp.take a.toNat).append q3 |>.append (rp.drop b.toNat))
          exact RunS.nxt S5 (A4.env.ext ex) (RunS.shift h4 ex)
    · exact h4.elim
  · exact h4.elim

/-! ### xs[i] = e, xs[i] op= e of a list -/
def stSub (x d : D) (v : D) (st : Store) : Option Store := match d, cellL st x with
  | .int k, some (j, xs) => (ixN xs.length k).map fun n => st.set j (.lst (xs.set n v))
  | _, _ => none
def gSb (mo mi : ME D) : D → MS := fun v => sBind mo fun x => sBind mi fun d env st => match stSub x d v st with
  | some st' => .ok .nx env st'
  | none => .no
theorem sub_write {W : Wd} {f H st st'} (S : Sim W f H st) {x d v : D} {u w z : V} (rx : Rep W f H u x) (rd : Rep W f H w d) (rv : Rep W f H z v) (h : stSub x d v st = some st') :
    ∃ p xs k j, u = .ref p ∧ w = .int k ∧ H p = some (.lst xs) ∧ ixN xs.length k = some j ∧ Ext f H f (upd H p (.lst (xs.set j z))) ∧ Sim W f (upd H p (.lst (xs.set j z))) st' := by
  unfold stSub at h
  split at h
  · rename_i k j xs e1
    cases rd
    obtain ⟨p, vs, rfl, hf, hp, rp⟩ := S.cellL rx e1
    simp only [Option.map_eq_some_iff] at h
    obtain ⟨n, e2, rfl⟩ := h
    obtain ⟨e, S'⟩ := S.putL hf (rp.set rv n)
    exact ⟨p, vs, k, n, rfl, rfl, hp, by rw [rp.length]; exact e2, e, S'⟩
  · cases h
def sSubSet (mo mi me : ME D) : MS := sBind me fun v => sBind mo fun x => sBind mi fun d env st => match stSub x d v st with
  | some st' => .ok .nx env st'
  | none => .no
theorem vs_subSet (ho : PV X cl Wx o mo) (hi : PV X cl Wx i mi) (he : PV X cl Wx e me) (hs : swapsWithSole [.Subscript o i pos'] e pos.line X.env = pure false := by rfl) (hw : swappedStores [.Subscript o i pos'] e X.env = pure none := by rfl)
    (h1 : (assignEach [.Subscript o i pos'] X.env).map (·.2) = [assign (.Subscript o i pos') X.env] := by rfl)
    (ha : ∀ v, assign (.Subscript o i pos') X.env v = (do
      let ov ← holding [v] (eval o X.env)
      let iv ← holding [v, ov] (eval i X.env)
      standAt pos'
      holding [v, ov, iv] (setItem ov iv v)
      release [v, ov, iv] []) := by intro _; rfl) : PVS X cl Wx (.Assign [.Subscript o i pos'] e pos) (sSubSet mo mi me) := by
  refine PS.imp (ps_asg he (pg_sub ho hi set_list ha) hs hw h1) fun E σ H h => ?_
  obtain ⟨f, env, st, S, N, h⟩ := h
  refine h.bind S N fun y H1 f1 dy st1 A1 h1 => ?_
  refine h1.bind A1.sim A1.env fun x H2 f2 dx st2 A2 h2 => ?_
  refine h2.bind A2.sim A2.env fun l H3 f3 dl st3 A3 h3 => ?_
  have ry := (A1.rel.mono A2.ext.lean).mono A3.ext.lean
  have rx := A2.rel.mono A3.ext.lean
  split at h3
  · rename_i st' es
    obtain ⟨p, xs, k, j, e1, e2, e3, e4, ex, S'⟩ := sub_write A3.sim rx A3.rel ry es
    exact ⟨p, xs, k, j, e1, e2, e3, e4, RunS.nxt S' (A3.env.ext ex) (RunS.shift h3 ex)⟩
  · exact h3.elim
/-- reading by place, for an operator's store -/
theorem get_list : PGet X (rIxL X.K) := by
  intro pins s σ H o i ov iv Q I ro ri h
  obtain ⟨p, xs, k, v, rfl, rfl, hp, hv, q⟩ := h
  cases ro
  obtain ⟨t, rfl⟩ := ri
  obtain ⟨its, r, pl, hz⟩ := I.list hp
  obtain ⟨j, h1, h2, h3, h4, h5⟩ := atI_get hv
  obtain ⟨u, hu, ru⟩ := r.get h2
  have hl := r.length
  have hn := line63
  have fin : EP X pins σ Q u s := ⟨v, H, I, ru, q⟩
  by_cases h0 : 0 ≤ k
  · have hj : k.toNat = j := by
      rw [seqIndex_of h0 h5] at h1
      exact Option.some.inj h1
    exact wpAny_getItem_list pl.isList h0 (by omega) (by rw [hj]; simpa using hu) fin
  · have hj : (k + (its.toArray.size : Int)).toNat = j := by
      rw [seqIndex_neg (by omega) h4] at h1
      rw [List.size_toArray, ← hl]
      exact Option.some.inj h1
    exact wpAny_getItem_list_neg pl.isList (by omega) (by rw [List.size_toArray] <;> omega) (by omega) (by rw [hj]; simpa using hu) fin
/-- xs[i] += e -/
def sSubAug (g : Int → Int → Int) (mo mi me : ME D) : MS := sBind mo fun x => sBind mi fun d env st => match d, seqOf st x with
  | .int k, some xs => match atI xs k with
    | some (.int a) => sBind me (fun y env st => match y with
      | .int b => match stSub x d (.int (g a b)) st with
        | some st' => .ok .nx env st'
        | none => .no
      | _ => .no) env st
    | _ => .no
  | _, _ => .no
theorem vs_subAug {op : Operator} {g : Int → Int → Int} (hop : PIp X op (ipI g)) (ho : PV X cl Wx o mo) (hi : PV X cl Wx i mi) (he : PV X cl Wx e me)
    (ha : ∀ ov iv new, augStore i ov iv new = (do holding [new, ov, iv] (setItem ov iv new); release [new, ov, iv] []; pure .next) := by intros; rfl) : PVS X cl Wx (.AugAssign (.Subscript o i tpos) op e pos) (sSubAug g mo mi me) := by
  refine PS.imp (ps_augS ho hi get_list he hop set_list ha) fun E σ H h => ?_
  obtain ⟨f, env, st, S, N, h⟩ := h
  refine h.bind S N fun x H1 f1 dx st1 A1 h1 => ?_
  refine h1.bind A1.sim A1.env fun l H2 f2 dl st2 A2 h2 => ?_
  have rx := A1.rel.mono A2.ext.lean
  have rl := A2.rel
  split at h2
  · rename_i k xs e1
    cases rl
    split at h2
    · rename_i a ea
      obtain ⟨p, vs, rfl, hp, rp⟩ := A2.sim.seq rx e1
      obtain ⟨w, hw, rw'⟩ := rp.at ea
      cases rw'
      refine ⟨p, vs, k, _, rfl, rfl, hp, hw, ?_⟩
      refine h2.bind A2.sim A2.env fun y H3 f3 dy st3 A3 h3 => ?_
      have ry := A3.rel
      split at h3
      · cases ry
        split at h3
        · rename_i st' es
          refine ⟨a, _, rfl, rfl, ?_⟩
          obtain ⟨p', xs', k', j, e1, e2, e3, e4, ex, S'⟩ := sub_write A3.sim (rx.mono A3.ext.lean) (.int k) (.int (g a _)) es
          exact ⟨p', xs', k', j, e1, e2, e3, e4, RunS.nxt S' (A3.env.ext ex) (RunS.shift h3 ex)⟩
        · exact h3.elim
      · exact h3.elim
    · exact h2.elim
  · exact h2.elim

/-! ### x += e of ints -/
def sAug (j : Nat) (g : Int → Int → Int) (me : ME D) : MS := fun env st => match env[j]? with
  | some (some (.int a)) => sBind me (fun y env st => match y with
    | .int b => .ok .nx (env.set j (some (.int (g a b)))) st
    | _ => .no) env st
  | _ => .no
theorem vs_aug {j : Nat} {x : Str} {op : Operator} {g : Int → Int → Int} (hop : PIp X op (ipI g)) (hN : X.N.Nodup) (hi : X.N[j]? = some x) (hx : Loc X.env.scope x) (he : PV X cl Wx e me) (hf : X.fn x = true ∨ X.env.scope.names.lookup x = some .local := by first | exact .inl rfl | exact .inr rfl | assumption) :
    PVS X cl Wx (.AugAssign (.Name x pos') op e pos) (sAug j g me) := by
  refine PS.imp (ps_aug hN hi hx he hop hf) fun E σ H h => ?_
  obtain ⟨f, env, st, S, N, h⟩ := h
  unfold sAug at h
  split at h
  · rename_i a e1
    obtain ⟨v, h1, r1⟩ := N.val j _ e1
    cases r1
    refine ⟨_, h1, ?_⟩
    refine h.bind S N fun y H1 f1 dy st1 A1 h1 => ?_
    have ry := A1.rel
    split at h1
    · cases ry
      exact ⟨_, _, rfl, rfl, RunS.nxt A1.sim (A1.env.set (.int _) j) h1⟩
    · exact h1.elim
  · exact h.elim
/-- op= of ints: | -/
theorem ip_or : PIp X .BitOr (ipI fun i j => Builtin.bitOr i j) := by
  intro pins s σ H x y v u Q I r1 r2 h
  obtain ⟨i, j, e1, e2, q⟩ := h
  subst e1; subst e2
  exact iop_or pins s σ H _ _ v u Q I r1 r2 ⟨i, j, rfl, rfl, q⟩

/-! ### o.f = e -/
def fput : List Str → List D → Str → D → List Str × List D
  | n :: ns, d :: ds, x, y => if n = x then (n :: ns, y :: ds) else (n :: (fput ns ds x y).1, d :: (fput ns ds x y).2)
  | _, _, x, y => ([x], [y])
theorem rep_fput {W f H} {x : Str} {v : V} {y : D} (rv : Rep W f H v y) : ∀ {ns : List Str} {vs : List V} {ds : List D}, ns.length = vs.length → Reps W f H vs ds → ∃ vs', putF x v (ns.zip vs) = (fput ns ds x y).1.zip vs' ∧ (fput ns ds x y).1.length = vs'.length ∧ Reps W f H vs' (fput ns ds x y).2
  | [], [], _, _, .nil => ⟨[v], rfl, rfl, .cons rv .nil⟩
  | n :: ns, u :: vs, d :: ds, hl, .cons r t => by
    obtain ⟨vs', e1, e2, e3⟩ := rep_fput (x := x) rv (ns := ns) (by simpa using hl) t
    simp only [List.zip_cons_cons, putF, fput]
    split
    · exact ⟨v :: vs, rfl, by simpa using hl, .cons rv t⟩
    · exact ⟨u :: vs', by rw [e1]; rfl, by simp [e2], .cons r e3⟩
def sFldSet (t : Nat) (x : Str) (mo me : ME D) : MS := sBind me fun y => sBind mo fun o env st => match o with
  | .ref i => match st[i]? with
    | some (.ins t' ns ds) => if t' = t ∧ ns.length < 1000 then .ok .nx env (st.set i (.ins t (fput ns ds x y).1 (fput ns ds x y).2)) else .no
    | _ => .no
  | _ => .no
theorem vs_fld {t : Nat} {x : Str} (hC : Cls X.K (cl t)) (hA : NoAttr X.K (cl t) x) (ho : PV X cl Wx o mo) (he : PV X cl Wx e me) (hs : swapsWith e (some (.Attribute o x pos')) pos.line X.env = pure false := by rfl) :
    PVS X cl Wx (.Assign [.Attribute o x pos'] e pos) (sFldSet t x mo me) := by
  refine PS.imp (ps_fld ho he hs) fun E σ H h => ?_
  obtain ⟨f, env, st, S, N, h⟩ := h
  refine h.bind S N fun y H1 f1 dy st1 A1 h1 => ?_
  refine h1.bind A1.sim A1.env fun u H2 f2 du st2 A2 h2 => ?_
  have ry := A1.rel.mono A2.ext.lean
  have ru := A2.rel
  split at h2
  · rename_i i
    split at h2
    · rename_i t' ns ds es
      split at h2
      · rename_i hc
        obtain ⟨rfl, hl⟩ := hc
        cases ru with
        | @ref a _ q =>
          obtain ⟨c, e, k⟩ := A2.sim.at q
          rw [es] at e; cases e
          obtain ⟨dx, vs, g1, g2, g3⟩ := k
          obtain ⟨vs', p1, p2, p3⟩ := rep_fput (x := x) ry g2 g3
          refine ⟨a, _, dx, _, rfl, g1, hC, hA, ?_, ?_⟩
          · rw [List.length_zip, ← g2, Nat.min_self]; exact hl
          · rw [p1]
            obtain ⟨ex, S'⟩ := A2.sim.putI (dx := dx) (t := t') q p2 p3
            exact RunS.nxt S' (A2.env.ext ex) (RunS.shift h2 ex)
      · exact h2.elim
    · exact h2.elim
  · exact h2.elim

/-! ### d[k] = v -/
def stDput (x k v : D) (st : Store) : Option Store := match x with
  | .ref i => match st[i]? with
    | some (.dT ks ds) => match tkey k with
      | some j => if ks.length < 1000000 then some (st.set i (.dT (dput ks ds j v).1 (dput ks ds j v).2)) else none
      | none => none
    | some (.dK ks ds) => match keyOf k with
      | some j => if ks.length < 1000000 then some (st.set i (.dK (dput ks ds j v).1 (dput ks ds j v).2)) else none
      | none => none
    | _ => none
  | _ => none
def sDput (md mk mv : ME D) : MS := sBind mv fun v => sBind md fun x => sBind mk fun k env st => match stDput x k v st with
  | some st' => .ok .nx env st'
  | none => .no
theorem zip_small {A B : Type} {ks : List A} {vs : List B} (hl : ks.length = vs.length) (h : ks.length < 1000000) : (ks.zip vs).length < sizeLine := by
  rw [List.length_zip, ← hl, Nat.min_self, sizeLine_eq]; omega
theorem vs_dput {hu : X.A.units + 1 < cLine} (ho : PV X cl Wx o mo) (hi : PV X cl Wx i mi) (he : PV X cl Wx e me) (hs : swapsWith e (some (.Subscript o i pos')) pos.line X.env = pure false := by rfl) :
    PVS X cl Wx (.Assign [.Subscript o i pos'] e pos) (sDput mo mi me) := by
  refine PS.imp (ps_dput hu ho hi he hs) fun E σ H h => ?_
  obtain ⟨f, env, st, S, N, h⟩ := h
  refine h.bind S N fun v H1 f1 dv st1 A1 h1 => ?_
  refine h1.bind A1.sim A1.env fun x H2 f2 dx st2 A2 h2 => ?_
  refine h2.bind A2.sim A2.env fun k H3 f3 dk st3 A3 h3 => ?_
  have rv := (A1.rel.mono A2.ext.lean).mono A3.ext.lean
  have rx := A2.rel.mono A3.ext.lean
  have rk := A3.rel
  split at h3
  · rename_i st' es
    unfold stDput at es
    split at es
    · rename_i j
      cases rx with
      | @ref a _ q =>
        obtain ⟨c, e, z⟩ := A3.sim.at q
        rw [e] at es
        cases c with
        | dT ks ds =>
          obtain ⟨vs, g1, g2, g3⟩ := z
          dsimp only at es
          split at es
          · rename_i kk ek
            split at es
            · rename_i hz
              cases es
              obtain ⟨vs', p1, p2, p3⟩ := rep_dput (k := kk) g2 g3 rv
              cases rk with
              | tup q1 q2 q3 =>
                rw [rep_keys q3 ek] at q2
                refine ⟨a, _, rfl, DPut.t g1 q2 (zip_small g2 hz), ?_⟩
                rw [p1]
                obtain ⟨ex, S'⟩ := A3.sim.putDT q p2 p3
                exact RunS.nxt S' (A3.env.ext ex) (RunS.shift h3 ex)
              | _ => cases ek
            · cases es
          · cases es
        | dK ks ds =>
          obtain ⟨vs, g1, g2, g3⟩ := z
          dsimp only at es
          split at es
          · rename_i kk ek
            split at es
            · rename_i hz
              cases es
              obtain ⟨vs', p1, p2, p3⟩ := rep_dput (k := kk) g2 g3 rv
              have ekv := rep_key rk ek
              subst ekv
              refine ⟨a, _, rfl, DPut.k g1 (zip_small g2 hz), ?_⟩
              rw [p1]
              obtain ⟨ex, S'⟩ := A3.sim.putDK q p2 p3
              exact RunS.nxt S' (A3.env.ext ex) (RunS.shift h3 ex)
            · cases es
          · cases es
        | _ => cases es
    · cases es
  · exact h3.elim

/-! ### a, b = x, y (two local names) -/
def sPar (i j : Nat) (ma mb : ME D) : MS := sBind ma fun x => sBind mb fun y env st => .ok .nx ((env.set i (some x)).set j (some y)) st
theorem vs_par {i j : Nat} {x y : Str} {a b : Expr} {ma mb : ME D} {px py pt : Pos} {kt k2 pt2} (hc : X.calm = true) (hN : X.N.Nodup) (hi : X.N[i]? = some x) (hj : X.N[j]? = some y) (hij : i ≠ j)
    (hx : X.env.scope.names.lookup x = some .local) (hy : X.env.scope.names.lookup y = some .local) (ha : PV X cl Wx a ma) (hb : PV X cl Wx b mb)
    (hw : swappedStores [.Tuple [.Name x px, .Name y py] kt pt] (.Tuple [a, b] k2 pt2) X.env = pure (some [x, y]))
    (hs : swapsWithSole [.Tuple [.Name x px, .Name y py] kt pt] (.Tuple [a, b] k2 pt2) pos.line X.env = pure false := by rfl)
    (s1 : starEach [a, b] X.env = (false, eval a X.env) :: starEach [b] X.env := by rfl) (s2 : starEach [b] X.env = (false, eval b X.env) :: starEach [] X.env := by rfl) :
    PVS X cl Wx (.Assign [.Tuple [.Name x px, .Name y py] kt pt] (.Tuple [a, b] k2 pt2) pos) (sPar i j ma mb) := by
  refine PS.imp (ps_par hc hN hi hj hij hx hy (pa_cons ha (pa_cons hb pa_nil s2) s1) hw hs) fun E σ H h => ?_
  obtain ⟨f, env, st, S, N, h⟩ := h
  refine h.bind S N fun u H1 f1 du st1 A1 h1 => ?_
  refine h1.bind A1.sim A1.env fun v H2 f2 dv st2 A2 h2 => ?_
  exact ⟨u, v, rfl, RunS.nxt A2.sim ((A2.env.set (A1.rel.mono A2.ext.lean) i).set A2.rel j) h2⟩
/-- (a, b, ..) = a list -/
def gUl (n : Nat) (gs : List D → MS) : D → MS := fun d env st => match seqOf st d with
  | some ds => if ds.length = n then gs ds env st else .no
  | _ => .no
theorem vg_unl {es : List Expr} {k n : Nat} {gs : List D → MS} {ws : List Nat} (hc : X.calm = true) (h : PVGs X cl Wx ws es gs) (hn : (assignEach es X.env).length = n := by rfl) (hst : (assignEach es X.env).findIdx? (·.1) = none := by rfl) : PVG X cl Wx ws (.Tuple es k pos) (gUl n gs) := by
  refine PG.imp (pg_unl hc h hn hst) fun v σ H Q h => ?_
  obtain ⟨f, env, st, d, S, N, r, h⟩ := h
  unfold gUl at h
  split at h
  · rename_i ds eq
    split at h
    · rename_i hl
      obtain ⟨a, vs, rfl, hp, rp⟩ := S.seq r eq
      exact ⟨a, vs, rfl, hp, by rw [rp.length]; exact hl, f, env, st, _, S, N, rp, h⟩
    · exact h.elim
  · exact h.elim
end
end RR

set_option maxRecDepth 100000
set_option maxHeartbeats 1000000
namespace RR
open PySem PySem.Spec PyProof.Rows L2

/-! ### a def of the text keeps its meaning -/
def Ex.low (n : Nat) : Ex → Bool
  | .pl _ => true
  | .fl _ _ d => below n d
/-- behind the body: what is told is made fast, the frame's cells go -/
def Leaves (st0 : Store) (r : RS) (q : Rs D) : Prop := match q with
  | .no => True
  | .ok d st' => ∃ (k n : Nat) (d1 : D) (env1 : Env) (st1 : Store), (r = .ok (.rt d1) env1 st1 ∨ (d1 = .non ∧ r = .ok .nx env1 st1)) ∧ st0.length ≤ n ∧ LowOk st0 st1 n ∧ frz n st1 k d1 = some d ∧ st' = st1.take n
  | .exc e st' => ∃ (n : Nat) (env1 : Env) (st1 : Store), r = .exc e env1 st1 ∧ st0.length ≤ n ∧ LowOk st0 st1 n ∧ e.low n = true ∧ st' = st1.take n
def env0 (N : List Str) (ds : List D) : Env := ds.map some ++ List.replicate (N.length - ds.length) none
theorem env0_ok {W f H} {N : List Str} {vs : List V} {ds : List D} (r : Reps W f H vs ds) (ph : W.cls.Phi f H) : EnvOk W f H (L2.start N vs) (env0 N ds) := by
  unfold L2.start env0
  refine ⟨by simp [r.length], fun i d q => ?_, ph⟩
  by_cases hi : i < ds.length
  · rw [List.getElem?_append_left (by simpa using hi), List.getElem?_map] at q
    rw [List.getElem?_append_left (by simpa [r.length] using hi), List.getElem?_map]
    cases e : ds[i]? with
    | none => rw [e] at q; cases q
    | some d' =>
      rw [e] at q
      have : d' = d := by simpa using q
      subst this
      obtain ⟨v, h1, h2⟩ := r.get e
      exact ⟨v, by rw [h1]; rfl, h2⟩
  · rw [List.getElem?_append_right (by simpa using hi), List.getElem?_replicate] at q
    split at q <;> cases q
theorem RepX.cut {W : Wd} {f H n c dd e} (h : RepX W f H c dd e) (b : e.low n = true) : RepX W (f.take n) H c dd e := by
  cases h with
  | pl t => exact .pl t
  | fl h1 h2 h3 => exact .fl (notin_take h1) h2 (h3.shr b)
theorem leaves_run {W : Wd} {g : List Addr} {H : Hp} {st0 : Store} {r : RS} {q : Rs D} {E : XK} {Q : VK} (hS : Sim W g H st0) (q0 : Leaves st0 r q) (h : RunAt W (fun c dd _ H => E c dd H) (Rep W) g H [] q Q) :
    RunS W (fun c d _ H => E c d H) g H r { nx := fun _ H' => Q .non H', rt := Q } := by
  have hg : g.length = st0.length := hS.len
  cases q with
  | no => exact h.elim
  | ok d st' =>
    obtain ⟨kk, n, d1, env1, st1, hr1, hn, hlow, hf, rfl⟩ := q0
    rcases hr1 with hr1 | ⟨rfl, hr1⟩
    · rw [hr1]
      intro σ' f1 H1 x1 S1 N1 v rv
      exact h v (f1.take n) H1 (Ext.drop x1 (by omega)) (Sim.drop hS hn S1 hlow) (frz_ok S1 kk rv hf)
    · rw [hr1]
      intro σ' f1 H1 x1 S1 N1
      exact h .non (f1.take n) H1 (Ext.drop x1 (by omega)) (Sim.drop hS hn S1 hlow) (frz_ok S1 kk .non hf)
  | exc y st' =>
    obtain ⟨n, env1, st1, hr1, hn, hlow, he, rfl⟩ := q0
    rw [hr1]
    exact fun c dd σ' f1 H1 x1 S1 N1 rx => h c dd (f1.take n) H1 (Ext.drop x1 (by omega)) (Sim.drop hS hn S1 hlow) (rx.cut he)
theorem FnD.mk {P : Program} {w : World} {K : PySem.W.Frag} {cl : Ctx} {mg : Str → Option Value} {base : Heap} {x qual : Str} {st : Stmt} {f : Addr} {fd : FuncData} {N ps : List Str} {k : Nat} {sem : List D → Store → Rs D} {body : MS}
    (pl : cl.Plain) (F : Fun K x qual st f fd) (S : FnScope N ps (defScope st))
    (hb : ∀ (cdv : Value) (A : Around) (outer : List PySem.Env) (s : Shared) (H : Hp) (E : XK), Room k (A.deeper (envOfC qual (defScope st) s.heap.objs.size f cdv)) →
      PVB (cxOf (L2.CX P w) P w K mg base N qual (defScope st) f cdv A outer s H E) cl (fun c d _ H => E c d H) (defBody st) body)
    (hs : ∀ (ds : List D) (st0 : Store), ds.length = ps.length → Leaves st0 (body (env0 N ds) st0) (sem ds st0)) : FnD P w K cl mg base (k + 1) f fd ps sem := by
  refine F.okX S (fun vs H Q E h => h.1) (fun cdv A outer s H vs Q E hr h => ?_)
  obtain ⟨hl, g, st0, ds, hS, rs, h⟩ := h
  exact ⟨_, hb cdv A outer s H E hr, g, env0 N ds, st0, hS, env0_ok rs (pl _ _), leaves_run hS (hs ds st0 (rs.length.symm.trans hl)) h⟩
/-- the usual end: nothing that stood is changed, what is told leans on nothing new -/
theorem low_same {st tail : Store} : LowOk st (st ++ tail) st.length := fun i c hi h => .inl ⟨hi, by rwa [List.getElem?_append_left hi] at h⟩
theorem low_refl {st : Store} : LowOk st st st.length := fun i c hi h => .inl ⟨hi, h⟩
theorem Leaves.pure {st0 tail : Store} {d d' : D} {env1 : Env} {k : Nat} (hf : frz st0.length (st0 ++ tail) k d = some d') : Leaves st0 (.ok (.rt d) env1 (st0 ++ tail)) (.ok d' st0) :=
  ⟨k, st0.length, d, env1, _, .inl rfl, Nat.le_refl _, low_same, hf, by simp⟩
theorem Leaves.pure0 {st0 : Store} {d : D} {env1 : Env} (hb : below st0.length d = true) : Leaves st0 (.ok (.rt d) env1 st0) (.ok d st0) :=
  ⟨0, st0.length, d, env1, _, .inl rfl, Nat.le_refl _, low_refl, by simp [frz, hb], by simp⟩
theorem Leaves.non0 {st0 : Store} {env1 : Env} : Leaves st0 (.ok .nx env1 st0) (.ok .non st0) :=
  ⟨0, st0.length, .non, env1, _, .inr ⟨rfl, rfl⟩, Nat.le_refl _, low_refl, by simp [frz, below], by simp⟩
theorem Leaves.no {st0 : Store} {r : RS} : Leaves st0 r .no := trivial

/-! ### isinstance -/
section
variable {X : Cx} {cl : Ctx} {Wx : WX} {p pos : Pos} {e : Expr} {es : List Expr} {r : ME (List D)}
def tyName (st : Store) : D → Option String
  | .non => some "NoneType"
  | .bl _ => some "bool"
  | .int _ => some "int"
  | .str _ => some "str"
  | .tup _ => some "tuple"
  | .lst _ => some "list"
  | .dT _ _ => some "dict"
  | .dK _ _ => some "dict"
  | .ref i => match st[i]? with
    | some (.lst _) => some "list"
    | some (.dT _ _) => some "dict"
    | some (.dK _ _) => some "dict"
    | _ => none
  | _ => none
theorem tyName_ok {W : Wd} {f H st} (S : Sim W f H st) {v d} (rv : Rep W f H v d) {n : String} (h : tyName st d = some n) : TyX W.K H v (.type n) := by
  cases rv with
  | non => cases h; exact .base .non
  | bl b => cases h; exact .base (.bl b)
  | int i => cases h; exact .base (.int i)
  | str x => cases h; exact .base (.str x)
  | tup h1 h2 h3 => cases h; exact .base (.tup h2)
  | lst h1 h2 h3 => cases h; exact .base (.lst h2)
  | dT h1 h2 h3 h4 => cases h; exact .base (.dT h2)
  | dK h1 h2 h3 h4 => cases h; exact .base (.dK h2)
  | @ref a i q =>
    obtain ⟨c, e, k⟩ := S.at q
    dsimp only [tyName] at h
    rw [e] at h
    cases c with
    | lst ds => obtain ⟨vs, x, _⟩ := k; cases h; exact .base (.lst x)
    | dT ks ds => obtain ⟨vs, x, _⟩ := k; cases h; exact .base (.dT x)
    | dK ks ds => obtain ⟨vs, x, _⟩ := k; cases h; exact .base (.dK x)
    | ins t ns ds => cases h
  | _ => cases h
def subTy (a b : String) : Option Bool := if a = b then some true else if b = "int" then some (a == "bool") else if b = "bool" ∨ b = "str" ∨ b = "tuple" ∨ b = "list" ∨ b = "dict" then some false else none
theorem kit_sub : ∀ a ∈ ["NoneType", "bool", "int", "str", "tuple", "list", "dict"], ∀ b ∈ ["bool", "int", "str", "tuple", "list", "dict"], kitB a b = subTy a b := by decide +kernel
theorem tyName_mem {st : Store} {d : D} {n : String} (h : tyName st d = some n) : n ∈ ["NoneType", "bool", "int", "str", "tuple", "list", "dict"] := by
  cases d <;> simp [tyName] at h <;> try (subst h; simp)
  split at h <;> simp at h <;> subst h <;> simp
def isTy (b : String) : Bool := ["bool", "int", "str", "tuple", "list", "dict"].contains b
def gIsi : List D → Store → Rs D
  | [d, .ty b], st => match tyName st d with
    | some a => if isTy b then (match subTy a b with
      | some k => .ok (.bl k) st
      | none => .no) else .no
    | none => .no
  | _, _ => .no
theorem o_isi : OpL X cl Wx (rIsi X.K) gIsi := by
  intro f H st σ xs us Q S rs h
  unfold gIsi at h
  split at h
  · rename_i d b
    obtain ⟨u, v, rfl, q, q'⟩ := rs.two
    cases q'
    split at h
    · rename_i a ea
      split at h
      · rename_i hb
        split at h
        · rename_i k ek
          have hb' : b ∈ ["bool", "int", "str", "tuple", "list", "dict"] := by simpa [isTy] using hb
          exact ⟨u, .ty b, .type a, .type b, k, rfl, .ty b, tyName_ok S q ea, kit_ty ((kit_sub a (tyName_mem ea) b hb').trans ek), h.okv S (.bl _)⟩
        · exact h.elim
      · exact h.elim
    · exact h.elim
  · exact h.elim
theorem pv_isi (hg : Gl X "isinstance") (hm : X.mg "isinstance" = none) (ha : PVA X cl Wx (e :: es) r) (he : starEach (e :: es) X.env = (false, eval e X.env) :: starEach es X.env := by rfl) (hpl : (backTo pos (starEach es X.env)).any (·.1) = false := by rfl) : PV X cl Wx (.Call (.Name "isinstance" p) (e :: es) [] pos) (mCall gIsi r) :=
  pv_callB call_isi o_isi hg hm (by decide +kernel) ha (he := he) (hpl := hpl)
/-- isinstance(x, (T, ..)) -/
def anyTy (a : String) : List D → Option Bool
  | [] => some false
  | .ty b :: r => if isTy b then (match subTy a b, anyTy a r with
    | some x, some y => some (x || y)
    | _, _ => none) else none
  | _ => none
def gIsiT : List D → Store → Rs D
  | [d, .tup bs], st => match tyName st d with
    | some a => match anyTy a bs with
      | some k => .ok (.bl k) st
      | none => .no
    | none => .no
  | _, _ => .no
theorem anyTy_ok {K : PySem.W.Frag} {a : String} (ha : a ∈ ["NoneType", "bool", "int", "str", "tuple", "list", "dict"]) {W f H} : ∀ {vs : List V} {bs : List D} {k : Bool}, Reps W f H vs bs → anyTy a bs = some k → ∃ us, Paired ClsV vs us ∧ PySem.W.kitAny K (.type a) us = some k
  | _, _, _, .nil, h => by cases h; exact ⟨[], .nil, kitAny_nil⟩
  | _, _, k, .cons (d := d) (ds := ds) r t, h => by
    cases r with
    | ty b =>
      simp only [anyTy] at h
      split at h
      · rename_i hb
        have hb' : b ∈ ["bool", "int", "str", "tuple", "list", "dict"] := by simpa [isTy] using hb
        have e0 := kit_sub a ha b hb'
        split at h
        · rename_i x y e1 e2
          cases h
          obtain ⟨us, p1, p2⟩ := anyTy_ok (K := K) ha t e2
          exact ⟨_, .cons (.ty b) p1, kitAny_cons (kit_ty (e0.trans e1)) (fun z => by subst z; exact p2) (fun z => by subst z; rfl)⟩
        · cases h
      · cases h
    | _ => cases h
theorem o_isiT : OpL X cl Wx (rIsiT X.K) gIsiT := by
  intro f H st σ xs us Q S rs h
  unfold gIsiT at h
  split at h
  · rename_i d bs
    obtain ⟨u, v, rfl, q, q'⟩ := rs.two
    cases q' with
    | @tup tp vs _ q1 q2 q3 =>
      split at h
      · rename_i a ea
        split at h
        · rename_i k ek
          obtain ⟨us, p1, p2⟩ := anyTy_ok (K := X.K) (tyName_mem ea) q3 ek
          exact ⟨u, tp, vs, .type a, us, k, rfl, q2, p1, tyName_ok S q ea, p2, h.okv S (.bl _)⟩
        · exact h.elim
      · exact h.elim
  · exact h.elim
theorem pv_isiT (hg : Gl X "isinstance") (hm : X.mg "isinstance" = none) (ha : PVA X cl Wx (e :: es) r) (he : starEach (e :: es) X.env = (false, eval e X.env) :: starEach es X.env := by rfl) (hpl : (backTo pos (starEach es X.env)).any (·.1) = false := by rfl) : PV X cl Wx (.Call (.Name "isinstance" p) (e :: es) [] pos) (mCall gIsiT r) :=
  pv_callB call_isiT o_isiT hg hm (by decide +kernel) ha (he := he) (hpl := hpl)
end
end RR
namespace RR
open PySem PySem.Spec PyProof.Rows L2
theorem FnD.mkD {P : Program} {w : World} {K : PySem.W.Frag} {cl : Ctx} {mg : Str → Option Value} {base : Heap} {x qual : Str} {params : Arguments} {bd : List Stmt} {scope : Scope} {dvs : List V} {kws : List (Str × V)} {f : Addr} {fd : FuncData} {N ps : List Str} {k : Nat} {sem : List D → Store → Rs D} {body : MS}
    (pl : cl.Plain) (F : FunD K x qual params bd scope dvs kws f fd) (S : FnScope N ps scope)
    (hb : ∀ (cdv : Value) (A : Around) (outer : List PySem.Env) (s : Shared) (H : Hp) (E : XK), Room k (A.deeper (envOfC qual scope s.heap.objs.size f cdv)) →
      PVB (cxOf (L2.CX P w) P w K mg base N qual scope f cdv A outer s H E) cl (fun c d _ H => E c d H) bd body)
    (hs : ∀ (ds : List D) (st0 : Store), ds.length = ps.length → Leaves st0 (body (env0 N ds) st0) (sem ds st0)) : FnD P w K cl mg base (k + 1) f fd ps sem := by
  refine F.ok S (fun vs H Q E h => h.1) (fun cdv A outer s H vs Q E hr h => ?_)
  obtain ⟨hl, g, st0, ds, hS, rs, h⟩ := h
  exact ⟨_, hb cdv A outer s H E hr, g, env0 N ds, st0, hS, env0_ok rs (pl _ _), leaves_run hS (hs ds st0 (rs.length.symm.trans hl)) h⟩
end RR

set_option maxRecDepth 100000
set_option maxHeartbeats 1000000
namespace RR
open PySem PySem.Spec PyProof.Rows L2
section
variable {X : Cx} {cl : Ctx} {Wx : WX} {p pos pos' : Pos} {a b e : Expr} {es : List Expr} {ma mb : ME D} {r : ME (List D)}
def sRetN : MS := fun env st => .ok (.rt .non) env st
theorem vs_retN : PVS X cl Wx (.Return none pos) sRetN := by
  refine PS.imp ps_retN fun E σ H h => ?_
  obtain ⟨f, env, st, S, N, h⟩ := h
  exact h σ f H (.refl _ _) S N .non .non
theorem pt_in (ha : PV X cl Wx a ma) (hb : PV X cl Wx b mb) (hm : behindInMarks .In b = false := by with_unfolding_all rfl) : PVT X cl Wx (.Compare a [.In] [b] pos) (mTest (op2 (gIn false) ma mb)) := pvt_cmp op_in_seq o_in ha hb hm
theorem pt_notin (ha : PV X cl Wx a ma) (hb : PV X cl Wx b mb) (hm : behindInMarks .NotIn b = false := by with_unfolding_all rfl) : PVT X cl Wx (.Compare a [.NotIn] [b] pos) (mTest (op2 (gIn true) ma mb)) := pvt_cmp op_notIn_seq o_in ha hb hm
theorem tin_of {K : PySem.W.Frag} {neg : Bool} {σ H} {Q : Bool → Hp → Prop} (h : rdT ⟨K, cl⟩ Wx (mTest (op2 (gDin neg) ma mb)) σ H Q) : rdE ⟨K, cl⟩ Wx (op2 (gDin neg) ma mb) σ H (fun x H' => ∃ k, x = .bl k ∧ Q k H') := by
  obtain ⟨f, env, st, S, N, h⟩ := h
  refine h.bind S N fun u H1 f1 x st1 A1 h1 => ?_
  have r := A1.rel
  cases r with
  | bl b => exact ⟨b, rfl, h1.okv A1.sim rfl⟩
  | _ => exact h1.elim
theorem rd_din {K : PySem.W.Frag} {neg : Bool} {σ H} {Q : VK} (h : rdE ⟨K, cl⟩ Wx (op2 (gDin neg) ma mb) σ H Q) : rdE ⟨K, cl⟩ Wx ma σ H fun y H1 => rdE ⟨K, cl⟩ Wx mb σ H1 fun x H2 => ∃ a o, x = .ref a ∧ DGet H2 a y o ∧ Q (.bl (if neg then !o.isSome else o.isSome)) H2 := by
  obtain ⟨f, env, st, S, N, h⟩ := h
  refine h.bind S N fun u H1 f1 x st1 A1 h1 => ?_
  refine h1.bind A1.sim A1.env fun v H2 f2 y st2 A2 h2 => ?_
  unfold gDin at h2
  split at h2
  · rename_i z eq
    obtain ⟨a, o', rfl, g, q1, q2⟩ := A2.sim.dict A2.rel (A1.rel.mono A2.ext.lean) eq
    refine ⟨a, o', rfl, g, h2.okv A2.sim ?_⟩
    rw [some_same q1 q2]
    exact .bl _
  · exact h2.elim
theorem pt_din (hu : X.A.units + 1 < cLine) (ha : PV X cl Wx a ma) (hb : PV X cl Wx b mb) (hm : behindInMarks .In b = false := by with_unfolding_all rfl) : PVT X cl Wx (.Compare a [.In] [b] pos) (mTest (op2 (gDin false) ma mb)) := by
  refine PT.imp (pt_cmp (pc_din hu ha hb) hm) fun σ H Q h => ?_
  exact rdG.mono (rd_din (tin_of h)) fun y H1 q => rdG.mono q fun x H2 ⟨a, o, e, g, q⟩ => ⟨a, o, e, g, q⟩
theorem pt_dnotin (hu : X.A.units + 1 < cLine) (ha : PV X cl Wx a ma) (hb : PV X cl Wx b mb) (hm : behindInMarks .NotIn b = false := by with_unfolding_all rfl) : PVT X cl Wx (.Compare a [.NotIn] [b] pos) (mTest (op2 (gDin true) ma mb)) := by
  refine PT.imp (pt_cmp (pc_dnotin hu ha hb) hm) fun σ H Q h => ?_
  exact rdG.mono (rd_din (tin_of h)) fun y H1 q => rdG.mono q fun x H2 ⟨a, o, e, g, q⟩ => ⟨a, o, e, g, q⟩
theorem rd_isN {K : PySem.W.Frag} {neg : Bool} {σ H} {Q : Bool → Hp → Prop} (h : rdT ⟨K, cl⟩ Wx (mTest (op1 (gIsN neg) ma)) σ H Q) : rdE ⟨K, cl⟩ Wx ma σ H (fun x H1 => Q (if neg then !decide (x = .non) else decide (x = .non)) H1) := by
  obtain ⟨f, env, st, S, N, h⟩ := h
  have h' : RunAt ⟨K, cl⟩ Wx (fun _ _ a b => a = b) f H σ (mbind ma (fun x _ st => Rs.ok (match x with | .non => !neg | _ => neg) st) env st) Q := by
    have e : mTest (op1 (gIsN neg) ma) env st = mbind ma (fun x _ st => Rs.ok (match x with | .non => !neg | _ => neg) st) env st := by
      unfold mTest op1 mbind gIsN
      cases ma env st <;> rfl
    rw [← e]; exact h
  refine h'.bind S N fun u H1 f1 x st1 A1 h1 => ?_
  have e := rep_non A1.rel
  refine h1.okv A1.sim ?_
  rw [e]
  cases x <;> cases neg <;> rfl
theorem pt_isN {j pos'} (ha : PV X cl Wx a ma) : PVT X cl Wx (.Compare a [.Is] [.Constant .none j pos'] pos) (mTest (op1 (gIsN false) ma)) := by
  refine PT.imp (pt_cmp (pc_isN ha) rfl) fun σ H Q h => ?_
  exact rdG.mono (rd_isN h) fun x H1 q => ⟨_, rfl, q⟩
theorem pt_notN {j pos'} (ha : PV X cl Wx a ma) : PVT X cl Wx (.Compare a [.IsNot] [.Constant .none j pos'] pos) (mTest (op1 (gIsN true) ma)) := by
  refine PT.imp (pt_cmp (pc_notN ha) rfl) fun σ H Q h => ?_
  exact rdG.mono (rd_isN h) fun x H1 q => ⟨_, rfl, q⟩
end

/-! ### the entries: what a def of the text is, told for its callers -/
section
variable (P : Program) (w : World) (K : PySem.W.Frag) (cl : Ctx) (mg : Str → Option Value) (base : Heap)
/-- a def that stands at a name; dds: the defaults that fill up -/
def Ent (x : Str) (k : Nat) (ps : List Str) (dds : List D) (sem : List D → Store → Rs D) : Prop :=
  ∃ (f : Addr) (fd : FuncData) (dvs : List V) (ds : List Value), mg x = some (.ref f) ∧ PySem.W.keepIn K (.ref f) = true ∧ Binds K fd ps ds ∧ Vals dvs ds ∧ (∀ f H, Reps ⟨K, cl⟩ f H dvs dds) ∧ FnD P w K cl mg base k f fd ps sem
/-- a method of the class t -/
def EntM (t : Nat) (m : Str) (k : Nat) (ps : List Str) (sem : List D → Store → Rs D) : Prop :=
  ∃ (f : Addr) (fd : FuncData), Meth K (cl t) m f ∧ Binds K fd ps [] ∧ FnD P w K cl mg base k f fd ps sem
/-- the class t, made -/
def EntI (x : Str) (t : Nat) (k : Nat) (ps : List Str) (sem : List D → Store → Rs D) : Prop :=
  ∃ (f : Addr) (fd : FuncData), mg x = some (.ref (cl t)) ∧ Mk K (cl t) f ∧ Binds K fd ps [] ∧ FnD P w K cl mg base k f fd ps sem
end
section
variable {X : Cx} {cl : Ctx} {Wx : WX} {k : Nat} {ps : List Str} {sem : List D → Store → Rs D} {dds : List D} {x m : Str} {p pos apos : Pos} {e o : Expr} {es : List Expr} {mo : ME D} {r : ME (List D)} {t : Nat}
theorem pc_fn (h : Ent X.prog X.w X.K cl X.mg X.base x k ps dds sem) (hA : HasArity ps.length sem) (hr : Room k X.A) (hg : Gl X x) (tk : Takes X Wx) (ha : PVA X cl Wx (e :: es) r)
    (hdb : (x == ("__debug__" : Str)) = false := by decide) (he : starEach (e :: es) X.env = (false, eval e X.env) :: starEach es X.env := by rfl) (hpl : (backTo pos (starEach es X.env)).any (·.1) = false := by rfl) :
    PV X cl Wx (.Call (.Name x p) (e :: es) [] pos) (mFn sem dds r) := by
  obtain ⟨f, fd, dvs, ds, h1, h2, h3, h4, h5, h6⟩ := h
  exact pv_call h6 hA hr hg h1 h2 h3 h4 h5 tk ha hdb he hpl
theorem pc_mt {pl : Sem Bool} (h : EntM X.prog X.w X.K cl X.mg X.base t m k ps sem) (c : Cls X.K (cl t)) (hA : HasArity ps.length sem) (hr : Room k X.A) (ho : PV X cl Wx o mo) (tk : Takes X Wx) (ha : PVA X cl Wx (e :: es) r)
    (hst : starEach (e :: es) X.env = (false, eval e X.env) :: starEach es X.env := by rfl) (hpl : (backTo pos (starEach es X.env)).any (·.1) = false := by rfl)
    (ht : eval (.Call (.Attribute o m apos) (e :: es) [] pos) X.env = (do
      let ov ← eval o X.env
      standAt apos.atName
      let (f, first) ← holding [ov] (getMethod ov m pl)
      callWith pos f first (backTo pos (starEach (e :: es) X.env)) (backToKw pos (keywordEach [] X.env))) := by rfl) :
    PV X cl Wx (.Call (.Attribute o m apos) (e :: es) [] pos) (mMt t m sem [] mo r) := by
  obtain ⟨f, fd, h1, h2, h3⟩ := h
  exact pv_meth (pl := pl) ho c h1 h3 hA hr h2 .nil (fun _ _ => .nil) tk ha hst hpl ht
theorem pc_mt0 {pl : Sem Bool} (h : EntM X.prog X.w X.K cl X.mg X.base t m k ps sem) (c : Cls X.K (cl t)) (hA : HasArity ps.length sem) (hr : Room k X.A) (ho : PV X cl Wx o mo) (tk : Takes X Wx)
    (ht : eval (.Call (.Attribute o m apos) [] [] pos) X.env = (do
      let ov ← eval o X.env
      standAt apos.atName
      let (f, first) ← holding [ov] (getMethod ov m pl)
      callWith pos f first (backTo pos (starEach [] X.env)) (backToKw pos (keywordEach [] X.env))) := by rfl) :
    PV X cl Wx (.Call (.Attribute o m apos) [] [] pos) (mMt t m sem [] mo aNil) := by
  obtain ⟨f, fd, h1, h2, h3⟩ := h
  exact pv_meth0 (pl := pl) ho c h1 h3 hA hr h2 .nil (fun _ _ => .nil) tk ht
theorem pc_mk (h : EntI X.prog X.w X.K cl X.mg X.base x t k ps sem) (hA : HasArity ps.length sem) (hr : Room (k + 1) X.A) (hg : Gl X x) (tk : Takes X Wx) (ha : PVA X cl Wx (e :: es) r)
    (hdb : (x == ("__debug__" : Str)) = false := by decide) (he : starEach (e :: es) X.env = (false, eval e X.env) :: starEach es X.env := by rfl) (hpl : (backTo pos (starEach es X.env)).any (·.1) = false := by rfl) :
    PV X cl Wx (.Call (.Name x p) (e :: es) [] pos) (mMk t sem [] r) := by
  obtain ⟨f, fd, h1, h2, h3, h4⟩ := h
  exact pv_make h2 h4 hA hr hg h1 h3 .nil (fun _ _ => .nil) tk ha hdb he hpl
end
end RR
namespace RR
open PySem PySem.Spec PyProof.Rows L2
/-- a module's constant -/
def MgI (mg : Str → Option Value) (x : Str) (i : Int) : Prop := ∃ t, mg x = some (.int i t)
def MgS (mg : Str → Option Value) (x : Str) (s : Str) : Prop := ∃ t, mg x = some (.str s t)
theorem MgI.int {X : Cx} {cl : Ctx} {Wx : WX} {x : Str} {i : Int} {pos : Pos} (h : MgI X.mg x i) (hg : Gl X x) (hd : (x == ("__debug__" : Str)) = false := by decide) : PV X cl Wx (.Name x pos) (mret (.int i)) :=
  let ⟨t, h⟩ := h
  pv_glob hg h (v := .int i) ⟨t, rfl⟩ (fun _ _ => .int _) hd
theorem MgS.str {X : Cx} {cl : Ctx} {Wx : WX} {x s : Str} {pos : Pos} (h : MgS X.mg x s) (hg : Gl X x) (hd : (x == ("__debug__" : Str)) = false := by decide) : PV X cl Wx (.Name x pos) (mret (.str s)) :=
  let ⟨t, h⟩ := h
  pv_glob hg h (v := .str s) ⟨t, rfl⟩ (fun _ _ => .str _) hd
end RR

set_option maxRecDepth 100000
set_option maxHeartbeats 1000000
namespace RR
open PySem PySem.Spec PyProof.Rows L2

/-! ### a def's meaning by its body -/
open Classical in
noncomputable def leaveX (n : Nat) (st0 : Store) (e : Ex) (st : Store) : Rs D :=
  if LowOk st0 st n then (if e.low n = true then .exc e (st.take n) else .no) else .no
noncomputable def semB (k keep np : Nat) (N : List Str) (b : MS) : List D → Store → Rs D := fun ds st0 =>
  if ds.length = np then (match b (env0 N ds) st0 with
    | .ok (.rt d) _ st1 => leave k (st0.length + keep) st0 d st1
    | .ok .nx _ st1 => leave k (st0.length + keep) st0 .non st1
    | .exc e _ st1 => leaveX (st0.length + keep) st0 e st1
    | _ => .no) else .no
theorem ar_B {k keep np : Nat} {N : List Str} {b : MS} : HasArity np (semB k keep np N b) := fun ds st h => by
  unfold semB
  rw [if_neg h]
theorem leave_out {k n : Nat} {st0 st st' : Store} {d d' : D} (h : leave k n st0 d st = .ok d' st') : LowOk st0 st n ∧ frz n st k d = some d' ∧ st' = st.take n := by
  unfold leave at h
  split at h
  · rename_i hl
    split at h
    · rename_i x e
      cases h
      exact ⟨hl, e, rfl⟩
    · cases h
  · cases h
theorem leave_noexc {k n : Nat} {st0 st : Store} {d : D} {e st'} (h : leave k n st0 d st = .exc e st') : False := by
  unfold leave at h
  split at h
  · split at h <;> cases h
  · cases h
theorem lv_B {k keep np : Nat} {N : List Str} {b : MS} {ds : List D} {st0 : Store} (hl : ds.length = np) : Leaves st0 (b (env0 N ds) st0) (semB k keep np N b ds st0) := by
  unfold semB
  rw [if_pos hl]
  cases e : b (env0 N ds) st0 with
  | no => trivial
  | exc x e1 s1 =>
    unfold leaveX
    simp only
    split
    · rename_i hlow
      split
      · rename_i hx
        exact ⟨st0.length + keep, e1, s1, rfl, Nat.le_add_right _ _, hlow, hx, rfl⟩
      · trivial
    · trivial
  | ok fl e1 s1 =>
    cases fl with
    | bk => trivial
    | ct => trivial
    | rt d =>
      simp only
      cases er : leave k (st0.length + keep) st0 d s1 with
      | no => trivial
      | exc y s2 => exact (leave_noexc er).elim
      | ok d' s2 =>
        obtain ⟨h1, h2, h3⟩ := leave_out er
        exact ⟨k, st0.length + keep, d, e1, s1, .inl rfl, Nat.le_add_right _ _, h1, h2, h3⟩
    | nx =>
      simp only
      cases er : leave k (st0.length + keep) st0 .non s1 with
      | no => trivial
      | exc y s2 => exact (leave_noexc er).elim
      | ok d' s2 =>
        obtain ⟨h1, h2, h3⟩ := leave_out er
        exact ⟨k, st0.length + keep, .non, e1, s1, .inr ⟨rfl, rfl⟩, Nat.le_add_right _ _, h1, h2, h3⟩

/-! ### leaving, reckoned -/
theorem leave_ok {k n : Nat} {st0 st : Store} {d d' : D} (hl : LowOk st0 st n) (h : frz n st k d = some d') : leave k n st0 d st = .ok d' (st.take n) := by
  unfold leave
  rw [if_pos hl]
  simp only [h]
/-- nothing was changed; behind the cells that stood come those of the frame -/
theorem leave_app {k : Nat} {st tail : Store} {d d' : D} (h : frz st.length (st ++ tail) k d = some d') : leave k st.length st d (st ++ tail) = .ok d' st := by
  rw [leave_ok low_same h]; simp
theorem leave_refl {k : Nat} {st : Store} {d : D} (h : frz st.length st k d = some d) : leave k st.length st d st = .ok d st := by
  rw [leave_ok low_refl h]; simp
theorem frz_low {n k : Nat} {st : Store} {d : D} (h : below n d = true) : frz n st k d = some d := by
  cases k with
  | zero => simp [frz, h]
  | succ k =>
    cases d with
    | ref i => simp only [below, decide_eq_true_eq] at h; simp [frz, h]
    | _ => simp [frz, h]
/-- data that lean on no cell at all -/
def Pure (d : D) : Prop := ∀ n, below n d = true
def Pures (ds : List D) : Prop := ∀ n, belows n ds = true
theorem pure_int {i : Int} : Pure (.int i) := fun _ => rfl
theorem pure_bl {i : Bool} : Pure (.bl i) := fun _ => rfl
theorem pure_non : Pure .non := fun _ => rfl
theorem pure_str {i : Str} : Pure (.str i) := fun _ => rfl
theorem pures_nil : Pures [] := fun _ => rfl
theorem pures_cons {d : D} {ds : List D} (h : Pure d) (t : Pures ds) : Pures (d :: ds) := fun n => by simp [belows, h n, t n]
theorem pures_of {ds : List D} (h : ∀ d ∈ ds, Pure d) : Pures ds := by
  induction ds with
  | nil => exact pures_nil
  | cons d ds ih => exact pures_cons (h d (by simp)) (ih fun x hx => h x (by simp [hx]))
theorem pures_mem {ds : List D} (h : Pures ds) : ∀ d ∈ ds, Pure d := by
  induction ds with
  | nil => intro d hd; cases hd
  | cons x xs ih =>
    intro d hd n
    have := h n
    simp only [belows, Bool.and_eq_true] at this
    have ih' := ih (fun n => by have := h n; simp only [belows, Bool.and_eq_true] at this; exact this.2)
    rcases List.mem_cons.mp hd with rfl | hd
    · exact this.1
    · exact ih' d hd n
theorem pures_map {A : Type} {xs : List A} {g : A → D} (h : ∀ x ∈ xs, Pure (g x)) : Pures (xs.map g) := pures_of fun d hd => by
  obtain ⟨x, hx, rfl⟩ := List.mem_map.mp hd
  exact h x hx
theorem pures_app {xs ys : List D} (h : Pures xs) (t : Pures ys) : Pures (xs ++ ys) := pures_of fun d hd => (List.mem_append.mp hd).elim (pures_mem h d) (pures_mem t d)
theorem pure_lst {ds : List D} (h : Pures ds) : Pure (.lst ds) := fun n => h n
theorem pure_tup {ds : List D} (h : Pures ds) : Pure (.tup ds) := fun n => h n
theorem leave_pure {k : Nat} {st : Store} {d : D} (h : Pure d) : leave k st.length st d st = .ok d st := leave_refl (frz_low (h _))
theorem mapO_same {g : D → Option D} : ∀ {ds : List D}, (∀ d ∈ ds, g d = some d) → mapO g ds = some ds
  | [], _ => rfl
  | d :: ds, h => by
    have ih : mapO g ds = some ds := mapO_same fun x hx => h x (List.mem_cons_of_mem _ hx)
    simp only [mapO, h d List.mem_cons_self, ih]
/-- the list in the frame's first cell -/
theorem leave_lst {k : Nat} {st tail : Store} {ds : List D} (h : belows st.length ds = true) : leave (k + 1) st.length st (.ref st.length) (st ++ .lst ds :: tail) = .ok (.lst ds) st := by
  refine leave_app ?_
  simp only [frz, Nat.lt_irrefl, if_false]
  have e : (st ++ Cell.lst ds :: tail)[st.length]? = some (.lst ds) := by simp
  rw [e]
  simp only
  rw [mapO_same fun d hd => frz_low (by
    have : ∀ (ds : List D), belows st.length ds = true → ∀ d ∈ ds, below st.length d = true := by
      intro ds
      induction ds with
      | nil => intro _ d hd; cases hd
      | cons x xs ih =>
        intro h d hd
        simp only [belows, Bool.and_eq_true] at h
        rcases List.mem_cons.mp hd with rfl | hd
        · exact h.1
        · exact ih h.2 d hd
    exact this ds h d hd)]
  rfl

/-! ### loops, reckoned -/
/-- the things that s gives, one by one -/
def Gives (s : Src) (st : Store) (xs : List D) : Prop := ∀ k, s.get st k = some xs[k]?
theorem gives_lst {st : Store} {ds : List D} : Gives (.seq (.lst ds)) st ds := fun k => rfl
theorem gives_tup {st : Store} {ds : List D} : Gives (.seq (.tup ds)) st ds := fun k => rfl
theorem gives_ktp {st : Store} {ds : List D} : Gives (.seq (.ktp ds)) st ds := fun k => rfl
theorem gives_scr {st : Store} {ns : List Int} : Gives (.seq (.scr ns)) st (ns.map .int) := fun k => rfl
theorem gives_ref {st : Store} {i : Nat} {ds : List D} (h : st[i]? = some (.lst ds)) : Gives (.seq (.ref i)) st ds := fun k => by
  simp [Src.get, itemsOf, seqOf, h]
theorem gives_rng {st : Store} {lo : Int} {n : Nat} : Gives (.rng lo n) st ((List.range n).map fun i => .int (lo + (i : Nat))) := fun k => by
  simp only [Src.get, List.getElem?_map, List.getElem?_range]
  by_cases h : k < n
  · simp [h]
  · simp [h]
def pairUp (ds : List D) : List D := ds.zipIdx.map fun p => .tup [.int (p.2 : Nat), p.1]
theorem gives_enum {st : Store} {d : D} {ds : List D} (h : itemsOf st d = some ds) : Gives (.enum d) st (pairUp ds) := fun k => by
  simp only [Src.get, h, Option.map_some, pairUp, List.getElem?_map, List.getElem?_zipIdx]
  cases ds[k]? <;> simp
theorem gives_zip {st : Store} {d e : D} {xs ys : List D} (h : seqOf st d = some xs) (h' : seqOf st e = some ys) : Gives (.zip d e) st ((xs.zip ys).map fun p => .tup [p.1, p.2]) := fun k => by
  simp only [Src.get, h, h', List.getElem?_map, List.getElem?_zip_eq_some]
  cases ex : xs[k]? with
  | none =>
    have : (xs.zip ys)[k]? = none := by
      rw [List.getElem?_eq_none_iff] at ex ⊢
      rw [List.length_zip]; omega
    simp [this]
  | some x =>
    cases ey : ys[k]? with
    | none =>
      have : (xs.zip ys)[k]? = none := by
        rw [List.getElem?_eq_none_iff] at ey ⊢
        rw [List.length_zip]; omega
      simp [this]
    | some y =>
      have : (xs.zip ys)[k]? = some (x, y) := List.getElem?_zip_eq_some.mpr ⟨ex, ey⟩
      simp [this]
/-- one turn -/
def sTurn (g : D → MS) (b : MS) (x : D) : MS := fun env st => (g x env st).tgt fun e s => (b e s).lp fun e s => .ok .nx e s
theorem turn_out {g : D → MS} {b : MS} {x : D} {env : Env} {st : Store} {e2 s2} (h : sTurn g b x env st = .ok .nx e2 s2) (k : Env → Store → RS) (hb : ∀ e s e' s', b e s ≠ .ok .bk e' s') : ((g x env st).tgt fun e s => (b e s).lp k) = k e2 s2 := by
  unfold sTurn at h
  cases eg : g x env st with
  | no => rw [eg] at h; cases h
  | exc y a c => rw [eg] at h; cases h
  | ok fl e1 s1 =>
    rw [eg] at h
    cases fl with
    | nx =>
      simp only [RS.tgt] at h ⊢
      cases eb : b e1 s1 with
      | no => rw [eb] at h; cases h
      | exc y a c => rw [eb] at h; cases h
      | ok fl e3 s3 =>
        rw [eb] at h
        cases fl with
        | nx => cases h; rfl
        | ct => cases h; rfl
        | bk => exact (hb _ _ _ _ eb).elim
        | rt d => cases h
    | _ => cases h
/-- a body that never breaks -/
def NoBk (b : MS) : Prop := ∀ e s e' s', b e s ≠ .ok .bk e' s'
theorem sLoop_inv {s : Src} {g : D → MS} {b : MS} {xs : List D} (nb : NoBk b) (I : Nat → Env → Store → Prop) (hs : ∀ k env st, k ≤ xs.length → I k env st → s.get st k = some xs[k]?)
    (turn : ∀ (k : Nat) (x : D) (env : Env) (st : Store), xs[k]? = some x → I k env st → ∃ env2 st2, sTurn g b x env st = .ok .nx env2 st2 ∧ I (k + 1) env2 st2) :
    ∀ (m k : Nat) (env : Env) (st : Store), k ≤ xs.length → xs.length < m + k → I k env st → ∃ env' st', sLoop s g b m k env st = .ok .nx env' st' ∧ I xs.length env' st'
  | 0, k, env, st, h1, h2, h => by omega
  | m + 1, k, env, st, h1, h2, h => by
    have e := hs k env st h1 h
    simp only [sLoop, e]
    by_cases hk : k < xs.length
    · have ex : xs[k]? = some xs[k] := by simp [hk]
      rw [ex]
      obtain ⟨env2, st2, e1, h3⟩ := turn k xs[k] env st ex h
      obtain ⟨env', st', e4, h4⟩ := sLoop_inv nb I hs turn m (k + 1) env2 st2 (by omega) (by omega) h3
      refine ⟨env', st', ?_, h4⟩
      show ((g xs[k] env st).tgt fun e1 s1 => (b e1 s1).lp (sLoop s g b m (k + 1))) = _
      rw [turn_out e1 _ nb]
      exact e4
    · have : k = xs.length := by omega
      subst this
      exact ⟨env, st, by simp, h⟩
theorem sFor_inv {ms : ME Src} {s : Src} {g : D → MS} {b : MS} {xs : List D} {env : Env} {st st1 : Store} (he : ms env st = .ok s st1) (hn : xs.length < 100000) (nb : NoBk b) (I : Nat → Env → Store → Prop) (h0 : I 0 env st1) (hs : ∀ k env st, k ≤ xs.length → I k env st → s.get st k = some xs[k]?)
    (turn : ∀ (k : Nat) (x : D) (env : Env) (st : Store), xs[k]? = some x → I k env st → ∃ env2 st2, sTurn g b x env st = .ok .nx env2 st2 ∧ I (k + 1) env2 st2) :
    ∃ env' st', sFor ms g b env st = .ok .nx env' st' ∧ I xs.length env' st' := by
  unfold sFor sBind
  simp only [he]
  exact sLoop_inv nb I hs turn FUEL 0 env st1 (Nat.zero_le _) (by unfold FUEL; omega) h0
theorem nb_expr {m : ME D} : NoBk (sExpr m) := fun e s e' s' h => by
  unfold sExpr sBind at h
  cases em : m e s with
  | ok d s1 => rw [em] at h; cases h
  | exc x s1 => rw [em] at h; cases h
  | no => rw [em] at h; cases h
theorem nb_bind {A : Type} {m : ME A} {k : A → MS} (hk : ∀ a, NoBk (k a)) : NoBk (sBind m k) := fun e s e' s' h => by
  unfold sBind at h
  cases em : m e s with
  | ok d s1 => rw [em] at h; exact hk _ _ _ _ _ h
  | exc x s1 => rw [em] at h; cases h
  | no => rw [em] at h; cases h
theorem nb_seq {m k : MS} (h1 : NoBk m) (h2 : NoBk k) : NoBk (sSeq m k) := fun e s e' s' h => by
  unfold sSeq at h
  cases em : m e s with
  | ok fl e1 s1 =>
    rw [em] at h
    cases fl with
    | nx => exact h2 _ _ _ _ h
    | bk => exact h1 _ _ _ _ em
    | ct => cases h
    | rt d => cases h
  | exc x a b => rw [em] at h; cases h
  | no => rw [em] at h; cases h
theorem nb_set {i : Nat} {m : ME D} : NoBk (sSet i m) := nb_bind fun a e s e' s' h => by cases h
theorem nb_ret {m : ME D} : NoBk (sRet m) := nb_bind fun a e s e' s' h => by cases h
theorem nb_nil : NoBk sNil := fun e s e' s' h => by cases h
theorem nb_no : NoBk sNo := fun e s e' s' h => by cases h
theorem nb_if {t : ME Bool} {a b : MS} (h1 : NoBk a) (h2 : NoBk b) : NoBk (sIf t a b) := nb_bind fun k => by
  cases k
  · exact h2
  · exact h1
theorem nb_loop {s : Src} {g : D → MS} {b : MS} : ∀ m k, NoBk (sLoop s g b m k)
  | 0, k => fun e s e' s' h => by cases h
  | m + 1, k => fun e st e' st' h => by
    simp only [sLoop] at h
    split at h
    · rename_i x ex
      cases eg : g x e st with
      | no => rw [eg] at h; cases h
      | exc y a c => rw [eg] at h; cases h
      | ok fl e1 s1 =>
        rw [eg] at h
        cases fl with
        | nx =>
          have h' : ((b e1 s1).lp fun env st => sLoop s g b m (k + 1) env st) = RS.ok Fl.bk e' st' := h
          cases eb : b e1 s1 with
          | no => rw [eb] at h'; cases h'
          | exc y a c => rw [eb] at h'; cases h'
          | ok fl e3 s3 =>
            rw [eb] at h'
            cases fl with
            | nx => exact nb_loop m (k + 1) _ _ _ _ h'
            | ct => exact nb_loop m (k + 1) _ _ _ _ h'
            | bk => cases h'
            | rt d => cases h'
        | _ => cases h
    · cases h
    · cases h
theorem nb_for {ms : ME Src} {g : D → MS} {b : MS} : NoBk (sFor ms g b) := nb_bind fun s => nb_loop _ _
theorem nb_asg {m : ME D} {g : D → MS} : NoBk (sAsg m (okNx g)) := nb_bind fun d e s e' s' h => by
  unfold okNx at h
  split at h <;> cases h
theorem nb_par {i j : Nat} {ma mb : ME D} : NoBk (sPar i j ma mb) := nb_bind fun x => nb_bind fun y e s e' s' h => by cases h
theorem nb_subset {ma mb mc : ME D} : NoBk (sSubSet ma mb mc) := nb_bind fun x => nb_bind fun y => nb_bind fun z e s e' s' h => by
  revert h
  split <;> (intro h; cases h)
theorem nb_dput {ma mb mc : ME D} : NoBk (sDput ma mb mc) := nb_bind fun x => nb_bind fun y => nb_bind fun z e s e' s' h => by
  revert h
  split <;> (intro h; cases h)
theorem nb_fld {t x} {ma mb : ME D} : NoBk (sFldSet t x ma mb) := nb_bind fun x => nb_bind fun y e s e' s' h => by
  revert h
  split
  · split
    · split <;> (intro h; cases h)
    · intro h; cases h
  · intro h; cases h
/-- a comprehension whose parts change nothing -/
theorem cLoop_pure {s : Src} {g : D → MS} {tt : ME Bool} {te : ME D} {en : Env} {st : Store} {xs : List D} (p : D → Bool) (f : D → D)
    (hs : ∀ acc, Gives s (st ++ [.lst acc]) xs)
    (turn : ∀ x ∈ xs, ∀ acc, ∃ env1, g x en (st ++ [.lst acc]) = .ok .nx env1 (st ++ [.lst acc]) ∧ tt env1 (st ++ [.lst acc]) = .ok (p x) (st ++ [.lst acc]) ∧ (p x = true → te env1 (st ++ [.lst acc]) = .ok (f x) (st ++ [.lst acc]))) :
    ∀ (m k : Nat) (acc : List D), k ≤ xs.length → xs.length < m + k → acc.length ≤ k → xs.length < 1000000 → cLoop s g tt te en st.length m k (st ++ [.lst acc]) = .ok () (st ++ [.lst (acc ++ ((xs.drop k).filter p).map f)])
  | 0, k, acc, h1, h2, h3, h4 => by omega
  | m + 1, k, acc, h1, h2, h3, h4 => by
    simp only [cLoop, hs acc k]
    by_cases hk : k < xs.length
    · have ex : xs[k]? = some xs[k] := by simp [hk]
      rw [ex]
      obtain ⟨env1, e1, e2, e3⟩ := turn xs[k] (by simp) acc
      simp only [e1, e2, Rs.nx, Rs.bind]
      have ed : xs.drop k = xs[k] :: xs.drop (k + 1) := by simp
      cases ep : p xs[k] with
      | false =>
        simp only
        rw [cLoop_pure p f hs turn m (k + 1) acc (by omega) (by omega) (by omega) h4, ed, List.filter_cons]
        simp [ep]
      | true =>
        simp only [e3 ep, Rs.nx, Rs.bind]
        have ec : cellL (st ++ [Cell.lst acc]) (.ref st.length) = some (st.length, acc) := by simp [cellL]
        simp only [ec]
        rw [if_pos (by omega)]
        have es : (st ++ [Cell.lst acc]).set st.length (.lst (acc ++ [f xs[k]])) = st ++ [.lst (acc ++ [f xs[k]])] := by simp
        rw [es, cLoop_pure p f hs turn m (k + 1) _ (by omega) (by omega) (by simp; omega) h4, ed, List.filter_cons]
        simp [ep]
    · have : k = xs.length := by omega
      subst this
      simp
theorem mLcN_pure {it : ME Src} {s : Src} {g : D → MS} {tt : ME Bool} {te : ME D} {vs : List Nat} {env : Env} {st st1 : Store} {xs : List D} (p : D → Bool) (f : D → D) (he : it env st = .ok s st1) (hn : xs.length < 100000)
    (hs : ∀ acc, Gives s (st1 ++ [.lst acc]) xs)
    (turn : ∀ x ∈ xs, ∀ acc, ∃ env1, g x (wipeE env vs) (st1 ++ [.lst acc]) = .ok .nx env1 (st1 ++ [.lst acc]) ∧ tt env1 (st1 ++ [.lst acc]) = .ok (p x) (st1 ++ [.lst acc]) ∧ (p x = true → te env1 (st1 ++ [.lst acc]) = .ok (f x) (st1 ++ [.lst acc]))) :
    mLcN it g tt te vs env st = .ok (.ref st1.length) (st1 ++ [.lst ((xs.filter p).map f)]) := by
  unfold mLcN mbind
  simp only [he, Rs.bind]
  rw [cLoop_pure p f hs turn FUEL 0 [] (Nat.zero_le _) (by unfold FUEL; omega) (Nat.le_refl _) (by omega)]
  simp
theorem mLc_pure {k : Nat} {it : ME Src} {s : Src} {g : D → MS} {tt : ME Bool} {te : ME D} {vs : List Nat} {env : Env} {st : Store} {xs : List D} (p : D → Bool) (f : D → D) (he : it env st = .ok s st) (hn : xs.length < 100000)
    (hs : ∀ acc, Gives s (st ++ [.lst acc]) xs)
    (turn : ∀ x ∈ xs, ∀ acc, ∃ env1, g x (wipeE env vs) (st ++ [.lst acc]) = .ok .nx env1 (st ++ [.lst acc]) ∧ tt env1 (st ++ [.lst acc]) = .ok (p x) (st ++ [.lst acc]) ∧ (p x = true → te env1 (st ++ [.lst acc]) = .ok (f x) (st ++ [.lst acc])))
    (hb : belows st.length ((xs.filter p).map f) = true) : mLeave (k + 1) (mLcN it g tt te vs) env st = .ok (.lst ((xs.filter p).map f)) st := by
  unfold mLeave
  rw [mLcN_pure p f he hn hs turn]
  exact leave_lst hb
end RR

set_option maxRecDepth 100000
set_option maxHeartbeats 1000000
namespace RR
open PySem PySem.Spec PyProof.Rows L2

/-! ### the meanings, applied: for simp -/
section
variable {A B : Type} {env : Env} {st : Store}
@[simp] theorem a_bind_ok {a : A} {k : A → Store → Rs B} : (Rs.ok a st).bind k = k a st := rfl
@[simp] theorem a_bind_no {k : A → Store → Rs B} : (Rs.no : Rs A).bind k = .no := rfl
@[simp] theorem a_bind_exc {e} {k : A → Store → Rs B} : (Rs.exc e st : Rs A).bind k = .exc e st := rfl
@[simp] theorem a_nx_ok {a : A} : (Rs.ok a st).nx = .ok a st := rfl
@[simp] theorem a_nx_no : (Rs.no : Rs A).nx = .no := rfl
@[simp] theorem a_nx_exc {e} : (Rs.exc e st : Rs A).nx = .no := rfl
@[simp] theorem a_mbind {m : ME A} {k : A → ME B} : mbind m k env st = (m env st).bind fun a st => k a env st := rfl
@[simp] theorem a_mret {a : A} : mret a env st = .ok a st := rfl
@[simp] theorem a_mno : (mno : ME A) env st = .no := rfl
@[simp] theorem a_var {i : Nat} : mVar i env st = match env[i]? with | some (some d) => .ok d st | _ => .no := rfl
@[simp] theorem a_op2 {g ma mb} : op2 g ma mb env st = (ma env st).bind fun x st => (mb env st).bind fun y st => g x y st := rfl
@[simp] theorem a_op1 {g ma} : op1 g ma env st = (ma env st).bind fun x st => g x st := rfl
@[simp] theorem a_test {m} : mTest m env st = (m env st).bind fun d st => (match d with | .bl b => .ok b st | _ => .no) := by
  unfold mTest mbind
  cases m env st with
  | ok d s => cases d <;> rfl
  | exc e s => rfl
  | no => rfl
@[simp] theorem a_and {ma mb} : mAnd ma mb env st = (ma env st).bind fun d st => (match d with | .bl true => mb env st | .bl false => .ok (.bl false) st | _ => .no) := by
  unfold mAnd mbind
  cases ma env st with
  | ok d s => cases d <;> first | rfl | (rename_i b; cases b <;> rfl)
  | exc e s => rfl
  | no => rfl
@[simp] theorem a_or {ma mb} : mOr ma mb env st = (ma env st).bind fun d st => (match d with | .bl true => .ok (.bl true) st | .bl false => mb env st | _ => .no) := by
  unfold mOr mbind
  cases ma env st with
  | ok d s => cases d <;> first | rfl | (rename_i b; cases b <;> rfl)
  | exc e s => rfl
  | no => rfl
@[simp] theorem a_not {ma} : mNot ma env st = (ma env st).bind fun d st => (match d with | .bl b => .ok (.bl (!b)) st | _ => .no) := by
  unfold mNot mbind
  cases ma env st with
  | ok d s => cases d <;> rfl
  | exc e s => rfl
  | no => rfl
@[simp] theorem a_tand {ma mb} : tAnd2 ma mb env st = (ma env st).bind fun d st => (match d with | true => mb env st | false => .ok false st) := by
  unfold tAnd2 mbind
  cases ma env st with
  | ok d s => cases d <;> rfl
  | exc e s => rfl
  | no => rfl
@[simp] theorem a_tor {ma mb} : tOr2 ma mb env st = (ma env st).bind fun d st => (match d with | true => .ok true st | false => mb env st) := by
  unfold tOr2 mbind
  cases ma env st with
  | ok d s => cases d <;> rfl
  | exc e s => rfl
  | no => rfl
@[simp] theorem a_tnot {ma} : tNot1 ma env st = (ma env st).bind fun d st => .ok (!d) st := rfl
@[simp] theorem a_if {t ma mb} : mIf t ma mb env st = (t env st).bind fun d st => (match d with | true => ma env st | false => mb env st) := by
  unfold mIf mbind
  cases t env st with
  | ok d s => cases d <;> rfl
  | exc e s => rfl
  | no => rfl
@[simp] theorem a_chain {g g' ma mb mc} : mChain g g' ma mb mc env st = (ma env st).bind fun x st => (mb env st).bind fun y st => (g x y st).bind fun t st => (match t with | .bl true => (mc env st).bind fun z st => g' y z st | .bl false => .ok (.bl false) st | _ => .no) := by
  unfold mChain mbind
  cases ma env st with
  | ok x s =>
    simp only [a_bind_ok]
    cases mb env s with
    | ok y s =>
      simp only [a_bind_ok]
      cases g x y s with
      | ok t s => cases t <;> first | rfl | (rename_i b; cases b <;> rfl)
      | exc e s => rfl
      | no => rfl
    | exc e s => rfl
    | no => rfl
  | exc e s => rfl
  | no => rfl
@[simp] theorem a_nil : aNil env st = .ok [] st := rfl
@[simp] theorem a_cons {m r} : aCons m r env st = (m env st).bind fun d st => (r env st).bind fun ds st => .ok (d :: ds) st := rfl
@[simp] theorem a_tup {r} : mTup r env st = (r env st).bind fun ds st => if ds.length ≤ 16777216 then .ok (.tup ds) st else .no := rfl
@[simp] theorem a_lst {r} : mLst r env st = (r env st).bind fun ds st => if ds.length ≤ 16777216 then .ok (.lst ds) st else .no := rfl
@[simp] theorem a_newl {r} : mNewL r env st = (r env st).bind fun ds st => if ds.length ≤ 16777216 then .ok (.ref st.length) (st ++ [.lst ds]) else .no := rfl
@[simp] theorem a_newT : mNewT env st = .ok (.ref st.length) (st ++ [.dT [] []]) := rfl
@[simp] theorem a_newK : mNewK env st = .ok (.ref st.length) (st ++ [.dK [] []]) := rfl
@[simp] theorem a_call {g r} : mCall g r env st = (r env st).bind fun ds st => g ds st := rfl
@[simp] theorem a_fn {sem dds r} : mFn sem dds r env st = (r env st).bind fun ds st => sem (ds ++ dds) st := rfl
theorem a_mt {t m sem dds mo r} : mMt t m sem dds mo r env st = (mo env st).bind fun d st => (match insOf st d with
  | some (t', ns, xs) => if t' = t ∧ fget ns xs m = none then (r env st).bind fun ds st => sem (d :: (ds ++ dds)) st else .no
  | none => .no) := rfl
theorem a_mk {t sem dds r} : mMk t sem dds r env st = (r env st).bind fun ds st => (sem (.ref st.length :: (ds ++ dds)) (st ++ [.ins t [] []])).bind fun d st1 => (match d with | .non => .ok (.ref st.length) st1 | _ => .no) := rfl
@[simp] theorem a_meth {T g mo r} : mMeth T g mo r env st = (mo env st).bind fun d st => if tyD st T d = true then (r env st).bind fun ds st => g d ds st else .no := rfl
@[simp] theorem a_meth0 {T g mo} : mMeth0 T g mo env st = (mo env st).bind fun d st => if tyD st T d = true then g d [] st else .no := rfl
def gPart : D → Store → Rs (Option Int) := fun d st => match d with | .int i => .ok (some i) st | _ => .no
@[simp] theorem g_partI {i : Int} : gPart (.int i) st = .ok (some i) st := rfl
@[simp] theorem a_part {m} : mPart m env st = (m env st).bind gPart := by
  unfold mPart mbind
  cases m env st with
  | ok d s => cases d <;> rfl
  | exc e s => rfl
  | no => rfl
@[simp] theorem a_sl {m l h} : mSl m l h env st = (m env st).bind fun d st => (l env st).bind fun l st => (h env st).bind fun h st => gSl d l h st := rfl
theorem a_leave {k m} : mLeave k m env st = (m env st).bind fun d st1 => leave k st.length st d st1 := rfl
/-! operations -/
@[simp] theorem g_add {i j : Int} : gAdd (.int i) (.int j) st = .ok (.int (i + j)) st := rfl
@[simp] theorem g_addL {xs ys : List D} : gAdd (.lst xs) (.lst ys) st = if xs.length + ys.length ≤ sizeLine then .ok (.lst (xs ++ ys)) st else .no := rfl
@[simp] theorem g_addT {xs ys : List D} : gAdd (.tup xs) (.tup ys) st = if xs.length + ys.length ≤ sizeLine then .ok (.tup (xs ++ ys)) st else .no := rfl
@[simp] theorem g_I0 {g : Int → Int → D} {i j : Int} : gI0 g (.int i) (.int j) st = .ok (g i j) st := rfl
@[simp] theorem g_I {c g} {i j : Int} : gI c g (.int i) (.int j) st = if c i j = true then .ok (g i j) st else .no := rfl
@[simp] theorem g_mul {i j : Int} : gMul (.int i) (.int j) st = if (decide (i.natAbs < 18446744073709551616) || decide (j.natAbs < 18446744073709551616)) = true then .ok (.int (i * j)) st else .no := rfl
@[simp] theorem g_mulL {xs : List D} {k : Int} : gMul (.lst xs) (.int k) st = if -1000000 ≤ k ∧ k ≤ 1000000 ∧ xs.length * k.toNat ≤ sizeLine then .ok (.lst (List.replicate k.toNat xs).flatten) st else .no := rfl
@[simp] theorem g_lenT {xs : List D} : gLen [.tup xs] st = .ok (.int xs.length) st := rfl
@[simp] theorem g_lenL {xs : List D} : gLen [.lst xs] st = .ok (.int xs.length) st := rfl
@[simp] theorem g_lenS {xs : List Int} : gLen [.scr xs] st = .ok (.int xs.length) st := by simp [gLen, seqOf]
theorem g_lenR {i : Nat} {ds : List D} (h : st[i]? = some (.lst ds)) : gLen [.ref i] st = .ok (.int ds.length) st := by simp [gLen, seqOf, h]
@[simp] theorem items_tup {xs : List D} : itemsOf st (.tup xs) = some xs := rfl
@[simp] theorem items_lst {xs : List D} : itemsOf st (.lst xs) = some xs := rfl
theorem items_ref {i : Nat} {ds : List D} (h : st[i]? = some (.lst ds)) : itemsOf st (.ref i) = some ds := by simp [itemsOf, seqOf, h]
theorem lst_ref {i : Nat} {ds : List D} (h : st[i]? = some (.lst ds)) : lstOf st (.ref i) = some ds := by simp [lstOf, h]
theorem seq_ref {i : Nat} {ds : List D} (h : st[i]? = some (.lst ds)) : seqOf st (.ref i) = some ds := by simp [seqOf, h]
theorem cell_ref {i : Nat} {ds : List D} (h : st[i]? = some (.lst ds)) : cellL st (.ref i) = some (i, ds) := by simp [cellL, h]
theorem ty_ref {i : Nat} {ds : List D} (h : st[i]? = some (.lst ds)) : tyD st "list" (.ref i) = true := by simp [tyD, h]
@[simp] theorem ty_lst {ds : List D} : tyD st "list" (.lst ds) = true := rfl
theorem ixN_nat {n j : Nat} (h : j < n) : ixN n (j : Int) = some j := by
  unfold ixN
  rw [if_pos (by omega), if_pos (by omega)]; simp
theorem atI_at {xs : List D} {j : Nat} {d : D} (h : xs[j]? = some d) : atI xs (j : Int) = some d := atI_nat h
theorem g_ix {x : D} {xs : List D} {i : Int} {j : Nat} {d : D} (hx : itemsOf st x = some xs) (hi : i = (j : Int)) (h : xs[j]? = some d) : gIx x (.int i) st = .ok d st := by
  subst hi
  have e := atI_at h
  cases x <;> simp_all [gIx, itemsOf, seqOf]
@[simp] theorem g_slT {xs : List D} {l h} : gSl (.tup xs) l h st = .ok (.tup (cutD xs l h)) st := rfl
@[simp] theorem g_slL {xs : List D} {l h} : gSl (.lst xs) l h st = .ok (.lst (cutD xs l h)) st := rfl
theorem g_slR {i : Nat} {ds : List D} {l h} (e : st[i]? = some (.lst ds)) : gSl (.ref i) l h st = .ok (.lst (cutD ds l h)) st := by simp [gSl, lstOf, e]
theorem cut_to {xs : List D} {n : Nat} (h : n ≤ xs.length) : cutD xs none (some (n : Int)) = xs.take n := by
  unfold cutD
  rw [HT.sIx_nat, HT.sIx_none]
  simp [Nat.min_eq_left h]
theorem cut_from {xs : List D} {n : Nat} (h : n ≤ xs.length) : cutD xs (some (n : Int)) none = xs.drop n := by
  unfold cutD
  rw [HT.sIx_nat, HT.sIx_none, Nat.min_eq_left h]
  rw [List.take_of_length_le (by simp)]
theorem cut_both {xs : List D} {a b : Nat} (h : a ≤ b) (h' : b ≤ xs.length) : cutD xs (some (a : Int)) (some (b : Int)) = (xs.drop a).take (b - a) := by
  unfold cutD
  rw [HT.sIx_nat, HT.sIx_nat, Nat.min_eq_left h', Nat.min_eq_left (by omega)]
/-! statements -/
@[simp] theorem s_bind {m : ME A} {k : A → MS} : sBind m k env st = match m env st with | .ok d st1 => k d env st1 | .exc e st1 => .exc e env st1 | .no => .no := rfl
@[simp] theorem s_seq {m k} : sSeq m k env st = (m env st).thn k := rfl
@[simp] theorem thn_ok {e s k} : (RS.ok .nx e s).thn k = k e s := rfl
@[simp] theorem thn_rt {d e s k} : (RS.ok (.rt d) e s).thn k = .ok (.rt d) e s := rfl
@[simp] theorem thn_no {k} : RS.no.thn k = .no := rfl
@[simp] theorem thn_exc {x e s k} : (RS.exc x e s).thn k = .exc x e s := rfl
@[simp] theorem s_nil : sNil env st = .ok .nx env st := rfl
@[simp] theorem s_set {i m} : sSet i m env st = match m env st with | .ok d st1 => .ok .nx (env.set i (some d)) st1 | .exc e st1 => .exc e env st1 | .no => .no := by unfold sSet sBind; cases m env st <;> rfl
@[simp] theorem s_ret {m} : sRet m env st = match m env st with | .ok d st1 => .ok (.rt d) env st1 | .exc e st1 => .exc e env st1 | .no => .no := by unfold sRet sBind; cases m env st <;> rfl
@[simp] theorem s_expr {m} : sExpr m env st = match m env st with | .ok d st1 => .ok .nx env st1 | .exc e st1 => .exc e env st1 | .no => .no := by unfold sExpr sBind; cases m env st <;> rfl
@[simp] theorem s_if {t a b} : sIf t a b env st = match t env st with | .ok true st1 => a env st1 | .ok false st1 => b env st1 | .exc e st1 => .exc e env st1 | .no => .no := by
  unfold sIf sBind
  cases t env st with
  | ok d s => cases d <;> rfl
  | exc e s => rfl
  | no => rfl
@[simp] theorem s_nm {i d} : gNm i d env st = .ok .nx (env.set i (some d)) st := rfl
@[simp] theorem s_tp {n gs ds} : gTp n gs (.tup ds) env st = if ds.length = n then gs ds env st else .no := rfl
@[simp] theorem s_gsc {g gs d ds} : gsCons g gs (d :: ds) env st = (g d env st).thn (gs ds) := rfl
@[simp] theorem s_gsn : gsNil [] env st = .ok .nx env st := rfl
@[simp] theorem s_asg {m g} : sAsg m g env st = match m env st with | .ok d st1 => g d env st1 | .exc e st1 => .exc e env st1 | .no => .no := by unfold sAsg sBind; cases m env st <;> rfl
@[simp] theorem s_par {i j ma mb} : sPar i j ma mb env st = match ma env st with | .ok x st1 => (match mb env st1 with | .ok y st2 => .ok .nx ((env.set i (some x)).set j (some y)) st2 | .exc e st2 => .exc e env st2 | .no => .no) | .exc e st1 => .exc e env st1 | .no => .no := by
  unfold sPar sBind
  cases ma env st with
  | ok x s => simp only [sBind]; cases mb env s <;> rfl
  | exc e s => rfl
  | no => rfl
@[simp] theorem s_no : sNo env st = .no := rfl
end
def nI (n : Nat) : D := .int (n : Int)
def nL (xs : List Nat) : D := .lst (xs.map nI)
def nT (xs : List Nat) : D := .tup (xs.map nI)
theorem pures_nI (xs : List Nat) : Pures (xs.map nI) := pures_map fun _ _ => pure_int
end RR
namespace RR
open PySem PySem.Spec PyProof.Rows L2
theorem semB_rt {k keep np : Nat} {N : List Str} {b : MS} {ds : List D} {st st1 st' : Store} {d d' : D} {env1 : Env} (hl : ds.length = np) (e : b (env0 N ds) st = .ok (.rt d) env1 st1) (h : leave k (st.length + keep) st d st1 = .ok d' st') : semB k keep np N b ds st = .ok d' st' := by
  unfold semB
  rw [if_pos hl]
  simp only [e, h]
theorem semB_nx {k keep np : Nat} {N : List Str} {b : MS} {ds : List D} {st st1 st' : Store} {d' : D} {env1 : Env} (hl : ds.length = np) (e : b (env0 N ds) st = .ok .nx env1 st1) (h : leave k (st.length + keep) st .non st1 = .ok d' st') : semB k keep np N b ds st = .ok d' st' := by
  unfold semB
  rw [if_pos hl]
  simp only [e, h]
section
variable {env : Env} {st : Store}
@[simp] theorem i_rng1 {r} : iRng1 r env st = (r env st).bind fun ds st => (match ds with | [.int n] => if -1000000 ≤ n ∧ n ≤ 1000000 then .ok (.rng 0 n.toNat) st else .no | _ => .no) := by
  unfold iRng1 mbind
  cases r env st with
  | ok ds s =>
    rcases ds with _ | ⟨d, _ | ⟨d2, t⟩⟩
    · rfl
    · cases d with
      | int n =>
        by_cases h : -1000000 ≤ n ∧ n ≤ 1000000
        · show (if -1000000 ≤ n ∧ n ≤ 1000000 then (mret (Src.rng 0 n.toNat) : ME Src) else mno) env s = if -1000000 ≤ n ∧ n ≤ 1000000 then .ok (.rng 0 n.toNat) s else .no
          rw [if_pos h, if_pos h]
          rfl
        · show (if -1000000 ≤ n ∧ n ≤ 1000000 then (mret (Src.rng 0 n.toNat) : ME Src) else mno) env s = if -1000000 ≤ n ∧ n ≤ 1000000 then .ok (.rng 0 n.toNat) s else .no
          rw [if_neg h, if_neg h]
          rfl
      | _ => rfl
    · cases d <;> rfl
  | exc e s => rfl
  | no => rfl
@[simp] theorem i_rng2 {r} : iRng2 r env st = (r env st).bind fun ds st => (match ds with | [.int i, .int j] => if -1000000 ≤ i ∧ i ≤ 1000000 ∧ -1000000 ≤ j ∧ j ≤ 1000000 then .ok (.rng i (j - i).toNat) st else .no | _ => .no) := by
  unfold iRng2 mbind
  cases r env st with
  | ok ds s =>
    rcases ds with _ | ⟨d, _ | ⟨d2, _ | ⟨d3, t⟩⟩⟩
    · rfl
    · cases d <;> rfl
    · cases d with
      | int i =>
        cases d2 with
        | int j =>
          by_cases h : -1000000 ≤ i ∧ i ≤ 1000000 ∧ -1000000 ≤ j ∧ j ≤ 1000000
          · show (if -1000000 ≤ i ∧ i ≤ 1000000 ∧ -1000000 ≤ j ∧ j ≤ 1000000 then (mret (Src.rng i (j - i).toNat) : ME Src) else mno) env s = if -1000000 ≤ i ∧ i ≤ 1000000 ∧ -1000000 ≤ j ∧ j ≤ 1000000 then .ok (.rng i (j - i).toNat) s else .no
            rw [if_pos h, if_pos h]
            rfl
          · show (if -1000000 ≤ i ∧ i ≤ 1000000 ∧ -1000000 ≤ j ∧ j ≤ 1000000 then (mret (Src.rng i (j - i).toNat) : ME Src) else mno) env s = if -1000000 ≤ i ∧ i ≤ 1000000 ∧ -1000000 ≤ j ∧ j ≤ 1000000 then .ok (.rng i (j - i).toNat) s else .no
            rw [if_neg h, if_neg h]
            rfl
        | _ => rfl
      | _ => rfl
    · cases d <;> first | rfl | (cases d2 <;> rfl)
  | exc e s => rfl
  | no => rfl
theorem i_seqL {m} {ds : List D} {st1 : Store} (h : m env st = .ok (.lst ds) st1) : iSeq m env st = .ok (.seq (.lst ds)) st1 := by simp [iSeq, h, seqOf]
theorem i_seqS {m} {ds : List Int} {st1 : Store} (h : m env st = .ok (.scr ds) st1) : iSeq m env st = .ok (.seq (.scr ds)) st1 := by simp [iSeq, h, seqOf]
theorem i_seqR {m} {i : Nat} {ds : List D} {st1 : Store} (h : m env st = .ok (.ref i) st1) (h' : st1[i]? = some (.lst ds)) : iSeq m env st = .ok (.seq (.ref i)) st1 := by simp [iSeq, h, seqOf, h']
theorem i_tupT {m} {ds : List D} {st1 : Store} (h : m env st = .ok (.tup ds) st1) : iTupS m env st = .ok (.seq (.tup ds)) st1 := by simp [iTupS, h]
theorem i_enumT {r} {ds : List D} {st1 : Store} (h : r env st = .ok [.tup ds] st1) : iEnumT1 r env st = .ok (.enum (.tup ds)) st1 := by simp [iEnumT1, h]
theorem i_enumL {r} {ds : List D} {st1 : Store} (h : r env st = .ok [.lst ds] st1) : iEnumL r env st = .ok (.enum (.lst ds)) st1 := by simp [iEnumL, h, seqOf]
theorem i_enumR {r} {i : Nat} {ds : List D} {st1 : Store} (h : r env st = .ok [.ref i] st1) (h' : st1[i]? = some (.lst ds)) : iEnumL r env st = .ok (.enum (.ref i)) st1 := by simp [iEnumL, h, seqOf, h']
theorem m_append {i : Nat} {ds : List D} {d : D} (h : st[i]? = some (.lst ds)) (hz : ds.length < 16777216) : gAppend (.ref i) [d] st = .ok .non (st.set i (.lst (ds ++ [d]))) := by simp [gAppend, cellL, h, hz]
theorem m_extend {i : Nat} {ds es : List D} (h : st[i]? = some (.lst ds)) (hz : ds.length + es.length ≤ 16777216) : gExtend (.ref i) [.lst es] st = .ok .non (st.set i (.lst (ds ++ es))) := by simp [gExtend, cellL, h, lstOf, hz]
@[simp] theorem t_turn {g b x} : sTurn g b x env st = (g x env st).tgt fun e s => (b e s).lp fun e s => .ok .nx e s := rfl
@[simp] theorem t_tgt {k : Env → Store → RS} {e s} : (RS.ok .nx e s).tgt k = k e s := rfl
@[simp] theorem t_lp {k : Env → Store → RS} {e s} : (RS.ok .nx e s).lp k = k e s := rfl
@[simp] theorem t_lpc {k : Env → Store → RS} {e s} : (RS.ok .ct e s).lp k = k e s := rfl
theorem at_end {c : Cell} : (st ++ [c])[st.length]? = some c := by simp
theorem set_end {c c' : Cell} : (st ++ [c]).set st.length c' = st ++ [c'] := by simp
end
end RR
namespace RR
open PySem PySem.Spec PyProof.Rows L2
@[simp] theorem at_k {st l : List Cell} {k : Nat} : (st ++ l)[st.length + k]? = l[k]? := by
  rw [List.getElem?_append_right (Nat.le_add_right _ _)]; congr 1; omega
@[simp] theorem at_0 {st l : List Cell} : (st ++ l)[st.length]? = l[0]? := at_k (k := 0)
@[simp] theorem set_k {st l : List Cell} {k : Nat} {c : Cell} : (st ++ l).set (st.length + k) c = st ++ l.set k c := by
  rw [List.set_append_right _ _ (Nat.le_add_right _ _)]; congr 2; omega
@[simp] theorem set_0 {st l : List Cell} {c : Cell} : (st ++ l).set st.length c = st ++ l.set 0 c := set_k (k := 0)
theorem pairUp_get {ds : List D} {k : Nat} {x : D} (h : (pairUp ds)[k]? = some x) : ∃ d, ds[k]? = some d ∧ x = .tup [.int (k : Nat), d] := by
  simp only [pairUp, List.getElem?_map, List.getElem?_zipIdx, Option.map_eq_some_iff] at h
  obtain ⟨p, ⟨d, h1, rfl⟩, rfl⟩ := h
  exact ⟨d, h1, by simp⟩
@[simp] theorem len_pairUp {ds : List D} : (pairUp ds).length = ds.length := by simp [pairUp]
/-- the next statement behind one that is done -/
theorem seq_nx {m k : MS} {env env2 : Env} {st st2 : Store} {r : RS} (h : m env st = .ok .nx env2 st2) (hk : k env2 st2 = r) : sSeq m k env st = r := by
  rw [s_seq, h]; exact hk
theorem nb_turn {b : MS} (h : NoBk b) : NoBk b := h
end RR

set_option maxRecDepth 100000
set_option maxHeartbeats 1000000
namespace RR
open PySem PySem.Spec PyProof.Rows L2

/-! ### == reckoned: data of ints, texts, None, tuples, lists -/
def pl : Nat → D → Bool
  | _, .int _ => true
  | _, .non => true
  | _, .str x => PyData.strOk x
  | n + 1, .lst ds => ds.all (pl n)
  | n + 1, .tup ds => ds.all (pl n)
  | _, _ => false
theorem toPys_of {n : Nat} {g : D → Prop} (h : ∀ d, g d → ∃ p, toPy d = some p ∧ p.canLay0 = true ∧ p.depth ≤ n) : ∀ (ds : List D), (∀ d ∈ ds, g d) → ∃ ps, toPys ds = some ps ∧ PyData.canLayAll0 ps = true ∧ PyData.depthAll ps ≤ n
  | [], _ => ⟨[], rfl, rfl, Nat.zero_le _⟩
  | d :: ds, hd => by
    obtain ⟨p, h1, h2, h3⟩ := h d (hd d List.mem_cons_self)
    obtain ⟨ps, h4, h5, h6⟩ := toPys_of h ds fun x hx => hd x (List.mem_cons_of_mem _ hx)
    refine ⟨p :: ps, by simp only [toPys, h1, h4], by simp only [PyData.canLayAll0, h2, h5, Bool.and_self], ?_⟩
    simp only [PyData.depthAll]
    omega
theorem toPy_pl : ∀ (n : Nat) (d : D), pl n d = true → ∃ p, toPy d = some p ∧ p.canLay0 = true ∧ p.depth ≤ n := by
  have base : ∀ (n : Nat) (d : D), (∀ ds, d ≠ .lst ds) → (∀ ds, d ≠ .tup ds) → pl n d = true → ∃ p, toPy d = some p ∧ p.canLay0 = true ∧ p.depth ≤ n := by
    intro n d h1 h2 h
    cases d with
    | int i => exact ⟨.int i, rfl, rfl, Nat.zero_le _⟩
    | non => exact ⟨.none, rfl, rfl, Nat.zero_le _⟩
    | str x => exact ⟨.str x, rfl, by simpa [pl, PyData.canLay0] using h, Nat.zero_le _⟩
    | lst ds => exact (h1 _ rfl).elim
    | tup ds => exact (h2 _ rfl).elim
    | _ => cases n <;> simp [pl] at h
  intro n
  induction n with
  | zero => exact fun d h => base 0 d (fun ds e => by subst e; simp [pl] at h) (fun ds e => by subst e; simp [pl] at h) h
  | succ n ih =>
    intro d h
    by_cases h1 : ∃ ds, d = .lst ds
    · obtain ⟨ds, rfl⟩ := h1
      simp only [pl, List.all_eq_true] at h
      obtain ⟨ps, h1, h2, h3⟩ := toPys_of ih ds h
      refine ⟨.list ps, by simp [toPy, h1], by simpa [PyData.canLay0] using h2, ?_⟩
      simp only [PyData.depth]; omega
    · by_cases h2 : ∃ ds, d = .tup ds
      · obtain ⟨ds, rfl⟩ := h2
        simp only [pl, List.all_eq_true] at h
        obtain ⟨ps, h1, h2, h3⟩ := toPys_of ih ds h
        refine ⟨.tuple ps, by simp [toPy, h1], by simpa [PyData.canLay0] using h2, ?_⟩
        simp only [PyData.depth]; omega
      · exact base _ d (fun ds e => h1 ⟨ds, e⟩) (fun ds e => h2 ⟨ds, e⟩) h
theorem eqvAll_of {n : Nat} (h : ∀ d e p q, pl n d = true → pl n e = true → toPy d = some p → toPy e = some q → (PyData.eqv p q = true ↔ d = e)) : ∀ (ds es : List D) (ps qs : List PyData), (∀ d ∈ ds, pl n d = true) → (∀ d ∈ es, pl n d = true) → toPys ds = some ps → toPys es = some qs → (PyData.eqvAll ps qs = true ↔ ds = es)
  | [], [], ps, qs, _, _, h1, h2 => by cases h1; cases h2; simp [PyData.eqvAll]
  | [], e :: es, ps, qs, _, he, h1, h2 => by
    cases h1
    obtain ⟨q, h3, _, _⟩ := toPy_pl n e (he e List.mem_cons_self)
    obtain ⟨qs', h4, _, _⟩ := toPys_of (toPy_pl n) es fun x hx => he x (List.mem_cons_of_mem _ hx)
    simp only [toPys, h3, h4, Option.some.injEq] at h2
    subst h2
    simp [PyData.eqvAll]
  | d :: ds, [], ps, qs, hd, _, h1, h2 => by
    cases h2
    obtain ⟨q, h3, _, _⟩ := toPy_pl n d (hd d List.mem_cons_self)
    obtain ⟨qs', h4, _, _⟩ := toPys_of (toPy_pl n) ds fun x hx => hd x (List.mem_cons_of_mem _ hx)
    simp only [toPys, h3, h4, Option.some.injEq] at h1
    subst h1
    simp [PyData.eqvAll]
  | d :: ds, e :: es, ps, qs, hd, he, h1, h2 => by
    obtain ⟨p, h3, _, _⟩ := toPy_pl n d (hd d List.mem_cons_self)
    obtain ⟨ps', h4, _, _⟩ := toPys_of (toPy_pl n) ds fun x hx => hd x (List.mem_cons_of_mem _ hx)
    obtain ⟨q, h5, _, _⟩ := toPy_pl n e (he e List.mem_cons_self)
    obtain ⟨qs', h6, _, _⟩ := toPys_of (toPy_pl n) es fun x hx => he x (List.mem_cons_of_mem _ hx)
    simp only [toPys, h3, h4, Option.some.injEq] at h1
    simp only [toPys, h5, h6, Option.some.injEq] at h2
    subst h1 h2
    have i1 := h d e p q (hd d List.mem_cons_self) (he e List.mem_cons_self) h3 h5
    have i2 := eqvAll_of h ds es ps' qs' (fun x hx => hd x (List.mem_cons_of_mem _ hx)) (fun x hx => he x (List.mem_cons_of_mem _ hx)) h4 h6
    simp only [PyData.eqvAll, Bool.and_eq_true, i1, i2, List.cons.injEq]
theorem eqv_pl : ∀ (n : Nat) (d e : D) (p q : PyData), pl n d = true → pl n e = true → toPy d = some p → toPy e = some q → (PyData.eqv p q = true ↔ d = e) := by
  intro n
  induction n with
  | zero =>
    intro d e p q hd he h1 h2
    cases d <;> simp [pl] at hd <;> cases e <;> simp [pl] at he <;> simp [toPy] at h1 h2 <;> subst h1 h2 <;> simp [PyData.eqv]
  | succ n ih =>
    intro d e p q hd he h1 h2
    cases d with
    | lst ds =>
      simp only [pl, List.all_eq_true] at hd
      obtain ⟨ps, h3, _, _⟩ := toPys_of (toPy_pl n) ds hd
      simp [toPy, h3] at h1
      subst h1
      cases e with
      | lst es =>
        simp only [pl, List.all_eq_true] at he
        obtain ⟨qs, h4, _, _⟩ := toPys_of (toPy_pl n) es he
        simp [toPy, h4] at h2
        subst h2
        simp only [PyData.eqv, D.lst.injEq]
        exact eqvAll_of ih _ _ _ _ hd he h3 h4
      | tup es =>
        simp only [pl, List.all_eq_true] at he
        obtain ⟨qs, h4, _, _⟩ := toPys_of (toPy_pl n) es he
        simp [toPy, h4] at h2
        subst h2
        simp [PyData.eqv]
      | _ => first | (simp [pl] at he; done) | (simp [toPy] at h2; subst h2; simp [PyData.eqv])
    | tup ds =>
      simp only [pl, List.all_eq_true] at hd
      obtain ⟨ps, h3, _, _⟩ := toPys_of (toPy_pl n) ds hd
      simp [toPy, h3] at h1
      subst h1
      cases e with
      | tup es =>
        simp only [pl, List.all_eq_true] at he
        obtain ⟨qs, h4, _, _⟩ := toPys_of (toPy_pl n) es he
        simp [toPy, h4] at h2
        subst h2
        simp only [PyData.eqv, D.tup.injEq]
        exact eqvAll_of ih _ _ _ _ hd he h3 h4
      | lst es =>
        simp only [pl, List.all_eq_true] at he
        obtain ⟨qs, h4, _, _⟩ := toPys_of (toPy_pl n) es he
        simp [toPy, h4] at h2
        subst h2
        simp [PyData.eqv]
      | _ => first | (simp [pl] at he; done) | (simp [toPy] at h2; subst h2; simp [PyData.eqv])
    | int i =>
      simp [toPy] at h1
      subst h1
      cases e with
      | lst es =>
        simp only [pl, List.all_eq_true] at he
        obtain ⟨qs, h4, _, _⟩ := toPys_of (toPy_pl n) es he
        simp [toPy, h4] at h2
        subst h2
        simp [PyData.eqv]
      | tup es =>
        simp only [pl, List.all_eq_true] at he
        obtain ⟨qs, h4, _, _⟩ := toPys_of (toPy_pl n) es he
        simp [toPy, h4] at h2
        subst h2
        simp [PyData.eqv]
      | _ => first | (simp [pl] at he; done) | (simp [toPy] at h2; subst h2; simp [PyData.eqv])
    | non =>
      simp [toPy] at h1
      subst h1
      cases e with
      | lst es =>
        simp only [pl, List.all_eq_true] at he
        obtain ⟨qs, h4, _, _⟩ := toPys_of (toPy_pl n) es he
        simp [toPy, h4] at h2
        subst h2
        simp [PyData.eqv]
      | tup es =>
        simp only [pl, List.all_eq_true] at he
        obtain ⟨qs, h4, _, _⟩ := toPys_of (toPy_pl n) es he
        simp [toPy, h4] at h2
        subst h2
        simp [PyData.eqv]
      | _ => first | (simp [pl] at he; done) | (simp [toPy] at h2; subst h2; simp [PyData.eqv])
    | str x =>
      simp [toPy] at h1
      subst h1
      cases e with
      | lst es =>
        simp only [pl, List.all_eq_true] at he
        obtain ⟨qs, h4, _, _⟩ := toPys_of (toPy_pl n) es he
        simp [toPy, h4] at h2
        subst h2
        simp [PyData.eqv]
      | tup es =>
        simp only [pl, List.all_eq_true] at he
        obtain ⟨qs, h4, _, _⟩ := toPys_of (toPy_pl n) es he
        simp [toPy, h4] at h2
        subst h2
        simp [PyData.eqv]
      | _ => first | (simp [pl] at he; done) | (simp [toPy] at h2; subst h2; simp [PyData.eqv])
    | _ => simp [pl] at hd
/-- what a value of == is read as -/
def rdq (st : Store) (d : D) : Option D := match d with
  | .ref _ => (lstOf st d).map D.lst
  | d => some d
theorem toPyS_rdq {st : Store} {d d' : D} (h : rdq st d = some d') : toPyS st d = toPy d' := by
  unfold rdq at h
  unfold toPyS
  split at h
  · cases e : lstOf st (D.ref ‹_›) with
    | none => rw [e] at h; cases h
    | some ds => rw [e] at h; cases h; simp only [e]
  · rename_i x hx
    cases h
    cases d <;> first | rfl | exact (hx _ rfl).elim
open Classical in
theorem g_eqd {neg : Bool} {d e d' e' : D} {st : Store} (h1 : rdq st d = some d') (h2 : rdq st e = some e') (hd : pl 60 d' = true) (he : pl 60 e' = true) : gEqB neg d e st = .ok (.bl (if neg then !decide (d' = e') else decide (d' = e'))) st := by
  obtain ⟨p, a1, a2, a3⟩ := toPy_pl 60 d' hd
  obtain ⟨q, b1, b2, b3⟩ := toPy_pl 60 e' he
  have i := eqv_pl 60 d' e' p q hd he a1 b1
  unfold gEqB
  simp only [toPyS_rdq h1, toPyS_rdq h2, a1, b1]
  rw [if_pos (by simp only [SeqAt.shaped, a2, b2, Bool.true_and, Bool.and_eq_true, decide_eq_true_eq]; omega)]
  by_cases hh : d' = e'
  · simp [i.mpr hh, hh]
  · have : PyData.eqv p q = false := by
      cases hx : PyData.eqv p q with
      | false => rfl
      | true => exact (hh (i.mp hx)).elim
    simp [this, hh]
theorem pl_ints {n : Nat} {xs : List Nat} : (xs.map nI).all (pl n) = true := by
  rw [List.all_eq_true]
  intro d hd
  obtain ⟨x, _, rfl⟩ := List.mem_map.mp hd
  cases n <;> rfl
theorem nI_inj {a b : Nat} (h : nI a = nI b) : a = b := by
  simp only [nI, D.int.injEq] at h
  omega
theorem mapI_inj : ∀ {xs ys : List Nat}, xs.map nI = ys.map nI → xs = ys
  | [], [], _ => rfl
  | [], _ :: _, h => by cases h
  | _ :: _, [], h => by cases h
  | x :: xs, y :: ys, h => by
    rw [List.map_cons, List.map_cons, List.cons.injEq] at h
    rw [nI_inj h.1, mapI_inj h.2]
@[simp] theorem g_eqi {neg : Bool} {i j : Int} {st : Store} : gEqB neg (.int i) (.int j) st = .ok (.bl (if neg then !decide (i = j) else decide (i = j))) st := by
  rw [g_eqd (d' := .int i) (e' := .int j) rfl rfl rfl rfl]
  by_cases h : i = j
  · simp [h]
  · simp [h]
theorem pl_nL {xs : List Nat} : pl 60 (nL xs) = true := by unfold nL pl; exact pl_ints
theorem g_eqL {neg : Bool} {xs ys : List Nat} {st : Store} : gEqB neg (nL xs) (nL ys) st = .ok (.bl (if neg then !decide (xs = ys) else decide (xs = ys))) st := by
  rw [g_eqd (d' := nL xs) (e' := nL ys) rfl rfl pl_nL pl_nL]
  by_cases h : xs = ys
  · simp [h]
  · have : nL xs ≠ nL ys := fun e => h (mapI_inj (by simpa [nL] using e))
    simp [h, this]
theorem g_eqR {neg : Bool} {d e : D} {d' : D} {st : Store} (h1 : rdq st d = some d') (h2 : rdq st e = some d') (hd : pl 60 d' = true) : gEqB neg d e st = .ok (.bl (!neg)) st := by
  rw [g_eqd h1 h2 hd hd]
  cases neg <;> simp
/-! ### in, of ints -/
theorem inV_ints {i : Int} : ∀ {ns : List Int}, inV (.int i) (ns.map V.int) = ns.contains i := by
  intro ns
  induction ns with
  | nil => rfl
  | cons x xs ih =>
    simp only [inV, List.map_cons, List.any_cons] at ih ⊢
    rw [ih]
    by_cases h : x = i
    · simp [h, eqV]
    · have h' : i ≠ x := fun e => h e.symm
      simp [h, h', eqV]
end RR

set_option maxRecDepth 100000
set_option maxHeartbeats 1000000
namespace RR
open PySem PySem.Spec PyProof.Rows L2
/-! ### fields of instances -/
def HasF (t : Nat) (st : Store) (d : D) (x : Str) (y : D) : Prop := ∃ ns ds, insOf st d = some (t, ns, ds) ∧ fget ns ds x = some y
def NoF (t : Nat) (st : Store) (d : D) (x : Str) : Prop := ∃ ns ds, insOf st d = some (t, ns, ds) ∧ fget ns ds x = none
theorem insOf_app {st tl : Store} {d : D} {r} (h : insOf st d = some r) : insOf (st ++ tl) d = some r := by
  cases d with
  | ref i =>
    simp only [insOf] at h ⊢
    have hi : i < st.length := by
      by_cases hi : i < st.length
      · exact hi
      · rw [List.getElem?_eq_none (by omega)] at h; cases h
    rw [List.getElem?_append_left hi]
    exact h
  | _ => exact h
theorem HasF.app {t st d x y} (h : HasF t st d x y) (tl : Store) : HasF t (st ++ tl) d x y := let ⟨ns, ds, a, b⟩ := h; ⟨ns, ds, insOf_app a, b⟩
theorem NoF.app {t st d x} (h : NoF t st d x) (tl : Store) : NoF t (st ++ tl) d x := let ⟨ns, ds, a, b⟩ := h; ⟨ns, ds, insOf_app a, b⟩
theorem HasF.fld {t st d x y} (h : HasF t st d x y) : gFld t x d st = .ok y st := by
  obtain ⟨ns, ds, a, b⟩ := h
  simp [gFld, a, b]
theorem NoF.mt {t st d m} (h : NoF t st d m) {mo : ME D} {sem dds} {r : ME (List D)} {env : Env} {st0 : Store} (ho : mo env st0 = .ok d st) : mMt t m sem dds mo r env st0 = (r env st).bind fun ds st => sem (d :: (ds ++ dds)) st := by
  obtain ⟨ns, ds, a, b⟩ := h
  rw [a_mt, ho]
  simp [a, b]
/-! ### iterators -/
section
variable {env : Env} {st st1 : Store} {m m' : ME D}
theorem i_r1 {i : Int} {n : Nat} (h : m env st = .ok (.int i) st1) (hi : i.toNat = n) (hn : -1000000 ≤ i ∧ i ≤ 1000000) : iRng1 (aCons m aNil) env st = .ok (.rng 0 n) st1 := by
  subst hi
  rw [i_rng1, a_cons, h]
  simp [hn]
theorem i_r2 {i j : Int} {n : Nat} {st2 : Store} (h : m env st = .ok (.int i) st1) (h' : m' env st1 = .ok (.int j) st2) (hi : (j - i).toNat = n) (hn : (-1000000 ≤ i ∧ i ≤ 1000000) ∧ -1000000 ≤ j ∧ j ≤ 1000000) : iRng2 (aCons m (aCons m' aNil)) env st = .ok (.rng i n) st2 := by
  subst hi
  rw [i_rng2, a_cons, h]
  simp [h', hn]
end
theorem gives_r1 {st : Store} {n : Nat} : Gives (.rng 0 n) st ((List.range n).map nI) := by
  have h := gives_rng (st := st) (lo := 0) (n := n)
  have e : (fun i : Nat => D.int (0 + (i : Nat))) = nI := funext fun i => by simp [nI]
  rw [e] at h
  exact h
theorem gives_r2 {st : Store} {lo : Int} {a n : Nat} (h : lo = (a : Nat)) : Gives (.rng lo n) st ((List.range' a n).map nI) := by
  subst h
  have h := gives_rng (st := st) (lo := (a : Nat)) (n := n)
  have e : ((List.range n).map fun i => D.int ((a : Nat) + (i : Nat))) = (List.range' a n).map nI := by
    rw [List.range'_eq_map_range, List.map_map]
    apply List.map_congr_left
    intro i _
    simp [nI]
  rw [e] at h
  exact h
/-! ### for loops over named things -/
theorem sFor_t {A : Type} {ms : ME Src} {s : Src} {g : D → MS} {b : MS} (ys : List A) (enc : A → D) {env : Env} {st st1 : Store} (he : ms env st = .ok s st1) (hn : ys.length < 100000) (nb : NoBk b) (I : Nat → Env → Store → Prop) (h0 : I 0 env st1) (hs : ∀ k env st, k ≤ ys.length → I k env st → Gives s st (ys.map enc))
    (turn : ∀ (k : Nat) (y : A) (env : Env) (st : Store), ys[k]? = some y → I k env st → ∃ env2 st2, sTurn g b (enc y) env st = .ok .nx env2 st2 ∧ I (k + 1) env2 st2) :
    ∃ env' st', sFor ms g b env st = .ok .nx env' st' ∧ I ys.length env' st' := by
  have h := sFor_inv (xs := ys.map enc) he (by simpa using hn) nb I h0 (fun k env st hk hI => hs k env st (by simpa using hk) hI k) (by
    intro k x env st hx hI
    rw [List.getElem?_map, Option.map_eq_some_iff] at hx
    obtain ⟨y, hy, rfl⟩ := hx
    exact turn k y env st hy hI)
  simpa using h
/-! ### comprehensions over named things -/
theorem cLoop_t {A : Type} {s : Src} {g : D → MS} {tt : ME Bool} {te : ME D} {en : Env} {st : Store} {ys : List A} {enc : A → D} (p : A → Bool) (f : A → D)
    (hs : ∀ acc, Gives s (st ++ [Cell.lst acc]) (ys.map enc))
    (turn : ∀ y ∈ ys, ∀ acc, ∃ env1, g (enc y) en (st ++ [Cell.lst acc]) = .ok .nx env1 (st ++ [Cell.lst acc]) ∧ tt env1 (st ++ [Cell.lst acc]) = .ok (p y) (st ++ [Cell.lst acc]) ∧ (p y = true → te env1 (st ++ [Cell.lst acc]) = .ok (f y) (st ++ [Cell.lst acc]))) :
    ∀ (m k : Nat) (acc : List D), k ≤ ys.length → ys.length < m + k → acc.length ≤ k → ys.length < 1000000 → cLoop s g tt te en st.length m k (st ++ [Cell.lst acc]) = .ok () (st ++ [Cell.lst (acc ++ ((ys.drop k).filter p).map f)])
  | 0, k, acc, h1, h2, h3, h4 => by omega
  | m + 1, k, acc, h1, h2, h3, h4 => by
    simp only [cLoop, hs acc k]
    by_cases hk : k < ys.length
    · have ex : (ys.map enc)[k]? = some (enc ys[k]) := by simp [hk]
      rw [ex]
      obtain ⟨env1, e1, e2, e3⟩ := turn ys[k] (by simp) acc
      simp only [e1, e2, Rs.nx, Rs.bind]
      have ed : ys.drop k = ys[k] :: ys.drop (k + 1) := by simp
      cases ep : p ys[k] with
      | false =>
        simp only
        rw [cLoop_t p f hs turn m (k + 1) acc (by omega) (by omega) (by omega) h4, ed, List.filter_cons]
        simp [ep]
      | true =>
        simp only [e3 ep, Rs.nx, Rs.bind]
        have ec : cellL (st ++ [Cell.lst acc]) (.ref st.length) = some (st.length, acc) := by simp [cellL]
        simp only [ec]
        rw [if_pos (by omega)]
        have es : (st ++ [Cell.lst acc]).set st.length (.lst (acc ++ [f ys[k]])) = st ++ [Cell.lst (acc ++ [f ys[k]])] := by simp
        rw [es, cLoop_t p f hs turn m (k + 1) _ (by omega) (by omega) (by simp; omega) h4, ed, List.filter_cons]
        simp [ep]
    · have : k = ys.length := by omega
      subst this
      simp
theorem mLcN_t {A : Type} {it : ME Src} {s : Src} {g : D → MS} {tt : ME Bool} {te : ME D} {vs : List Nat} {env : Env} {st st1 : Store} (ys : List A) (enc : A → D) (p : A → Bool) (f : A → D) (he : it env st = .ok s st1) (hn : ys.length < 100000)
    (hs : ∀ acc, Gives s (st1 ++ [Cell.lst acc]) (ys.map enc))
    (turn : ∀ y ∈ ys, ∀ acc, ∃ env1, g (enc y) (wipeE env vs) (st1 ++ [Cell.lst acc]) = .ok .nx env1 (st1 ++ [Cell.lst acc]) ∧ tt env1 (st1 ++ [Cell.lst acc]) = .ok (p y) (st1 ++ [Cell.lst acc]) ∧ (p y = true → te env1 (st1 ++ [Cell.lst acc]) = .ok (f y) (st1 ++ [Cell.lst acc]))) :
    mLcN it g tt te vs env st = .ok (.ref st1.length) (st1 ++ [Cell.lst ((ys.filter p).map f)]) := by
  unfold mLcN mbind
  simp only [he, Rs.bind]
  rw [cLoop_t p f hs turn FUEL 0 [] (Nat.zero_le _) (by unfold FUEL; omega) (Nat.le_refl _) (by omega)]
  simp
theorem belows_of {n : Nat} : ∀ {ds : List D}, (∀ d ∈ ds, below n d = true) → belows n ds = true
  | [], _ => rfl
  | d :: ds, h => by simp only [belows, h d List.mem_cons_self, belows_of fun x hx => h x (List.mem_cons_of_mem _ hx), Bool.and_self]
theorem of_belows {n : Nat} : ∀ {ds : List D}, belows n ds = true → ∀ d ∈ ds, below n d = true
  | x :: xs, h, d, hd => by
    simp only [belows, Bool.and_eq_true] at h
    rcases List.mem_cons.mp hd with rfl | hd
    · exact h.1
    · exact of_belows h.2 d hd
theorem mLc_t {A : Type} {k : Nat} {it : ME Src} {s : Src} {g : D → MS} {tt : ME Bool} {te : ME D} {vs : List Nat} {env : Env} {st : Store} (ys : List A) (enc : A → D) (p : A → Bool) (f : A → D) (he : it env st = .ok s st) (hn : ys.length < 100000)
    (hs : ∀ acc, Gives s (st ++ [Cell.lst acc]) (ys.map enc))
    (turn : ∀ y ∈ ys, ∀ acc, ∃ env1, g (enc y) (wipeE env vs) (st ++ [Cell.lst acc]) = .ok .nx env1 (st ++ [Cell.lst acc]) ∧ tt env1 (st ++ [Cell.lst acc]) = .ok (p y) (st ++ [Cell.lst acc]) ∧ (p y = true → te env1 (st ++ [Cell.lst acc]) = .ok (f y) (st ++ [Cell.lst acc])))
    (hb : ∀ y ∈ ys, p y = true → below st.length (f y) = true) (hk : k ≠ 0 := by decide) : mLeave k (mLcN it g tt te vs) env st = .ok (.lst ((ys.filter p).map f)) st := by
  obtain ⟨k, rfl⟩ := Nat.exists_eq_succ_of_ne_zero hk
  unfold mLeave
  rw [mLcN_t ys enc p f he hn hs turn]
  refine leave_lst (belows_of fun d hd => ?_)
  obtain ⟨y, hy, rfl⟩ := List.mem_map.mp hd
  rw [List.mem_filter] at hy
  exact hb y hy.1 hy.2
theorem below_nI {n x : Nat} : below n (nI x) = true := rfl
def nthN (xs : List Nat) (k : Nat) : Nat := xs.getD k 0
@[simp] theorem filt_tt {A : Type} {ys : List A} : ys.filter (fun _ => true) = ys := by simp
theorem nth_mem {xs : List Nat} {k : Nat} (h : k < xs.length) : nthN xs k ∈ xs := by
  simp [nthN, List.getD_eq_getElem?_getD, List.getElem?_eq_getElem h]
theorem get_at {xs : List Nat} {k : Nat} (h : k < xs.length) : (xs.map nI)[k]? = some (nI (nthN xs k)) := by
  rw [List.getElem?_map, List.getElem?_eq_getElem h]
  simp [nthN, List.getD_eq_getElem?_getD, List.getElem?_eq_getElem h]
theorem ix_T {xs : List Nat} {k : Nat} {i : Int} {st : Store} (h : k < xs.length) (hi : i = (k : Nat)) : gIx (nT xs) (.int i) st = .ok (nI (nthN xs k)) st := g_ix (xs := xs.map nI) rfl hi (get_at h)
theorem ix_L {xs : List Nat} {k : Nat} {i : Int} {st : Store} (h : k < xs.length) (hi : i = (k : Nat)) : gIx (nL xs) (.int i) st = .ok (nI (nthN xs k)) st := g_ix (xs := xs.map nI) rfl hi (get_at h)
theorem ix_R {xs : List Nat} {j k : Nat} {i : Int} {st : Store} (e : st[j]? = some (.lst (xs.map nI))) (h : k < xs.length) (hi : i = (k : Nat)) : gIx (.ref j) (.int i) st = .ok (nI (nthN xs k)) st := g_ix (xs := xs.map nI) (items_ref e) hi (get_at h)
theorem bls_map {A : Type} (g : A → Bool) : ∀ (ys : List A), blsOf (ys.map fun y => D.bl (g y)) = some (ys.map g)
  | [] => rfl
  | y :: ys => by simp [blsOf, bls_map g ys]
theorem g_all {A : Type} {st : Store} {g : A → Bool} {ys : List A} : gBls (fun bs => bs.all id) [.lst (ys.map fun y => .bl (g y))] st = .ok (.bl (ys.all g)) st := by
  simp [gBls, itemsOf, seqOf, bls_map, Function.comp_def]
theorem g_any {A : Type} {st : Store} {g : A → Bool} {ys : List A} : gBls (fun bs => bs.any id) [.lst (ys.map fun y => .bl (g y))] st = .ok (.bl (ys.any g)) st := by
  simp [gBls, itemsOf, seqOf, bls_map, Function.comp_def]
end RR

set_option maxRecDepth 100000
set_option maxHeartbeats 1000000
namespace RR
open PySem PySem.Spec PyProof.Rows L2
@[simp] theorem s_okNx {g : D → MS} {d : D} {env : Env} {st : Store} : okNx g d env st = match g d env st with | .ok .nx e s => .ok .nx e s | _ => .no := rfl
/-! ints that are counts -/
section
variable {a b : Nat} {st : Store}
@[simp] theorem n_add : gAdd (nI a) (nI b) st = .ok (nI (a + b)) st := by simp [nI]
@[simp] theorem n_add1 : gAdd (nI a) (.int 1) st = .ok (nI (a + 1)) st := by simp [nI]
@[simp] theorem n_add2 : gAdd (nI a) (.int 2) st = .ok (nI (a + 2)) st := by simp [nI]
theorem n_sub (h : b ≤ a) : gSub (nI a) (nI b) st = .ok (nI (a - b)) st := by simp [nI]; omega
theorem n_sub1 (h : 1 ≤ a) : gSub (nI a) (.int 1) st = .ok (nI (a - 1)) st := by simp [nI]; omega
theorem n_sub2 (h : 2 ≤ a) : gSub (nI a) (.int 2) st = .ok (nI (a - 2)) st := by simp [nI]; omega
@[simp] theorem n_gpart : gPart (nI a) st = .ok (some (a : Int)) st := rfl
@[simp] theorem n_lt : gLt (nI a) (nI b) st = .ok (.bl (decide (a < b))) st := by simp [nI]
@[simp] theorem n_le : gLe (nI a) (nI b) st = .ok (.bl (decide (a ≤ b))) st := by simp [nI]
@[simp] theorem n_gt : gGt (nI a) (nI b) st = .ok (.bl (decide (b < a))) st := by simp [nI]
@[simp] theorem n_ge : gGe (nI a) (nI b) st = .ok (.bl (decide (b ≤ a))) st := by simp [nI]
@[simp] theorem n_eq {neg : Bool} : gEqB neg (nI a) (nI b) st = .ok (.bl (if neg then !decide (a = b) else decide (a = b))) st := by
  simp only [nI, g_eqi]
  have : decide ((a : Int) = (b : Int)) = decide (a = b) := decide_eq_decide.mpr (by omega)
  rw [this]
theorem n_ixT {xs : List Nat} {k : Nat} (h : k < xs.length) : gIx (nT xs) (nI k) st = .ok (nI (nthN xs k)) st := ix_T h rfl
theorem n_ixL {xs : List Nat} {k : Nat} (h : k < xs.length) : gIx (nL xs) (nI k) st = .ok (nI (nthN xs k)) st := ix_L h rfl
theorem n_ixR {xs : List Nat} {j k : Nat} (e : st[j]? = some (.lst (xs.map nI))) (h : k < xs.length) : gIx (.ref j) (nI k) st = .ok (nI (nthN xs k)) st := ix_R e h rfl
@[simp] theorem g_tupL {ds : List D} : gTupOf [.lst ds] st = .ok (.tup ds) st := by simp [gTupOf, seqOf]
@[simp] theorem g_tupT {ds : List D} : gTupOf [.tup ds] st = .ok (.tup ds) st := rfl
end
/-! ### what holds behind a run -/
def Post (r : RS) (J : Fl → Env → Store → Prop) : Prop := ∃ fl e s, r = .ok fl e s ∧ J fl e s
def Ok1 {A : Type} (r : Rs A) (Q : A → Store → Prop) : Prop := ∃ d s, r = .ok d s ∧ Q d s
section
variable {J : Fl → Env → Store → Prop} {env : Env} {st : Store}
@[simp] theorem post_ok {fl} : Post (.ok fl env st) J ↔ J fl env st := ⟨fun ⟨_, _, _, h, j⟩ => by cases h; exact j, fun h => ⟨_, _, _, rfl, h⟩⟩
theorem Post.mono {r : RS} {J' : Fl → Env → Store → Prop} (h : Post r J) (i : ∀ fl e s, J fl e s → J' fl e s) : Post r J' := let ⟨fl, e, s, a, b⟩ := h; ⟨fl, e, s, a, i _ _ _ b⟩
/-- what follows a statement -/
def ThJ (k : MS) (J : Fl → Env → Store → Prop) : Fl → Env → Store → Prop
  | .nx, e, s => Post (k e s) J
  | fl, e, s => J fl e s
@[simp] theorem thJ_nx {k : MS} : ThJ k J .nx env st ↔ Post (k env st) J := Iff.rfl
@[simp] theorem thJ_rt {k : MS} {d} : ThJ k J (.rt d) env st ↔ J (.rt d) env st := Iff.rfl
theorem post_thn {r : RS} {k : MS} (h : Post r (ThJ k J)) : Post (r.thn k) J := by
  obtain ⟨fl, e, s, rfl, j⟩ := h
  cases fl with
  | nx => exact j
  | bk => exact ⟨_, _, _, rfl, j⟩
  | ct => exact ⟨_, _, _, rfl, j⟩
  | rt d => exact ⟨_, _, _, rfl, j⟩
/-- what a turn of a loop must leave -/
def TuJ (I J0 : Env → Store → Prop) (J : Fl → Env → Store → Prop) : Fl → Env → Store → Prop
  | .nx, e, s => I e s
  | .ct, e, s => I e s
  | .bk, e, s => J .nx e s
  | .rt d, e, s => J (.rt d) e s
@[simp] theorem tuJ_nx {I J0} : TuJ I J0 J .nx env st ↔ I env st := Iff.rfl
@[simp] theorem tuJ_ct {I J0} : TuJ I J0 J .ct env st ↔ I env st := Iff.rfl
@[simp] theorem tuJ_bk {I J0} : TuJ I J0 J .bk env st ↔ J .nx env st := Iff.rfl
@[simp] theorem tuJ_rt {I J0 d} : TuJ I J0 J (.rt d) env st ↔ J (.rt d) env st := Iff.rfl
/-- J' serves behind a turn -/
structure TuOk (I : Env → Store → Prop) (J J' : Fl → Env → Store → Prop) : Prop where
  nx : ∀ e s, I e s → J' .nx e s
  ct : ∀ e s, I e s → J' .ct e s
  bk : ∀ e s, J .nx e s → J' .bk e s
  rt : ∀ d e s, J (.rt d) e s → J' (.rt d) e s
theorem tuOk_J {I J0} : TuOk I J (TuJ I J0 J) := ⟨fun _ _ h => h, fun _ _ h => h, fun _ _ h => h, fun _ _ _ h => h⟩
/-- the target, then the body -/
def ToB (b : MS) (J : Fl → Env → Store → Prop) : Fl → Env → Store → Prop
  | .nx, e, s => Post (b e s) J
  | _, _, _ => False
@[simp] theorem toB_nx {b : MS} : ToB b J .nx env st ↔ Post (b env st) J := Iff.rfl
theorem sLoop_post {A : Type} {s : Src} {g : D → MS} {b : MS} (ys : List A) (enc : A → D) (I : Nat → Env → Store → Prop) (hs : ∀ k env st, k ≤ ys.length → I k env st → Gives s st (ys.map enc))
    (turn : ∀ (k : Nat) (y : A) (env : Env) (st : Store), ys[k]? = some y → I k env st → Post (g (enc y) env st) (ToB b (TuJ (I (k + 1)) (fun _ _ => True) J)))
    (hend : ∀ env st, I ys.length env st → J .nx env st) :
    ∀ (m k : Nat) (env : Env) (st : Store), k ≤ ys.length → ys.length < m + k → I k env st → Post (sLoop s g b m k env st) J
  | 0, k, env, st, h1, h2, h => by omega
  | m + 1, k, env, st, h1, h2, h => by
    have e := hs k env st h1 h k
    simp only [sLoop, e]
    by_cases hk : k < ys.length
    · have ex : (ys.map enc)[k]? = some (enc ys[k]) := by simp [hk]
      rw [ex]
      obtain ⟨fl, e1, s1, eg, jg⟩ := turn k ys[k] env st (by simp [hk]) h
      show Post ((g (enc ys[k]) env st).tgt fun e1 s1 => (b e1 s1).lp (sLoop s g b m (k + 1))) J
      rw [eg]
      cases fl with
      | nx =>
        obtain ⟨fl, e2, s2, eb, jb⟩ := jg
        show Post ((b e1 s1).lp (sLoop s g b m (k + 1))) J
        rw [eb]
        cases fl with
        | nx => exact sLoop_post ys enc I hs turn hend m (k + 1) e2 s2 (by omega) (by omega) jb
        | ct => exact sLoop_post ys enc I hs turn hend m (k + 1) e2 s2 (by omega) (by omega) jb
        | bk => exact ⟨_, _, _, rfl, jb⟩
        | rt d => exact ⟨_, _, _, rfl, jb⟩
      | bk => exact jg.elim
      | ct => exact jg.elim
      | rt d => exact jg.elim
    · have : k = ys.length := by omega
      subst this
      have ex : (ys.map enc)[ys.length]? = none := by simp
      rw [ex]
      exact ⟨_, _, _, rfl, hend env st h⟩
/-- for: ys gone through, I kept -/
theorem post_for {A : Type} {ms : ME Src} {s : Src} {g : D → MS} {b : MS} {st1 : Store} (ys : List A) (enc : A → D) (I : Nat → Env → Store → Prop) (he : ms env st = .ok s st1) (hn : ys.length < 100000) (h0 : I 0 env st1) (hs : ∀ k env st, k ≤ ys.length → I k env st → Gives s st (ys.map enc))
    (turn : ∀ (k : Nat) (y : A) (env : Env) (st : Store) (J' : Fl → Env → Store → Prop), ys[k]? = some y → I k env st → TuOk (I (k + 1)) J J' → Post (g (enc y) env st) (ToB b J'))
    (hend : ∀ env st, I ys.length env st → J .nx env st) : Post (sFor ms g b env st) J := by
  unfold sFor sBind
  simp only [he]
  exact sLoop_post ys enc I hs (fun k y env st h1 h2 => turn k y env st _ h1 h2 tuOk_J) hend FUEL 0 env st1 (Nat.zero_le _) (by unfold FUEL; omega) h0
/-- while -/
theorem wLoop_post {t : ME Bool} {b : MS} (I : Nat → Env → Store → Prop)
    (turn : ∀ (k : Nat) (env : Env) (st : Store), I k env st → ∃ q st1, t env st = .ok q st1 ∧ (q = false → J .nx env st1) ∧ (q = true → ∃ j, k = j + 1 ∧ Post (b env st1) (TuJ (I j) (fun _ _ => True) J))) :
    ∀ (m k : Nat) (env : Env) (st : Store), k < m → I k env st → Post (wLoop t b m env st) J
  | 0, k, env, st, h1, h => by omega
  | m + 1, k, env, st, h1, h => by
    obtain ⟨q, st1, et, hf, ht⟩ := turn k env st h
    unfold wLoop
    rw [s_bind, et]
    cases q with
    | false => exact ⟨_, _, _, rfl, hf rfl⟩
    | true =>
      obtain ⟨j, rfl, fl, e2, s2, eb, jb⟩ := ht rfl
      show Post ((b env st1).lp (wLoop t b m)) J
      rw [eb]
      cases fl with
      | nx => exact wLoop_post I turn m j e2 s2 (by omega) jb
      | ct => exact wLoop_post I turn m j e2 s2 (by omega) jb
      | bk => exact ⟨_, _, _, rfl, jb⟩
      | rt d => exact ⟨_, _, _, rfl, jb⟩
/-- k bounds how many turns are left -/
theorem post_while {t : ME Bool} {b : MS} (I : Nat → Env → Store → Prop) (k : Nat) (hk : k < 100000) (h0 : I k env st)
    (turn : ∀ (k : Nat) (env : Env) (st : Store), I k env st → ∃ q st1, t env st = .ok q st1 ∧ (q = false → J .nx env st1) ∧ (q = true → ∃ j, k = j + 1 ∧ ∀ J', TuOk (I j) J J' → Post (b env st1) J')) : Post (sWhile t b env st) J :=
  wLoop_post I (fun k env st h => let ⟨q, s, a, b, c⟩ := turn k env st h; ⟨q, s, a, b, fun hq => let ⟨j, x, y⟩ := c hq; ⟨j, x, y _ tuOk_J⟩⟩) FUEL k env st (by unfold FUEL; omega) h0
end
/-- a def's end -/
def FinJ (k n : Nat) (st0 : Store) (Q : D → Store → Prop) : Fl → Env → Store → Prop
  | .rt d, _, s => Ok1 (leave k n st0 d s) Q
  | .nx, _, s => Ok1 (leave k n st0 .non s) Q
  | _, _, _ => False
@[simp] theorem finJ_rt {k n st0 Q d e s} : FinJ k n st0 Q (.rt d) e s ↔ Ok1 (leave k n st0 d s) Q := Iff.rfl
@[simp] theorem finJ_nx {k n st0 Q e s} : FinJ k n st0 Q .nx e s ↔ Ok1 (leave k n st0 .non s) Q := Iff.rfl
theorem semB_post {k keep np : Nat} {N : List Str} {b : MS} {ds : List D} {st : Store} {Q : D → Store → Prop} (hl : ds.length = np) (h : Post (b (env0 N ds) st) (FinJ k (st.length + keep) st Q)) : Ok1 (semB k keep np N b ds st) Q := by
  obtain ⟨fl, e, s, eb, j⟩ := h
  unfold semB
  rw [if_pos hl]
  simp only [eb]
  cases fl with
  | nx => exact j
  | rt d => exact j
  | bk => exact j.elim
  | ct => exact j.elim
theorem Ok1.eq {A : Type} {r : Rs A} {d : A} {s : Store} (h : Ok1 r fun d' s' => d' = d ∧ s' = s) : r = .ok d s := by
  obtain ⟨d', s', e, rfl, rfl⟩ := h; exact e
theorem semB_eq {k keep np : Nat} {N : List Str} {b : MS} {ds : List D} {st s : Store} {d : D} (hl : ds.length = np) (h : Post (b (env0 N ds) st) (FinJ k (st.length + keep) st fun d' s' => d' = d ∧ s' = s)) : semB k keep np N b ds st = .ok d s := (semB_post hl h).eq
@[simp] theorem ok1_ok {A : Type} {d : A} {s : Store} {Q : A → Store → Prop} : Ok1 (.ok d s) Q ↔ Q d s := ⟨fun ⟨_, _, h, j⟩ => by cases h; exact j, fun h => ⟨_, _, rfl, h⟩⟩
theorem ok1_of {A : Type} {r : Rs A} {d : A} {s : Store} {Q : A → Store → Prop} (h : r = .ok d s) (q : Q d s) : Ok1 r Q := ⟨_, _, h, q⟩
theorem fin_pure {k : Nat} {st : Store} {d : D} {Q : D → Store → Prop} (h : Pure d) (q : Q d st) : Ok1 (leave k st.length st d st) Q := ok1_of (leave_pure h) q
/-- a list of the frame's first cell leaves -/
theorem fin_lst {k : Nat} {st tail : Store} {ds : List D} {Q : D → Store → Prop} (h : Pures ds) (q : Q (.lst ds) st) (hk : k ≠ 0 := by decide) : Ok1 (leave k st.length st (.ref st.length) (st ++ .lst ds :: tail)) Q := by
  obtain ⟨k, rfl⟩ := Nat.exists_eq_succ_of_ne_zero hk
  exact ok1_of (leave_lst (h _)) q
/-- .. cells of the frame are left behind -/
theorem fin_tail {k : Nat} {st tail : Store} {d : D} {Q : D → Store → Prop} (h : Pure d) (q : Q d st) : Ok1 (leave k st.length st d (st ++ tail)) Q := ok1_of (leave_app (frz_low (h _))) q
theorem pure_nT {xs : List Nat} : Pure (nT xs) := pure_tup (pures_nI xs)
theorem pure_nL {xs : List Nat} : Pure (nL xs) := pure_lst (pures_nI xs)
theorem pure_nI {x : Nat} : Pure (nI x) := fun _ => rfl
end RR

set_option maxRecDepth 100000
set_option maxHeartbeats 1000000
namespace RR
open PySem PySem.Spec PyProof.Rows L2
@[simp] theorem n_lenL {xs : List Nat} {st : Store} : gLen [nL xs] st = .ok (nI xs.length) st := by simp [nL, nI]
@[simp] theorem n_lenT {xs : List Nat} {st : Store} : gLen [nT xs] st = .ok (nI xs.length) st := by simp [nT, nI]
/-! ### lists gathered turn by turn -/
theorem fm_take {A B : Type} {ys : List A} {k : Nat} {y : A} (f : A → List B) (h : ys[k]? = some y) : (ys.take (k + 1)).flatMap f = (ys.take k).flatMap f ++ f y := by
  rw [List.take_add_one, h]
  simp
theorem map_take {A B : Type} {ys : List A} {k : Nat} {y : A} (f : A → B) (h : ys[k]? = some y) : (ys.take (k + 1)).map f = (ys.take k).map f ++ [f y] := by
  rw [List.take_add_one, h]
  simp
theorem len_fm {A B : Type} {f : A → List B} {n : Nat} : ∀ {ys : List A}, (∀ y ∈ ys, (f y).length ≤ n) → (ys.flatMap f).length ≤ ys.length * n
  | [], _ => by simp
  | y :: ys, h => by
    have h1 := h y List.mem_cons_self
    have h2 := len_fm (f := f) (n := n) (ys := ys) fun x hx => h x (List.mem_cons_of_mem _ hx)
    rw [List.flatMap_cons, List.length_append, List.length_cons, Nat.add_mul]
    omega
theorem len_fmt {A B : Type} {f : A → List B} {n m k : Nat} {ys : List A} (h : ∀ y ∈ ys, (f y).length ≤ n) (hm : ys.length ≤ m) : ((ys.take k).flatMap f).length ≤ m * n :=
  Nat.le_trans (len_fm fun y hy => h y (List.mem_of_mem_take hy)) (Nat.mul_le_mul_right _ (by simp; omega))
theorem get_r {n k y : Nat} (h : (List.range n)[k]? = some y) : y = k ∧ k < n := by
  have hk := (List.getElem?_eq_some_iff.mp h).1
  simp at hk
  rw [List.getElem?_range hk] at h
  exact ⟨by simpa using h.symm, hk⟩
theorem get_r2 {a n k y : Nat} (h : (List.range' a n)[k]? = some y) : y = a + k ∧ k < n := by
  have hk := (List.getElem?_eq_some_iff.mp h).1
  simp at hk
  rw [List.getElem?_range' hk] at h
  simp at h
  exact ⟨by omega, hk⟩
theorem r1_n {n : Nat} {env : Env} {st st1 : Store} {m : ME D} (h : m env st = .ok (nI n) st1) (hn : n ≤ 1000000) : iRng1 (aCons m aNil) env st = .ok (.rng 0 n) st1 := i_r1 h (by simp) (by omega)
theorem r2_n {a n : Nat} {env : Env} {st st1 st2 : Store} {m m' : ME D} (h : m env st = .ok (nI a) st1) (h' : m' env st1 = .ok (nI n) st2) (ha : a ≤ 1000000) (hn : n ≤ 1000000) : iRng2 (aCons m (aCons m' aNil)) env st = .ok (.rng (a : Nat) (n - a)) st2 := i_r2 h h' (by omega) (by omega)
theorem fm_r {B : Type} {k : Nat} (f : Nat → List B) : (List.range (k + 1)).flatMap f = (List.range k).flatMap f ++ f k := by
  rw [List.range_succ]; simp
theorem fm_r2 {B : Type} {a k : Nat} (f : Nat → List B) : (List.range' a (k + 1)).flatMap f = (List.range' a k).flatMap f ++ f (a + k) := by
  rw [List.range'_concat]; simp
theorem map_r {B : Type} {k : Nat} (f : Nat → B) : (List.range (k + 1)).map f = (List.range k).map f ++ [f k] := by
  rw [List.range_succ]; simp
section
variable {J : Fl → Env → Store → Prop} {env : Env} {st st1 st2 : Store} {g : D → MS} {b : MS} {m m' : ME D}
/-- for k in range(n) -/
theorem post_r1 {n : Nat} (I : Nat → Env → Store → Prop) (he : m env st = .ok (nI n) st) (hn : n < 100000) (h0 : I 0 env st)
    (turn : ∀ (k : Nat) (env : Env) (st : Store) (J' : Fl → Env → Store → Prop), k < n → I k env st → TuOk (I (k + 1)) J J' → Post (g (nI k) env st) (ToB b J'))
    (hend : ∀ env st, I n env st → J .nx env st) : Post (sFor (iRng1 (aCons m aNil)) g b env st) J := by
  refine post_for (s := .rng 0 n) (List.range n) nI I (r1_n he (by omega)) (by simpa using hn) h0 (fun _ _ _ _ _ => gives_r1) ?_ (by simpa using hend)
  intro k y env st J' hy hI t
  obtain ⟨rfl, hk⟩ := get_r hy
  exact turn y env st J' hk hI t
/-- for k in range(a, n) -/
theorem post_r2 {a n : Nat} (I : Nat → Env → Store → Prop) (he : m env st = .ok (nI a) st) (he' : m' env st = .ok (nI n) st) (ha : a ≤ 1000000) (hn : n < 100000) (h0 : I 0 env st)
    (turn : ∀ (k : Nat) (env : Env) (st : Store) (J' : Fl → Env → Store → Prop), a + k < n → I k env st → TuOk (I (k + 1)) J J' → Post (g (nI (a + k)) env st) (ToB b J'))
    (hend : ∀ env st, I (n - a) env st → J .nx env st) : Post (sFor (iRng2 (aCons m (aCons m' aNil))) g b env st) J := by
  refine post_for (s := .rng (a : Nat) (n - a)) (List.range' a (n - a)) nI I (r2_n he he' ha (by omega)) (by simp; omega) h0 (fun _ _ _ _ _ => gives_r2 rfl) ?_ (by simpa using hend)
  intro k y env st J' hy hI t
  obtain ⟨rfl, hk⟩ := get_r2 hy
  exact turn k env st J' (by omega) hI t
end
/-- [e for k in range(n) if t] as a tree -/
theorem mLc_r1 {k n : Nat} {m : ME D} {g : D → MS} {tt : ME Bool} {te : ME D} {vs : List Nat} {env : Env} {st : Store} (p : Nat → Bool) (f : Nat → D) (he : m env st = .ok (nI n) st) (hn : n < 100000)
    (turn : ∀ y, y < n → ∀ acc, ∃ env1, g (nI y) (wipeE env vs) (st ++ [Cell.lst acc]) = .ok .nx env1 (st ++ [Cell.lst acc]) ∧ tt env1 (st ++ [Cell.lst acc]) = .ok (p y) (st ++ [Cell.lst acc]) ∧ (p y = true → te env1 (st ++ [Cell.lst acc]) = .ok (f y) (st ++ [Cell.lst acc])))
    (hb : ∀ y, y < n → p y = true → below st.length (f y) = true) (hk : k ≠ 0 := by decide) : mLeave k (mLcN (iRng1 (aCons m aNil)) g tt te vs) env st = .ok (.lst (((List.range n).filter p).map f)) st :=
  mLc_t (List.range n) nI p f (r1_n he (by omega)) (by simpa using hn) (fun _ => gives_r1) (fun y hy => turn y (List.mem_range.mp hy)) (fun y hy => hb y (List.mem_range.mp hy)) hk
/-- [e for k in range(a, n) if t] as a tree -/
theorem mLc_r2 {k a n : Nat} {m m' : ME D} {g : D → MS} {tt : ME Bool} {te : ME D} {vs : List Nat} {env : Env} {st : Store} (p : Nat → Bool) (f : Nat → D) (he : m env st = .ok (nI a) st) (he' : m' env st = .ok (nI n) st) (ha : a ≤ 1000000) (hn : n < 100000)
    (turn : ∀ y, a ≤ y → y < n → ∀ acc, ∃ env1, g (nI y) (wipeE env vs) (st ++ [Cell.lst acc]) = .ok .nx env1 (st ++ [Cell.lst acc]) ∧ tt env1 (st ++ [Cell.lst acc]) = .ok (p y) (st ++ [Cell.lst acc]) ∧ (p y = true → te env1 (st ++ [Cell.lst acc]) = .ok (f y) (st ++ [Cell.lst acc])))
    (hb : ∀ y, a ≤ y → y < n → p y = true → below st.length (f y) = true) (hk : k ≠ 0 := by decide) : mLeave k (mLcN (iRng2 (aCons m (aCons m' aNil))) g tt te vs) env st = .ok (.lst (((List.range' a (n - a)).filter p).map f)) st := by
  refine mLc_t (List.range' a (n - a)) nI p f (r2_n he he' ha (by omega)) (by simp; omega) (fun _ => gives_r2 rfl) (fun y hy => ?_) (fun y hy => ?_) hk
  · rw [List.mem_range'_1] at hy
    exact turn y hy.1 (by omega)
  · rw [List.mem_range'_1] at hy
    exact hb y hy.1 (by omega)
/-- [e for x in (a list, a tuple) if t] as a tree -/
theorem mLc_s {A : Type} {k : Nat} {m : ME D} {g : D → MS} {tt : ME Bool} {te : ME D} {vs : List Nat} {env : Env} {st : Store} (ys : List A) (enc : A → D) (p : A → Bool) (f : A → D) (he : m env st = .ok (.lst (ys.map enc)) st) (hn : ys.length < 100000)
    (turn : ∀ y ∈ ys, ∀ acc, ∃ env1, g (enc y) (wipeE env vs) (st ++ [Cell.lst acc]) = .ok .nx env1 (st ++ [Cell.lst acc]) ∧ tt env1 (st ++ [Cell.lst acc]) = .ok (p y) (st ++ [Cell.lst acc]) ∧ (p y = true → te env1 (st ++ [Cell.lst acc]) = .ok (f y) (st ++ [Cell.lst acc])))
    (hb : ∀ y ∈ ys, p y = true → below st.length (f y) = true) (hk : k ≠ 0 := by decide) : mLeave k (mLcN (iSeq m) g tt te vs) env st = .ok (.lst ((ys.filter p).map f)) st :=
  mLc_t ys enc p f (i_seqL he) hn (fun _ => gives_lst) turn hb hk
theorem mLc_u {A : Type} {k : Nat} {m : ME D} {g : D → MS} {tt : ME Bool} {te : ME D} {vs : List Nat} {env : Env} {st : Store} (ys : List A) (enc : A → D) (p : A → Bool) (f : A → D) (he : m env st = .ok (.tup (ys.map enc)) st) (hn : ys.length < 100000)
    (turn : ∀ y ∈ ys, ∀ acc, ∃ env1, g (enc y) (wipeE env vs) (st ++ [Cell.lst acc]) = .ok .nx env1 (st ++ [Cell.lst acc]) ∧ tt env1 (st ++ [Cell.lst acc]) = .ok (p y) (st ++ [Cell.lst acc]) ∧ (p y = true → te env1 (st ++ [Cell.lst acc]) = .ok (f y) (st ++ [Cell.lst acc])))
    (hb : ∀ y ∈ ys, p y = true → below st.length (f y) = true) (hk : k ≠ 0 := by decide) : mLeave k (mLcN (iTupS m) g tt te vs) env st = .ok (.lst ((ys.filter p).map f)) st :=
  mLc_t ys enc p f (i_tupT he) hn (fun _ => gives_tup) turn hb hk
end RR

set_option maxRecDepth 100000
set_option maxHeartbeats 1000000
namespace LZ
open PySem PySem.Spec PyProof.Rows L2 RR
abbrev N_is_number : List Str := ["part", "low", "high"]
noncomputable def b_is_number : MS :=
  (sRet (mAnd (mCall gIsi (aCons (mVar 0) (aCons (mret (.ty "int")) aNil))) (mAnd (mNot (mCall gIsi (aCons (mVar 0) (aCons (mret (.ty "bool")) aNil)))) (mChain gLe gLe (mVar 1) (mVar 0) (mVar 2)))))

noncomputable def sem_is_number : List D → Store → Rs D := semB 3 0 3 N_is_number b_is_number
theorem ar_is_number : HasArity 3 sem_is_number := ar_B
theorem lv_is_number : ∀ (ds : List D) (st0 : Store), ds.length = 3 → Leaves st0 (b_is_number (env0 N_is_number ds) st0) (sem_is_number ds st0) := fun _ _ h => lv_B h

abbrev N_need_sides : List Str := ["sides", "exact", "many"]
noncomputable def b_need_sides : MS :=
  (sSeq (sIf (tOr2 (tNot1 (mTest (mCall gIsi (aCons (mVar 0) (aCons (mret (.ty "tuple")) aNil))))) (tOr2 (tNot1 (mTest (mChain gLe gLe (mret (.int 2)) (mCall gLen (aCons (mVar 0) aNil)) (mret (.int 4))))) (mTest (op2 (gIn true) (mVar 1) (mTup (aCons (mret (.int 0)) (aCons (mCall gLen (aCons (mVar 0) aNil)) aNil)))))))
    sNo
    sNil)
    (sIf (tOr2 (tNot1 (mTest (mCall (gBls fun bs => bs.all id) (aCons (mLeave 1 (mLcN (iTupS (mVar 0)) (gNm 2) (mret true) (mFn sem_is_number [] (aCons (mVar 2) (aCons (mret (.int 0)) (aCons (mret (.int 4)) aNil)))) [2])) aNil)))) (tNot1 (mTest (mChain gLe gLe (mret (.int 1)) (mCall gSum (aCons (mVar 0) aNil)) (mret (.int 10))))))
    sNo
    sNil))

noncomputable def sem_need_sides : List D → Store → Rs D := semB 3 0 2 N_need_sides b_need_sides
theorem ar_need_sides : HasArity 2 sem_need_sides := ar_B
theorem lv_need_sides : ∀ (ds : List D) (st0 : Store), ds.length = 2 → Leaves st0 (b_need_sides (env0 N_need_sides ds) st0) (sem_need_sides ds st0) := fun _ _ h => lv_B h

abbrev N_owners : List Str := ["sides", "found", "side", "many"]
noncomputable def b_owners : MS :=
  (sSeq (sSet 1 (mNewL aNil))
    (sSeq (sFor (iEnumT1 (aCons (mVar 0) aNil)) (gTp 2 (gsCons (gNm 2) (gsCons (gNm 3) gsNil)))
    (sExpr (mMeth "list" gExtend (mVar 1) (aCons (op2 gMul (mLst (aCons (mVar 2) aNil)) (mVar 3)) aNil))))
    (sRet (mVar 1))))

noncomputable def sem_owners : List D → Store → Rs D := semB 3 0 1 N_owners b_owners
theorem ar_owners : HasArity 1 sem_owners := ar_B
theorem lv_owners : ∀ (ds : List D) (st0 : Store), ds.length = 1 → Leaves st0 (b_owners (env0 N_owners ds) st0) (sem_owners ds st0) := fun _ _ h => lv_B h

abbrev N_Outline_are_unlike : List Str := ["self", "lines", "k"]
noncomputable def b_Outline_are_unlike : MS :=
  (sRet (mCall (gBls fun bs => bs.all id) (aCons (mLeave 1 (mLcN (iRng1 (aCons (op2 gSub (mCall gLen (aCons (mVar 1) aNil)) (mret (.int 1))) aNil)) (gNm 2) (mret true) (op2 gNe (op2 gIx (op1 (gFld 0 "owner") (mVar 0)) (op2 gIx (mVar 1) (mVar 2))) (op2 gIx (op1 (gFld 0 "owner") (mVar 0)) (op2 gIx (mVar 1) (op2 gAdd (mVar 2) (mret (.int 1)))))) [2])) aNil)))

noncomputable def sem_Outline_are_unlike : List D → Store → Rs D := semB 3 0 2 N_Outline_are_unlike b_Outline_are_unlike
theorem ar_Outline_are_unlike : HasArity 2 sem_Outline_are_unlike := ar_B
theorem lv_Outline_are_unlike : ∀ (ds : List D) (st0 : Store), ds.length = 2 → Leaves st0 (b_Outline_are_unlike (env0 N_Outline_are_unlike ds) st0) (sem_Outline_are_unlike ds st0) := fun _ _ h => lv_B h

abbrev N_Outline_rule_of : List Str := ["self", "four", "a", "b", "c", "d", "alike", "k", "three", "pairs"]
noncomputable def b_Outline_rule_of : MS :=
  (sSeq (sAsg (mVar 1) (okNx (gTp 4 (gsCons (gNm 2) (gsCons (gNm 3) (gsCons (gNm 4) (gsCons (gNm 5) gsNil)))))))
    (sSeq (sSet 6 (mLeave 1 (mLcN (iRng1 (aCons (mret (.int 3)) aNil)) (gNm 7) (mTest (op2 gEq (op2 gIx (op1 (gFld 0 "owner") (mVar 0)) (op2 gIx (mVar 1) (mVar 7))) (op2 gIx (op1 (gFld 0 "owner") (mVar 0)) (op2 gIx (mVar 1) (op2 gAdd (mVar 7) (mret (.int 1))))))) (mVar 7) [7])))
    (sSeq (sIf (mTest (op2 gEq (mVar 6) (mLst aNil)))
    (sRet (mTup (aCons (mVar 1) (aCons (mret (.str "unlike")) (aCons (mCall gTupOf (aCons (mLeave 1 (mLcN (iTupS (mTup (aCons (mTup (aCons (mVar 2) (aCons (mVar 3) (aCons (mVar 4) aNil)))) (aCons (mTup (aCons (mVar 2) (aCons (mVar 3) (aCons (mVar 5) aNil)))) (aCons (mTup (aCons (mVar 2) (aCons (mVar 4) (aCons (mVar 5) aNil)))) (aCons (mTup (aCons (mVar 3) (aCons (mVar 4) (aCons (mVar 5) aNil)))) aNil)))))) (gNm 8) (mret true) (op2 gDget (op1 (gFld 0 "spot") (mVar 0)) (mVar 8)) [8])) aNil)) aNil)))))
    sNil)
    (sSeq (sIf (mTest (op2 gGt (mCall gLen (aCons (mVar 6) aNil)) (mret (.int 1))))
    (sRet (mret .non))
    sNil)
    (sSeq (sSet 9 (mTup (aCons (mTup (aCons (mTup (aCons (mVar 3) (aCons (mVar 4) (aCons (mVar 5) aNil)))) (aCons (mTup (aCons (mVar 2) (aCons (mVar 4) (aCons (mVar 5) aNil)))) aNil))) (aCons (mTup (aCons (mTup (aCons (mVar 2) (aCons (mVar 3) (aCons (mVar 5) aNil)))) (aCons (mTup (aCons (mVar 2) (aCons (mVar 4) (aCons (mVar 5) aNil)))) aNil))) (aCons (mTup (aCons (mTup (aCons (mVar 2) (aCons (mVar 3) (aCons (mVar 5) aNil)))) (aCons (mTup (aCons (mVar 2) (aCons (mVar 3) (aCons (mVar 4) aNil)))) aNil))) aNil)))))
    (sRet (mTup (aCons (mVar 1) (aCons (mret (.str "then")) (aCons (mCall gTupOf (aCons (mLeave 1 (mLcN (iTupS (op2 gIx (mVar 9) (op2 gIx (mVar 6) (mret (.int 0))))) (gNm 8) (mret true) (op2 gDget (op1 (gFld 0 "spot") (mVar 0)) (mVar 8)) [8])) aNil)) aNil))))))))))

noncomputable def sem_Outline_rule_of : List D → Store → Rs D := semB 3 0 2 N_Outline_rule_of b_Outline_rule_of
theorem ar_Outline_rule_of : HasArity 2 sem_Outline_rule_of := ar_B
theorem lv_Outline_rule_of : ∀ (ds : List D) (st0 : Store), ds.length = 2 → Leaves st0 (b_Outline_rule_of (env0 N_Outline_rule_of ds) st0) (sem_Outline_rule_of ds st0) := fun _ _ h => lv_B h

abbrev N_Outline_all_rules : List Str := ["self", "found", "a", "b", "c", "fours", "d", "four", "rule"]
noncomputable def b_Outline_all_rules : MS :=
  (sSeq (sSet 1 (mNewL aNil))
    (sSeq (sFor (iRng1 (aCons (op1 (gFld 0 "many") (mVar 0)) aNil)) (gNm 2)
    (sFor (iRng2 (aCons (op2 gAdd (mVar 2) (mret (.int 1))) (aCons (op1 (gFld 0 "many") (mVar 0)) aNil))) (gNm 3)
    (sFor (iRng2 (aCons (op2 gAdd (mVar 3) (mret (.int 1))) (aCons (op1 (gFld 0 "many") (mVar 0)) aNil))) (gNm 4)
    (sSeq (sSet 5 (mLeave 1 (mLcN (iRng2 (aCons (op2 gAdd (mVar 4) (mret (.int 1))) (aCons (op1 (gFld 0 "many") (mVar 0)) aNil))) (gNm 6) (mret true) (mTup (aCons (mVar 2) (aCons (mVar 3) (aCons (mVar 4) (aCons (mVar 6) aNil))))) [6])))
    (sExpr (mMeth "list" gExtend (mVar 1) (aCons (mLeave 1 (mLcN (iSeq (mLeave 1 (mLcN (iSeq (mVar 5)) (gNm 7) (mret true) (mMt 0 "rule_of" sem_Outline_rule_of [] (mVar 0) (aCons (mVar 7) aNil)) [7]))) (gNm 8) (mTest (op1 (gIsN true) (mVar 8))) (mVar 8) [8])) aNil)))))))
    (sRet (mVar 1))))

noncomputable def sem_Outline_all_rules : List D → Store → Rs D := semB 3 0 1 N_Outline_all_rules b_Outline_all_rules
theorem ar_Outline_all_rules : HasArity 1 sem_Outline_all_rules := ar_B
theorem lv_Outline_all_rules : ∀ (ds : List D) (st0 : Store), ds.length = 1 → Leaves st0 (b_Outline_all_rules (env0 N_Outline_all_rules ds) st0) (sem_Outline_all_rules ds st0) := fun _ _ h => lv_B h

abbrev N_Outline___init__ : List Str := ["self", "sides", "a", "b", "c", "number", "three", "rule"]
noncomputable def b_Outline___init__ : MS :=
  (sSeq (sFldSet 0 "sides" (mVar 0) (mVar 1))
    (sSeq (sFldSet 0 "owner" (mVar 0) (mFn sem_owners [] (aCons (mVar 1) aNil)))
    (sSeq (sFldSet 0 "many" (mVar 0) (mCall gLen (aCons (op1 (gFld 0 "owner") (mVar 0)) aNil)))
    (sSeq (sFldSet 0 "threes" (mVar 0) (mNewL aNil))
    (sSeq (sFor (iRng1 (aCons (op1 (gFld 0 "many") (mVar 0)) aNil)) (gNm 2)
    (sFor (iRng2 (aCons (op2 gAdd (mVar 2) (mret (.int 1))) (aCons (op1 (gFld 0 "many") (mVar 0)) aNil))) (gNm 3)
    (sExpr (mMeth "list" gExtend (op1 (gFld 0 "threes") (mVar 0)) (aCons (mLeave 1 (mLcN (iRng2 (aCons (op2 gAdd (mVar 3) (mret (.int 1))) (aCons (op1 (gFld 0 "many") (mVar 0)) aNil))) (gNm 4) (mTest (mMt 0 "are_unlike" sem_Outline_are_unlike [] (mVar 0) (aCons (mTup (aCons (mVar 2) (aCons (mVar 3) (aCons (mVar 4) aNil)))) aNil))) (mTup (aCons (mVar 2) (aCons (mVar 3) (aCons (mVar 4) aNil)))) [4])) aNil)))))
    (sSeq (sFldSet 0 "spot" (mVar 0) mNewT)
    (sSeq (sFor (iEnumL (aCons (op1 (gFld 0 "threes") (mVar 0)) aNil)) (gTp 2 (gsCons (gNm 5) (gsCons (gNm 6) gsNil)))
    (sDput (op1 (gFld 0 "spot") (mVar 0)) (mVar 6) (mVar 5)))
    (sSeq (sFldSet 0 "rules" (mVar 0) (mMt 0 "all_rules" sem_Outline_all_rules [] (mVar 0) aNil))
    (sFldSet 0 "held" (mVar 0) (mLeave 1 (mLcN (iRng1 (aCons (mCall gLen (aCons (op1 (gFld 0 "threes") (mVar 0)) aNil)) aNil)) (gNm 5) (mret true) (mLeave 1 (mLcN (iSeq (op1 (gFld 0 "rules") (mVar 0))) (gNm 7) (mTest (op2 (gIn false) (mVar 5) (op2 gIx (mVar 7) (mret (.int 2))))) (mVar 7) [7])) [5])))))))))))

noncomputable def sem_Outline___init__ : List D → Store → Rs D := semB 3 2 2 N_Outline___init__ b_Outline___init__
theorem ar_Outline___init__ : HasArity 2 sem_Outline___init__ := ar_B
theorem lv_Outline___init__ : ∀ (ds : List D) (st0 : Store), ds.length = 2 → Leaves st0 (b_Outline___init__ (env0 N_Outline___init__ ds) st0) (sem_Outline___init__ ds st0) := fun _ _ h => lv_B h

abbrev N_Pass___init__ : List Str := ["self", "outline"]
noncomputable def b_Pass___init__ : MS :=
  (sSeq (sFldSet 1 "outline" (mVar 0) (mVar 1))
    (sSeq (sFldSet 1 "order" (mVar 0) (mCall (gRg true) (aCons (op1 (gFld 0 "many") (mVar 1)) aNil)))
    (sFldSet 1 "laid" (mVar 0) (mNewL aNil))))

noncomputable def sem_Pass___init__ : List D → Store → Rs D := semB 3 2 2 N_Pass___init__ b_Pass___init__
theorem ar_Pass___init__ : HasArity 2 sem_Pass___init__ := ar_B
theorem lv_Pass___init__ : ∀ (ds : List D) (st0 : Store), ds.length = 2 → Leaves st0 (b_Pass___init__ (env0 N_Pass___init__ ds) st0) (sem_Pass___init__ ds st0) := fun _ _ h => lv_B h

abbrev N_Pass_can_lay : List Str := ["self", "place"]
noncomputable def b_Pass_can_lay : MS :=
  (sSeq (sIf (tNot1 (mTest (mFn sem_is_number [] (aCons (mVar 1) (aCons (mret (.int 0)) (aCons (op2 gSub (op1 (gFld 0 "many") (op1 (gFld 1 "outline") (mVar 0))) (mret (.int 2))) aNil))))))
    (sRet (mret (.bl false)))
    sNil)
    (sRet (op2 gLt (op2 gIx (op1 (gFld 0 "owner") (op1 (gFld 1 "outline") (mVar 0))) (op2 gIx (op1 (gFld 1 "order") (mVar 0)) (mVar 1))) (op2 gIx (op1 (gFld 0 "owner") (op1 (gFld 1 "outline") (mVar 0))) (op2 gIx (op1 (gFld 1 "order") (mVar 0)) (op2 gAdd (mVar 1) (mret (.int 1))))))))

noncomputable def sem_Pass_can_lay : List D → Store → Rs D := semB 3 0 2 N_Pass_can_lay b_Pass_can_lay
theorem ar_Pass_can_lay : HasArity 2 sem_Pass_can_lay := ar_B
theorem lv_Pass_can_lay : ∀ (ds : List D) (st0 : Store), ds.length = 2 → Leaves st0 (b_Pass_can_lay (env0 N_Pass_can_lay ds) st0) (sem_Pass_can_lay ds st0) := fun _ _ h => lv_B h

abbrev N_Pass_foot : List Str := ["self", "place", "found", "line"]
noncomputable def b_Pass_foot : MS :=
  (sSeq (sSet 2 (op2 gMulN (mLst (aCons (mret (.int 0)) aNil)) (mCall gLen (aCons (op1 (gFld 0 "sides") (op1 (gFld 1 "outline") (mVar 0))) aNil))))
    (sSeq (sFor (iSeq (mSl (op1 (gFld 1 "order") (mVar 0)) (mret none) (mPart (mVar 1)))) (gNm 3)
    (sSubAug (fun i j => i + j) (mVar 2) (op2 gIx (op1 (gFld 0 "owner") (op1 (gFld 1 "outline") (mVar 0))) (mVar 3)) (mret (.int 1))))
    (sRet (mCall gTupOf (aCons (mVar 2) aNil)))))

noncomputable def sem_Pass_foot : List D → Store → Rs D := semB 3 0 2 N_Pass_foot b_Pass_foot
theorem ar_Pass_foot : HasArity 2 sem_Pass_foot := ar_B
theorem lv_Pass_foot : ∀ (ds : List D) (st0 : Store), ds.length = 2 → Leaves st0 (b_Pass_foot (env0 N_Pass_foot ds) st0) (sem_Pass_foot ds st0) := fun _ _ h => lv_B h

abbrev N_Pass_lay : List Str := ["self", "place", "line", "other"]
noncomputable def b_Pass_lay : MS :=
  (sSeq (sAsg (mSl (op1 (gFld 1 "order") (mVar 0)) (mPart (mVar 1)) (mPart (op2 gAdd (mVar 1) (mret (.int 2))))) (okNx (gUl 2 (gsCons (gNm 2) (gsCons (gNm 3) gsNil)))))
    (sSeq (sExpr (mMeth "list" gAppend (op1 (gFld 1 "laid") (mVar 0)) (aCons (mTup (aCons (mVar 2) (aCons (mVar 3) (aCons (mVar 1) (aCons (mMt 1 "foot" sem_Pass_foot [] (mVar 0) (aCons (mVar 1) aNil)) aNil))))) aNil)))
    (sSliceSet (op1 (gFld 1 "order") (mVar 0)) (mVar 1) (op2 gAdd (mVar 1) (mret (.int 2))) (mLst (aCons (mVar 3) (aCons (mVar 2) aNil))))))

noncomputable def sem_Pass_lay : List D → Store → Rs D := semB 3 0 2 N_Pass_lay b_Pass_lay
theorem ar_Pass_lay : HasArity 2 sem_Pass_lay := ar_B
theorem lv_Pass_lay : ∀ (ds : List D) (st0 : Store), ds.length = 2 → Leaves st0 (b_Pass_lay (env0 N_Pass_lay ds) st0) (sem_Pass_lay ds st0) := fun _ _ h => lv_B h

abbrev N_Pass_is_over : List Str := ["self", "place"]
noncomputable def b_Pass_is_over : MS :=
  (sRet (mNot (mCall (gBls fun bs => bs.any id) (aCons (mLeave 1 (mLcN (iRng1 (aCons (op2 gSub (op1 (gFld 0 "many") (op1 (gFld 1 "outline") (mVar 0))) (mret (.int 1))) aNil)) (gNm 1) (mret true) (mMt 1 "can_lay" sem_Pass_can_lay [] (mVar 0) (aCons (mVar 1) aNil)) [1])) aNil))))

noncomputable def sem_Pass_is_over : List D → Store → Rs D := semB 3 0 1 N_Pass_is_over b_Pass_is_over
theorem ar_Pass_is_over : HasArity 1 sem_Pass_is_over := ar_B
theorem lv_Pass_is_over : ∀ (ds : List D) (st0 : Store), ds.length = 1 → Leaves st0 (b_Pass_is_over (env0 N_Pass_is_over ds) st0) (sem_Pass_is_over ds st0) := fun _ _ h => lv_B h

abbrev N_passed : List Str := ["outline", "row", "walk", "number", "place"]
noncomputable def b_passed : MS :=
  (sSeq (sSet 2 (mMk 1 sem_Pass___init__ [] (aCons (mVar 0) aNil)))
    (sSeq (sIf (tNot1 (mTest (mCall gIsi (aCons (mVar 1) (aCons (mret (.ty "list")) aNil)))))
    sNo
    sNil)
    (sSeq (sFor (iEnumL (aCons (mVar 1) aNil)) (gTp 2 (gsCons (gNm 3) (gsCons (gNm 4) gsNil)))
    (sSeq (sIf (tNot1 (mTest (mMt 1 "can_lay" sem_Pass_can_lay [] (mVar 2) (aCons (mVar 4) aNil))))
    sNo
    sNil)
    (sExpr (mMt 1 "lay" sem_Pass_lay [] (mVar 2) (aCons (mVar 4) aNil)))))
    (sSeq (sIf (tNot1 (mTest (mMt 1 "is_over" sem_Pass_is_over [] (mVar 2) aNil)))
    sNo
    sNil)
    (sRet (mVar 2))))))

noncomputable def sem_passed : List D → Store → Rs D := semB 3 0 2 N_passed b_passed
theorem ar_passed : HasArity 2 sem_passed := ar_B
theorem lv_passed : ∀ (ds : List D) (st0 : Store), ds.length = 2 → Leaves st0 (b_passed (env0 N_passed ds) st0) (sem_passed ds st0) := fun _ _ h => lv_B h

abbrev N_lozenges : List Str := ["sides", "row", "line", "other", "place", "foot"]
noncomputable def b_lozenges : MS :=
  (sSeq (sExpr (mFn sem_need_sides [.int 0] (aCons (mVar 0) aNil)))
    (sRet (mLcN (iSeq (op1 (gFld 1 "laid") (mFn sem_passed [] (aCons (mLeave 2 (mMk 0 sem_Outline___init__ [] (aCons (mVar 0) aNil))) (aCons (mVar 1) aNil))))) (gTp 4 (gsCons (gNm 2) (gsCons (gNm 3) (gsCons (gNm 4) (gsCons (gNm 5) gsNil))))) (mret true) (mTup (aCons (mVar 2) (aCons (mVar 3) (aCons (mVar 5) aNil)))) [2, 3, 4, 5])))

noncomputable def sem_lozenges : List D → Store → Rs D := semB 3 1 2 N_lozenges b_lozenges
theorem ar_lozenges : HasArity 2 sem_lozenges := ar_B
theorem lv_lozenges : ∀ (ds : List D) (st0 : Store), ds.length = 2 → Leaves st0 (b_lozenges (env0 N_lozenges ds) st0) (sem_lozenges ds st0) := fun _ _ h => lv_B h

end LZ

set_option maxRecDepth 100000
set_option maxHeartbeats 1000000
namespace LZ
open PySem PySem.Spec PyProof.Rows L2 RR
theorem eq_is_number (i lo hi : Int) (st : Store) : sem_is_number [.int i, .int lo, .int hi] st = .ok (.bl (decide (lo ≤ i ∧ i ≤ hi))) st := by
  refine semB_rt (st1 := st) (d := .bl (decide (lo ≤ i ∧ i ≤ hi))) (env1 := env0 N_is_number [.int i, .int lo, .int hi]) rfl ?_ (leave_pure pure_bl)
  simp [b_is_number, env0, gIsi, tyName, isTy, subTy]
  by_cases h : lo ≤ i
  · simp [h]
  · simp [h]
def owners (sides : List Nat) : List Nat := (sides.zipIdx.map fun p => List.replicate p.1 p.2).flatten
theorem owners_take {sides : List Nat} {k n : Nat} (h : sides[k]? = some n) : owners (sides.take (k + 1)) = owners (sides.take k) ++ List.replicate n k := by
  unfold owners
  rw [List.take_add_one, h]
  simp only [Option.toList_some, List.zipIdx_append, List.map_append, List.flatten_append]
  have : (sides.take k).length = k := by have := (List.getElem?_eq_some_iff.mp h).1; simp; omega
  simp [this]
theorem len_owners (sides : List Nat) : (owners sides).length = sides.sum := by
  unfold owners
  rw [List.length_flatten, List.map_map]
  have : ∀ (l : List Nat) (k : Nat), (l.zipIdx k).map (List.length ∘ fun p => List.replicate p.1 p.2) = l := by
    intro l
    induction l with
    | nil => intro k; rfl
    | cons x xs ih => intro k; simp [List.zipIdx_cons, ih]
  rw [this]
theorem sum_take_le (sides : List Nat) (k : Nat) : (sides.take k).sum ≤ sides.sum := by
  have := congrArg List.sum (List.take_append_drop k sides)
  rw [List.sum_append] at this
  omega
theorem le_sum : ∀ {l : List Nat} {n : Nat}, n ∈ l → n ≤ l.sum
  | x :: xs, n, h => by
    rw [List.sum_cons]
    rcases List.mem_cons.mp h with rfl | h
    · omega
    · have := le_sum h; omega
theorem flat_rep (n : Nat) (d : D) : (List.replicate n [d]).flatten = List.replicate n d := by
  induction n with
  | zero => rfl
  | succ n ih => simp [List.replicate_succ, ih]
theorem eq_owners {sides : List Nat} (st : Store) (h1 : sides.length ≤ 100) (h3 : sides.sum ≤ 1000) : sem_owners [nT sides] st = .ok (nL (owners sides)) st := by
  obtain ⟨e2, s2, hrun, a, b, rfl, rfl⟩ := sFor_inv (ms := iEnumT1 (aCons (mVar 0) aNil)) (g := gTp 2 (gsCons (gNm 2) (gsCons (gNm 3) gsNil))) (b := sExpr (mMeth "list" gExtend (mVar 1) (aCons (op2 gMul (mLst (aCons (mVar 2) aNil)) (mVar 3)) aNil)))
    (env := [some (nT sides), some (.ref st.length), none, none]) (st := st ++ [.lst []]) (st1 := st ++ [.lst []]) (s := .enum (nT sides)) (xs := pairUp (sides.map nI))
    (i_enumT (by simp [nT])) (by simp; omega) nb_expr
    (fun k env s => ∃ a b, env = [some (nT sides), some (.ref st.length), a, b] ∧ s = st ++ [.lst ((owners (sides.take k)).map nI)])
    ⟨none, none, rfl, by simp [owners]⟩ (fun k env s _ _ => gives_enum (by simp [nT]) k) (by
      rintro k x env s hx ⟨a, b, rfl, rfl⟩
      obtain ⟨d, hd, rfl⟩ := pairUp_get hx
      simp only [List.getElem?_map, Option.map_eq_some_iff] at hd
      obtain ⟨n, hn, rfl⟩ := hd
      have hs := sum_take_le sides k
      have hl := len_owners (sides.take k)
      have hn' := le_sum (List.mem_of_getElem? hn)
      refine ⟨[some (nT sides), some (.ref st.length), some (.int k), some (nI n)], st ++ [.lst ((owners (sides.take (k + 1))).map nI)], ?_, _, _, rfl, rfl⟩
      rw [owners_take hn]
      have hx := sum_take_le sides (k + 1)
      have hl' := len_owners (sides.take (k + 1))
      rw [owners_take hn] at hl'
      simp [nI] at hl'
      simp [nI, tyD, gExtend, cellL, lstOf, flat_rep, hl, sizeLine_eq]
      rw [if_pos (by omega)]
      simp
      rw [if_pos (by omega)]
      simp)
  refine semB_rt (k := 3) (keep := 0) (st1 := st ++ [.lst ((owners (sides.take sides.length)).map nI)]) (d := .ref st.length) (env1 := [some (nT sides), some (.ref st.length), a, b]) rfl ?_ ?_
  · unfold b_owners
    simp [env0]
    rw [hrun]
    simp
  · rw [List.take_length]
    exact leave_lst (pures_nI _ _)
end LZ

set_option maxRecDepth 100000
set_option maxHeartbeats 1000000
namespace LZ
open PySem PySem.Spec PyProof.Rows L2 RR
/-! ### the outline -/
def unl (ow xs : List Nat) : Bool := (List.range (xs.length - 1)).all fun k => !decide (nthN ow (nthN xs k) = nthN ow (nthN xs (k + 1)))
theorem eq_are_unlike {st : Store} {self : D} {ow xs : List Nat} (ho : HasF 0 st self "owner" (nL ow)) (hx : ∀ x ∈ xs, x < ow.length) (hn : xs.length ≤ 1000) : sem_Outline_are_unlike [self, nT xs] st = .ok (.bl (unl ow xs)) st := by
  refine semB_rt (st1 := st) (d := .bl (unl ow xs)) (env1 := env0 N_Outline_are_unlike [self, nT xs]) rfl ?_ (leave_pure pure_bl)
  unfold b_Outline_are_unlike
  have h1 := mLc_t (k := 1) (it := iRng1 (aCons (op2 gSub (mCall gLen (aCons (mVar 1) aNil)) (mret (.int 1))) aNil)) (g := gNm 2) (tt := mret true) (te := op2 gNe (op2 gIx (op1 (gFld 0 "owner") (mVar 0)) (op2 gIx (mVar 1) (mVar 2))) (op2 gIx (op1 (gFld 0 "owner") (mVar 0)) (op2 gIx (mVar 1) (op2 gAdd (mVar 2) (mret (.int 1)))))) (vs := [2])
    (env := env0 N_Outline_are_unlike [self, nT xs]) (st := st) (s := .rng 0 (xs.length - 1)) (List.range (xs.length - 1)) nI (fun _ => true) (fun k => .bl (!decide (nthN ow (nthN xs k) = nthN ow (nthN xs (k + 1)))))
    (i_r1 (i := (xs.length : Int) - 1) (by simp [env0, nT]) (by omega) (by omega)) (by simp; omega) (fun acc => gives_r1) (by
      intro k hk acc
      rw [List.mem_range] at hk
      refine ⟨[some self, some (nT xs), some (nI k)], by simp [env0, wipeE], rfl, fun _ => ?_⟩
      have e1 := hx _ (nth_mem (xs := xs) (k := k) (by omega))
      have e2 := hx _ (nth_mem (xs := xs) (k := k + 1) (by omega))
      simp [nI, (ho.app _).fld, ix_T (xs := xs) (k := k) (by omega) rfl, ix_T (xs := xs) (k := k + 1) (i := (k : Int) + 1) (by omega) (by omega), ix_L e1 rfl, ix_L e2 rfl]
      omega) (fun _ _ _ => rfl)
  simp [h1, g_all, unl]
end LZ

set_option maxRecDepth 100000
set_option maxHeartbeats 1000000
namespace LZ
open PySem PySem.Spec PyProof.Rows L2 RR
abbrev Rule := List Nat × Bool × List Nat
def alikeOf (ow : List Nat) (four : List Nat) : List Nat := (List.range 3).filter fun k => decide (nthN ow (nthN four k) = nthN ow (nthN four (k + 1)))
def ruleOf (T : List (List Nat)) (ow : List Nat) (a b c d : Nat) : Option Rule :=
  match alikeOf ow [a, b, c, d] with
  | [] => some ([a, b, c, d], false, [T.idxOf [a, b, c], T.idxOf [a, b, d], T.idxOf [a, c, d], T.idxOf [b, c, d]])
  | [0] => some ([a, b, c, d], true, [T.idxOf [b, c, d], T.idxOf [a, c, d]])
  | [1] => some ([a, b, c, d], true, [T.idxOf [a, b, d], T.idxOf [a, c, d]])
  | [2] => some ([a, b, c, d], true, [T.idxOf [a, b, d], T.idxOf [a, b, c]])
  | _ => none
def encR (r : Rule) : D := .tup [nT r.1, .str (if r.2.1 then "then" else "unlike"), nT r.2.2]
def encRO : Option Rule → D
  | some r => encR r
  | none => .non
def Spot (st : Store) (sp : D) (T : List (List Nat)) : Prop := ∀ tl three, three ∈ T → dlook (st ++ tl) sp (nT three) = some (some (nI (T.idxOf three)))
theorem Spot.get {st sp T} (h : Spot st sp T) {tl three} (ht : three ∈ T) : gDget sp (nT three) (st ++ tl) = .ok (nI (T.idxOf three)) (st ++ tl) := by
  simp [gDget, h tl three ht]
structure OwOk (ow : List Nat) (T : List (List Nat)) : Prop where
  len : ow.length ≤ 16
  up : ∀ i j, i ≤ j → j < ow.length → nthN ow i ≤ nthN ow j
  mem : ∀ x y z, x < y → y < z → z < ow.length → nthN ow x < nthN ow y → nthN ow y < nthN ow z → [x, y, z] ∈ T
def al3 (p q r : Bool) : List Nat := (if p then [0] else []) ++ (if q then [1] else []) ++ (if r then [2] else [])
theorem alike_eq (ow : List Nat) (a b c d : Nat) : alikeOf ow [a, b, c, d] = al3 (decide (nthN ow a = nthN ow b)) (decide (nthN ow b = nthN ow c)) (decide (nthN ow c = nthN ow d)) := by
  have r : List.range 3 = [0, 1, 2] := rfl
  have n0 : nthN [a, b, c, d] 0 = a := rfl
  have n1 : nthN [a, b, c, d] (0 + 1) = b := rfl
  have n2 : nthN [a, b, c, d] (1 + 1) = c := rfl
  have n3 : nthN [a, b, c, d] (2 + 1) = d := rfl
  unfold alikeOf
  rw [r]
  simp only [List.filter_cons, List.filter_nil]
  show (if decide (nthN ow a = nthN ow b) = true then 0 :: if decide (nthN ow b = nthN ow c) = true then 1 :: if decide (nthN ow c = nthN ow d) = true then [2] else [] else if decide (nthN ow c = nthN ow d) = true then [2] else []
    else if decide (nthN ow b = nthN ow c) = true then 1 :: if decide (nthN ow c = nthN ow d) = true then [2] else [] else if decide (nthN ow c = nthN ow d) = true then [2] else []) = _
  generalize decide (nthN ow a = nthN ow b) = p
  generalize decide (nthN ow b = nthN ow c) = q
  generalize decide (nthN ow c = nthN ow d) = r
  cases p <;> cases q <;> cases r <;> rfl
theorem alike_cases (ow : List Nat) (T : List (List Nat)) (a b c d : Nat) :
    (alikeOf ow [a, b, c, d] = [] ∧ nthN ow a ≠ nthN ow b ∧ nthN ow b ≠ nthN ow c ∧ nthN ow c ≠ nthN ow d) ∨
    (alikeOf ow [a, b, c, d] = [0] ∧ nthN ow a = nthN ow b ∧ nthN ow b ≠ nthN ow c ∧ nthN ow c ≠ nthN ow d) ∨
    (alikeOf ow [a, b, c, d] = [1] ∧ nthN ow a ≠ nthN ow b ∧ nthN ow b = nthN ow c ∧ nthN ow c ≠ nthN ow d) ∨
    (alikeOf ow [a, b, c, d] = [2] ∧ nthN ow a ≠ nthN ow b ∧ nthN ow b ≠ nthN ow c ∧ nthN ow c = nthN ow d) ∨
    (alikeOf ow [a, b, c, d] ≠ [] ∧ 1 < (alikeOf ow [a, b, c, d]).length ∧ ruleOf T ow a b c d = none) := by
  unfold ruleOf
  rw [alike_eq]
  by_cases h0 : nthN ow a = nthN ow b
  · by_cases h1 : nthN ow b = nthN ow c
    · rw [decide_eq_true h0, decide_eq_true h1]
      cases (decide (nthN ow c = nthN ow d)) <;> exact .inr (.inr (.inr (.inr ⟨by decide, by decide, rfl⟩)))
    · by_cases h2 : nthN ow c = nthN ow d
      · rw [decide_eq_true h0, decide_eq_false h1, decide_eq_true h2]
        exact .inr (.inr (.inr (.inr ⟨by decide, by decide, rfl⟩)))
      · rw [decide_eq_true h0, decide_eq_false h1, decide_eq_false h2]
        exact .inr (.inl ⟨rfl, h0, h1, h2⟩)
  · by_cases h1 : nthN ow b = nthN ow c
    · by_cases h2 : nthN ow c = nthN ow d
      · rw [decide_eq_false h0, decide_eq_true h1, decide_eq_true h2]
        exact .inr (.inr (.inr (.inr ⟨by decide, by decide, rfl⟩)))
      · rw [decide_eq_false h0, decide_eq_true h1, decide_eq_false h2]
        exact .inr (.inr (.inl ⟨rfl, h0, h1, h2⟩))
    · by_cases h2 : nthN ow c = nthN ow d
      · rw [decide_eq_false h0, decide_eq_false h1, decide_eq_true h2]
        exact .inr (.inr (.inr (.inl ⟨rfl, h0, h1, h2⟩)))
      · rw [decide_eq_false h0, decide_eq_false h1, decide_eq_false h2]
        exact .inl ⟨rfl, h0, h1, h2⟩
theorem bel_T {n : Nat} {xs : List Nat} : below n (nT xs) = true := pure_tup (pures_nI xs) n
theorem eq_rule_of {st : Store} {self sp : D} {ow : List Nat} {T : List (List Nat)} {a b c d : Nat} (ho : HasF 0 st self "owner" (nL ow)) (hs : HasF 0 st self "spot" sp) (hsp : Spot st sp T) (hw : OwOk ow T) (hab : a < b) (hbc : b < c) (hcd : c < d) (hd : d < ow.length) :
    sem_Outline_rule_of [self, nT [a, b, c, d]] st = .ok (encRO (ruleOf T ow a b c d)) st := by
  refine semB_eq rfl ?_
  unfold b_Outline_rule_of
  simp [env0, nT]
  rw [mLc_t (s := .rng 0 3) (List.range 3) nI (fun k => decide (nthN ow (nthN [a, b, c, d] k) = nthN ow (nthN [a, b, c, d] (k + 1)))) nI]
  rotate_left
  · exact i_r1 (i := 3) (by simp) rfl (by decide)
  · decide
  · exact fun acc => gives_r1
  · intro k hk acc
    have hk' := List.mem_range.mp hk
    refine ⟨_, by simp [wipeE]; rfl, ?_, fun _ => by simp⟩
    have hall : ∀ x ∈ [a, b, c, d], x < ow.length := by
      intro x hx
      simp only [List.mem_cons, List.not_mem_nil, or_false] at hx
      omega
    have h1 := hall _ (nth_mem (xs := [a, b, c, d]) (k := k) (by simp; omega))
    have h2 := hall _ (nth_mem (xs := [a, b, c, d]) (k := k + 1) (by simp; omega))
    have t1 : ∀ st, gIx (D.tup [nI a, nI b, nI c, nI d]) (nI k) st = .ok (nI (nthN [a, b, c, d] k)) st := fun st => n_ixT (xs := [a, b, c, d]) (by simp; omega)
    have t2 : ∀ st, gIx (D.tup [nI a, nI b, nI c, nI d]) (nI (k + 1)) st = .ok (nI (nthN [a, b, c, d] (k + 1))) st := fun st => n_ixT (xs := [a, b, c, d]) (by simp; omega)
    simp [(ho.app _).fld, t1, t2, n_ixL h1, n_ixL h2]
  · exact fun _ _ _ => below_nI
  have ha : (List.filter (fun k => decide (nthN ow (nthN [a, b, c, d] k) = nthN ow (nthN [a, b, c, d] (k + 1)))) (List.range 3)) = alikeOf ow [a, b, c, d] := rfl
  rw [ha]
  have eqn : ∀ st, gEq (.lst ((alikeOf ow [a, b, c, d]).map nI)) (.lst []) st = .ok (.bl (decide (alikeOf ow [a, b, c, d] = []))) st := fun st => g_eqL (neg := false) (ys := [])
  have key : ∀ (three : List Nat), three ∈ T → ∀ tl, gDget sp (nT three) (st ++ tl) = .ok (nI (T.idxOf three)) (st ++ tl) := fun three h tl => hsp.get h
  have le := hw.up
  obtain ⟨h, q1, q2, q3⟩ | ⟨h, q1, q2, q3⟩ | ⟨h, q1, q2, q3⟩ | ⟨h, q1, q2, q3⟩ | ⟨h, h', q1⟩ := alike_cases ow T a b c d
  · have l1 := le a b (by omega) (by omega)
    have l2 := le b c (by omega) (by omega)
    have l3 := le c d (by omega) (by omega)
    have hx' : ∀ x ∈ [[a, b, c], [a, b, d], [a, c, d], [b, c, d]], x ∈ T := by
      intro x hx
      simp only [List.mem_cons, List.not_mem_nil, or_false] at hx
      rcases hx with rfl | rfl | rfl | rfl <;> exact hw.mem _ _ _ (by omega) (by omega) (by omega) (by omega) (by omega)
    simp [eqn]
    simp [h]
    rw [mLc_t (s := .seq (.tup [nT [a, b, c], nT [a, b, d], nT [a, c, d], nT [b, c, d]])) [[a, b, c], [a, b, d], [a, c, d], [b, c, d]] nT (fun _ => true) (fun x => nI (T.idxOf x)) (i_tupT (by simp [nT])) (by simp) (fun acc => gives_tup)
      (fun x hx acc => ⟨_, by simp [wipeE]; rfl, rfl, fun _ => by simp [(hs.app _).fld, key x (hx' x hx)]⟩) (fun _ _ _ => below_nI)]
    simp [ruleOf, h, encRO, encR, nT]
    exact fin_pure (fun n => rfl) (by simp)
  · have l2 := le b c (by omega) (by omega)
    have l3 := le c d (by omega) (by omega)
    have hx' : ∀ x ∈ [[b, c, d], [a, c, d]], x ∈ T := by
      intro x hx
      simp only [List.mem_cons, List.not_mem_nil, or_false] at hx
      rcases hx with rfl | rfl <;> exact hw.mem _ _ _ (by omega) (by omega) (by omega) (by omega) (by omega)
    simp [eqn]
    simp [h]
    rw [mLc_t (s := .seq (.tup [nT [b, c, d], nT [a, c, d]])) [[b, c, d], [a, c, d]] nT (fun _ => true) (fun x => nI (T.idxOf x)) (i_tupT (by simp [nT]; rfl)) (by simp) (fun acc => gives_tup)
      (fun x hx acc => ⟨_, by simp [wipeE]; rfl, rfl, fun _ => by simp [(hs.app _).fld, key x (hx' x hx)]⟩) (fun _ _ _ => below_nI)]
    simp [ruleOf, h, encRO, encR, nT]
    exact fin_pure (fun n => rfl) (by simp)
  · have l2 := le a b (by omega) (by omega)
    have l3 := le c d (by omega) (by omega)
    have hx' : ∀ x ∈ [[a, b, d], [a, c, d]], x ∈ T := by
      intro x hx
      simp only [List.mem_cons, List.not_mem_nil, or_false] at hx
      rcases hx with rfl | rfl <;> exact hw.mem _ _ _ (by omega) (by omega) (by omega) (by omega) (by omega)
    simp [eqn]
    simp [h]
    rw [mLc_t (s := .seq (.tup [nT [a, b, d], nT [a, c, d]])) [[a, b, d], [a, c, d]] nT (fun _ => true) (fun x => nI (T.idxOf x)) (i_tupT (by simp [nT]; rfl)) (by simp) (fun acc => gives_tup)
      (fun x hx acc => ⟨_, by simp [wipeE]; rfl, rfl, fun _ => by simp [(hs.app _).fld, key x (hx' x hx)]⟩) (fun _ _ _ => below_nI)]
    simp [ruleOf, h, encRO, encR, nT]
    exact fin_pure (fun n => rfl) (by simp)
  · have l2 := le a b (by omega) (by omega)
    have l3 := le b c (by omega) (by omega)
    have hx' : ∀ x ∈ [[a, b, d], [a, b, c]], x ∈ T := by
      intro x hx
      simp only [List.mem_cons, List.not_mem_nil, or_false] at hx
      rcases hx with rfl | rfl <;> exact hw.mem _ _ _ (by omega) (by omega) (by omega) (by omega) (by omega)
    simp [eqn]
    simp [h]
    rw [mLc_t (s := .seq (.tup [nT [a, b, d], nT [a, b, c]])) [[a, b, d], [a, b, c]] nT (fun _ => true) (fun x => nI (T.idxOf x)) (i_tupT (by simp [nT]; rfl)) (by simp) (fun acc => gives_tup)
      (fun x hx acc => ⟨_, by simp [wipeE]; rfl, rfl, fun _ => by simp [(hs.app _).fld, key x (hx' x hx)]⟩) (fun _ _ _ => below_nI)]
    simp [ruleOf, h, encRO, encR, nT]
    exact fin_pure (fun n => rfl) (by simp)
  · have h2 : (1 : Int) < ((alikeOf ow [a, b, c, d]).length : Nat) := by omega
    simp [eqn]
    simp [h, h2, q1, encRO]
    exact fin_pure (fun n => rfl) (by simp)
end LZ

set_option maxRecDepth 100000
set_option maxHeartbeats 1000000
namespace LZ
open PySem PySem.Spec PyProof.Rows L2 RR
def rules3 (T : List (List Nat)) (ow : List Nat) (a b c : Nat) : List Rule := (List.range' (c + 1) (ow.length - (c + 1))).filterMap fun d => ruleOf T ow a b c d
def rules2 (T : List (List Nat)) (ow : List Nat) (a b : Nat) : List Rule := (List.range' (b + 1) (ow.length - (b + 1))).flatMap fun c => rules3 T ow a b c
def rules1 (T : List (List Nat)) (ow : List Nat) (a : Nat) : List Rule := (List.range' (a + 1) (ow.length - (a + 1))).flatMap fun b => rules2 T ow a b
def rulesOf (T : List (List Nat)) (ow : List Nat) : List Rule := (List.range ow.length).flatMap fun a => rules1 T ow a
theorem len_r3 {T ow a b c} (h : ow.length ≤ 16) : (rules3 T ow a b c).length ≤ 16 := Nat.le_trans (List.length_filterMap_le _ _) (by simp; omega)
theorem len_r2 {T ow a b} (h : ow.length ≤ 16) : (rules2 T ow a b).length ≤ 16 * 16 := Nat.le_trans (len_fm fun c _ => len_r3 h) (Nat.mul_le_mul_right _ (by simp; omega))
theorem len_r1 {T ow a} (h : ow.length ≤ 16) : (rules1 T ow a).length ≤ 16 * (16 * 16) := Nat.le_trans (len_fm fun c _ => len_r2 h) (Nat.mul_le_mul_right _ (by simp; omega))
theorem pure_encR {r : Rule} : Pure (encR r) := pure_tup (pures_cons pure_nT (pures_cons pure_str (pures_cons pure_nT pures_nil)))
theorem pure_encRO {r : Option Rule} : Pure (encRO r) := by cases r; exact pure_non; exact pure_encR
theorem filt_rules (T : List (List Nat)) (ow : List Nat) (a b c : Nat) (ds : List Nat) : (((ds.map fun d => ruleOf T ow a b c d).filter fun o => o.isSome).map encRO) = (ds.filterMap fun d => ruleOf T ow a b c d).map encR := by
  induction ds with
  | nil => rfl
  | cons d ds ih =>
    rw [List.map_cons, List.filter_cons, List.filterMap_cons]
    cases e : ruleOf T ow a b c d with
    | none => simpa using ih
    | some r => simpa [encRO] using ih
theorem Spot.app {st sp T} (h : Spot st sp T) (tl : Store) : Spot (st ++ tl) sp T := fun t x hx => by
  rw [List.append_assoc]
  exact h (tl ++ t) x hx
theorem eq_all_rules {st : Store} {self sp : D} {ow : List Nat} {T : List (List Nat)} (ho : HasF 0 st self "owner" (nL ow)) (hm : HasF 0 st self "many" (nI ow.length)) (hs : HasF 0 st self "spot" sp) (hno : NoF 0 st self "rule_of") (hsp : Spot st sp T) (hw : OwOk ow T) :
    sem_Outline_all_rules [self] st = .ok (.lst ((rulesOf T ow).map encR)) st := by
  have hl := hw.len
  refine semB_eq rfl ?_
  unfold b_Outline_all_rules
  simp [env0]
  refine post_thn (post_r1 (n := ow.length) (fun k e s => ∃ x2 x3 x4 x5 x6 x7 x8, e = [some self, some (.ref st.length), x2, x3, x4, x5, x6, x7, x8] ∧ s = st ++ [.lst (((List.range k).flatMap fun a => rules1 T ow a).map encR)])
    (by simp [(hm.app _).fld]) (by omega) ⟨_, _, _, _, _, _, _, rfl, by simp⟩ ?_ ?_)
  · rintro a env s J ha ⟨x2, x3, x4, x5, x6, x7, x8, rfl, rfl⟩ tu
    simp
    refine post_r2 (a := a + 1) (n := ow.length) (fun j e s => ∃ x3 x4 x5 x6 x7 x8, e = [some self, some (.ref st.length), some (nI a), x3, x4, x5, x6, x7, x8] ∧ s = st ++ [.lst (((List.range a).flatMap fun a => rules1 T ow a).map encR ++ ((List.range' (a + 1) j).flatMap fun b => rules2 T ow a b).map encR)])
      (by simp) (by simp [(hm.app _).fld]) (by omega) (by omega) ⟨_, _, _, _, _, _, rfl, by simp⟩ ?_ ?_
    · rintro j env s J hb ⟨x3, x4, x5, x6, x7, x8, rfl, rfl⟩ tu
      simp
      generalize eb : a + 1 + j = b at hb ⊢
      refine post_r2 (a := b + 1) (n := ow.length) (fun i e s => ∃ x4 x5 x6 x7 x8, e = [some self, some (.ref st.length), some (nI a), some (nI b), x4, x5, x6, x7, x8] ∧ s = st ++ [.lst (((List.range a).flatMap fun a => rules1 T ow a).map encR ++ ((List.range' (a + 1) j).flatMap fun b => rules2 T ow a b).map encR ++ ((List.range' (b + 1) i).flatMap fun c => rules3 T ow a b c).map encR)])
        (by simp) (by simp [(hm.app _).fld]) (by omega) (by omega) ⟨_, _, _, _, _, rfl, by simp⟩ ?_ ?_
      · rintro i env s J hc ⟨x4, x5, x6, x7, x8, rfl, rfl⟩ tu
        simp
        generalize ec : b + 1 + i = c at hc ⊢
        rw [mLc_r2 (a := c + 1) (n := ow.length) (fun _ => true) (fun d => nT [a, b, c, d]) (by simp) (by simp [(hm.app _).fld]) (by omega) (by omega)
          (fun d h1 h2 acc => ⟨_, by simp [wipeE]; rfl, rfl, fun _ => by simp [nT]⟩) (fun _ _ _ _ => bel_T)]
        simp
        rw [mLc_s (List.range' (c + 1) (ow.length - (c + 1)) |>.map fun d => ruleOf T ow a b c d) encRO (fun o => o.isSome) encRO ?_ (by simp; omega) (fun o ho acc => ⟨_, by simp [wipeE]; rfl, ?_, fun _ => by simp⟩) (fun _ _ _ => pure_encRO _)]
        · rw [filt_rules]
          have e3 : ((List.range' (c + 1) (ow.length - (c + 1))).filterMap fun d => ruleOf T ow a b c d) = rules3 T ow a b c := rfl
          rw [e3]
          have l1 := len_fm (ys := List.range a) (f := rules1 T ow) fun a _ => len_r1 (T := T) (ow := ow) (a := a) hl
          have l2 := len_fm (ys := List.range' (a + 1) j) (f := rules2 T ow a) fun b _ => len_r2 (T := T) (ow := ow) (a := a) (b := b) hl
          have l3 := len_fm (ys := List.range' (b + 1) i) (f := rules3 T ow a b) fun c _ => len_r3 (T := T) (ow := ow) (a := a) (b := b) (c := c) hl
          have l4 := len_r3 (T := T) (a := a) (b := b) (c := c) hl
          simp only [List.length_range, List.length_range'] at l1 l2 l3
          simp [tyD, gExtend, cellL, lstOf]
          rw [if_pos (by simp only [List.length_map, List.length_flatMap] at *; omega)]
          simp
          refine tu.nx _ _ ⟨_, _, _, _, _, rfl, ?_⟩
          rw [fm_r2, ec]
          simp
        · rw [mLc_s (List.range' (c + 1) (ow.length - (c + 1))) (fun d => nT [a, b, c, d]) (fun _ => true) (fun d => encRO (ruleOf T ow a b c d)) (by simp) (by simp; omega) (fun d hd acc => ⟨_, by simp [wipeE]; rfl, rfl, fun _ => ?_⟩) (fun _ _ _ => pure_encRO _)]
          · simp
          · rw [List.mem_range'_1] at hd
            rw [NoF.mt ((hno.app _).app _) rfl]
            simp only [a_cons, a_var, a_nil, a_bind_ok, List.getElem?_cons_succ, List.getElem?_cons_zero, List.append_nil]
            exact eq_rule_of ((ho.app _).app _) ((hs.app _).app _) ((hsp.app _).app _) hw (by omega) (by omega) (by omega) (by omega)
        · cases o with
          | none => simp [encRO, gIsN]
          | some r => simp [encRO, encR, gIsN]
      · rintro env s ⟨x4, x5, x6, x7, x8, rfl, rfl⟩
        refine tu.nx _ _ ⟨_, _, _, _, _, _, rfl, ?_⟩
        rw [fm_r2 (a := a + 1), eb]
        simp [rules2]
    · rintro env s ⟨x3, x4, x5, x6, x7, x8, rfl, rfl⟩
      refine tu.nx _ _ ⟨_, _, _, _, _, _, _, rfl, ?_⟩
      rw [fm_r]
      simp [rules1]
  · rintro env s ⟨x2, x3, x4, x5, x6, x7, x8, rfl, rfl⟩
    simp
    exact fin_lst (pures_map fun _ _ => pure_encR) (by simp [rulesOf])
end LZ

set_option maxRecDepth 100000
set_option maxHeartbeats 1000000
namespace RR
open PySem PySem.Spec PyProof.Rows L2
/-! ### names of fields -/
def fidx : List Str → Str → Option Nat
  | [], _ => none
  | k :: ks, x => if x = k then some 0 else (fidx ks x).map (· + 1)
theorem fget_i {x : Str} {y : D} : ∀ {ks : List Str} {ds : List D} {i : Nat}, fidx ks x = some i → ds[i]? = some y → fget ks ds x = some y
  | [], _, _, h, _ => by cases h
  | k :: ks, [], i, _, h => by simp at h
  | k :: ks, d :: ds, i, h, h' => by
    simp only [fidx] at h
    split at h
    · rename_i e
      cases h
      simp at h'
      subst h'
      simp [fget, e]
    · rename_i e
      rw [Option.map_eq_some_iff] at h
      obtain ⟨j, hj, rfl⟩ := h
      have e' : (x == k) = false := by simpa using e
      simp only [fget, e', Bool.false_eq_true, if_false]
      exact fget_i hj (by simpa using h')
theorem fget_n {x : Str} : ∀ {ks : List Str} {ds : List D}, fidx ks x = none → fget ks ds x = none
  | [], _, _ => by simp [fget]
  | k :: ks, [], _ => by simp [fget]
  | k :: ks, d :: ds, h => by
    simp only [fidx] at h
    split at h
    · cases h
    · rename_i e
      rw [Option.map_eq_none_iff] at h
      have e' : (x == k) = false := by simpa using e
      simp only [fget, e', Bool.false_eq_true, if_false]
      exact fget_n h
theorem fput_n {x : Str} {y : D} : ∀ {ks : List Str} {ds : List D}, fidx ks x = none → ks.length = ds.length → fput ks ds x y = (ks ++ [x], ds ++ [y])
  | [], [], _, _ => rfl
  | [], _ :: _, _, h => by simp at h
  | k :: ks, [], _, h => by simp at h
  | k :: ks, d :: ds, h, hl => by
    simp only [fidx] at h
    split at h
    · cases h
    · rename_i e
      rw [Option.map_eq_none_iff] at h
      have e' : k ≠ x := fun z => e z.symm
      simp only [fput, e', if_false, fput_n h (by simpa using hl)]
      rfl
theorem hasF_0 {t : Nat} {st tl : Store} {ns : List Str} {ds : List D} {x : Str} {y : D} {i : Nat} (h : fidx ns x = some i) (h' : ds[i]? = some y) : HasF t (st ++ .ins t ns ds :: tl) (.ref st.length) x y :=
  ⟨ns, ds, by simp [insOf], fget_i h h'⟩
theorem noF_0 {t : Nat} {st tl : Store} {ns : List Str} {ds : List D} {x : Str} (h : fidx ns x = none) : NoF t (st ++ .ins t ns ds :: tl) (.ref st.length) x :=
  ⟨ns, ds, by simp [insOf], fget_n h⟩
theorem hasF_o {t : Nat} {st : Store} {ns : List Str} {ds : List D} {x : Str} {y : D} {i : Nat} (h : fidx ns x = some i) (h' : ds[i]? = some y) : HasF t st (.obj t ns ds) x y := ⟨ns, ds, rfl, fget_i h h'⟩
theorem noF_o {t : Nat} {st : Store} {ns : List Str} {ds : List D} {x : Str} (h : fidx ns x = none) : NoF t st (.obj t ns ds) x := ⟨ns, ds, rfl, fget_n h⟩
/-- x.f = y, f being new -/
theorem fld_set {t : Nat} {x : Str} {mo me : ME D} {env : Env} {st st0 tl : Store} {ns : List Str} {ds : List D} {y : D} (he : me env st = .ok y (st0 ++ .ins t ns ds :: tl)) (ho : mo env (st0 ++ .ins t ns ds :: tl) = .ok (.ref st0.length) (st0 ++ .ins t ns ds :: tl)) (hx : fidx ns x = none) (hl : ns.length = ds.length) (hn : ns.length < 1000) :
    sFldSet t x mo me env st = .ok .nx env (st0 ++ .ins t (ns ++ [x]) (ds ++ [y]) :: tl) := by
  unfold sFldSet
  rw [s_bind, he]
  simp only [s_bind, ho]
  simp [fput_n hx hl, hn]
/-! ### dicts -/
theorem dput_n {κ : Type} [DecidableEq κ] {ks : List κ} {ds : List D} {k : κ} {d : D} (h : k ∉ ks) : dput ks ds k d = (ks ++ [k], ds ++ [d]) := by
  unfold dput
  rw [if_neg h]
theorem dget_map {κ A : Type} [DecidableEq κ] [BEq A] [LawfulBEq A] {key : A → κ} (hk : ∀ a b, key a = key b → a = b) {f : Nat → D} {a : A} : ∀ {xs : List A} {n : Nat}, a ∈ xs → dget (xs.map key) ((List.range' n xs.length).map f) (key a) = some (f (n + xs.idxOf a))
  | x :: xs, n, h => by
    rw [List.length_cons, List.range'_succ, List.map_cons, List.map_cons]
    simp only [dget]
    by_cases e : x = a
    · subst e
      simp
    · have e' : key x ≠ key a := fun z => e (hk _ _ z)
      rw [if_neg e', dget_map hk (n := n + 1) ((List.mem_cons.mp h).resolve_left fun z => e z.symm), List.idxOf_cons]
      have e2 : (x == a) = false := by simpa using e
      rw [e2]
      simp only [cond_false]
      congr 2
      omega
def keyN (xs : List Nat) : List Key := xs.map fun (x : Nat) => Sum.inl (x : Int)
theorem keysOf_nI : ∀ (xs : List Nat), keysOf (xs.map nI) = some (keyN xs)
  | [] => rfl
  | x :: xs => by
    simp only [List.map_cons, keysOf, keysOf_nI xs]
    rfl
theorem tkey_nT {xs : List Nat} : tkey (nT xs) = some (keyN xs) := keysOf_nI xs
theorem keyN_inj : ∀ {xs ys : List Nat}, keyN xs = keyN ys → xs = ys
  | [], [], _ => rfl
  | [], _ :: _, h => by cases h
  | _ :: _, [], h => by cases h
  | x :: xs, y :: ys, h => by
    unfold keyN at h
    rw [List.map_cons, List.map_cons, List.cons.injEq] at h
    have h1 : (x : Int) = (y : Int) := Sum.inl.inj h.1
    have h2 := keyN_inj (xs := xs) (ys := ys) h.2
    rw [h2, Int.ofNat_inj.mp h1]
theorem keyN_mem {xs : List Nat} {ys : List (List Nat)} (h : xs ∉ ys) : keyN xs ∉ ys.map keyN := fun z => by
  obtain ⟨y, hy, e⟩ := List.mem_map.mp z
  rw [keyN_inj e] at hy
  exact h hy
theorem n_in {neg : Bool} {x : Nat} {xs : List Nat} {st : Store} : gIn neg (nI x) (nT xs) st = .ok (.bl (if neg then !xs.contains x else xs.contains x)) st := by
  have hf : (xs.map nI).all flatD = true := by
    rw [List.all_eq_true]
    intro d hd
    obtain ⟨y, _, rfl⟩ := List.mem_map.mp hd
    rfl
  have hv : inV (toV (nI x)) ((xs.map nI).map toV) = xs.contains x := by
    have e : (xs.map nI).map toV = (xs.map fun (x : Nat) => (x : Int)).map V.int := by
      rw [List.map_map, List.map_map]
      rfl
    have e2 : toV (nI x) = V.int x := rfl
    rw [e, e2, inV_ints]
    clear hf e
    induction xs with
    | nil => rfl
    | cons y ys ih =>
      rw [List.map_cons, List.contains_cons, List.contains_cons]
      have e3 : ((x : Int) == (y : Int)) = (x == y) := by
        by_cases h : x = y
        · simp [h]
        · have : (x : Int) ≠ (y : Int) := by omega
          rw [beq_eq_false_iff_ne.mpr h, beq_eq_false_iff_ne.mpr this]
      simp only [e3]
      rw [ih]
  have hi : itemsOf st (nT xs) = some (xs.map nI) := rfl
  have hx : flatD (nI x) = true := rfl
  unfold gIn
  rw [hi]
  simp only [hf, hv, hx, Bool.and_self, if_true]
end RR

set_option maxRecDepth 100000
set_option maxHeartbeats 1000000
namespace LZ
open PySem PySem.Spec PyProof.Rows L2 RR
def threes2 (ow : List Nat) (a b : Nat) : List (List Nat) := ((List.range' (b + 1) (ow.length - (b + 1))).filter fun c => unl ow [a, b, c]).map fun c => [a, b, c]
def threes1 (ow : List Nat) (a : Nat) : List (List Nat) := (List.range' (a + 1) (ow.length - (a + 1))).flatMap fun b => threes2 ow a b
def threesOf (ow : List Nat) : List (List Nat) := (List.range ow.length).flatMap fun a => threes1 ow a
theorem mem_threes2 {ow x a b} : x ∈ threes2 ow a b ↔ ∃ c, b < c ∧ c < ow.length ∧ unl ow [a, b, c] = true ∧ x = [a, b, c] := by
  unfold threes2
  simp only [List.mem_map, List.mem_filter, List.mem_range'_1]
  constructor
  · rintro ⟨c, ⟨h1, h2⟩, rfl⟩
    exact ⟨c, by omega, by omega, h2, rfl⟩
  · rintro ⟨c, h1, h2, h3, rfl⟩
    exact ⟨c, ⟨by omega, h3⟩, rfl⟩
theorem mem_threes1 {ow x a} : x ∈ threes1 ow a ↔ ∃ b c, a < b ∧ b < c ∧ c < ow.length ∧ unl ow [a, b, c] = true ∧ x = [a, b, c] := by
  unfold threes1
  simp only [List.mem_flatMap, List.mem_range'_1, mem_threes2]
  constructor
  · rintro ⟨b, h1, c, h2, h3, h4, rfl⟩
    exact ⟨b, c, by omega, by omega, by omega, h4, rfl⟩
  · rintro ⟨b, c, h1, h2, h3, h4, rfl⟩
    exact ⟨b, by omega, c, by omega, by omega, h4, rfl⟩
theorem mem_threes {ow x} : x ∈ threesOf ow ↔ ∃ a b c, a < b ∧ b < c ∧ c < ow.length ∧ unl ow [a, b, c] = true ∧ x = [a, b, c] := by
  unfold threesOf
  simp only [List.mem_flatMap, List.mem_range, mem_threes1]
  constructor
  · rintro ⟨a, h1, b, c, h2, h3, h4, h5, rfl⟩
    exact ⟨a, b, c, by omega, by omega, by omega, h5, rfl⟩
  · rintro ⟨a, b, c, h1, h2, h3, h4, rfl⟩
    exact ⟨a, by omega, b, c, by omega, by omega, by omega, h4, rfl⟩
theorem nodup_threes (ow : List Nat) : (threesOf ow).Nodup := by
  have r : ∀ n, (List.range n).Pairwise (· ≠ ·) := fun n => List.nodup_range
  have r' : ∀ a n, (List.range' a n).Pairwise (· ≠ ·) := fun a n => List.nodup_range'
  unfold threesOf
  unfold List.Nodup
  rw [List.pairwise_flatMap]
  refine ⟨fun a _ => ?_, (r _).imp fun {a a'} h x hx y hy e => ?_⟩
  · unfold threes1
    rw [List.pairwise_flatMap]
    refine ⟨fun b _ => ?_, (r' _ _).imp fun {b b'} h x hx y hy e => ?_⟩
    · unfold threes2
      rw [List.pairwise_map]
      exact ((r' _ _).filter _).imp fun {c c'} h e => h (by simpa using e)
    · subst e
      obtain ⟨c, _, _, _, rfl⟩ := mem_threes2.mp hx
      obtain ⟨c', _, _, _, e⟩ := mem_threes2.mp hy
      simp at e
      exact h e.1
  · subst e
    obtain ⟨b, c, _, _, _, _, rfl⟩ := mem_threes1.mp hx
    obtain ⟨b', c', _, _, _, _, e⟩ := mem_threes1.mp hy
    simp at e
    exact h e.1
theorem unl3 (ow : List Nat) (a b c : Nat) : unl ow [a, b, c] = (!decide (nthN ow a = nthN ow b) && !decide (nthN ow b = nthN ow c)) := by
  have r : List.range ([a, b, c].length - 1) = [0, 1] := rfl
  unfold unl
  rw [r]
  simp only [List.all_cons, List.all_nil, Bool.and_true]
  rfl
theorem len_th2 {ow a b} (h : ow.length ≤ 16) : (threes2 ow a b).length ≤ 16 := by
  unfold threes2
  rw [List.length_map]
  exact Nat.le_trans (List.length_filter_le _ _) (by simp; omega)
theorem len_th1 {ow a} (h : ow.length ≤ 16) : (threes1 ow a).length ≤ 16 * 16 := Nat.le_trans (len_fm fun b _ => len_th2 h) (Nat.mul_le_mul_right _ (by simp; omega))
theorem len_th {ow} (h : ow.length ≤ 16) : (threesOf ow).length ≤ 16 * (16 * 16) := Nat.le_trans (len_fm fun b _ => len_th1 h) (Nat.mul_le_mul_right _ (by simp; omega))
def heldOf (T : List (List Nat)) (ow : List Nat) : List D := (List.range T.length).map fun k => .lst (((rulesOf T ow).filter fun r => r.2.2.contains k).map encR)
abbrev outN : List Str := ["sides", "owner", "many", "threes", "spot", "rules", "held"]
def spotD (T : List (List Nat)) : List D := (List.range T.length).map nI
/-- an outline as a tree -/
def outD (sides : List Nat) : D := .obj 0 outN [nT sides, nL (owners sides), nI (owners sides).length, .lst ((threesOf (owners sides)).map nT), .dT ((threesOf (owners sides)).map keyN) (spotD (threesOf (owners sides))), .lst ((rulesOf (threesOf (owners sides)) (owners sides)).map encR), .lst (heldOf (threesOf (owners sides)) (owners sides))]
theorem owners_up : ∀ (sides : List Nat) (m i j : Nat), i ≤ j → j < ((sides.zipIdx m).map fun p => List.replicate p.1 p.2).flatten.length → nthN ((sides.zipIdx m).map fun p => List.replicate p.1 p.2).flatten i ≤ nthN ((sides.zipIdx m).map fun p => List.replicate p.1 p.2).flatten j ∧ m ≤ nthN ((sides.zipIdx m).map fun p => List.replicate p.1 p.2).flatten i
  | [], m, i, j, h, h' => by simp at h'
  | n :: sides, m, i, j, h, h' => by
    simp only [List.zipIdx_cons, List.map_cons, List.flatten_cons] at h' ⊢
    have na : ∀ k, k < n → nthN (List.replicate n m ++ ((sides.zipIdx (m + 1)).map fun p => List.replicate p.1 p.2).flatten) k = m := by
      intro k hk
      simp [nthN, List.getD_eq_getElem?_getD, List.getElem?_append_left, hk]
    have nb : ∀ k, n ≤ k → nthN (List.replicate n m ++ ((sides.zipIdx (m + 1)).map fun p => List.replicate p.1 p.2).flatten) k = nthN ((sides.zipIdx (m + 1)).map fun p => List.replicate p.1 p.2).flatten (k - n) := by
      intro k hk
      simp only [nthN, List.getD_eq_getElem?_getD]
      rw [List.getElem?_append_right (by simpa using hk)]
      simp
    rw [List.length_append, List.length_replicate] at h'
    by_cases h1 : i < n
    · rw [na i h1]
      refine ⟨?_, Nat.le_refl _⟩
      by_cases h2 : j < n
      · rw [na j h2]
        exact Nat.le_refl _
      · rw [nb j (by omega)]
        have := (owners_up sides (m + 1) (j - n) (j - n) (Nat.le_refl _) (by omega)).2
        omega
    · rw [nb i (by omega), nb j (by omega)]
      have := owners_up sides (m + 1) (i - n) (j - n) (by omega) (by omega)
      omega
theorem owOk {sides : List Nat} (h : sides.sum ≤ 16) : OwOk (owners sides) (threesOf (owners sides)) := by
  refine ⟨by rw [len_owners]; exact h, fun i j h1 h2 => (owners_up sides 0 i j h1 h2).1, fun x y z h1 h2 h3 h4 h5 => ?_⟩
  rw [mem_threes]
  refine ⟨x, y, z, h1, h2, h3, ?_, rfl⟩
  rw [unl3]
  simp only [Bool.and_eq_true, Bool.not_eq_true', decide_eq_false_iff_not]
  omega
end LZ

set_option maxRecDepth 100000
set_option maxHeartbeats 1000000
namespace RR
open PySem PySem.Spec PyProof.Rows L2
/-! ### enumerate -/
theorem zipIdx_get {A : Type} {ys : List A} {k : Nat} {p : A × Nat} (h : ys.zipIdx[k]? = some p) : ys[k]? = some p.1 ∧ p.2 = k := by
  rw [List.getElem?_zipIdx, Option.map_eq_some_iff] at h
  obtain ⟨y, h1, rfl⟩ := h
  exact ⟨h1, by simp⟩
theorem gives_en {A : Type} {st : Store} {d : D} {ys : List A} {enc : A → D} (h : itemsOf st d = some (ys.map enc)) : Gives (.enum d) st (ys.zipIdx.map fun p => .tup [nI p.2, enc p.1]) := by
  have e : pairUp (ys.map enc) = ys.zipIdx.map fun p => .tup [nI p.2, enc p.1] := by
    unfold pairUp
    rw [List.zipIdx_map, List.map_map]
    rfl
  rw [← e]
  exact gives_enum h
section
variable {J : Fl → Env → Store → Prop} {env : Env} {st st1 st2 : Store} {g : D → MS} {b : MS} {m m' : ME D}
/-- for k, x in enumerate(ys) -/
theorem post_en {A : Type} {ms : ME Src} {d : D} (ys : List A) (enc : A → D) (I : Nat → Env → Store → Prop) (he : ms env st = .ok (.enum d) st1) (hn : ys.length < 100000) (h0 : I 0 env st1) (hs : ∀ k env st, k ≤ ys.length → I k env st → itemsOf st d = some (ys.map enc))
    (turn : ∀ (k : Nat) (y : A) (env : Env) (st : Store) (J' : Fl → Env → Store → Prop), ys[k]? = some y → I k env st → TuOk (I (k + 1)) J J' → Post (g (.tup [nI k, enc y]) env st) (ToB b J'))
    (hend : ∀ env st, I ys.length env st → J .nx env st) : Post (sFor ms g b env st) J := by
  refine post_for ys.zipIdx (fun p => .tup [nI p.2, enc p.1]) I he (by simpa using hn) h0 (fun k env st hk hI => gives_en (hs k env st (by simpa using hk) hI)) ?_ (by simpa using hend)
  intro k p env st J' hp hI t
  obtain ⟨h1, h2⟩ := zipIdx_get hp
  have := turn k p.1 env st J' h1 hI t
  rw [← h2] at this
  exact this
/-- for x in (a list) -/
theorem post_s {A : Type} {d : D} (ys : List A) (enc : A → D) (I : Nat → Env → Store → Prop) (he : iSeq m env st = .ok (.seq d) st1) (hn : ys.length < 100000) (h0 : I 0 env st1) (hs : ∀ k env st, k ≤ ys.length → I k env st → seqOf st d = some (ys.map enc))
    (turn : ∀ (k : Nat) (y : A) (env : Env) (st : Store) (J' : Fl → Env → Store → Prop), ys[k]? = some y → I k env st → TuOk (I (k + 1)) J J' → Post (g (enc y) env st) (ToB b J'))
    (hend : ∀ env st, I ys.length env st → J .nx env st) : Post (sFor (iSeq m) g b env st) J := by
  refine post_for ys enc I he hn h0 (fun k env st hk hI j => ?_) turn hend
  have h := hs k env st hk hI
  cases d with
  | lst ds => simp only [seqOf, Option.some.injEq] at h; rw [← h]; rfl
  | scr ns => simp only [seqOf, Option.some.injEq] at h; rw [← h]; rfl
  | ref i =>
    have : itemsOf st (.ref i) = some (ys.map enc) := h
    simp [Src.get, this]
  | _ => cases h
theorem post_sL {A : Type} (ys : List A) (enc : A → D) (I : Nat → Env → Store → Prop) (he : m env st = .ok (.lst (ys.map enc)) st1) (hn : ys.length < 100000) (h0 : I 0 env st1)
    (turn : ∀ (k : Nat) (y : A) (env : Env) (st : Store) (J' : Fl → Env → Store → Prop), ys[k]? = some y → I k env st → TuOk (I (k + 1)) J J' → Post (g (enc y) env st) (ToB b J'))
    (hend : ∀ env st, I ys.length env st → J .nx env st) : Post (sFor (iSeq m) g b env st) J :=
  post_s ys enc I (i_seqL he) hn h0 (fun _ _ _ _ _ => rfl) turn hend
end
theorem n_lenR {A : Type} {st : Store} {i : Nat} {xs : List A} {enc : A → D} (h : st[i]? = some (.lst (xs.map enc))) : gLen [.ref i] st = .ok (nI xs.length) st := by
  rw [g_lenR h]; simp [nI]
theorem n_lenM {A : Type} {st : Store} {xs : List A} {enc : A → D} : gLen [.lst (xs.map enc)] st = .ok (nI xs.length) st := by simp [nI]
/-! ### cells kept -/
theorem low_split {st0 tl0 tl : Store} {n : Nat} (h : ∀ c ∈ tl, c.low n = true) : LowOk (st0 ++ tl0) (st0 ++ tl) n := by
  intro i c hi hc
  by_cases hl : i < st0.length
  · rw [List.getElem?_append_left hl] at hc
    exact .inl ⟨by rw [List.length_append]; omega, by rw [List.getElem?_append_left hl]; exact hc⟩
  · rw [List.getElem?_append_right (by omega)] at hc
    exact .inr (h c (List.mem_of_getElem? hc))
/-- all cells stay -/
theorem leave_all {k n : Nat} {st0 tl0 tl : Store} {d : D} (h : ∀ c ∈ tl, c.low n = true) (hn : n = st0.length + tl.length) (hd : below n d = true) : leave k n (st0 ++ tl0) d (st0 ++ tl) = .ok d (st0 ++ tl) := by
  rw [leave_ok (low_split h) (frz_low hd)]
  rw [List.take_of_length_le (by rw [List.length_append]; omega)]
theorem fin_all {k n : Nat} {st0 tl0 tl : Store} {d : D} {Q : D → Store → Prop} (h : ∀ c ∈ tl, c.low n = true) (hn : n = st0.length + tl.length) (hd : below n d = true) (q : Q d (st0 ++ tl)) : Ok1 (leave k n (st0 ++ tl0) d (st0 ++ tl)) Q := ok1_of (leave_all h hn hd) q
/-- .. the first ones stay -/
theorem leave_cut {k n : Nat} {st0 tl0 tl tl2 : Store} {d : D} (h : ∀ c ∈ tl, c.low n = true) (hn : n = st0.length + tl.length) (hd : below n d = true) : leave k n (st0 ++ tl0) d (st0 ++ (tl ++ tl2)) = .ok d (st0 ++ tl) := by
  have hl : LowOk (st0 ++ tl0) (st0 ++ (tl ++ tl2)) n := by
    intro i c hi hc
    rw [← List.append_assoc, List.getElem?_append_left (by rw [List.length_append]; omega)] at hc
    exact low_split h i c hi hc
  rw [leave_ok hl (frz_low hd), ← List.append_assoc, List.take_append_of_le_length (by rw [List.length_append]; omega), List.take_of_length_le (by rw [List.length_append]; omega)]
theorem frz_pure {k n : Nat} {st : Store} {d : D} (h : Pure d) : frz n st k d = some d := frz_low (h n)
theorem frz_lst {k n i : Nat} {st : Store} {ds : List D} (hi : ¬ i < n) (h : st[i]? = some (.lst ds)) (hp : Pures ds) : frz n st (k + 1) (.ref i) = some (.lst ds) := by
  simp only [frz, hi, if_false, h]
  rw [mapO_same fun d hd => frz_pure (pures_mem hp d hd)]
  rfl
theorem frz_dT {k n i : Nat} {st : Store} {ks} {ds : List D} (hi : ¬ i < n) (h : st[i]? = some (.dT ks ds)) (hp : Pures ds) : frz n st (k + 1) (.ref i) = some (.dT ks ds) := by
  simp only [frz, hi, if_false, h]
  rw [mapO_same fun d hd => frz_pure (pures_mem hp d hd)]
  rfl
theorem frz_dK {k n i : Nat} {st : Store} {ks} {ds : List D} (hi : ¬ i < n) (h : st[i]? = some (.dK ks ds)) (hp : Pures ds) : frz n st (k + 1) (.ref i) = some (.dK ks ds) := by
  simp only [frz, hi, if_false, h]
  rw [mapO_same fun d hd => frz_pure (pures_mem hp d hd)]
  rfl
theorem frz_ins {k n i t : Nat} {st : Store} {ns} {ds ds' : List D} (hi : ¬ i < n) (h : st[i]? = some (.ins t ns ds)) (hp : mapO (frz n st k) ds = some ds') : frz n st (k + 1) (.ref i) = some (.obj t ns ds') := by
  simp only [frz, hi, if_false, h, hp]
  rfl
end RR

set_option maxRecDepth 100000
set_option maxHeartbeats 1000000
namespace LZ
open PySem PySem.Spec PyProof.Rows L2 RR
theorem pures_threes (T : List (List Nat)) : Pures (T.map nT) := pures_map fun _ _ => pure_nT
theorem pures_held (T : List (List Nat)) (ow : List Nat) : Pures (heldOf T ow) := pures_map fun _ _ => pure_lst (pures_map fun _ _ => pure_encR)
theorem pures_spot (T : List (List Nat)) : Pures (spotD T) := pures_nI _
theorem spot_T {st : Store} {sp : D} {T : List (List Nat)} (h : ∀ tl, dcOf (st ++ tl) sp = .t (T.map keyN) (spotD T)) : Spot st sp T := by
  intro tl three ht
  unfold dlook
  rw [h tl]
  simp only [tkey_nT, Option.map_some]
  have e := dget_map (key := keyN) (fun a b => keyN_inj) (f := nI) (n := 0) ht
  have r : List.range T.length = List.range' 0 T.length := List.range_eq_range'
  unfold spotD
  rw [r, e]
  simp
theorem eq_init {sides : List Nat} (st : Store) (h1 : sides.length ≤ 100) (h3 : sides.sum ≤ 16) : sem_Outline___init__ [.ref st.length, nT sides] (st ++ [.ins 0 [] []]) = .ok .non
    (st ++ [.ins 0 outN [nT sides, nL (owners sides), nI (owners sides).length, .ref (st.length + 1), .ref (st.length + 2), .lst ((rulesOf (threesOf (owners sides)) (owners sides)).map encR), .lst (heldOf (threesOf (owners sides)) (owners sides))], .lst ((threesOf (owners sides)).map nT), .dT ((threesOf (owners sides)).map keyN) (spotD (threesOf (owners sides)))]) := by
  have hw := owOk h3
  have hown : ∀ st, sem_owners [nT sides] st = .ok (nL (owners sides)) st := fun st => eq_owners st h1 (by omega)
  generalize eow : owners sides = ow at *
  generalize eT : threesOf ow = T at *
  have hl := hw.len
  refine semB_eq rfl ?_
  unfold b_Outline___init__
  simp only [env0, List.map_cons, List.map_nil, List.length_cons, List.length_nil, Nat.reduceAdd, Nat.reduceSub, List.cons_append, List.nil_append, List.reduceReplicate]
  rw [s_seq, fld_set (st0 := st) (tl := []) (t := 0) (ns := []) (ds := []) (y := nT sides) rfl rfl rfl rfl (by decide), thn_ok]
  rw [s_seq, fld_set (st0 := st) (tl := []) (t := 0) (ns := ["sides"]) (ds := [nT sides]) (y := nL ow) (by simp [hown]) rfl (by decide +kernel) rfl (by decide), thn_ok]
  have f1 : ∀ tl, HasF 0 (st ++ .ins 0 ["sides", "owner"] [nT sides, nL ow] :: tl) (.ref st.length) "owner" (nL ow) := fun tl => hasF_0 (i := 1) (by decide +kernel) rfl
  rw [s_seq, fld_set (st0 := st) (tl := []) (t := 0) (ns := ["sides", "owner"]) (ds := [nT sides, nL ow]) (y := nI ow.length) (by simp [(f1 _).fld]) rfl (by decide +kernel) rfl (by decide), thn_ok]
  rw [s_seq, fld_set (st0 := st) (tl := [.lst []]) (t := 0) (ns := ["sides", "owner", "many"]) (ds := [nT sides, nL ow, nI ow.length]) (y := .ref (st.length + 1)) (by simp) rfl (by decide +kernel) rfl (by decide), thn_ok]
  simp only [List.cons_append, List.nil_append]
  have g1 : ∀ tl, HasF 0 (st ++ .ins 0 ["sides", "owner", "many", "threes"] [nT sides, nL ow, nI ow.length, .ref (st.length + 1)] :: tl) (.ref st.length) "owner" (nL ow) := fun tl => hasF_0 (i := 1) (by decide +kernel) rfl
  have g2 : ∀ tl, HasF 0 (st ++ .ins 0 ["sides", "owner", "many", "threes"] [nT sides, nL ow, nI ow.length, .ref (st.length + 1)] :: tl) (.ref st.length) "many" (nI ow.length) := fun tl => hasF_0 (i := 2) (by decide +kernel) rfl
  have g3 : ∀ tl, HasF 0 (st ++ .ins 0 ["sides", "owner", "many", "threes"] [nT sides, nL ow, nI ow.length, .ref (st.length + 1)] :: tl) (.ref st.length) "threes" (.ref (st.length + 1)) := fun tl => hasF_0 (i := 3) (by decide +kernel) rfl
  have g4 : ∀ tl, NoF 0 (st ++ .ins 0 ["sides", "owner", "many", "threes"] [nT sides, nL ow, nI ow.length, .ref (st.length + 1)] :: tl) (.ref st.length) "are_unlike" := fun tl => noF_0 (by decide +kernel)
  rw [s_seq]
  refine post_thn (post_r1 (n := ow.length) (fun k e s => ∃ x2 x3 x4 x5 x6 x7, e = [some (.ref st.length), some (nT sides), x2, x3, x4, x5, x6, x7] ∧ s = st ++ [.ins 0 ["sides", "owner", "many", "threes"] [nT sides, nL ow, nI ow.length, .ref (st.length + 1)], .lst (((List.range k).flatMap fun a => threes1 ow a).map nT)])
    (by simp [(g2 _).fld]) (by omega) ⟨_, _, _, _, _, _, rfl, by simp⟩ ?_ ?_)
  · rintro a env s J ha ⟨x2, x3, x4, x5, x6, x7, rfl, rfl⟩ tu
    simp
    refine post_r2 (a := a + 1) (n := ow.length) (fun j e s => ∃ x3 x4 x5 x6 x7, e = [some (.ref st.length), some (nT sides), some (nI a), x3, x4, x5, x6, x7] ∧ s = st ++ [.ins 0 ["sides", "owner", "many", "threes"] [nT sides, nL ow, nI ow.length, .ref (st.length + 1)], .lst (((List.range a).flatMap fun a => threes1 ow a).map nT ++ ((List.range' (a + 1) j).flatMap fun b => threes2 ow a b).map nT)])
      (by simp) (by simp [(g2 _).fld]) (by omega) (by omega) ⟨_, _, _, _, _, rfl, by simp⟩ ?_ ?_
    · rintro j env s J hb ⟨x3, x4, x5, x6, x7, rfl, rfl⟩ tu
      simp [(g3 _).fld]
      generalize eb : a + 1 + j = b at hb ⊢
      rw [mLc_r2 (a := b + 1) (n := ow.length) (fun c => unl ow [a, b, c]) (fun c => nT [a, b, c]) (by simp) (by simp [(g2 _).fld]) (by omega) (by omega)
          (fun c h1 h2 acc => ⟨_, by simp [wipeE]; rfl, ?_, fun _ => by simp [nT]⟩) (fun _ _ _ _ => bel_T)]
      · have l1 := len_fm (ys := List.range a) (f := threes1 ow) fun a _ => len_th1 (ow := ow) (a := a) hl
        have l2 := len_fm (ys := List.range' (a + 1) j) (f := threes2 ow a) fun b _ => len_th2 (ow := ow) (a := a) (b := b) hl
        have l4 := len_th2 (a := a) (b := b) hl
        have e4 : (List.map (fun c => nT [a, b, c]) (List.filter (fun c => unl ow [a, b, c]) (List.range' (b + 1) (ow.length - (b + 1))))) = (threes2 ow a b).map nT := by
          unfold threes2
          rw [List.map_map]
          rfl
        simp only [List.length_range, List.length_range'] at l1 l2
        rw [e4]
        simp [tyD, gExtend, cellL, lstOf]
        rw [if_pos (by simp only [List.length_map, List.length_flatMap] at *; omega)]
        simp
        refine tu.nx _ _ ⟨_, _, _, _, _, rfl, ?_⟩
        rw [fm_r2, eb]
        simp
      · simp only [a_test]
        rw [NoF.mt ((g4 _).app _) rfl]
        have e5 := eq_are_unlike (xs := [a, b, c]) ((g1 [Cell.lst (((List.range a).flatMap fun a => threes1 ow a).map nT ++ ((List.range' (a + 1) j).flatMap fun b => threes2 ow a b).map nT)]).app [Cell.lst acc]) (by
          intro x hx
          simp only [List.mem_cons, List.not_mem_nil, or_false] at hx
          omega) (by simp)
        have e6 : nT [a, b, c] = .tup [nI a, nI b, nI c] := rfl
        rw [e6] at e5
        simp at e5
        simp [e5]
    · rintro env s ⟨x3, x4, x5, x6, x7, rfl, rfl⟩
      refine tu.nx _ _ ⟨_, _, _, _, _, _, rfl, ?_⟩
      rw [fm_r]
      simp [threes1]
  · rintro env s ⟨x2, x3, x4, x5, x6, x7, rfl, rfl⟩
    have eT' : (List.range ow.length).flatMap (fun a => threes1 ow a) = T := eT
    have lT := len_th hl
    rw [eT] at lT
    rw [eT', thJ_nx, s_seq]
    rw [fld_set (st0 := st) (tl := [.lst (T.map nT), .dT [] []]) (t := 0) (ns := ["sides", "owner", "many", "threes"]) (ds := [nT sides, nL ow, nI ow.length, .ref (st.length + 1)]) (y := .ref (st.length + 2)) (by simp) rfl (by decide +kernel) rfl (by decide), thn_ok]
    simp only [List.cons_append, List.nil_append]
    have k1 : ∀ tl, HasF 0 (st ++ .ins 0 ["sides", "owner", "many", "threes", "spot"] [nT sides, nL ow, nI ow.length, .ref (st.length + 1), .ref (st.length + 2)] :: tl) (.ref st.length) "owner" (nL ow) := fun tl => hasF_0 (i := 1) (by decide +kernel) rfl
    have k2 : ∀ tl, HasF 0 (st ++ .ins 0 ["sides", "owner", "many", "threes", "spot"] [nT sides, nL ow, nI ow.length, .ref (st.length + 1), .ref (st.length + 2)] :: tl) (.ref st.length) "many" (nI ow.length) := fun tl => hasF_0 (i := 2) (by decide +kernel) rfl
    have k3 : ∀ tl, HasF 0 (st ++ .ins 0 ["sides", "owner", "many", "threes", "spot"] [nT sides, nL ow, nI ow.length, .ref (st.length + 1), .ref (st.length + 2)] :: tl) (.ref st.length) "threes" (.ref (st.length + 1)) := fun tl => hasF_0 (i := 3) (by decide +kernel) rfl
    have k4 : ∀ tl, HasF 0 (st ++ .ins 0 ["sides", "owner", "many", "threes", "spot"] [nT sides, nL ow, nI ow.length, .ref (st.length + 1), .ref (st.length + 2)] :: tl) (.ref st.length) "spot" (.ref (st.length + 2)) := fun tl => hasF_0 (i := 4) (by decide +kernel) rfl
    have k5 : ∀ tl, NoF 0 (st ++ .ins 0 ["sides", "owner", "many", "threes", "spot"] [nT sides, nL ow, nI ow.length, .ref (st.length + 1), .ref (st.length + 2)] :: tl) (.ref st.length) "rule_of" := fun tl => noF_0 (by decide +kernel)
    have k6 : ∀ tl, NoF 0 (st ++ .ins 0 ["sides", "owner", "many", "threes", "spot"] [nT sides, nL ow, nI ow.length, .ref (st.length + 1), .ref (st.length + 2)] :: tl) (.ref st.length) "all_rules" := fun tl => noF_0 (by decide +kernel)
    rw [s_seq]
    have nd := nodup_threes ow
    rw [eT] at nd
    refine post_thn (post_en (d := .ref (st.length + 1)) T nT (fun k e s => ∃ x2 x3 x4 x5 x6 x7, e = [some (.ref st.length), some (nT sides), x2, x3, x4, x5, x6, x7] ∧ s = st ++ [.ins 0 ["sides", "owner", "many", "threes", "spot"] [nT sides, nL ow, nI ow.length, .ref (st.length + 1), .ref (st.length + 2)], .lst (T.map nT), .dT ((T.take k).map keyN) ((List.range k).map nI)])
      (i_enumR (ds := T.map nT) (by simp [(k3 _).fld]; rfl) (by simp)) (by omega) ⟨_, _, _, _, _, _, rfl, by simp⟩ ?_ ?_ ?_)
    · rintro k env s hk ⟨x2, x3, x4, x5, x6, x7, rfl, rfl⟩
      exact items_ref (by simp)
    · rintro k y env s J hy ⟨x2, x3, x4, x5, x6, x7, rfl, rfl⟩ tu
      have hy' : y ∉ T.take k := by
        intro hm
        obtain ⟨i, hi, e⟩ := List.mem_iff_getElem.mp hm
        have hk := (List.getElem?_eq_some_iff.mp hy).1
        have e1 := (List.getElem?_eq_some_iff.mp hy).2
        simp at hi
        rw [List.getElem_take] at e
        exact (List.pairwise_iff_getElem.mp nd) i k (by omega) hk (by omega) (e.trans e1.symm)
      have hlen : k < T.length := (List.getElem?_eq_some_iff.mp hy).1
      simp [sDput, (k4 _).fld, stDput, tkey_nT, -List.map_take]
      rw [if_pos (by omega), dput_n (keyN_mem hy')]
      simp
      refine tu.nx _ _ ⟨_, _, _, _, _, _, rfl, ?_⟩
      rw [map_take _ hy, map_r, List.map_take]
    · rintro env s ⟨x2, x3, x4, x5, x6, x7, rfl, rfl⟩
      rw [List.take_length, thJ_nx, s_seq]
      have k7 : Spot (st ++ [.ins 0 ["sides", "owner", "many", "threes", "spot"] [nT sides, nL ow, nI ow.length, .ref (st.length + 1), .ref (st.length + 2)], .lst (T.map nT), .dT (T.map keyN) ((List.range T.length).map nI)]) (.ref (st.length + 2)) T := spot_T fun tl => by
        simp [dcOf, spotD]
      rw [fld_set (st0 := st) (tl := [.lst (T.map nT), .dT (T.map keyN) ((List.range T.length).map nI)]) (t := 0) (ns := ["sides", "owner", "many", "threes", "spot"]) (ds := [nT sides, nL ow, nI ow.length, .ref (st.length + 1), .ref (st.length + 2)]) (y := .lst ((rulesOf T ow).map encR)) (by
        rw [NoF.mt (k6 _) rfl]
        exact eq_all_rules (k1 _) (k2 _) (k4 _) (k5 _) k7 hw) rfl (by decide +kernel) rfl (by decide), thn_ok]
      simp only [List.cons_append, List.nil_append]
      have m3 : ∀ tl, HasF 0 (st ++ .ins 0 ["sides", "owner", "many", "threes", "spot", "rules"] [nT sides, nL ow, nI ow.length, .ref (st.length + 1), .ref (st.length + 2), .lst ((rulesOf T ow).map encR)] :: tl) (.ref st.length) "threes" (.ref (st.length + 1)) := fun tl => hasF_0 (i := 3) (by decide +kernel) rfl
      have m4 : ∀ tl, HasF 0 (st ++ .ins 0 ["sides", "owner", "many", "threes", "spot", "rules"] [nT sides, nL ow, nI ow.length, .ref (st.length + 1), .ref (st.length + 2), .lst ((rulesOf T ow).map encR)] :: tl) (.ref st.length) "rules" (.lst ((rulesOf T ow).map encR)) := fun tl => hasF_0 (i := 5) (by decide +kernel) rfl
      have lR : (rulesOf T ow).length ≤ 16 * (16 * (16 * 16)) := Nat.le_trans (len_fm fun a _ => len_r1 hl) (Nat.mul_le_mul_right _ (by simp; omega))
      rw [fld_set (st0 := st) (tl := [.lst (T.map nT), .dT (T.map keyN) ((List.range T.length).map nI)]) (t := 0) (ns := ["sides", "owner", "many", "threes", "spot", "rules"]) (ds := [nT sides, nL ow, nI ow.length, .ref (st.length + 1), .ref (st.length + 2), .lst ((rulesOf T ow).map encR)]) (y := .lst (heldOf T ow)) (by
        rw [mLc_r1 (n := T.length) (fun _ => true) (fun k => .lst (((rulesOf T ow).filter fun r => r.2.2.contains k).map encR)) ?_ (by omega) ?_ (fun k _ _ => pure_lst (pures_map fun _ _ => pure_encR) _)]
        · simp [heldOf]
        · simp [(m3 _).fld]
          exact n_lenR (enc := nT) (by simp)
        · intro k hk acc
          refine ⟨_, by simp [wipeE]; rfl, rfl, fun _ => ?_⟩
          rw [mLc_s (rulesOf T ow) encR (fun r => r.2.2.contains k) encR (by simp [(m4 _).fld]) (by omega) (fun r hr acc2 => ⟨_, by simp [wipeE]; rfl, ?_, fun _ => by simp⟩) (fun _ _ _ => pure_encR _)]
          have ei : ∀ st, gIx (encR r) (.int 2) st = .ok (nT r.2.2) st := fun st => rfl
          simp [ei, n_in]) rfl (by decide +kernel) rfl (by decide)]
      simp only [List.cons_append, List.nil_append, post_ok, finJ_nx]
      refine fin_all (st0 := st) ?_ (by simp) rfl ⟨rfl, rfl⟩
      intro c hc
      simp only [List.mem_cons, List.not_mem_nil, or_false] at hc
      rcases hc with rfl | rfl | rfl
      · have b1 := (pure_nT (xs := sides)) ((st ++ [Cell.ins 0 [] []]).length + 2)
        have b2 := (pure_nL (xs := ow)) ((st ++ [Cell.ins 0 [] []]).length + 2)
        have b3 := pure_lst (pures_map (xs := rulesOf T ow) (g := encR) fun _ _ => pure_encR) ((st ++ [Cell.ins 0 [] []]).length + 2)
        have b4 := pure_lst (pures_held T ow) ((st ++ [Cell.ins 0 [] []]).length + 2)
        have b5 := (pure_nI (x := ow.length)) ((st ++ [Cell.ins 0 [] []]).length + 2)
        simp only [Cell.low, belows, b1, b2, b3, b4, b5, Bool.true_and, Bool.and_true]
        simp [below]
      · exact pures_threes T _
      · exact pures_nI _ _
end LZ

set_option maxRecDepth 100000
set_option maxHeartbeats 1000000
namespace LZ
open PySem PySem.Spec PyProof.Rows L2 RR
theorem pure_outD {sides : List Nat} : Pure (outD sides) := by
  have h : Pures [nT sides, nL (owners sides), nI (owners sides).length, .lst ((threesOf (owners sides)).map nT), .dT ((threesOf (owners sides)).map keyN) (spotD (threesOf (owners sides))), .lst ((rulesOf (threesOf (owners sides)) (owners sides)).map encR), .lst (heldOf (threesOf (owners sides)) (owners sides))] := by
    refine pures_cons pure_nT (pures_cons pure_nL (pures_cons pure_nI (pures_cons (pure_lst (pures_threes _)) (pures_cons (fun n => pures_spot _ n) (pures_cons (pure_lst (pures_map fun _ _ => pure_encR)) (pures_cons (pure_lst (pures_held _ _)) pures_nil))))))
  exact fun n => h n
theorem eq_outline {sides : List Nat} {me : ME D} {env : RR.Env} {st : Store} (he : me env st = .ok (nT sides) st) (h1 : sides.length ≤ 100) (h3 : sides.sum ≤ 16) : mLeave 2 (mMk 0 sem_Outline___init__ [] (aCons me aNil)) env st = .ok (outD sides) st := by
  rw [a_leave, a_mk, a_cons, he]
  simp only [a_bind_ok, a_nil, List.append_nil]
  rw [eq_init st h1 h3]
  simp only [a_bind_ok]
  refine leave_app ?_
  refine frz_ins (k := 1) (Nat.lt_irrefl _) (at_k (k := 0)) ?_
  have e1 := frz_lst (k := 0) (n := st.length) (i := st.length + 1) (st := st ++ [.ins 0 outN [nT sides, nL (owners sides), nI (owners sides).length, .ref (st.length + 1), .ref (st.length + 2), .lst ((rulesOf (threesOf (owners sides)) (owners sides)).map encR), .lst (heldOf (threesOf (owners sides)) (owners sides))], .lst ((threesOf (owners sides)).map nT), .dT ((threesOf (owners sides)).map keyN) (spotD (threesOf (owners sides)))]) (by omega) (at_k (k := 1)) (pures_threes _)
  have e2 := frz_dT (k := 0) (n := st.length) (i := st.length + 2) (st := st ++ [.ins 0 outN [nT sides, nL (owners sides), nI (owners sides).length, .ref (st.length + 1), .ref (st.length + 2), .lst ((rulesOf (threesOf (owners sides)) (owners sides)).map encR), .lst (heldOf (threesOf (owners sides)) (owners sides))], .lst ((threesOf (owners sides)).map nT), .dT ((threesOf (owners sides)).map keyN) (spotD (threesOf (owners sides)))]) (by omega) (at_k (k := 2)) (pures_spot _)
  simp only [mapO, e1, e2, frz_pure pure_nT, frz_pure pure_nL, frz_pure pure_nI, frz_pure (pure_lst (pures_map (g := encR) fun _ _ => pure_encR)), frz_pure (pure_lst (pures_held _ _))]
end LZ

set_option maxRecDepth 100000
set_option maxHeartbeats 1000000
namespace RR
open PySem PySem.Spec PyProof.Rows L2
theorem rgD_n {n : Nat} : rgD 0 (n : Int) = (List.range n).map nI := by
  unfold rgD
  have e : ((n : Int) - 0).toNat = n := by omega
  rw [e]
  apply List.map_congr_left
  intro i _
  simp [nI]
theorem g_rgT {n : Nat} {st : Store} (h : n ≤ 1000000) : gRg true [nI n] st = .ok (.ref st.length) (st ++ [.lst ((List.range n).map nI)]) := by
  have e : nI n = .int (n : Int) := rfl
  rw [e]
  simp only [gRg]
  rw [if_pos (by omega), rgD_n]
  rfl
theorem g_rgF {n : Nat} {st : Store} (h : n ≤ 1000000) : gRg false [nI n] st = .ok (nL (List.range n)) st := by
  have e : nI n = .int (n : Int) := rfl
  rw [e]
  simp only [gRg]
  rw [if_pos (by omega), rgD_n]
  rfl
theorem g_rgL {n : Nat} {st : Store} (h : n ≤ 1000000) : gRg false [.int (n : Int)] st = .ok (nL (List.range n)) st := g_rgF h
theorem atI_nI {xs : List Nat} {k : Nat} (h : k < xs.length) : atI (xs.map nI) (k : Int) = some (nI (nthN xs k)) := atI_at (get_at h)
/-- xs[k] += 1 in a cell -/
theorem sub_aug1 {mo mi me : ME D} {env : Env} {st : Store} {j k c : Nat} {xs : List Nat} (ho : mo env st = .ok (.ref j) st) (hi : mi env st = .ok (nI k) st) (he : me env st = .ok (nI c) st) (hj : st[j]? = some (.lst (xs.map nI))) (hk : k < xs.length) :
    sSubAug (fun i j => i + j) mo mi me env st = .ok .nx env (st.set j (.lst ((xs.set k (nthN xs k + c)).map nI))) := by
  unfold sSubAug
  rw [s_bind, ho]
  simp only [s_bind, hi]
  have e0 : nI k = .int (k : Int) := rfl
  have e1 : nI (nthN xs k) = .int (nthN xs k : Nat) := rfl
  have e2 : nI c = .int (c : Int) := rfl
  have e3 := atI_nI hk
  rw [e1] at e3
  simp only [e0, seq_ref hj, e3, s_bind, he, e2]
  have e4 : ixN (xs.map nI).length (k : Int) = some k := ixN_nat (by simpa using hk)
  simp only [stSub, cellL, hj, e4]
  simp only [List.map_set, nI]
  have e5 : ((nthN xs k : Nat) : Int) + (c : Int) = ((nthN xs k + c : Nat) : Int) := by omega
  rw [e5]
  rfl
/-- xs[a:a+2] = [.., ..] in a cell -/
theorem slice_set {mo ml mh me : ME D} {env : Env} {st : Store} {j a b : Nat} {xs ys : List Nat} (he : me env st = .ok (.lst (ys.map nI)) st) (ho : mo env st = .ok (.ref j) st) (hl : ml env st = .ok (nI a) st) (hh : mh env st = .ok (nI b) st) (hj : st[j]? = some (.lst (xs.map nI))) (hab : a ≤ b) (hb : b ≤ xs.length) (hz : xs.length + ys.length ≤ 16777216) :
    sSliceSet mo ml mh me env st = .ok .nx env (st.set j (.lst ((xs.take a ++ ys ++ xs.drop b).map nI))) := by
  unfold sSliceSet
  rw [s_bind, he]
  simp only [s_bind, ho, hl, hh]
  have e0 : nI a = .int (a : Int) := rfl
  have e1 : nI b = .int (b : Int) := rfl
  have e2 : cellL st (.ref j) = some (j, xs.map nI) := cell_ref hj
  have e3 : lstOf st (.lst (ys.map nI)) = some (ys.map nI) := rfl
  simp only [e0, e1, e2, e3]
  rw [if_pos ⟨by omega, by omega, by simp; omega, by simp; omega, rfl⟩]
  simp
theorem sl_to {xs : List Nat} {n : Nat} {st : Store} (h : n ≤ xs.length) : gSl (nL xs) none (some (n : Int)) st = .ok (nL (xs.take n)) st := by
  unfold nL
  rw [g_slL, cut_to (by simpa using h), ← List.map_take]
theorem sl_from {xs : List Nat} {n : Nat} {st : Store} (h : n ≤ xs.length) : gSl (nL xs) (some (n : Int)) none st = .ok (nL (xs.drop n)) st := by
  unfold nL
  rw [g_slL, cut_from (by simpa using h), ← List.map_drop]
theorem slR_to {j n : Nat} {xs : List Nat} {st : Store} (e : st[j]? = some (.lst (xs.map nI))) (h : n ≤ xs.length) : gSl (.ref j) none (some (n : Int)) st = .ok (nL (xs.take n)) st := by
  rw [g_slR e, cut_to (by simpa using h), ← List.map_take]
  rfl
theorem slR_both {j a b : Nat} {xs : List Nat} {st : Store} (e : st[j]? = some (.lst (xs.map nI))) (h : a ≤ b) (h' : b ≤ xs.length) : gSl (.ref j) (some (a : Int)) (some (b : Int)) st = .ok (nL ((xs.drop a).take (b - a))) st := by
  rw [g_slR e, cut_both h (by simpa using h'), ← List.map_drop, ← List.map_take]
  rfl
theorem drop_two {xs : List Nat} {a : Nat} (h : a + 2 ≤ xs.length) : (xs.drop a).take (a + 2 - a) = [nthN xs a, nthN xs (a + 1)] := by
  have e : a + 2 - a = 2 := by omega
  rw [e]
  have h1 : xs.drop a = nthN xs a :: xs.drop (a + 1) := by
    rw [List.drop_eq_getElem_cons (by omega)]
    simp [nthN, List.getD_eq_getElem?_getD, List.getElem?_eq_getElem (show a < xs.length by omega)]
  have h2 : xs.drop (a + 1) = nthN xs (a + 1) :: xs.drop (a + 2) := by
    rw [List.drop_eq_getElem_cons (by omega)]
    simp [nthN, List.getD_eq_getElem?_getD, List.getElem?_eq_getElem (show a + 1 < xs.length by omega)]
  rw [h1, h2]
  rfl
@[simp] theorem g_ul {n : Nat} {gs : List D → MS} {ds : List D} {env : Env} {st : Store} : gUl n gs (.lst ds) env st = if ds.length = n then gs ds env st else .no := by simp [gUl, seqOf]
/-- o is a list of counts, as a tree or in a cell -/
def IsL (st : Store) (o : D) (xs : List Nat) : Prop := o = nL xs ∨ ∃ j, o = .ref j ∧ st[j]? = some (.lst (xs.map nI))
theorem IsL.app {st o xs} (h : IsL st o xs) (tl : Store) : IsL (st ++ tl) o xs := h.imp id fun ⟨j, a, b⟩ => ⟨j, a, by rw [List.getElem?_append_left (List.getElem?_eq_some_iff.mp b).1]; exact b⟩
theorem IsL.ix {st o xs} (h : IsL st o xs) {k : Nat} (hk : k < xs.length) : gIx o (nI k) st = .ok (nI (nthN xs k)) st := by
  rcases h with rfl | ⟨j, rfl, h⟩
  · exact n_ixL hk
  · exact n_ixR h hk
theorem IsL.to {st o xs} (h : IsL st o xs) {n : Nat} (hn : n ≤ xs.length) : gSl o none (some (n : Int)) st = .ok (nL (xs.take n)) st := by
  rcases h with rfl | ⟨j, rfl, h⟩
  · exact sl_to hn
  · exact slR_to h hn
theorem IsL.len {st o xs} (h : IsL st o xs) : gLen [o] st = .ok (nI xs.length) st := by
  rcases h with rfl | ⟨j, rfl, h⟩
  · simp
  · exact n_lenR h
theorem low_set {st0 st : Store} {n i : Nat} {c : Cell} (h : LowOk st0 st n) (hc : c.low n = true) : LowOk st0 (st.set i c) n := by
  intro j c' hj hc'
  by_cases e : i = j
  · subst e
    rw [List.getElem?_set] at hc'
    simp at hc'
    obtain ⟨_, rfl⟩ := hc'
    exact .inr hc
  · rw [List.getElem?_set_ne e] at hc'
    exact h j c' hj hc'
/-- cells were changed, none is new -/
theorem fin_same {k : Nat} {st0 st : Store} {d : D} {Q : D → Store → Prop} (h : LowOk st0 st st0.length) (hl : st.length = st0.length) (hd : Pure d) (q : Q d st) : Ok1 (leave k st0.length st0 d st) Q := by
  refine ok1_of (d := d) (s := st) ?_ q
  rw [leave_ok h (frz_pure hd), List.take_of_length_le (by omega)]
end RR

set_option maxRecDepth 100000
set_option maxHeartbeats 1000000
namespace LZ
open PySem PySem.Spec PyProof.Rows L2 RR
/-! ### rows walked -/
abbrev Loz := Nat × Nat × Nat × List Nat
def swapAt (l : List Nat) (p : Nat) : List Nat := l.take p ++ [nthN l (p + 1), nthN l p] ++ l.drop (p + 2)
def canLay (ow l : List Nat) (p : Nat) : Bool := decide (p + 2 ≤ ow.length) && decide (nthN ow (nthN l p) < nthN ow (nthN l (p + 1)))
def footOf (ow : List Nat) (m : Nat) (ls : List Nat) : List Nat := (List.range m).map fun s => (ls.filter fun l => decide (nthN ow l = s)).length
def isOver (ow l : List Nat) : Bool := !(List.range (ow.length - 1)).any fun p => canLay ow l p
def walk (ow : List Nat) (m : Nat) : List Nat → List Nat → List Loz
  | _, [] => []
  | l, p :: row => (nthN l p, nthN l (p + 1), p, footOf ow m (l.take p)) :: walk ow m (swapAt l p) row
def okRow (ow : List Nat) : List Nat → List Nat → Bool
  | l, [] => isOver ow l
  | l, p :: row => canLay ow l p && okRow ow (swapAt l p) row
def encZ (z : Loz) : D := .tup [nI z.1, nI z.2.1, nI z.2.2.1, nT z.2.2.2]
structure LineOk (n : Nat) (l : List Nat) : Prop where
  len : l.length = n
  lt : ∀ x ∈ l, x < n
theorem LineOk.nthN {n l k} (h : LineOk n l) (hk : k < n) : nthN l k < n := h.lt _ (nth_mem (by rw [h.len]; exact hk))
theorem LineOk.swap {n l p} (h : LineOk n l) (hp : p + 2 ≤ n) : LineOk n (swapAt l p) := by
  have hl := h.len
  refine ⟨by simp [swapAt, hl]; omega, fun x hx => ?_⟩
  simp only [swapAt, List.mem_append, List.mem_cons, List.not_mem_nil, or_false] at hx
  rcases hx with (hx | rfl | rfl) | hx
  · exact h.lt x (List.mem_of_mem_take hx)
  · exact h.nthN (by omega)
  · exact h.nthN (by omega)
  · exact h.lt x (List.mem_of_mem_drop hx)
theorem lineOk_range {n : Nat} : LineOk n (List.range n) := ⟨by simp, fun x hx => List.mem_range.mp hx⟩
abbrev lineAt (l row : List Nat) : List Nat := row.foldl swapAt l
theorem walk_snoc {ow m p} : ∀ {row l : List Nat}, walk ow m l (row ++ [p]) = walk ow m l row ++ [(nthN (lineAt l row) p, nthN (lineAt l row) (p + 1), p, footOf ow m ((lineAt l row).take p))]
  | [], l => rfl
  | q :: row, l => by
    simp only [List.cons_append, walk, walk_snoc (row := row) (l := swapAt l q)]
    rfl
theorem okRow_app {ow} : ∀ {row row' l : List Nat}, okRow ow l (row ++ row') = true → okRow ow (lineAt l row) row' = true
  | [], _, _, h => h
  | q :: row, row', l, h => by
    simp only [List.cons_append, okRow, Bool.and_eq_true] at h
    exact okRow_app (row := row) h.2
theorem okRow_get {ow row l : List Nat} {k p : Nat} (h : okRow ow l row = true) (hk : row[k]? = some p) : canLay ow (lineAt l (row.take k)) p = true := by
  have e : row = row.take k ++ p :: row.drop (k + 1) := by
    have hl := (List.getElem?_eq_some_iff.mp hk).1
    have e1 := (List.getElem?_eq_some_iff.mp hk).2
    rw [← e1]
    simp
  rw [e] at h
  have h2 := okRow_app h
  simp only [okRow, Bool.and_eq_true] at h2
  exact h2.1
theorem okRow_end {ow row l : List Nat} (h : okRow ow l row = true) : isOver ow (lineAt l row) = true := okRow_app (row := row) (row' := []) (by simpa using h)
theorem canLay_lt {ow l : List Nat} {p : Nat} (h : canLay ow l p = true) : p + 2 ≤ ow.length := by
  simp only [canLay, Bool.and_eq_true, decide_eq_true_eq] at h
  exact h.1
theorem lineAt_ok {ow : List Nat} : ∀ {row l : List Nat}, LineOk ow.length l → okRow ow l row = true → ∀ k, LineOk ow.length (lineAt l (row.take k))
  | [], l, h, _, k => by simpa using h
  | p :: row, l, h, h', k => by
    cases k with
    | zero => simpa using h
    | succ k =>
      simp only [okRow, Bool.and_eq_true] at h'
      exact lineAt_ok (row := row) (h.swap (canLay_lt h'.1)) h'.2 k
/-! ### a walk as the program holds it -/
abbrev passN : List Str := ["outline", "order", "laid"]
def passC (sides : List Nat) (i : Nat) (order : List Nat) (laid : List Loz) : List Cell := [.ins 1 passN [outD sides, .ref (i + 1), .ref (i + 2)], .lst (order.map nI), .lst (laid.map encZ)]
section
variable {sides : List Nat} {st tl : Store} {order : List Nat} {laid : List Loz}
theorem out_owner : HasF 0 st (outD sides) "owner" (nL (owners sides)) := hasF_o (i := 1) (by decide +kernel) rfl
theorem out_many : HasF 0 st (outD sides) "many" (nI (owners sides).length) := hasF_o (i := 2) (by decide +kernel) rfl
theorem out_sides : HasF 0 st (outD sides) "sides" (nT sides) := hasF_o (i := 0) (by decide +kernel) rfl
theorem pass_outline : HasF 1 (st ++ (passC sides st.length order laid ++ tl)) (.ref st.length) "outline" (outD sides) := hasF_0 (i := 0) (by decide +kernel) rfl
theorem pass_order : HasF 1 (st ++ (passC sides st.length order laid ++ tl)) (.ref st.length) "order" (.ref (st.length + 1)) := hasF_0 (i := 1) (by decide +kernel) rfl
theorem pass_laid : HasF 1 (st ++ (passC sides st.length order laid ++ tl)) (.ref st.length) "laid" (.ref (st.length + 2)) := hasF_0 (i := 2) (by decide +kernel) rfl
theorem pass_no {x : Str} (h : fidx passN x = none) : NoF 1 (st ++ (passC sides st.length order laid ++ tl)) (.ref st.length) x := noF_0 h
theorem pass_at1 : (st ++ (passC sides st.length order laid ++ tl))[st.length + 1]? = some (.lst (order.map nI)) := by simp [passC]
theorem pass_at2 : (st ++ (passC sides st.length order laid ++ tl))[st.length + 2]? = some (.lst (laid.map encZ)) := by simp [passC]
theorem pass_set1 {order' : List Nat} : (st ++ (passC sides st.length order laid ++ tl)).set (st.length + 1) (.lst (order'.map nI)) = st ++ (passC sides st.length order' laid ++ tl) := by simp [passC]
theorem pass_set2 {laid' : List Loz} : (st ++ (passC sides st.length order laid ++ tl)).set (st.length + 2) (.lst (laid'.map encZ)) = st ++ (passC sides st.length order laid' ++ tl) := by simp [passC]
theorem eq_pass_init (st : Store) (h3 : sides.sum ≤ 16) : sem_Pass___init__ [.ref st.length, outD sides] (st ++ [.ins 1 [] []]) = .ok .non (st ++ passC sides st.length (List.range (owners sides).length) []) := by
  have hl := len_owners sides
  refine semB_eq rfl ?_
  unfold b_Pass___init__
  simp only [env0, List.map_cons, List.map_nil, List.length_cons, List.length_nil, Nat.reduceAdd, Nat.reduceSub, List.cons_append, List.nil_append, List.reduceReplicate]
  rw [s_seq, fld_set (st0 := st) (tl := []) (t := 1) (ns := []) (ds := []) (y := outD sides) rfl rfl rfl rfl (by decide), thn_ok]
  rw [s_seq, fld_set (st0 := st) (tl := [.lst ((List.range (owners sides).length).map nI)]) (t := 1) (ns := ["outline"]) (ds := [outD sides]) (y := .ref (st.length + 1)) (by
    simp [out_many.fld]
    rw [g_rgT (by omega)]
    simp) rfl (by decide +kernel) rfl (by decide), thn_ok]
  rw [fld_set (st0 := st) (tl := [.lst ((List.range (owners sides).length).map nI), .lst []]) (t := 1) (ns := ["outline", "order"]) (ds := [outD sides, .ref (st.length + 1)]) (y := .ref (st.length + 2)) (by simp) rfl (by decide +kernel) rfl (by decide)]
  simp only [List.cons_append, List.nil_append, post_ok, finJ_nx]
  refine fin_all (st0 := st) ?_ (by simp) rfl ⟨rfl, rfl⟩
  intro c hc
  simp only [List.mem_cons, List.not_mem_nil, or_false] at hc
  rcases hc with rfl | rfl | rfl
  · have b1 := (pure_outD (sides := sides)) ((st ++ [Cell.ins 1 [] []]).length + 2)
    simp only [Cell.low, belows, b1, Bool.true_and, Bool.and_true]
    simp [below]
  · exact pures_nI _ _
  · rfl
end
end LZ

set_option maxRecDepth 100000
set_option maxHeartbeats 1000000
namespace LZ
open PySem PySem.Spec PyProof.Rows L2 RR
structure PassAt (S : Store) (w : D) (sides order : List Nat) : Prop where
  outl : HasF 1 S w "outline" (outD sides)
  ord : ∃ o, HasF 1 S w "order" o ∧ IsL S o order
  no1 : NoF 1 S w "can_lay"
  no2 : NoF 1 S w "foot"
  no3 : NoF 1 S w "lay"
  no4 : NoF 1 S w "is_over"
theorem PassAt.app {S self sides order} (h : PassAt S self sides order) (tl : Store) : PassAt (S ++ tl) self sides order :=
  ⟨h.outl.app tl, let ⟨o, a, b⟩ := h.ord; ⟨o, a.app tl, b.app tl⟩, h.no1.app tl, h.no2.app tl, h.no3.app tl, h.no4.app tl⟩
theorem passAt_C {sides : List Nat} {st tl : Store} {order : List Nat} {laid : List Loz} : PassAt (st ++ (passC sides st.length order laid ++ tl)) (.ref st.length) sides order :=
  ⟨pass_outline, ⟨_, pass_order, .inr ⟨_, rfl, pass_at1⟩⟩, pass_no (by decide +kernel), pass_no (by decide +kernel), pass_no (by decide +kernel), pass_no (by decide +kernel)⟩
theorem eq_can_lay {S : Store} {self : D} {sides order : List Nat} (h : PassAt S self sides order) (p : Nat) (ho : LineOk (owners sides).length order) : sem_Pass_can_lay [self, nI p] S = .ok (.bl (canLay (owners sides) order p)) S := by
  obtain ⟨o, o1, o2⟩ := h.ord
  refine semB_eq rfl ?_
  unfold b_Pass_can_lay
  simp [env0, h.outl.fld, out_many.fld, out_owner.fld]
  have e1 : gSub (nI (owners sides).length) (.int 2) S = .ok (.int (((owners sides).length : Nat) - 2)) S := rfl
  have e2 : nI p = .int (p : Int) := rfl
  rw [e1]
  simp only [a_bind_ok, e2, eq_is_number]
  by_cases hp : p + 2 ≤ (owners sides).length
  · have hd : decide ((0 : Int) ≤ p ∧ (p : Int) ≤ ((owners sides).length : Nat) - 2) = true := decide_eq_true (by omega)
    have x1 := o2.ix (k := p) (by rw [ho.len]; omega)
    have x2 := o2.ix (k := p + 1) (by rw [ho.len]; omega)
    have y1 : ∀ S, gIx (nL (owners sides)) (nI (nthN order p)) S = _ := fun S => n_ixL (ho.nthN (by omega))
    have y2 : ∀ S, gIx (nL (owners sides)) (nI (nthN order (p + 1))) S = _ := fun S => n_ixL (ho.nthN (by omega))
    rw [hd, ← e2]
    simp [h.outl.fld, o1.fld, out_owner.fld, x1, x2, y1, y2]
    exact fin_pure pure_bl (by simp [canLay, hp])
  · have hd : decide ((0 : Int) ≤ p ∧ (p : Int) ≤ ((owners sides).length : Nat) - 2) = false := decide_eq_false (by omega)
    rw [hd]
    simp
    exact fin_pure pure_bl (by simp [canLay, hp])
theorem eq_is_over {S : Store} {self : D} {sides order : List Nat} (h : PassAt S self sides order) (ho : LineOk (owners sides).length order) (hn : (owners sides).length ≤ 1000) : sem_Pass_is_over [self] S = .ok (.bl (isOver (owners sides) order)) S := by
  refine semB_eq rfl ?_
  unfold b_Pass_is_over
  simp [env0]
  rw [mLc_t (s := .rng 0 ((owners sides).length - 1)) (List.range ((owners sides).length - 1)) nI (fun _ => true) (fun p => .bl (canLay (owners sides) order p)) (i_r1 (i := ((owners sides).length : Int) - 1) (by
    have e1 : gSub (nI (owners sides).length) (.int 1) S = .ok (.int (((owners sides).length : Nat) - 1)) S := rfl
    simp [h.outl.fld, out_many.fld, e1]) (by omega) (by omega)) (by simp; omega) (fun _ => gives_r1) (fun p hp acc => ⟨_, by simp [wipeE]; rfl, rfl, fun _ => ?_⟩) (fun _ _ _ => rfl)]
  · simp [g_any]
    exact fin_pure pure_bl (by simp [isOver])
  · rw [NoF.mt (h.no1.app _) rfl]
    simp
    exact eq_can_lay (h.app _) p ho
theorem foot_take {ow : List Nat} {m l k : Nat} {ls : List Nat} (h : ls[k]? = some l) (hm : nthN ow l < m) : (footOf ow m (ls.take k)).set (nthN ow l) (nthN (footOf ow m (ls.take k)) (nthN ow l) + 1) = footOf ow m (ls.take (k + 1)) := by
  apply List.ext_getElem?
  intro s
  rw [List.getElem?_set]
  unfold footOf
  simp only [List.length_map, List.length_range, List.getElem?_map]
  rw [List.take_add_one, h]
  simp only [Option.toList_some, List.filter_append, List.length_append]
  by_cases hs : s < m
  · rw [List.getElem?_range hs]
    by_cases e : nthN ow l = s
    · subst e
      simp only [if_true, hm, Option.map_some]
      have : nthN ((List.range m).map fun s => ((ls.take k).filter fun l => decide (nthN ow l = s)).length) (nthN ow l) = ((ls.take k).filter fun l' => decide (nthN ow l' = nthN ow l)).length := by
        simp [nthN, List.getD_eq_getElem?_getD] at hm ⊢
        simp [hm]
      rw [this]
      simp
    · simp [e]
  · have e : ¬ nthN ow l = s := by omega
    rw [if_neg e, List.getElem?_eq_none (by simp; omega)]
    rfl
theorem eq_foot {S : Store} {self : D} {sides order : List Nat} (h : PassAt S self sides order) (p : Nat) (ho : LineOk (owners sides).length order) (hp : p ≤ order.length) (hw : ∀ l, l < (owners sides).length → nthN (owners sides) l < sides.length) (hn : (owners sides).length ≤ 1000) (hm : sides.length ≤ 1000) : sem_Pass_foot [self, nI p] S = .ok (nT (footOf (owners sides) sides.length (order.take p))) S := by
  obtain ⟨o, o1, o2⟩ := h.ord
  refine semB_eq rfl ?_
  unfold b_Pass_foot
  have e0 : gMulN (.lst [.int 0]) (nI sides.length) S = .ok (.ref S.length) (S ++ [.lst ((footOf (owners sides) sides.length (order.take 0)).map nI)]) := by
    have e2 : nI sides.length = .int (sides.length : Int) := rfl
    rw [e2]
    simp only [gMulN, lstOf]
    rw [if_pos ⟨by omega, by omega, by rw [sizeLine_eq]; simp; omega⟩]
    have e3 : (List.replicate sides.length [D.int 0]).flatten = (footOf (owners sides) sides.length []).map nI := by
      rw [flat_rep]
      unfold footOf
      simp only [List.filter_nil, List.length_nil, List.map_map]
      have e4 : (nI ∘ fun (_ : Nat) => 0) = fun _ => D.int 0 := rfl
      rw [e4, List.map_const', List.length_range]
    simp [e3]
  simp [env0, h.outl.fld, out_sides.fld, e0]
  refine post_thn (post_sL (order.take p) nI (fun k e s => ∃ x, e = [some self, some (nI p), some (.ref S.length), x] ∧ s = S ++ [.lst ((footOf (owners sides) sides.length ((order.take p).take k)).map nI)])
    (st1 := S ++ [.lst ((footOf (owners sides) sides.length []).map nI)]) (by simp [(o1.app _).fld]; rw [← List.map_take]; exact (o2.app _).to hp) (by simp; have := ho.len; omega) ⟨_, rfl, by simp⟩ ?_ ?_)
  · rintro k l env s J hk ⟨x, rfl, rfl⟩ tu
    have hl : l < (owners sides).length := ho.lt _ (List.mem_of_mem_take (List.mem_of_getElem? hk))
    have y1 : ∀ S, gIx (nL (owners sides)) (nI l) S = _ := fun S => n_ixL hl
    simp
    rw [sub_aug1 (j := S.length) (k := nthN (owners sides) l) (c := 1) (xs := footOf (owners sides) sides.length ((order.take p).take k)) rfl (by simp [(h.outl.app _).fld, out_owner.fld, y1]) rfl (by simp) (by simp [footOf]; exact hw l hl)]
    simp
    refine tu.nx _ _ ⟨_, rfl, ?_⟩
    rw [← foot_take hk (hw l hl), List.map_set]
  · rintro env s ⟨x, rfl, rfl⟩
    rw [List.take_length]
    simp [gTupOf, seqOf]
    exact fin_tail pure_nT (by simp [nT])
end LZ

set_option maxRecDepth 100000
set_option maxHeartbeats 1000000
namespace RR
open PySem PySem.Spec PyProof.Rows L2
theorem intsOf_nI : ∀ (xs : List Nat), intsOf (xs.map nI) = some (xs.map fun (x : Nat) => (x : Int))
  | [] => rfl
  | x :: xs => by
    have e : nI x = .int (x : Int) := rfl
    simp only [List.map_cons, e, intsOf, intsOf_nI xs, Option.map_some]
theorem sum_cast : ∀ (xs : List Nat), (xs.map fun (x : Nat) => (x : Int)).sum = (xs.sum : Nat)
  | [] => rfl
  | x :: xs => by rw [List.map_cons, List.sum_cons, List.sum_cons, sum_cast xs]; omega
theorem n_sumT {xs : List Nat} {st : Store} : gSum [nT xs] st = .ok (nI xs.sum) st := by
  have e : itemsOf st (nT xs) = some (xs.map nI) := rfl
  simp [gSum, e, intsOf_nI, sum_cast, nI]
theorem IsL.items {st o xs} (h : IsL st o xs) : itemsOf st o = some (xs.map nI) := by
  rcases h with rfl | ⟨j, rfl, h⟩
  · rfl
  · exact items_ref h
theorem IsL.seq {st o xs} (h : IsL st o xs) : seqOf st o = some (xs.map nI) := by
  rcases h with rfl | ⟨j, rfl, h⟩
  · rfl
  · exact seq_ref h
theorem IsL.sum {st o xs} (h : IsL st o xs) : gSum [o] st = .ok (nI xs.sum) st := by
  simp [gSum, h.items, intsOf_nI, sum_cast, nI]
theorem IsL.isl {st o xs} (h : IsL st o xs) : gIsi [o, .ty "list"] st = .ok (.bl true) st := by
  rcases h with rfl | ⟨j, rfl, h⟩
  · simp [gIsi, tyName, isTy, subTy, nL]
  · simp [gIsi, tyName, isTy, subTy, h]
theorem IsL.enL {st o xs} (h : IsL st o xs) {r : ME (List D)} {env : Env} (hr : r env st = .ok [o] st) : iEnumL r env st = .ok (.enum o) st := by
  rcases h with rfl | ⟨j, rfl, h⟩
  · exact i_enumL hr
  · exact i_enumR hr h
theorem IsL.itL {st o xs} (h : IsL st o xs) {m : ME D} {env : Env} (hr : m env st = .ok o st) : iSeq m env st = .ok (.seq o) st := by
  rcases h with rfl | ⟨j, rfl, h⟩
  · exact i_seqL hr
  · exact i_seqR hr h
theorem IsL.rdq {st o xs} (h : IsL st o xs) : rdq st o = some (nL xs) := by
  rcases h with rfl | ⟨j, rfl, h⟩
  · rfl
  · simp [RR.rdq, lst_ref h, nL]
theorem IsL.eq {st o o' xs ys} (h : IsL st o xs) (h' : IsL st o' ys) {neg : Bool} : gEqB neg o o' st = .ok (.bl (if neg then !decide (xs = ys) else decide (xs = ys))) st := by
  rw [g_eqd h.rdq h'.rdq pl_nL pl_nL]
  by_cases e : xs = ys
  · simp [e]
  · have : nL xs ≠ nL ys := fun z => e (mapI_inj (by simpa [nL] using z))
    simp [e, this]
theorem isi_tT {xs : List D} {st : Store} : gIsi [.tup xs, .ty "tuple"] st = .ok (.bl true) st := by simp [gIsi, tyName, isTy, subTy]
theorem isi_nT {xs : List Nat} {st : Store} : gIsi [nT xs, .ty "tuple"] st = .ok (.bl true) st := isi_tT
theorem nL_isL {st : Store} {xs : List Nat} : IsL st (nL xs) xs := .inl rfl
theorem isL_ref {st : Store} {j : Nat} {xs : List Nat} (h : st[j]? = some (.lst (xs.map nI))) : IsL st (.ref j) xs := .inr ⟨j, rfl, h⟩
/-- new cells stay -/
theorem fin_new {k n : Nat} {st tl : Store} {d : D} {Q : D → Store → Prop} (h : ∀ c ∈ tl, c.low n = true) (hn : n = st.length + tl.length) (hd : below n d = true) (q : Q d (st ++ tl)) : Ok1 (leave k n st d (st ++ tl)) Q := by
  have := fin_all (k := k) (st0 := st) (tl0 := []) (Q := Q) h hn hd q
  rwa [List.append_nil] at this
end RR

set_option maxRecDepth 100000
set_option maxHeartbeats 1000000
namespace LZ
open PySem PySem.Spec PyProof.Rows L2 RR
structure SidesOk (sides : List Nat) : Prop where
  two : 2 ≤ sides.length
  four : sides.length ≤ 4
  each : ∀ n ∈ sides, n ≤ 4
  one : 1 ≤ sides.sum
  ten : sides.sum ≤ 10
theorem owner_lt {sides : List Nat} {l : Nat} (h : l < (owners sides).length) : nthN (owners sides) l < sides.length := by
  have hm := nth_mem h
  unfold owners at hm
  rw [List.mem_flatten] at hm
  obtain ⟨x, hx, hm⟩ := hm
  rw [List.mem_map] at hx
  obtain ⟨p, hp, rfl⟩ := hx
  have e := List.eq_of_mem_replicate hm
  unfold owners
  rw [e]
  have := List.mem_zipIdx hp
  omega
theorem eq_lay {sides : List Nat} {st tl : Store} {order : List Nat} {laid : List Loz} (hs : SidesOk sides) (ho : LineOk (owners sides).length order) {p : Nat} (hp : p + 2 ≤ (owners sides).length) (hz : laid.length ≤ 10000) :
    sem_Pass_lay [.ref st.length, nI p] (st ++ (passC sides st.length order laid ++ tl)) = .ok .non (st ++ (passC sides st.length (swapAt order p) (laid ++ [(nthN order p, nthN order (p + 1), p, footOf (owners sides) sides.length (order.take p))]) ++ tl)) := by
  have hl := len_owners sides
  have hol := ho.len
  have hten := hs.ten
  have hfour := hs.four
  have hP := passAt_C (sides := sides) (st := st) (tl := tl) (order := order) (laid := laid)
  have hF := eq_foot hP p ho (by omega) (fun l => owner_lt) (by omega) (by omega)
  have a1 := pass_at1 (sides := sides) (st := st) (tl := tl) (order := order) (laid := laid)
  have a2 := pass_at2 (sides := sides) (st := st) (tl := tl) (order := order) (laid := laid)
  have f1 := (pass_order (sides := sides) (st := st) (tl := tl) (order := order) (laid := laid)).fld
  have f2 := (pass_laid (sides := sides) (st := st) (tl := tl) (order := order) (laid := laid)).fld
  have s2 := fun laid' => pass_set2 (sides := sides) (st := st) (tl := tl) (order := order) (laid := laid) (laid' := laid')
  have sl := slR_both a1 (Nat.le_add_right p 2) (by omega)
  rw [drop_two (by omega)] at sl
  have g1 := (pass_order (sides := sides) (st := st) (tl := tl) (order := order) (laid := laid ++ [(nthN order p, nthN order (p + 1), p, footOf (owners sides) sides.length (order.take p))])).fld
  have b1 := pass_at1 (sides := sides) (st := st) (tl := tl) (order := order) (laid := laid ++ [(nthN order p, nthN order (p + 1), p, footOf (owners sides) sides.length (order.take p))])
  have t1 := fun o' => pass_set1 (sides := sides) (st := st) (tl := tl) (order := order) (order' := o') (laid := laid ++ [(nthN order p, nthN order (p + 1), p, footOf (owners sides) sides.length (order.take p))])
  refine semB_eq rfl ?_
  unfold b_Pass_lay
  generalize eS : st ++ (passC sides st.length order laid ++ tl) = S at *
  generalize eS2 : st ++ (passC sides st.length order (laid ++ [(nthN order p, nthN order (p + 1), p, footOf (owners sides) sides.length (order.take p))]) ++ tl) = S2 at *
  simp only [env0, List.map_cons, List.map_nil, List.length_cons, List.length_nil, Nat.reduceAdd, Nat.reduceSub, List.cons_append, List.nil_append, List.reduceReplicate]
  have sl' : gSl (.ref (st.length + 1)) (some (p : Int)) (some ((p + 2 : Nat) : Int)) S = .ok (.lst [nI (nthN order p), nI (nthN order (p + 1))]) S := sl
  have hm : mMt 1 "foot" sem_Pass_foot [] (mVar 0) (aCons (mVar 1) aNil) [some (.ref st.length), some (nI p), some (nI (nthN order p)), some (nI (nthN order (p + 1)))] S = .ok (nT (footOf (owners sides) sides.length (order.take p))) S := by
    rw [NoF.mt hP.no2 rfl]
    simpa using hF
  have ty : tyD S "list" (.ref (st.length + 2)) = true := ty_ref a2
  have ap : gAppend (.ref (st.length + 2)) [.tup [nI (nthN order p), nI (nthN order (p + 1)), nI p, nT (footOf (owners sides) sides.length (order.take p))]] S = .ok .non S2 := by
    rw [m_append a2 (by simp; omega), ← eS2, ← s2, List.map_append]
    rfl
  have eL : S2.length = S.length := by rw [← eS2, ← eS]; simp [passC]
  simp [f1, f2, sl', -Int.natCast_add, hm, ty, ap]
  rw [slice_set (j := st.length + 1) (a := p) (b := p + 2) (xs := order) (ys := [nthN order (p + 1), nthN order p]) (by simp) (by simp [g1]) rfl (by simp) b1 (by omega) (by omega) (by simp; omega)]
  have e5 : order.take p ++ [nthN order (p + 1), nthN order p] ++ order.drop (p + 2) = swapAt order p := rfl
  rw [e5, t1]
  simp only [post_ok, finJ_nx]
  refine fin_same ?_ ?_ pure_non ⟨rfl, rfl⟩
  · rw [← t1, ← eS2, ← s2]
    exact low_set (low_set low_refl (pures_map (g := encZ) (fun _ _ => pure_tup (pures_cons pure_nI (pures_cons pure_nI (pures_cons pure_nI (pures_cons pure_nT pures_nil))))) _)) (pures_nI _ _)
  · rw [← t1]
    simp [eL]
theorem eq_need_sides {sides : List Nat} (hs : SidesOk sides) (st : Store) : sem_need_sides [nT sides, .int 0] st = .ok .non st := by
  have h1 := hs.two
  have h2 := hs.four
  have h3 := hs.one
  have h4 := hs.ten
  refine semB_eq rfl ?_
  unfold b_need_sides
  have e1 : ∀ {n : Nat} {i : Int}, gLe (.int i) (nI n) st = .ok (.bl (decide (i ≤ (n : Int)))) st := fun {n i} => rfl
  have e2 : ∀ {n : Nat} {i : Int}, gLe (nI n) (.int i) st = .ok (.bl (decide ((n : Int) ≤ i))) st := fun {n i} => rfl
  have e3 : gIn true (.int 0) (.tup [.int 0, nI sides.length]) st = .ok (.bl false) st := by
    simp [gIn, nI, flatD, inV, toV, eqV]
  have d1 : decide ((2 : Int) ≤ (sides.length : Nat)) = true := decide_eq_true (by omega)
  have d2 : decide (((sides.length : Nat) : Int) ≤ 4) = true := decide_eq_true (by omega)
  have d3 : decide ((1 : Int) ≤ (sides.sum : Nat)) = true := decide_eq_true (by omega)
  have d4 : decide (((sides.sum : Nat) : Int) ≤ 10) = true := decide_eq_true (by omega)
  simp only [env0, List.map_cons, List.map_nil, List.length_cons, List.length_nil, Nat.reduceAdd, Nat.reduceSub, List.cons_append, List.nil_append, List.reduceReplicate]
  simp [isi_nT, e1, e2, e3, d1, d2]
  rw [mLc_u sides nI (fun _ => true) (fun n => .bl true) (by rfl) (by omega) (fun n hn acc => ⟨_, by simp [wipeE]; rfl, rfl, fun _ => ?_⟩) (fun _ _ _ => rfl)]
  · have ga := g_all (st := st) (g := fun _ => true) (ys := sides)
    have at1 : (sides.all fun _ => true) = true := by rw [List.all_eq_true]; exact fun _ _ => rfl
    rw [at1] at ga
    simp only [filt_tt, a_cons, a_nil, a_bind_ok, ga]
    simp [n_sumT, e1, e2, d3, d4]
    exact fin_pure pure_non (by simp)
  · have e5 : nI n = .int (n : Int) := rfl
    simp [e5, eq_is_number]
    have := hs.each n hn
    omega
/-- a row that can be walked -/
structure RowOk (sides row : List Nat) : Prop where
  ok : okRow (owners sides) (List.range (owners sides).length) row = true
  len : row.length ≤ 10000
def linesOf (sides row : List Nat) : List Nat := lineAt (List.range (owners sides).length) row
def walkOf (sides row : List Nat) : List Loz := walk (owners sides) sides.length (List.range (owners sides).length) row
def passD (sides row : List Nat) : D := .obj 1 passN [outD sides, nL (linesOf sides row), .lst ((walkOf sides row).map encZ)]
theorem walk_len {ow m} : ∀ {row l : List Nat}, (walk ow m l row).length = row.length
  | [], _ => rfl
  | _ :: row, _ => by simp [walk, walk_len (row := row)]
theorem pures_Z (zs : List Loz) : Pures (zs.map encZ) := pures_map (g := encZ) fun _ _ => pure_tup (pures_cons pure_nI (pures_cons pure_nI (pures_cons pure_nI (pures_cons pure_nT pures_nil))))
theorem take_snoc {xs : List Nat} {k p : Nat} (h : xs[k]? = some p) : xs.take (k + 1) = xs.take k ++ [p] := by
  rw [List.take_add_one, h]; rfl
theorem eq_passed {sides row : List Nat} {o : D} {st : Store} (hs : SidesOk sides) (hr : RowOk sides row) (ho : IsL st o row) : sem_passed [outD sides, o] st = .ok (passD sides row) st := by
  have hl := len_owners sides
  have h3 := hs.ten
  have hlen := hr.len
  have hOk := fun k => lineAt_ok lineOk_range hr.ok k
  refine semB_eq rfl ?_
  unfold b_passed
  simp only [env0, List.map_cons, List.map_nil, List.length_cons, List.length_nil, Nat.reduceAdd, Nat.reduceSub, List.cons_append, List.nil_append, List.reduceReplicate]
  have em : mMk 1 sem_Pass___init__ [] (aCons (mVar 0) aNil) [some (outD sides), some o, none, none, none] st = .ok (.ref st.length) (st ++ passC sides st.length (List.range (owners sides).length) []) := by
    rw [a_mk]
    simp [eq_pass_init st (show sides.sum ≤ 16 by omega)]
  rw [s_seq, s_set, em]
  simp [(ho.app _).isl]
  refine post_thn (post_en (d := o) row nI (fun k e s => ∃ x y, e = [some (outD sides), some o, some (.ref st.length), x, y] ∧ s = st ++ passC sides st.length (lineAt (List.range (owners sides).length) (row.take k)) (walk (owners sides) sides.length (List.range (owners sides).length) (row.take k)))
    ((ho.app _).enL (by simp)) (by omega) ⟨_, _, rfl, by simp [walk]⟩ ?_ ?_ ?_)
  · rintro k env s hk ⟨x, y, rfl, rfl⟩
    exact (ho.app _).items
  · rintro k p env s J hk ⟨x, y, rfl, rfl⟩ tu
    have hk' := hOk k
    have hc := okRow_get hr.ok hk
    have hP := passAt_C (sides := sides) (st := st) (tl := []) (order := lineAt (List.range (owners sides).length) (row.take k)) (laid := walk (owners sides) sides.length (List.range (owners sides).length) (row.take k))
    have e1 := eq_can_lay hP p hk'
    have e2 := eq_lay (st := st) (tl := []) (laid := walk (owners sides) sides.length (List.range (owners sides).length) (row.take k)) hs hk' (canLay_lt hc) (by rw [walk_len]; simp; omega)
    rw [List.append_nil] at hP e1
    simp only [List.append_nil] at e2
    rw [hc] at e1
    generalize eS : st ++ passC sides st.length (lineAt (List.range (owners sides).length) (row.take k)) (walk (owners sides) sides.length (List.range (owners sides).length) (row.take k)) = S at *
    have m1 : mMt 1 "can_lay" sem_Pass_can_lay [] (mVar 2) (aCons (mVar 4) aNil) [some (outD sides), some o, some (.ref st.length), some (nI k), some (nI p)] S = .ok (.bl true) S := by
      rw [NoF.mt hP.no1 rfl]
      simp [e1]
    have m2 : ∀ S2, sem_Pass_lay [.ref st.length, nI p] S = .ok .non S2 → mMt 1 "lay" sem_Pass_lay [] (mVar 2) (aCons (mVar 4) aNil) [some (outD sides), some o, some (.ref st.length), some (nI k), some (nI p)] S = .ok .non S2 := by
      intro S2 h
      rw [NoF.mt hP.no3 rfl]
      simp [h]
    have m2 := m2 _ e2
    simp [m1, m2]
    refine tu.nx _ _ ⟨_, _, rfl, ?_⟩
    rw [take_snoc hk, walk_snoc]
    simp [lineAt]
  · rintro env s ⟨x, y, rfl, rfl⟩
    rw [List.take_length]
    have hk' := hOk row.length
    rw [List.take_length] at hk'
    have hP := passAt_C (sides := sides) (st := st) (tl := []) (order := lineAt (List.range (owners sides).length) row) (laid := walk (owners sides) sides.length (List.range (owners sides).length) row)
    have e1 := eq_is_over hP hk' (by omega)
    rw [okRow_end hr.ok] at e1
    rw [List.append_nil] at hP e1
    have m1 : ∀ S, NoF 1 S (.ref st.length) "is_over" → sem_Pass_is_over [.ref st.length] S = .ok (.bl true) S → mMt 1 "is_over" sem_Pass_is_over [] (mVar 2) aNil [some (outD sides), some o, some (.ref st.length), x, y] S = .ok (.bl true) S := by
      intro S h1 h2
      rw [NoF.mt h1 rfl]
      simp [h2]
    have m1 := m1 _ hP.no4 e1
    simp [m1]
    refine ok1_of (leave_app (frz_ins (k := 2) (Nat.lt_irrefl _) (at_k (k := 0)) ?_)) ⟨rfl, rfl⟩
    have f1 := frz_lst (k := 1) (n := st.length) (i := st.length + 1) (st := st ++ passC sides st.length (lineAt (List.range (owners sides).length) row) (walk (owners sides) sides.length (List.range (owners sides).length) row)) (by omega) (at_k (k := 1)) (pures_nI _)
    have f2 := frz_lst (k := 1) (n := st.length) (i := st.length + 2) (st := st ++ passC sides st.length (lineAt (List.range (owners sides).length) row) (walk (owners sides) sides.length (List.range (owners sides).length) row)) (by omega) (at_k (k := 2)) (pures_Z _)
    simp only [mapO, f1, f2, frz_pure pure_outD]
    rfl
theorem eq_lozenges {sides row : List Nat} {o : D} {st : Store} (hs : SidesOk sides) (hr : RowOk sides row) (ho : IsL st o row) : sem_lozenges [nT sides, o] st = .ok (.ref st.length) (st ++ [.lst ((walkOf sides row).map fun z => .tup [nI z.1, nI z.2.1, nT z.2.2.2])]) := by
  have hl := len_owners sides
  have h3 := hs.ten
  have h4 := hs.four
  have hlen := hr.len
  refine semB_eq rfl ?_
  unfold b_lozenges
  simp only [env0, List.map_cons, List.map_nil, List.length_cons, List.length_nil, Nat.reduceAdd, Nat.reduceSub, List.cons_append, List.nil_append, List.reduceReplicate]
  simp [eq_need_sides hs]
  have hlaid : HasF 1 st (passD sides row) "laid" (.lst ((walkOf sides row).map encZ)) := hasF_o (i := 2) (by decide +kernel) rfl
  rw [mLcN_t (st1 := st) (s := .seq (.lst ((walkOf sides row).map encZ))) (walkOf sides row) encZ (fun _ => true) (fun z => .tup [nI z.1, nI z.2.1, nT z.2.2.2]) (i_seqL (by
    rw [a_op1, a_fn, a_cons, eq_outline (sides := sides) rfl (by omega) (by omega)]
    simp [eq_passed hs hr ho, hlaid.fld])) (by unfold walkOf; rw [walk_len]; omega) (fun _ => gives_lst) (fun z hz acc => ⟨_, by simp [wipeE, encZ]; rfl, rfl, fun _ => by simp⟩)]
  simp
  refine fin_new ?_ (by simp) (by simp [below]) (by simp)
  intro c hc
  simp only [List.mem_cons, List.not_mem_nil, or_false] at hc
  subst hc
  exact pures_map (fun _ _ => pure_tup (pures_cons pure_nI (pures_cons pure_nI (pures_cons pure_nT pures_nil)))) _
end LZ

set_option maxRecDepth 100000
set_option maxHeartbeats 1000000
namespace RR
open PySem PySem.Spec PyProof.Rows L2
/-- xs[k] = v in a cell -/
theorem sub_set {mo mi me : ME D} {env : Env} {st : Store} {j k : Nat} {i : Int} {v : D} {xs : List D} (he : me env st = .ok v st) (ho : mo env st = .ok (.ref j) st) (hi : mi env st = .ok (.int i) st) (hj : st[j]? = some (.lst xs)) (hik : i = (k : Nat)) (hk : k < xs.length) :
    sSubSet mo mi me env st = .ok .nx env (st.set j (.lst (xs.set k v))) := by
  subst hik
  unfold sSubSet
  rw [s_bind, he]
  simp only [s_bind, ho, hi]
  have e4 : ixN xs.length (k : Int) = some k := ixN_nat hk
  simp only [stSub, cellL, hj, e4]
  rfl
theorem ix_at {st : Store} {j k : Nat} {i : Int} {xs : List D} {d : D} (hj : st[j]? = some (.lst xs)) (hi : i = (k : Nat)) (hd : xs[k]? = some d) : gIx (.ref j) (.int i) st = .ok d st := g_ix (items_ref hj) hi hd
/-! ### a list or a tuple, walked -/
def iAny (m : ME D) : ME Src := fun env st => match m env st with
  | .ok (.tup ds) st1 => .ok (.seq (.tup ds)) st1
  | .ok (.ktp ds) st1 => .ok (.seq (.ktp ds)) st1
  | _ => iSeq m env st
theorem iAny_or (m : ME D) (env : Env) (st : Store) : iAny m env st = iTupS m env st ∨ iAny m env st = iSeq m env st := by
  unfold iAny iTupS mbind
  cases e : m env st with
  | ok d s =>
    cases d with
    | tup ds => exact .inl rfl
    | ktp ds => exact .inl rfl
    | _ => exact .inr rfl
  | exc x s => exact .inr rfl
  | no => exact .inr rfl
theorem vi_any {X : Cx} {cl : Ctx} {Wx : WX} {tg e : Expr} {m : ME D} (h : PV X cl Wx e m) : PVI X cl Wx tg e (iAny m) := ⟨fun pins s σ H R I q => by
  obtain ⟨f, env, st, S, N, q⟩ := q
  rcases iAny_or m env st with e | e
  · rw [e] at q
    exact (vi_tup h).run pins s σ H R I ⟨f, env, st, S, N, q⟩
  · rw [e] at q
    exact (vi_list h).run pins s σ H R I ⟨f, env, st, S, N, q⟩⟩
theorem i_anyT {m : ME D} {env : Env} {st st1 : Store} {ds : List D} (h : m env st = .ok (.tup ds) st1) : iAny m env st = .ok (.seq (.tup ds)) st1 := by simp [iAny, h]
theorem i_anyL {m : ME D} {env : Env} {st st1 : Store} {o : D} {xs : List Nat} (h : m env st = .ok o st1) (ho : IsL st1 o xs) : iAny m env st = .ok (.seq o) st1 := by
  rcases ho with rfl | ⟨j, rfl, hj⟩
  · simp [iAny, h, nL, i_seqL h]
  · simp [iAny, h, i_seqR h hj]
/-- counts in a tuple, or in a list -/
def IsN (st : Store) (o : D) (xs : List Nat) : Prop := o = nT xs ∨ IsL st o xs
theorem IsN.app {st o xs} (h : IsN st o xs) (tl : Store) : IsN (st ++ tl) o xs := h.imp id fun h => h.app tl
theorem IsN.items {st o xs} (h : IsN st o xs) : itemsOf st o = some (xs.map nI) := by
  rcases h with rfl | h
  · rfl
  · exact h.items
theorem IsN.sum {st o xs} (h : IsN st o xs) : gSum [o] st = .ok (nI xs.sum) st := by
  simp [gSum, h.items, intsOf_nI, sum_cast, nI]
theorem IsN.it {st o xs} (h : IsN st o xs) {m : ME D} {env : Env} (hr : m env st = .ok o st) : iAny m env st = .ok (.seq o) st := by
  rcases h with rfl | h
  · exact i_anyT hr
  · exact i_anyL hr h
theorem IsN.gives {st o xs} (h : IsN st o xs) : Gives (.seq o) st (xs.map nI) := fun k => by simp [Src.get, h.items]
end RR

set_option maxRecDepth 100000
set_option maxHeartbeats 1000000
namespace LZ
open PySem PySem.Spec PyProof.Rows L2 RR
abbrev N__law_row : List Str := ["_law_script", "_law_mixed", "_law_cell"]
noncomputable def b__law_row : MS :=
  (sSeq (sSet 1 (mret (.int 7)))
    (sSeq (sFor (iSeq (mVar 0)) (gNm 2)
    (sSet 1 (op2 gMod (op2 gAdd (op2 gAdd (op2 gMul (mVar 1) (mret (.int 48271))) (mVar 2)) (mret (.int 11))) (mret (.int 2147483647)))))
    (sRet (mNewL (aCons (mVar 0) (aCons (mret (.int 0)) (aCons (mret (.int 0)) (aCons (mVar 1) aNil))))))))

noncomputable def sem__law_row : List D → Store → Rs D := semB 3 1 1 N__law_row b__law_row
theorem ar__law_row : HasArity 1 sem__law_row := ar_B
theorem lv__law_row : ∀ (ds : List D) (st0 : Store), ds.length = 1 → Leaves st0 (b__law_row (env0 N__law_row ds) st0) (sem__law_row ds st0) := fun _ _ h => lv_B h

abbrev N__law_taken : List Str := ["_law_row_here", "_law_many", "_law_found", "_law_cell"]
noncomputable def b__law_taken : MS :=
  (sSeq (sIf (mTest (op2 gGt (op2 gIx (mVar 0) (mret (.int 2))) (mret (.int 0))))
    (sSeq (sSet 2 (op2 gMod (op2 gIx (mVar 0) (mret (.int 2))) (mVar 1)))
    (sSeq (sSubSet (mVar 0) (mret (.int 2)) (op2 gDiv (op2 gIx (mVar 0) (mret (.int 2))) (mVar 1)))
    (sRet (mVar 2))))
    sNil)
    (sSeq (sIf (mTest (op2 gLt (op2 gIx (mVar 0) (mret (.int 1))) (mCall gLen (aCons (op2 gIx (mVar 0) (mret (.int 0))) aNil))))
    (sSeq (sSet 3 (op2 gIx (op2 gIx (mVar 0) (mret (.int 0))) (op2 gIx (mVar 0) (mret (.int 1)))))
    (sSeq (sSubSet (mVar 0) (mret (.int 1)) (op2 gAdd (op2 gIx (mVar 0) (mret (.int 1))) (mret (.int 1))))
    (sSeq (sIf (mTest (op2 gGe (mVar 3) (op2 gPow (mret (.int 10)) (mret (.int 18)))))
    (sSubSet (mVar 0) (mret (.int 2)) (op2 gDiv (mVar 3) (mVar 1)))
    sNil)
    (sRet (op2 gMod (mVar 3) (mVar 1))))))
    sNil)
    (sSeq (sSubSet (mVar 0) (mret (.int 3)) (op2 gMod (op2 gAdd (op2 gMul (op2 gIx (mVar 0) (mret (.int 3))) (mret (.int 48271))) (mret (.int 12345))) (mret (.int 2147483647))))
    (sRet (op2 gMod (op2 gDiv (op2 gIx (mVar 0) (mret (.int 3))) (mret (.int 1009))) (mVar 1))))))

noncomputable def sem__law_taken : List D → Store → Rs D := semB 3 0 2 N__law_taken b__law_taken
theorem ar__law_taken : HasArity 2 sem__law_taken := ar_B
theorem lv__law_taken : ∀ (ds : List D) (st0 : Store), ds.length = 2 → Leaves st0 (b__law_taken (env0 N__law_taken ds) st0) (sem__law_taken ds st0) := fun _ _ h => lv_B h

abbrev N__law_pairs : List Str := ["_law_sides_here", "_law_total", "_law_many"]
noncomputable def b__law_pairs : MS :=
  (sSeq (sSet 1 (mCall gSum (aCons (mVar 0) aNil)))
    (sRet (op2 gDiv (op2 gSub (op2 gMul (mVar 1) (mVar 1)) (mCall gSum (aCons (mLeave 1 (mLcN (iAny (mVar 0)) (gNm 2) (mret true) (op2 gMul (mVar 2) (mVar 2)) [2])) aNil))) (mret (.int 2)))))

noncomputable def sem__law_pairs : List D → Store → Rs D := semB 3 0 1 N__law_pairs b__law_pairs
theorem ar__law_pairs : HasArity 1 sem__law_pairs := ar_B
theorem lv__law_pairs : ∀ (ds : List D) (st0 : Store), ds.length = 1 → Leaves st0 (b__law_pairs (env0 N__law_pairs ds) st0) (sem__law_pairs ds st0) := fun _ _ h => lv_B h

abbrev N__law_sides : List Str := ["_law_row_here", "_law_most", "_law_many", "_law_small", "_law_found", "_law_k", "_law_room", "_law_turn"]
noncomputable def b__law_sides : MS :=
  (sSeq (sSet 2 (op2 gAdd (mret (.int 2)) (mFn sem__law_taken [] (aCons (mVar 0) (aCons (mret (.int 3)) aNil)))))
    (sSeq (sSet 3 (mFn sem__law_taken [] (aCons (mVar 0) (aCons (mret (.int 2)) aNil))))
    (sSeq (sSet 4 (mNewL aNil))
    (sSeq (sFor (iRng1 (aCons (mVar 2) aNil)) (gNm 5)
    (sSeq (sSet 6 (op2 gSub (mret (.int 10)) (mCall gSum (aCons (mVar 4) aNil))))
    (sExpr (mMeth "list" gAppend (mVar 4) (aCons (mIf (mTest (op2 gEq (mVar 3) (mret (.int 1)))) (mCall (gInt2 qMin) (aCons (mVar 6) (aCons (op2 gAdd (mret (.int 1)) (mFn sem__law_taken [] (aCons (mVar 0) (aCons (mret (.int 3)) aNil)))) aNil))) (mFn sem__law_taken [] (aCons (mVar 0) (aCons (op2 gAdd (mCall (gInt2 qMin) (aCons (mVar 6) (aCons (mret (.int 4)) aNil))) (mret (.int 1))) aNil)))) aNil)))))
    (sSeq (sIf (mTest (op2 gEq (mCall gSum (aCons (mVar 4) aNil)) (mret (.int 0))))
    (sSubSet (mVar 4) (mFn sem__law_taken [] (aCons (mVar 0) (aCons (mVar 2) aNil))) (op2 gAdd (mret (.int 1)) (mFn sem__law_taken [] (aCons (mVar 0) (aCons (mret (.int 4)) aNil)))))
    sNil)
    (sSeq (sFor (iRng1 (aCons (mret (.int 40)) aNil)) (gNm 7)
    (sIf (mTest (op2 gGt (mFn sem__law_pairs [] (aCons (mVar 4) aNil)) (mVar 1)))
    (sSeq (sSet 5 (mMeth "list" gIndex (mVar 4) (aCons (mCall (gInts List.max?) (aCons (mVar 4) aNil)) aNil)))
    (sSubSet (mVar 4) (mVar 5) (op2 gSub (op2 gIx (mVar 4) (mVar 5)) (mret (.int 1)))))
    sNil))
    (sRet (mCall gTupOf (aCons (mVar 4) aNil)))))))))

noncomputable def sem__law_sides : List D → Store → Rs D := semB 3 0 2 N__law_sides b__law_sides
theorem ar__law_sides : HasArity 2 sem__law_sides := ar_B
theorem lv__law_sides : ∀ (ds : List D) (st0 : Store), ds.length = 2 → Leaves st0 (b__law_sides (env0 N__law_sides ds) st0) (sem__law_sides ds st0) := fun _ _ h => lv_B h

abbrev N__law_owner : List Str := ["_law_sides_here", "_law_found", "_law_side"]
noncomputable def b__law_owner : MS :=
  (sSeq (sSet 1 (mLst aNil))
    (sSeq (sFor (iRng1 (aCons (mCall gLen (aCons (mVar 0) aNil)) aNil)) (gNm 2)
    (sSet 1 (op2 gAdd (mVar 1) (op2 gMul (mLst (aCons (mVar 2) aNil)) (op2 gIx (mVar 0) (mVar 2))))))
    (sRet (mVar 1))))

noncomputable def sem__law_owner : List D → Store → Rs D := semB 3 0 1 N__law_owner b__law_owner
theorem ar__law_owner : HasArity 1 sem__law_owner := ar_B
theorem lv__law_owner : ∀ (ds : List D) (st0 : Store), ds.length = 1 → Leaves st0 (b__law_owner (env0 N__law_owner ds) st0) (sem__law_owner ds st0) := fun _ _ h => lv_B h

abbrev N__law_can : List Str := ["_law_owner_here", "_law_order", "_law_place"]
noncomputable def b__law_can : MS :=
  (sRet (mAnd (mChain gLe gLt (mret (.int 0)) (mVar 2) (op2 gSub (mCall gLen (aCons (mVar 1) aNil)) (mret (.int 1)))) (op2 gLt (op2 gIx (mVar 0) (op2 gIx (mVar 1) (mVar 2))) (op2 gIx (mVar 0) (op2 gIx (mVar 1) (op2 gAdd (mVar 2) (mret (.int 1))))))))

noncomputable def sem__law_can : List D → Store → Rs D := semB 3 0 3 N__law_can b__law_can
theorem ar__law_can : HasArity 3 sem__law_can := ar_B
theorem lv__law_can : ∀ (ds : List D) (st0 : Store), ds.length = 3 → Leaves st0 (b__law_can (env0 N__law_can ds) st0) (sem__law_can ds st0) := fun _ _ h => lv_B h

abbrev N__law_any : List Str := ["_law_row_here", "_law_sides_here", "_law_owner_here", "_law_order", "_law_found", "_law_way", "_law_turn", "_law_some", "_law_place"]
noncomputable def b__law_any : MS :=
  (sSeq (sSet 2 (mFn sem__law_owner [] (aCons (mVar 1) aNil)))
    (sSeq (sSet 3 (mCall (gRg false) (aCons (mCall gLen (aCons (mVar 2) aNil)) aNil)))
    (sSeq (sSet 4 (mNewL aNil))
    (sSeq (sSet 5 (mFn sem__law_taken [] (aCons (mVar 0) (aCons (mret (.int 4)) aNil))))
    (sSeq (sFor (iRng1 (aCons (mFn sem__law_pairs [] (aCons (mVar 1) aNil)) aNil)) (gNm 6)
    (sSeq (sSet 7 (mLeave 1 (mLcN (iRng1 (aCons (mCall gLen (aCons (mVar 3) aNil)) aNil)) (gNm 8) (mTest (mFn sem__law_can [] (aCons (mVar 2) (aCons (mVar 3) (aCons (mVar 8) aNil))))) (mVar 8) [8])))
    (sSeq (sIf (tAnd2 (mTest (op2 gGt (mVar 5) (mret (.int 1)))) (mTest (op2 gGt (mFn sem__law_taken [] (aCons (mVar 0) (aCons (mret (.int 9)) aNil))) (mret (.int 0)))))
    (sSet 7 (mLst (aCons (op2 gIx (mVar 7) (op2 gSub (mret (.int 0)) (op2 gMod (mVar 5) (mret (.int 2))))) aNil)))
    sNil)
    (sSeq (sSet 8 (op2 gIx (mVar 7) (mFn sem__law_taken [] (aCons (mVar 0) (aCons (mCall gLen (aCons (mVar 7) aNil)) aNil)))))
    (sSeq (sExpr (mMeth "list" gAppend (mVar 4) (aCons (mVar 8) aNil)))
    (sSet 3 (op2 gAdd (op2 gAdd (mSl (mVar 3) (mret none) (mPart (mVar 8))) (mLst (aCons (op2 gIx (mVar 3) (op2 gAdd (mVar 8) (mret (.int 1)))) (aCons (op2 gIx (mVar 3) (mVar 8)) aNil)))) (mSl (mVar 3) (mPart (op2 gAdd (mVar 8) (mret (.int 2)))) (mret none)))))))))
    (sRet (mVar 4)))))))

noncomputable def sem__law_any : List D → Store → Rs D := semB 3 0 2 N__law_any b__law_any
theorem ar__law_any : HasArity 2 sem__law_any := ar_B
theorem lv__law_any : ∀ (ds : List D) (st0 : Store), ds.length = 2 → Leaves st0 (b__law_any (env0 N__law_any ds) st0) (sem__law_any ds st0) := fun _ _ h => lv_B h

abbrev N__law_laid : List Str := ["_law_sides_here", "_law_told", "_law_order", "_law_found", "_law_place", "_law_one", "_law_other"]
noncomputable def b__law_laid : MS :=
  (sSeq (sSet 2 (mCall (gRg false) (aCons (mCall gSum (aCons (mVar 0) aNil)) aNil)))
    (sSeq (sSet 3 (mNewL aNil))
    (sSeq (sFor (iSeq (mVar 1)) (gNm 4)
    (sSeq (sPar 5 6 (op2 gIx (mVar 2) (mVar 4)) (op2 gIx (mVar 2) (op2 gAdd (mVar 4) (mret (.int 1)))))
    (sSeq (sExpr (mMeth "list" gAppend (mVar 3) (aCons (mTup (aCons (mVar 5) (aCons (mVar 6) (aCons (mVar 4) (aCons (mSl (mVar 2) (mret none) (mPart (mVar 4))) (aCons (mSl (mVar 2) (mPart (op2 gAdd (mVar 4) (mret (.int 2)))) (mret none)) aNil)))))) aNil)))
    (sSet 2 (op2 gAdd (op2 gAdd (mSl (mVar 2) (mret none) (mPart (mVar 4))) (mLst (aCons (mVar 6) (aCons (mVar 5) aNil)))) (mSl (mVar 2) (mPart (op2 gAdd (mVar 4) (mret (.int 2)))) (mret none)))))))
    (sRet (mVar 3)))))

noncomputable def sem__law_laid : List D → Store → Rs D := semB 3 0 2 N__law_laid b__law_laid
theorem ar__law_laid : HasArity 2 sem__law_laid := ar_B
theorem lv__law_laid : ∀ (ds : List D) (st0 : Store), ds.length = 2 → Leaves st0 (b__law_laid (env0 N__law_laid ds) st0) (sem__law_laid ds st0) := fun _ _ h => lv_B h

abbrev N__law_alike : List Str := ["_law_found", "_law_due", "_law_k"]
noncomputable def b__law_alike (sem__law_alike : List D → Store → Rs D) : MS :=
  (sSeq (sIf (tOr2 (mTest (mCall gIsi (aCons (mVar 1) (aCons (mret (.ty "tuple")) aNil)))) (mTest (mCall gIsi (aCons (mVar 1) (aCons (mret (.ty "list")) aNil)))))
    (sSeq (sIf (tOr2 (mTest (op2 gNe (mCall gIsi (aCons (mVar 0) (aCons (mret (.ty "tuple")) aNil))) (mCall gIsi (aCons (mVar 1) (aCons (mret (.ty "tuple")) aNil))))) (tNot1 (mTest (mCall gIsiT (aCons (mVar 0) (aCons (mTup (aCons (mret (.ty "tuple")) (aCons (mret (.ty "list")) aNil))) aNil))))))
    (sRet (mret (.bl false)))
    sNil)
    (sSeq (sIf (mTest (op2 gNe (mCall gLen (aCons (mVar 0) aNil)) (mCall gLen (aCons (mVar 1) aNil))))
    (sRet (mret (.bl false)))
    sNil)
    (sRet (op2 gEq (mLeave 1 (mLcN (iRng1 (aCons (mCall gLen (aCons (mVar 1) aNil)) aNil)) (gNm 2) (tNot1 (mTest (mFn sem__law_alike [] (aCons (op2 gIx (mVar 0) (mVar 2)) (aCons (op2 gIx (mVar 1) (mVar 2)) aNil))))) (mVar 2) [2])) (mLst aNil)))))
    sNil)
    (sSeq (sIf (tOr2 (mTest (op1 (gIsN false) (mVar 1))) (mTest (op1 (gIsN false) (mVar 0))))
    (sRet (mAnd (op1 (gIsN false) (mVar 1)) (op1 (gIsN false) (mVar 0))))
    sNil)
    (sSeq (sIf (tOr2 (mTest (mCall gIsi (aCons (mVar 1) (aCons (mret (.ty "bool")) aNil)))) (mTest (mCall gIsi (aCons (mVar 0) (aCons (mret (.ty "bool")) aNil)))))
    (sRet (mAnd (mCall gIsi (aCons (mVar 1) (aCons (mret (.ty "bool")) aNil))) (mAnd (mCall gIsi (aCons (mVar 0) (aCons (mret (.ty "bool")) aNil))) (op2 gEq (mVar 0) (mVar 1)))))
    sNil)
    (sSeq (sIf (mTest (mCall gIsi (aCons (mVar 1) (aCons (mret (.ty "str")) aNil))))
    (sRet (mAnd (mCall gIsi (aCons (mVar 0) (aCons (mret (.ty "str")) aNil))) (op2 gEq (mVar 0) (mVar 1))))
    sNil)
    (sRet (mAnd (mCall gIsi (aCons (mVar 0) (aCons (mret (.ty "int")) aNil))) (op2 gEq (mVar 0) (mVar 1))))))))

noncomputable def semr__law_alike : Nat → List D → Store → Rs D
  | 0 => fun _ _ => .no
  | n + 1 => semB 3 0 2 N__law_alike (b__law_alike (semr__law_alike n))
theorem arr__law_alike : ∀ n, HasArity 2 (semr__law_alike n)
  | 0 => fun _ _ _ => rfl
  | _ + 1 => ar_B
theorem lvr__law_alike {n : Nat} : ∀ (ds : List D) (st0 : Store), ds.length = 2 → Leaves st0 (b__law_alike (semr__law_alike n) (env0 N__law_alike ds) st0) (semr__law_alike (n + 1) ds st0) := fun _ _ h => lv_B h
noncomputable abbrev sem__law_alike : List D → Store → Rs D := semr__law_alike 6
theorem ar__law_alike : HasArity 2 sem__law_alike := arr__law_alike 6

end LZ

set_option maxRecDepth 100000
set_option maxHeartbeats 1000000
namespace LZ
open PySem PySem.Spec PyProof.Rows L2 RR
/-! ### the law's own defs -/
def RowCell (c : Cell) : Prop := ∃ ns pos rest mix, c = .lst [.scr ns, .int pos, .int rest, .int mix] ∧ 0 ≤ pos ∧ 0 ≤ rest ∧ 0 ≤ mix
theorem rowCell_low {c : Cell} (h : RowCell c) {n : Nat} : c.low n = true := by
  obtain ⟨ns, pos, rest, mix, rfl, _⟩ := h
  rfl
def RowQ (st : Store) (d : D) (s : Store) : Prop := ∃ c, d = .ref st.length ∧ s = st ++ [c] ∧ RowCell c
theorem eq_law_row {ns : List Int} {st : Store} (hn : ns.length ≤ 1000) : ∃ c, sem__law_row [.scr ns] st = .ok (.ref st.length) (st ++ [c]) ∧ RowCell c := by
  have key : Ok1 (sem__law_row [.scr ns] st) (RowQ st) := by
    refine semB_post rfl ?_
    unfold b__law_row
    simp only [env0, List.map_cons, List.map_nil, List.length_cons, List.length_nil, Nat.reduceAdd, Nat.reduceSub, List.cons_append, List.nil_append, List.reduceReplicate]
    rw [s_seq]
    simp
    refine post_thn (post_s (d := .scr ns) ns D.int (fun k e s => ∃ m x, 0 ≤ m ∧ e = [some (.scr ns), some (.int m), x] ∧ s = st)
      (i_seqS rfl) (by omega) ⟨7, none, by decide, rfl, rfl⟩ (fun _ _ _ _ _ => rfl) ?_ ?_)
    · rintro k i env s J hk ⟨m, x, hm, rfl, rfl⟩ tu
      simp
      exact tu.nx _ _ ⟨_, _, Int.emod_nonneg _ (by decide), rfl, rfl⟩
    · rintro env s ⟨m, x, hm, rfl, rfl⟩
      simp
      have hc : RowCell (.lst [.scr ns, .int 0, .int 0, .int m]) := ⟨ns, 0, 0, m, rfl, by decide, by decide, hm⟩
      refine fin_new ?_ (by simp) (by simp [below]) ⟨_, rfl, rfl, hc⟩
      intro c hc'
      simp only [List.mem_cons, List.not_mem_nil, or_false] at hc'
      subst hc'
      exact rowCell_low hc
  obtain ⟨d, s, e, c, rfl, rfl, h⟩ := key
  exact ⟨c, e, h⟩
theorem mod_nI {x : Int} {n : Nat} (h : 0 < n) : ∃ v, D.int (x % (n : Nat)) = nI v ∧ v < n := by
  have h1 := Int.emod_nonneg x (show ((n : Nat) : Int) ≠ 0 by omega)
  have h2 := Int.emod_lt_of_pos x (show (0 : Int) < (n : Nat) by omega)
  refine ⟨(x % (n : Nat)).toNat, ?_, by omega⟩
  simp only [nI]
  rw [Int.toNat_of_nonneg h1]
def TakQ (n r : Nat) (st : Store) (d : D) (s : Store) : Prop := ∃ v c', d = nI v ∧ s = st.set r c' ∧ v < n ∧ RowCell c'
theorem eq_taken {st : Store} {r n : Nat} {c : Cell} (h : st[r]? = some c) (hc : RowCell c) (hn : 0 < n) (hn' : n < 1000000) : ∃ v c', sem__law_taken [.ref r, .int (n : Nat)] st = .ok (nI v) (st.set r c') ∧ v < n ∧ RowCell c' := by
  have hr := (List.getElem?_eq_some_iff.mp h).1
  have key : Ok1 (sem__law_taken [.ref r, .int (n : Nat)] st) (TakQ n r st) := by
    obtain ⟨ns, pos, rest, mix, rfl, h1, h2, h3⟩ := hc
    refine semB_post rfl ?_
    unfold b__law_taken
    simp only [env0, List.map_cons, List.map_nil, List.length_cons, List.length_nil, Nat.reduceAdd, Nat.reduceSub, List.cons_append, List.nil_append, List.reduceReplicate]
    have g0 : gIx (.ref r) (.int 0) st = .ok (.scr ns) st := ix_at (k := 0) h rfl rfl
    have g1 : gIx (.ref r) (.int 1) st = .ok (.int pos) st := ix_at (k := 1) h rfl rfl
    have g2 : gIx (.ref r) (.int 2) st = .ok (.int rest) st := ix_at (k := 2) h rfl rfl
    have g3 : gIx (.ref r) (.int 3) st = .ok (.int mix) st := ix_at (k := 3) h rfl rfl
    have hn1 : (0 : Int) < (n : Nat) := by omega
    have hn2 : ((n : Nat) : Int) < 1073741824 := by omega
    have fin : ∀ (x : Int) (c' : Cell), RowCell c' → Ok1 (leave 3 st.length st (.int (x % (n : Nat))) (st.set r c')) (TakQ n r st) := by
      intro x c' hc'
      obtain ⟨v, e, hv⟩ := mod_nI (x := x) hn
      exact fin_same (low_set low_refl (rowCell_low hc')) (by simp) pure_int ⟨v, c', e, rfl, hv, hc'⟩
    simp [g2]
    by_cases hrest : 0 < rest
    · simp [hrest, g2, hn]
      rw [sub_set (j := r) (k := 2) (v := .int (rest / (n : Nat))) (by simp [g2, hn, hn2]) rfl rfl h rfl (by simp)]
      simp
      exact fin _ _ ⟨ns, pos, rest / (n : Nat), mix, rfl, h1, Int.ediv_nonneg h2 (by omega), h3⟩
    · simp [hrest, g1, g0]
      by_cases hpos : pos < (ns.length : Nat)
      · obtain ⟨q, rfl⟩ : ∃ q : Nat, pos = (q : Nat) := ⟨pos.toNat, by omega⟩
        have hq : q < ns.length := by omega
        have gx : gIx (.scr ns) (.int (q : Nat)) st = .ok (.int ns[q]) st := g_ix (xs := ns.map .int) rfl rfl (by simp [hq])
        simp [hpos, g0, g1, gx]
        rw [sub_set (j := r) (k := 1) (v := .int ((q : Nat) + 1)) (by simp [g1]) rfl rfl h rfl (by simp)]
        have h' : (st.set r (.lst [.scr ns, .int ((q : Nat) + 1), .int rest, .int mix]))[r]? = some (.lst [.scr ns, .int ((q : Nat) + 1), .int rest, .int mix]) := by simp [hr]
        simp [hn]
        by_cases hbig : (10 : Int) ^ 18 ≤ ns[q]
        · have hbig' : (1000000000000000000 : Int) ≤ ns[q] := hbig
          simp [hbig']
          rw [sub_set (j := r) (k := 2) (v := .int (ns[q] / (n : Nat))) (by simp [hn, hn2]) rfl rfl h' rfl (by simp)]
          simp [hn]
          exact fin _ _ ⟨ns, (q : Nat) + 1, ns[q] / (n : Nat), mix, rfl, by omega, Int.ediv_nonneg (by omega) (by omega), h3⟩
        · have hbig' : ¬ (1000000000000000000 : Int) ≤ ns[q] := hbig
          simp [hbig', hn]
          exact fin _ _ ⟨ns, (q : Nat) + 1, rest, mix, rfl, by omega, h2, h3⟩
      · simp [hpos]
        rw [sub_set (j := r) (k := 3) (v := .int ((mix * 48271 + 12345) % 2147483647)) (by simp [g3]) rfl rfl h rfl (by simp)]
        have h' : (st.set r (.lst [.scr ns, .int pos, .int rest, .int ((mix * 48271 + 12345) % 2147483647)]))[r]? = some (.lst [.scr ns, .int pos, .int rest, .int ((mix * 48271 + 12345) % 2147483647)]) := by simp [hr]
        have g3' : gIx (.ref r) (.int 3) (st.set r (.lst [.scr ns, .int pos, .int rest, .int ((mix * 48271 + 12345) % 2147483647)])) = .ok (.int ((mix * 48271 + 12345) % 2147483647)) _ := ix_at (k := 3) h' rfl rfl
        simp [g3', hn]
        exact fin _ _ ⟨ns, pos, rest, _, rfl, h1, h2, Int.emod_nonneg _ (by decide)⟩
  obtain ⟨d, s, e, v, c', rfl, rfl, h1, h2⟩ := key
  exact ⟨v, c', e, h1, h2⟩
end LZ

set_option maxRecDepth 100000
set_option maxHeartbeats 1000000
namespace LZ
open PySem PySem.Spec PyProof.Rows L2 RR
def pairsI (sides : List Nat) : Nat := (sides.sum * sides.sum - (sides.map fun n => n * n).sum) / 2
theorem sq_le : ∀ (xs : List Nat), (xs.map fun n => n * n).sum ≤ xs.sum * xs.sum
  | [] => by simp
  | x :: xs => by
    have := sq_le xs
    rw [List.map_cons, List.sum_cons, List.sum_cons, Nat.add_mul, Nat.mul_add]
    have h1 : 0 ≤ xs.sum * (x + xs.sum) := Nat.zero_le _
    have h2 : xs.sum * (x + xs.sum) = xs.sum * x + xs.sum * xs.sum := Nat.mul_add _ _ _
    omega
theorem eq_pairs {sides : List Nat} {o : D} {st : Store} (h : IsN st o sides) (h1 : sides.length ≤ 1000) (h2 : sides.sum ≤ 1000000) : sem__law_pairs [o] st = .ok (nI (pairsI sides)) st := by
  refine semB_eq rfl ?_
  unfold b__law_pairs
  simp only [env0, List.map_cons, List.map_nil, List.length_cons, List.length_nil, Nat.reduceAdd, Nat.reduceSub, List.cons_append, List.nil_append, List.reduceReplicate]
  have hmul : ∀ {n : Nat} {st : Store}, n ≤ 1000000 → gMul (nI n) (nI n) st = .ok (nI (n * n)) st := by
    intro n st hn
    simp only [nI, g_mul]
    rw [if_pos (by simp; omega)]
    simp
  simp [h.sum]
  rw [hmul h2]
  simp
  rw [mLc_t (s := .seq o) sides nI (fun _ => true) (fun n => nI (n * n)) (h.it rfl) (by omega) (fun acc => (h.app _).gives) (fun n hn acc => ⟨_, by simp [wipeE]; rfl, rfl, fun _ => by
    have := le_sum hn
    simp
    exact hmul (by omega)⟩) (fun _ _ _ => below_nI)]
  have e1 : (List.map (fun n => nI (n * n)) sides) = (sides.map fun n => n * n).map nI := by
    rw [List.map_map]
    rfl
  have e2 : gSum [.lst ((sides.map fun n => n * n).map nI)] st = .ok (nI (sides.map fun n => n * n).sum) st := (nL_isL (xs := sides.map fun n => n * n)).sum
  have hle := sq_le sides
  rw [filt_tt, e1]
  simp [e2, n_sub hle, -List.map_map]
  have e3 : gDiv (nI (sides.sum * sides.sum - (sides.map fun n => n * n).sum)) (.int 2) st = .ok (nI (pairsI sides)) st := by
    simp only [nI, g_I]
    rw [if_pos (by decide)]
    simp [pairsI]
  rw [e3]
  simp
  exact fin_pure pure_nI (by simp)
theorem eq_law_owner {sides : List Nat} (st : Store) (h1 : sides.length ≤ 100) (h3 : sides.sum ≤ 1000) : sem__law_owner [nT sides] st = .ok (nL (owners sides)) st := by
  refine semB_eq rfl ?_
  unfold b__law_owner
  simp only [env0, List.map_cons, List.map_nil, List.length_cons, List.length_nil, Nat.reduceAdd, Nat.reduceSub, List.cons_append, List.nil_append, List.reduceReplicate]
  rw [s_seq]
  simp
  refine post_thn (post_r1 (n := sides.length) (fun k e s => ∃ x, e = [some (nT sides), some (nL (owners (sides.take k))), x] ∧ s = st)
    (by simp) (by omega) ⟨_, rfl, rfl⟩ ?_ ?_)
  · rintro k env s J hk ⟨x, rfl, rfl⟩ tu
    have hg : sides[k]? = some (nthN sides k) := by simp [nthN, hk]
    have hs := sum_take_le sides k
    have hl := len_owners (sides.take k)
    have hn' := le_sum (List.mem_of_getElem? hg)
    have hm : ∀ st, gMul (.lst [nI k]) (nI (nthN sides k)) st = .ok (.lst (List.replicate (nthN sides k) (nI k))) st := by
      intro st
      have e : nI (nthN sides k) = .int (nthN sides k : Nat) := rfl
      rw [e, g_mulL, if_pos ⟨by omega, by omega, by rw [sizeLine_eq]; simp; omega⟩]
      simp [flat_rep]
    have ha : ∀ st, gAdd (nL (owners (sides.take k))) (.lst (List.replicate (nthN sides k) (nI k))) st = .ok (nL (owners (sides.take (k + 1)))) st := by
      intro st
      unfold nL
      rw [g_addL, if_pos (by rw [sizeLine_eq]; simp; omega), owners_take hg]
      simp
    simp [n_ixT hk, hm, ha]
    exact tu.nx _ _ ⟨_, rfl, rfl⟩
  · rintro env s ⟨x, rfl, rfl⟩
    simp
    exact fin_pure pure_nL (by simp)
theorem eq_law_can {ow l : List Nat} {p : Nat} {st : Store} (ho : LineOk ow.length l) : sem__law_can [nL ow, nL l, nI p] st = .ok (.bl (canLay ow l p)) st := by
  have hl := ho.len
  refine semB_eq rfl ?_
  unfold b__law_can
  simp only [env0, List.map_cons, List.map_nil, List.length_cons, List.length_nil, Nat.reduceAdd, Nat.reduceSub, List.cons_append, List.nil_append, List.reduceReplicate]
  have e1 : gSub (nI l.length) (.int 1) st = .ok (.int ((l.length : Nat) - 1)) st := rfl
  have e2 : gLe (.int 0) (nI p) st = .ok (.bl true) st := by
    have : decide ((0 : Int) ≤ (p : Nat)) = true := decide_eq_true (by omega)
    simp [nI, this]
  have e3 : gLt (nI p) (.int ((l.length : Nat) - 1)) st = .ok (.bl (decide (p + 2 ≤ ow.length))) st := by
    have : decide (((p : Nat) : Int) < (l.length : Nat) - 1) = decide (p + 2 ≤ ow.length) := decide_eq_decide.mpr (by omega)
    simp [nI, this]
  simp [e1, e2, e3]
  by_cases hp : p + 2 ≤ ow.length
  · have x1 : gIx (nL l) (nI p) st = _ := n_ixL (by omega)
    have x2 : gIx (nL l) (nI (p + 1)) st = _ := n_ixL (by omega)
    have y1 : gIx (nL ow) (nI (nthN l p)) st = _ := n_ixL (ho.nthN (by omega))
    have y2 : gIx (nL ow) (nI (nthN l (p + 1))) st = _ := n_ixL (ho.nthN (by omega))
    simp [hp, x1, x2, y1, y2]
    exact fin_pure pure_bl (by simp [canLay, hp])
  · simp [hp]
    exact fin_pure pure_bl (by simp [canLay, hp])
end LZ

set_option maxRecDepth 100000
set_option maxHeartbeats 1000000
namespace LZ
open PySem PySem.Spec PyProof.Rows L2 RR
/-- the store st, its cell r (the script's row) drawn from -/
structure Bas (st : Store) (r : Nat) (base : Store) : Prop where
  lt : r < st.length
  set : ∃ c, RowCell c ∧ base = st.set r c
theorem Bas.len {st r base} (h : Bas st r base) : base.length = st.length := by
  obtain ⟨c, _, rfl⟩ := h.set
  simp
theorem Bas.refl {st : Store} {r : Nat} {c : Cell} (h : st[r]? = some c) (hc : RowCell c) : Bas st r st := ⟨(List.getElem?_eq_some_iff.mp h).1, c, hc, by
  apply List.ext_getElem?
  intro i
  rw [List.getElem?_set]
  split
  · rename_i e; subst e; rw [h]; simp [(List.getElem?_eq_some_iff.mp h).1]
  · rfl⟩
theorem Bas.trans {st r b1 b2} (h : Bas st r b1) (h' : Bas b1 r b2) : Bas st r b2 := by
  obtain ⟨c, hc, rfl⟩ := h.set
  obtain ⟨c', hc', rfl⟩ := h'.set
  exact ⟨h.lt, c', hc', by simp⟩
theorem Bas.get {st r base} (h : Bas st r base) : ∃ c, base[r]? = some c ∧ RowCell c := by
  obtain ⟨c, hc, rfl⟩ := h.set
  exact ⟨c, by simp [h.lt], hc⟩
theorem Bas.other {st r base} (h : Bas st r base) {i : Nat} (hi : i ≠ r) : base[i]? = st[i]? := by
  obtain ⟨c, hc, rfl⟩ := h.set
  rw [List.getElem?_set_ne (fun e => hi e.symm)]
theorem eq_tak {st base tl : Store} {r n : Nat} {d : D} (h : Bas st r base) (hd : d = nI n) (hn : 0 < n) (hn' : n < 1000000) : ∃ v base', sem__law_taken [.ref r, d] (base ++ tl) = .ok (nI v) (base' ++ tl) ∧ v < n ∧ Bas st r base' := by
  subst hd
  obtain ⟨c, hc, hrow⟩ := h.get
  have hr := (List.getElem?_eq_some_iff.mp hc).1
  have hc' : (base ++ tl)[r]? = some c := by rw [List.getElem?_append_left hr]; exact hc
  obtain ⟨v, c', e, hv, hrow'⟩ := eq_taken hc' hrow hn hn'
  refine ⟨v, base.set r c', ?_, hv, h.trans ⟨hr, c', hrow', rfl⟩⟩
  have e0 : nI n = .int (n : Int) := rfl
  rw [e0, e, List.set_append_left _ _ hr]
theorem fin_bas {k : Nat} {st base tl : Store} {r : Nat} {d : D} {Q : D → Store → Prop} (h : Bas st r base) (hd : Pure d) (q : Q d base) : Ok1 (leave k st.length st d (base ++ tl)) Q := by
  have hl := h.len
  obtain ⟨c, hc, rfl⟩ := h.set
  refine ok1_of (d := d) (s := st.set r c) ?_ q
  have hlow : LowOk st (st.set r c ++ tl) st.length := by
    intro i c' hi hc'
    rw [List.getElem?_append_left (by omega)] at hc'
    exact low_set low_refl (rowCell_low hc) i c' hi hc'
  rw [leave_ok hlow (frz_pure hd), List.take_append_of_le_length (by omega), List.take_of_length_le (by omega)]
theorem fin_basl {k : Nat} {st base tl : Store} {r : Nat} {ds : List D} {Q : D → Store → Prop} (h : Bas st r base) (hd : Pures ds) (q : Q (.lst ds) base) (hk : k ≠ 0 := by decide) : Ok1 (leave k st.length st (.ref st.length) (base ++ .lst ds :: tl)) Q := by
  obtain ⟨k, rfl⟩ := Nat.exists_eq_succ_of_ne_zero hk
  have hl := h.len
  have ha : (base ++ .lst ds :: tl)[st.length]? = some (.lst ds) := by rw [← hl]; simp
  have hf := frz_lst (k := k) (n := st.length) (i := st.length) (by omega) ha hd
  obtain ⟨c, hc, rfl⟩ := h.set
  refine ok1_of (d := .lst ds) (s := st.set r c) ?_ q
  have hlow : LowOk st (st.set r c ++ .lst ds :: tl) st.length := by
    intro i c' hi hc'
    rw [List.getElem?_append_left (by omega)] at hc'
    exact low_set low_refl (rowCell_low hc) i c' hi hc'
  rw [leave_ok hlow hf, List.take_append_of_le_length (by omega), List.take_of_length_le (by omega)]
theorem n_min {a b : Nat} {st : Store} : gInt2 qMin [nI a, nI b] st = .ok (nI (min a b)) st := by
  simp only [nI, gInt2, qMin]
  congr 2
  split <;> omega
theorem n_10 {a : Nat} {st : Store} (h : a ≤ 10) : gSub (.int 10) (nI a) st = .ok (nI (10 - a)) st := by
  have e : (.int 10 : D) = nI 10 := rfl
  rw [e, n_sub h]
theorem max_nI {xs : List Nat} {m : Nat} (h : xs.max? = some m) : (xs.map fun (x : Nat) => (x : Int)).max? = some (m : Int) := by
  rw [List.max?_eq_some_iff] at h ⊢
  refine ⟨List.mem_map.mpr ⟨m, h.1, rfl⟩, fun b hb => ?_⟩
  obtain ⟨x, hx, rfl⟩ := List.mem_map.mp hb
  have := h.2 x hx
  omega
def decAt (xs : List Nat) (k : Nat) : List Nat := xs.set k (nthN xs k - 1)
theorem sum_set : ∀ {xs : List Nat} {k v : Nat}, k < xs.length → (xs.set k v).sum + nthN xs k = xs.sum + v
  | x :: xs, 0, v, _ => by simp [nthN]; omega
  | x :: xs, k + 1, v, h => by
    have := sum_set (xs := xs) (k := k) (v := v) (by simpa using h)
    have e : nthN (x :: xs) (k + 1) = nthN xs k := by simp [nthN]
    rw [e, List.set_cons_succ, List.sum_cons, List.sum_cons]
    omega
theorem sum_zero_pairs {xs : List Nat} (h : 0 < pairsI xs) : 2 ≤ xs.sum := by
  unfold pairsI at h
  have h1 : xs.sum ≠ 0 := by
    intro e
    rw [e] at h
    simp at h
  by_cases e : xs.sum = 1
  · have h2 : 1 ≤ (xs.map fun n => n * n).sum := by
      have : ∀ ys : List Nat, ys.sum ≤ (ys.map fun n => n * n).sum := by
        intro ys
        induction ys with
        | nil => simp
        | cons y ys ih =>
          rw [List.map_cons, List.sum_cons, List.sum_cons]
          have : y ≤ y * y := Nat.le_mul_self y
          omega
      have := this xs
      omega
    rw [e] at h
    omega
  · omega
def SidesQ (st : Store) (r most : Nat) (d : D) (s : Store) : Prop := ∃ sides, d = nT sides ∧ Bas st r s ∧ SidesOk sides ∧ pairsI sides ≤ most
structure PreOk (many k : Nat) (xs : List Nat) : Prop where
  len : xs.length = k
  each : ∀ n ∈ xs, n ≤ 4
  ten : xs.sum ≤ 10
theorem preOk_nil {many : Nat} : PreOk many 0 [] := { len := rfl, each := fun n h => absurd h (by simp), ten := by decide }
theorem preOk_set {many k xs j v} (h : PreOk many k xs) (hj : j < xs.length) (h1 : v ≤ 4) (h2 : xs.sum + v ≤ 10 + nthN xs j) : PreOk many k (xs.set j v) := by
  have hs := sum_set (xs := xs) (k := j) (v := v) hj
  refine { len := by simp [h.len], each := fun n hn => ?_, ten := by omega }
  rcases List.mem_or_eq_of_mem_set hn with hn | rfl
  · exact h.each n hn
  · exact h1
theorem firstAt_some {p : D → Bool} : ∀ {ds : List D}, (∃ d ∈ ds, p d = true) → ∃ j, firstAt p ds = some j
  | [], ⟨d, h, _⟩ => by cases h
  | x :: ds, h => by
    simp only [firstAt]
    by_cases e : p x = true
    · exact ⟨0, by simp [e]⟩
    · obtain ⟨d, hd, hp⟩ := h
      rcases List.mem_cons.mp hd with rfl | hd
      · exact (e hp).elim
      · obtain ⟨j, hj⟩ := firstAt_some (ds := ds) ⟨d, hd, hp⟩
        exact ⟨j + 1, by simp [e, hj]⟩
theorem max_index {S : Store} {o : D} {xs : List Nat} (h : IsL S o xs) (hne : xs ≠ []) : ∃ m k, gInts List.max? [o] S = .ok (nI m) S ∧ gIndex o [nI m] S = .ok (nI k) S ∧ k < xs.length ∧ nthN xs k = m ∧ ∀ x ∈ xs, x ≤ m := by
  obtain ⟨m, hm⟩ : ∃ m, xs.max? = some m := by
    cases e : xs.max? with
    | none => exact (hne (List.max?_eq_none_iff.mp e)).elim
    | some m => exact ⟨m, rfl⟩
  have hm' := List.max?_eq_some_iff.mp hm
  have hf : (xs.map nI).all flatD = true := by
    rw [List.all_eq_true]
    intro d hd
    obtain ⟨y, _, rfl⟩ := List.mem_map.mp hd
    rfl
  obtain ⟨k, hk⟩ := firstAt_some (p := fun z => eqV (toV z) (toV (nI m))) (ds := xs.map nI) ⟨nI m, List.mem_map.mpr ⟨m, hm'.1, rfl⟩, by simp [nI, toV, eqV]⟩
  obtain ⟨z, hz, hp, _⟩ := firstAt_spec hk
  rw [List.getElem?_map, Option.map_eq_some_iff] at hz
  obtain ⟨x, hx, rfl⟩ := hz
  have hkl := (List.getElem?_eq_some_iff.mp hx).1
  have hxm : x = m := by
    simp only [nI, toV, eqV, beq_iff_eq] at hp
    omega
  refine ⟨m, k, ?_, ?_, hkl, ?_, hm'.2⟩
  · simp [gInts, h.seq, intsOf_nI, max_nI hm, nI]
  · unfold gIndex
    simp only [h.seq, hf]
    rw [if_pos (by rfl)]
    simp only [hk]
    rfl
  · rw [← hxm]
    simp [nthN, List.getD_eq_getElem?_getD, hx]
theorem PreOk.snoc {many k xs v} (h : PreOk many k xs) (h1 : v ≤ 4) (h2 : xs.sum + v ≤ 10) : PreOk many (k + 1) (xs ++ [v]) := by
  refine ⟨by simp [h.len], fun n hn => ?_, by simp; omega⟩
  simp only [List.mem_append, List.mem_cons, List.not_mem_nil, or_false] at hn
  rcases hn with hn | rfl
  · exact h.each n hn
  · exact h1
theorem eq_sides {st : Store} {r most : Nat} {c : Cell} (h : st[r]? = some c) (hc : RowCell c) : ∃ sides base, sem__law_sides [.ref r, nI most] st = .ok (nT sides) base ∧ Bas st r base ∧ SidesOk sides ∧ pairsI sides ≤ most := by
  have key : Ok1 (sem__law_sides [.ref r, nI most] st) (SidesQ st r most) := by
    refine semB_post rfl ?_
    unfold b__law_sides
    simp only [env0, List.map_cons, List.map_nil, List.length_cons, List.length_nil, Nat.reduceAdd, Nat.reduceSub, List.cons_append, List.nil_append, List.reduceReplicate]
    have hB := Bas.refl h hc
    obtain ⟨v1, b1, e1, hv1, hB1⟩ := eq_tak (tl := []) (n := 3) (d := .int 3) hB rfl (by decide) (by decide)
    obtain ⟨v2, b2, e2, hv2, hB2⟩ := eq_tak (tl := []) (n := 2) (d := .int 2) hB1 rfl (by decide) (by decide)
    simp only [List.append_nil] at e1 e2
    have a2 : ∀ st, gAdd (.int 2) (nI v1) st = .ok (nI (2 + v1)) st := fun st => by
      have e : (.int 2 : D) = nI 2 := rfl
      rw [e, n_add]
    rw [s_seq]
    simp [e1, a2]
    simp [e2]
    rw [hB2.len]
    refine post_thn (post_r1 (n := 2 + v1) (fun k e s => ∃ base xs x5 x6 x7, Bas st r base ∧ PreOk (2 + v1) k xs ∧ e = [some (.ref r), some (nI most), some (nI (2 + v1)), some (nI v2), some (.ref st.length), x5, x6, x7] ∧ s = base ++ [.lst (xs.map nI)])
      rfl (by omega) ⟨b2, [], none, none, none, hB2, preOk_nil, rfl, rfl⟩ ?_ ?_)
    · rintro k env s J hk ⟨base, xs, x5, x6, x7, hB, hP, rfl, rfl⟩ tu
      have hx : IsL (base ++ [.lst (xs.map nI)]) (.ref st.length) xs := isL_ref (by rw [← hB.len]; simp)
      have hten := hP.ten
      simp [hx.sum, n_10 hten]
      have gq : ∀ S, gEq (nI v2) (.int 1) S = .ok (.bl (decide (v2 = 1))) S := fun S => n_eq (b := 1)
      have ty : ∀ S, S[st.length]? = some (.lst (xs.map nI)) → tyD S "list" (.ref st.length) = true := fun S h => ty_ref h
      have at0 : ∀ {base tl}, Bas st r base → (base ++ tl)[st.length]? = tl[0]? := fun {base tl} h => by rw [← h.len]; simp
      have st0 : ∀ {base c c'}, Bas st r base → (base ++ [c]).set st.length c' = base ++ [c'] := fun {base c c'} h => by rw [← h.len]; simp
      have ap : ∀ {base} (v : Nat), Bas st r base → gAppend (.ref st.length) [nI v] (base ++ [.lst (xs.map nI)]) = .ok .non (base ++ [.lst ((xs ++ [v]).map nI)]) := fun {base} v h => by
        rw [m_append (at0 h) (by have := hP.len; simp; omega), st0 h, List.map_append]
        rfl
      rw [if_pos (ty _ (at0 hB))]
      by_cases hs : v2 = 1
      · obtain ⟨v3, b3, e3, hv3, hB3⟩ := eq_tak (tl := [.lst (xs.map nI)]) (n := 3) (d := .int 3) hB rfl (by decide) (by decide)
        have a3 : ∀ st, gAdd (.int 1) (nI v3) st = .ok (nI (1 + v3)) st := fun st => n_add (a := 1)
        have gq1 : ∀ S, gEq (nI v2) (.int 1) S = .ok (.bl true) S := fun S => by rw [gq, decide_eq_true hs]
        simp [gq1, e3, a3, n_min, ap _ hB3, -List.map_append]
        exact tu.nx _ _ ⟨b3, _, _, _, _, hB3, hP.snoc (v := min (10 - xs.sum) (1 + v3)) (by omega) (by omega), rfl, rfl⟩
      · have m4 : ∀ S, gInt2 qMin [nI (10 - xs.sum), .int 4] S = .ok (nI (min (10 - xs.sum) 4)) S := fun S => n_min (b := 4)
        obtain ⟨v3, b3, e3, hv3, hB3⟩ := eq_tak (tl := [.lst (xs.map nI)]) (n := min (10 - xs.sum) 4 + 1) (d := nI (min (10 - xs.sum) 4 + 1)) hB rfl (by omega) (by omega)
        have gq1 : ∀ S, gEq (nI v2) (.int 1) S = .ok (.bl false) S := fun S => by rw [gq, decide_eq_false hs]
        simp [gq1, m4, e3, ap _ hB3, -List.map_append]
        exact tu.nx _ _ ⟨b3, _, _, _, _, hB3, hP.snoc (v := v3) (by omega) (by omega), rfl, rfl⟩
    · rintro env s ⟨base, xs, x5, x6, x7, hB, hP, rfl, rfl⟩
      have hx : IsL (base ++ [.lst (xs.map nI)]) (.ref st.length) xs := isL_ref (by rw [← hB.len]; simp)
      have gz : ∀ S, gEq (nI xs.sum) (.int 0) S = .ok (.bl (decide (xs.sum = 0))) S := fun S => n_eq (b := 0)
      have at0 : ∀ {base tl}, Bas st r base → (base ++ tl)[st.length]? = tl[0]? := fun {base tl} h => by rw [← h.len]; simp
      have st0 : ∀ {base c c'}, Bas st r base → (base ++ [c]).set st.length c' = base ++ [c'] := fun {base c c'} h => by rw [← h.len]; simp
      /- the rest, for sides of at least one line -/
      have rest : ∀ base xs, Bas st r base → PreOk (2 + v1) (2 + v1) xs → 1 ≤ xs.sum → Post ((sSeq (sFor (iRng1 (aCons (mret (.int 40)) aNil)) (gNm 7)
            (sIf (mTest (op2 gGt (mFn sem__law_pairs [] (aCons (mVar 4) aNil)) (mVar 1)))
              (sSeq (sSet 5 (mMeth "list" gIndex (mVar 4) (aCons (mCall (gInts List.max?) (aCons (mVar 4) aNil)) aNil)))
                (sSubSet (mVar 4) (mVar 5) (op2 gSub (op2 gIx (mVar 4) (mVar 5)) (mret (.int 1)))))
              sNil))
          (sRet (mCall gTupOf (aCons (mVar 4) aNil)))) [some (.ref r), some (nI most), some (nI (2 + v1)), some (nI v2), some (.ref st.length), x5, x6, x7] (base ++ [.lst (xs.map nI)])) (FinJ 3 st.length st (SidesQ st r most)) := by
        intro base xs hB hP hone
        rw [s_seq]
        refine post_thn (post_r1 (n := 40) (fun k e s => ∃ ys x5 x7, PreOk (2 + v1) (2 + v1) ys ∧ 1 ≤ ys.sum ∧ (pairsI ys ≤ most ∨ ys.sum + k ≤ 10) ∧ e = [some (.ref r), some (nI most), some (nI (2 + v1)), some (nI v2), some (.ref st.length), x5, x6, x7] ∧ s = base ++ [.lst (ys.map nI)])
          rfl (by omega) ⟨xs, x5, x7, hP, hone, .inr hP.ten, rfl, rfl⟩ ?_ ?_)
        · rintro k env s J hk ⟨ys, x5, x7, hP, hone, hor, rfl, rfl⟩ tu
          have hy : IsL (base ++ [.lst (ys.map nI)]) (.ref st.length) ys := isL_ref (at0 hB)
          have hp := eq_pairs (.inr hy) (by have := hP.len; omega) (by have := hP.ten; omega)
          simp [hp]
          by_cases hm : most < pairsI ys
          · have htwo := sum_zero_pairs (xs := ys) (by omega)
            obtain ⟨m, j, g1, g2, hj, hnj, hmax⟩ := max_index hy (fun e => by subst e; simp at htwo)
            have hpos : 1 ≤ m := by
              apply Nat.le_of_not_lt
              intro h0
              have : ys.sum = 0 := by
                apply Nat.eq_zero_of_le_zero
                have : ∀ zs : List Nat, (∀ z ∈ zs, z ≤ m) → zs.sum ≤ zs.length * m := by
                  intro zs
                  induction zs with
                  | nil => intro _; simp
                  | cons z zs ih =>
                    intro hz
                    have h1 := hz z List.mem_cons_self
                    have h2 := ih fun z' h' => hz z' (List.mem_cons_of_mem _ h')
                    rw [List.sum_cons, List.length_cons, Nat.add_mul]
                    omega
                have h3 := this ys hmax
                have : m = 0 := by omega
                rw [this] at h3
                simpa using h3
              omega
            have hm4 : m ≤ 4 := by
              have := hP.each _ (nth_mem hj)
              omega
            have gi := hy.ix hj
            rw [hnj] at gi
            have ty1 : tyD (base ++ [.lst (ys.map nI)]) "list" (.ref st.length) = true := ty_ref (at0 hB)
            simp [hm, ty1, g1, g2]
            rw [sub_set (j := st.length) (i := (j : Nat)) (k := j) (v := nI (m - 1)) (xs := ys.map nI) (by simp [gi, n_sub1 hpos]) rfl rfl (at0 hB) rfl (by simpa using hj)]
            rw [st0 hB]
            simp only [post_ok]
            have hs := sum_set (xs := ys) (k := j) (v := m - 1) hj
            refine tu.nx _ _ ⟨ys.set j (m - 1), _, _, preOk_set hP hj (by omega) (by omega), by omega, ?_, rfl, by rw [List.map_set]⟩
            rcases hor with h1 | h1
            · omega
            · exact .inr (by omega)
          · simp [hm]
            exact tu.nx _ _ ⟨ys, _, _, hP, hone, .inl (by omega), rfl, rfl⟩
        · rintro env s ⟨ys, x5, x7, hP, hone, hor, rfl, rfl⟩
          have hy : IsL (base ++ [.lst (ys.map nI)]) (.ref st.length) ys := isL_ref (at0 hB)
          have ht : gTupOf [.ref st.length] (base ++ [.lst (ys.map nI)]) = .ok (nT ys) (base ++ [.lst (ys.map nI)]) := by
            simp [gTupOf, hy.seq, nT]
          simp [ht]
          have hlen := hP.len
          refine fin_bas hB pure_nT ⟨ys, rfl, hB, ⟨by omega, by omega, hP.each, hone, hP.ten⟩, ?_⟩
          have := hP.ten
          omega
      simp [hx.sum, gz]
      by_cases hz : xs.sum = 0
      · have hlen := hP.len
        obtain ⟨v4, b4, e4, hv4, hB4⟩ := eq_tak (tl := [.lst (xs.map nI)]) (n := 4) (d := .int 4) hB rfl (by decide) (by decide)
        obtain ⟨v5, b5, e5, hv5, hB5⟩ := eq_tak (tl := [.lst (xs.map nI)]) (n := 2 + v1) (d := nI (2 + v1)) hB4 rfl (by omega) (by omega)
        have a4 : ∀ st, gAdd (.int 1) (nI v4) st = .ok (nI (1 + v4)) st := fun st => n_add (a := 1)
        have hset : stSub (.ref st.length) (nI v5) (nI (1 + v4)) (b5 ++ [.lst (xs.map nI)]) = some (b5 ++ [.lst ((xs.set v5 (1 + v4)).map nI)]) := by
          have e6 : nI v5 = .int (v5 : Int) := rfl
          have e7 : ixN (xs.map nI).length (v5 : Int) = some v5 := ixN_nat (by simp; omega)
          simp only [stSub, e6, cellL, at0 hB5, List.getElem?_cons_zero, e7, Option.map_some, st0 hB5, List.map_set]
        have hss : sSubSet (mVar 4) (mFn sem__law_taken [] (aCons (mVar 0) (aCons (mVar 2) aNil))) (op2 gAdd (mret (.int 1)) (mFn sem__law_taken [] (aCons (mVar 0) (aCons (mret (.int 4)) aNil)))) [some (.ref r), some (nI most), some (nI (2 + v1)), some (nI v2), some (.ref st.length), x5, x6, x7] (base ++ [.lst (xs.map nI)]) = .ok .nx [some (.ref r), some (nI most), some (nI (2 + v1)), some (nI v2), some (.ref st.length), x5, x6, x7] (b5 ++ [.lst ((xs.set v5 (1 + v4)).map nI)]) := by
          simp [sSubSet, e4, a4, e5, hset]
        simp [hz, hss, -s_seq, -List.map_set]
        have hs := sum_set (xs := xs) (k := v5) (v := 1 + v4) (by omega)
        have hn := le_sum (nth_mem (xs := xs) (k := v5) (by omega))
        exact rest b5 _ hB5 (preOk_set hP (by omega) (by omega) (by omega)) (by omega)
      · simp [hz, -s_seq]
        exact rest base xs hB hP (by omega)
  obtain ⟨d, s, e, sides, rfl, h1, h2, h3⟩ := key
  exact ⟨sides, s, e, h1, h2, h3⟩
end LZ

set_option maxRecDepth 100000
set_option maxHeartbeats 1000000
namespace LZ
open PySem PySem.Spec PyProof.Rows L2 RR
/-! ### how many crossings are left -/
def ups : List Nat → Nat
  | [] => 0
  | x :: l => (l.countP fun y => decide (x < y)) + ups l
theorem ups_swap {x y : Nat} (h : x < y) (B : List Nat) : ∀ (A : List Nat), ups (A ++ x :: y :: B) = ups (A ++ y :: x :: B) + 1
  | [] => by
    have h' : ¬ y < x := by omega
    simp only [List.nil_append, ups, List.countP_cons]
    simp [h, h']
    omega
  | a :: A => by
    have ih := ups_swap h B A
    simp only [List.cons_append, ups, List.countP_append, List.countP_cons]
    rw [ih]
    omega
def asc (l : List Nat) (p : Nat) : Prop := p + 2 ≤ l.length ∧ nthN l p < nthN l (p + 1)
theorem nth_get {l : List Nat} {p : Nat} (h : p < l.length) : nthN l p = l[p] := by simp [nthN, h]
theorem split_two {l : List Nat} {p : Nat} (h : p + 2 ≤ l.length) : l = l.take p ++ nthN l p :: nthN l (p + 1) :: l.drop (p + 2) := by
  have h1 : l.drop p = nthN l p :: l.drop (p + 1) := by
    rw [List.drop_eq_getElem_cons (by omega), nth_get (by omega)]
  have h2 : l.drop (p + 1) = nthN l (p + 1) :: l.drop (p + 2) := by
    rw [List.drop_eq_getElem_cons (by omega), nth_get (by omega)]
  rw [← h2, ← h1, List.take_append_drop]
theorem ups_pos {l : List Nat} {p : Nat} (h : asc l p) : 0 < ups l := by
  rw [split_two h.1, ups_swap h.2]
  omega
theorem no_asc : ∀ (l : List Nat), (∀ p, ¬ asc l p) → ups l = 0 ∧ ∀ x ∈ l.tail, x ≤ nthN l 0
  | [], _ => ⟨rfl, fun x h => by cases h⟩
  | [a], _ => ⟨rfl, fun x h => by cases h⟩
  | a :: b :: l, h => by
    have ih := no_asc (b :: l) (fun p hp => h (p + 1) ⟨by have := hp.1; simp at this ⊢; omega, by have := hp.2; simpa [nthN] using this⟩)
    have hab : b ≤ a := by
      apply Nat.le_of_not_lt
      intro z
      exact h 0 ⟨by simp, by simpa [nthN] using z⟩
    have e0 : nthN (b :: l) 0 = b := rfl
    have e1 : nthN (a :: b :: l) 0 = a := rfl
    rw [e0] at ih
    have hall : ∀ x ∈ b :: l, x ≤ a := by
      intro x hx
      rcases List.mem_cons.mp hx with rfl | hx
      · exact hab
      · exact Nat.le_trans (ih.2 x hx) hab
    refine ⟨?_, by rw [e1]; exact hall⟩
    simp only [ups] at ih ⊢
    have : (List.countP (fun y => decide (a < y)) (b :: l)) = 0 := by
      rw [List.countP_eq_zero]
      intro x hx
      have := hall x hx
      simp
      omega
    omega
theorem has_asc {l : List Nat} (h : 0 < ups l) : ∃ p, asc l p := by
  by_cases e : ∃ p, asc l p
  · exact e
  · have := (no_asc l fun p hp => e ⟨p, hp⟩).1
    omega
theorem map_nth (ow l : List Nat) {p : Nat} (h : p < l.length) : nthN (l.map (nthN ow)) p = nthN ow (nthN l p) := by
  rw [nth_get (by simpa using h), nth_get h, List.getElem_map]
theorem canLay_asc {ow l : List Nat} {p : Nat} (h : l.length = ow.length) : canLay ow l p = true ↔ asc (l.map (nthN ow)) p := by
  unfold canLay asc
  simp only [Bool.and_eq_true, decide_eq_true_eq, List.length_map, h]
  constructor
  · rintro ⟨h1, h2⟩
    exact ⟨h1, by rw [map_nth _ _ (by omega), map_nth _ _ (by omega)]; exact h2⟩
  · rintro ⟨h1, h2⟩
    rw [map_nth _ _ (by omega), map_nth _ _ (by omega)] at h2
    exact ⟨h1, h2⟩
theorem ups_lay {ow l : List Nat} {p : Nat} (hl : l.length = ow.length) (h : canLay ow l p = true) : ups (l.map (nthN ow)) = ups ((swapAt l p).map (nthN ow)) + 1 := by
  have ha := (canLay_asc hl).mp h
  have h1 := ha.1
  have h2 := ha.2
  rw [map_nth _ _ (by simp at h1; omega), map_nth _ _ (by simp at h1; omega)] at h2
  have e : (swapAt l p).map (nthN ow) = (l.take p).map (nthN ow) ++ nthN ow (nthN l (p + 1)) :: nthN ow (nthN l p) :: (l.drop (p + 2)).map (nthN ow) := by
    simp [swapAt]
  have e2 : l.map (nthN ow) = (l.take p).map (nthN ow) ++ nthN ow (nthN l p) :: nthN ow (nthN l (p + 1)) :: (l.drop (p + 2)).map (nthN ow) := by
    conv => lhs; rw [split_two (l := l) (p := p) (by simpa using h1)]
    simp
  rw [e, e2, ups_swap h2]
theorem isOver_iff {ow l : List Nat} (hl : l.length = ow.length) : isOver ow l = true ↔ ups (l.map (nthN ow)) = 0 := by
  unfold isOver
  simp only [Bool.not_eq_true', List.any_eq_false, List.mem_range]
  constructor
  · intro h
    exact (no_asc _ fun p hp => by
      have := (canLay_asc hl).mpr hp
      have h1 := canLay_lt this
      exact h p (by omega) this).1
  · intro h p _ hc
    have := ups_pos ((canLay_asc hl).mp hc)
    omega
theorem ups_block (n m : Nat) (l : List Nat) (h : ∀ x ∈ l, m < x) : ups (List.replicate n m ++ l) = n * l.length + ups l := by
  induction n with
  | zero => simp
  | succ n ih =>
    rw [List.replicate_succ, List.cons_append, ups, ih, List.countP_append]
    have e1 : (List.replicate n m).countP (fun y => decide (m < y)) = 0 := by
      rw [List.countP_eq_zero]
      intro x hx
      have := List.eq_of_mem_replicate hx
      simp
      omega
    have e2 : l.countP (fun y => decide (m < y)) = l.length := by
      rw [List.countP_eq_length]
      intro x hx
      simpa using h x hx
    rw [e1, e2, Nat.add_mul]
    omega
theorem ups_owners : ∀ (sides : List Nat) (m : Nat), 2 * ups ((sides.zipIdx m).map fun p => List.replicate p.1 p.2).flatten + (sides.map fun n => n * n).sum = sides.sum * sides.sum ∧ (∀ x ∈ ((sides.zipIdx m).map fun p => List.replicate p.1 p.2).flatten, m ≤ x) ∧ ((sides.zipIdx m).map fun p => List.replicate p.1 p.2).flatten.length = sides.sum
  | [], m => ⟨rfl, fun x h => by simp at h, rfl⟩
  | n :: sides, m => by
    obtain ⟨h1, h2, h3⟩ := ups_owners sides (m + 1)
    simp only [List.zipIdx_cons, List.map_cons, List.flatten_cons, List.sum_cons]
    refine ⟨?_, ?_, ?_⟩
    · rw [ups_block _ _ _ (fun x hx => h2 x hx), h3]
      have e : (n + sides.sum) * (n + sides.sum) = n * n + 2 * (n * sides.sum) + sides.sum * sides.sum := by
        rw [Nat.add_mul, Nat.mul_add, Nat.mul_add, Nat.mul_comm sides.sum n]
        omega
      rw [e, Nat.mul_add]
      omega
    · intro x hx
      rw [List.mem_append] at hx
      rcases hx with hx | hx
      · have := List.eq_of_mem_replicate hx
        omega
      · have := h2 x hx
        omega
    · rw [List.length_append, List.length_replicate, h3]
theorem ups_pairs (sides : List Nat) : ups (owners sides) = pairsI sides := by
  have h := (ups_owners sides 0).1
  unfold pairsI owners
  omega
theorem range_map (ow : List Nat) : (List.range ow.length).map (nthN ow) = ow := by
  apply List.ext_getElem
  · simp
  · intro i h1 h2
    simp [nthN]
    rw [List.getElem?_eq_getElem h2]
    rfl
def okPre (ow : List Nat) : List Nat → List Nat → Bool
  | _, [] => true
  | l, p :: row => canLay ow l p && okPre ow (swapAt l p) row
theorem okPre_snoc {ow p} : ∀ {row l : List Nat}, okPre ow l row = true → canLay ow (lineAt l row) p = true → okPre ow l (row ++ [p]) = true
  | [], l, _, h => by simpa [okPre] using h
  | q :: row, l, h, h' => by
    simp only [List.cons_append, okPre, Bool.and_eq_true] at h ⊢
    exact ⟨h.1, okPre_snoc (row := row) h.2 h'⟩
theorem okRow_of {ow} : ∀ {row l : List Nat}, okPre ow l row = true → isOver ow (lineAt l row) = true → okRow ow l row = true
  | [], l, _, h => h
  | q :: row, l, h, h' => by
    simp only [okPre, Bool.and_eq_true] at h
    simp only [okRow, h.1, Bool.true_and]
    exact okRow_of (row := row) h.2 h'
theorem okPre_line {ow} : ∀ {row l : List Nat}, LineOk ow.length l → okPre ow l row = true → LineOk ow.length (lineAt l row)
  | [], l, h, _ => h
  | q :: row, l, h, h' => by
    simp only [okPre, Bool.and_eq_true] at h'
    exact okPre_line (row := row) (h.swap (canLay_lt h'.1)) h'.2
end LZ

set_option maxRecDepth 100000
set_option maxHeartbeats 1000000
namespace LZ
open PySem PySem.Spec PyProof.Rows L2 RR
def AnyQ (sides : List Nat) (st : Store) (r : Nat) (d : D) (s : Store) : Prop := ∃ row, d = nL row ∧ Bas st r s ∧ RowOk sides row ∧ row.length = pairsI sides
theorem g_ix0 {xs : List Nat} {st : Store} (h : xs ≠ []) : ∃ x ∈ xs, gIx (nL xs) (.int 0) st = .ok (nI x) st := by
  have hl : 0 < xs.length := List.length_pos_iff.mpr h
  exact ⟨nthN xs 0, nth_mem hl, n_ixL (k := 0) hl⟩
theorem g_ixm {xs : List Nat} {st : Store} (h : xs ≠ []) : ∃ x ∈ xs, gIx (nL xs) (.int (-1)) st = .ok (nI x) st := by
  have hl : 0 < xs.length := List.length_pos_iff.mpr h
  refine ⟨nthN xs (xs.length - 1), nth_mem (by omega), ?_⟩
  have e : atI (xs.map nI) (-1) = some (nI (nthN xs (xs.length - 1))) := by
    have e1 : ixN xs.length (-1) = some (xs.length - 1) := by
      unfold ixN
      rw [if_neg (by omega), if_pos (by omega)]
      congr 1
      omega
    unfold atI
    rw [List.length_map, e1]
    exact get_at (by omega)
  simp [gIx, nL, itemsOf, seqOf, e]
theorem eq_any {sides : List Nat} {st : Store} {r : Nat} {c : Cell} (h : st[r]? = some c) (hc : RowCell c) (hs : SidesOk sides) : ∃ row base, sem__law_any [.ref r, nT sides] st = .ok (nL row) base ∧ Bas st r base ∧ RowOk sides row ∧ row.length = pairsI sides := by
  have key : Ok1 (sem__law_any [.ref r, nT sides] st) (AnyQ sides st r) := by
    have hl := len_owners sides
    have h10 := hs.ten
    have h4 := hs.four
    have hpairs : pairsI sides ≤ 100 := by
      unfold pairsI
      have : sides.sum * sides.sum ≤ 10 * 10 := Nat.mul_le_mul h10 h10
      omega
    refine semB_post rfl ?_
    unfold b__law_any
    simp only [env0, List.map_cons, List.map_nil, List.length_cons, List.length_nil, Nat.reduceAdd, Nat.reduceSub, List.cons_append, List.nil_append, List.reduceReplicate]
    have hB := Bas.refl h hc
    obtain ⟨v1, b1, e1, hv1, hB1⟩ := eq_tak (tl := [.lst []]) (n := 4) (d := .int 4) hB rfl (by decide) (by decide)
    rw [s_seq]
    simp [eq_law_owner st (show sides.length ≤ 100 by omega) (show sides.sum ≤ 1000 by omega), g_rgF (show (owners sides).length ≤ 1000000 by omega), e1]
    have at0 : ∀ {base tl}, Bas st r base → (base ++ tl)[st.length]? = tl[0]? := fun {base tl} h => by rw [← h.len]; simp
    have st0 : ∀ {base c c'}, Bas st r base → (base ++ [c]).set st.length c' = base ++ [c'] := fun {base c c'} h => by rw [← h.len]; simp
    have hp := fun st => eq_pairs (st := st) (o := nT sides) (sides := sides) (.inl rfl) (by omega) (by omega)
    refine post_thn (post_r1 (n := pairsI sides) (fun k e s => ∃ base row x6 x7 x8, Bas st r base ∧ row.length = k ∧ okPre (owners sides) (List.range (owners sides).length) row = true ∧ ups ((lineAt (List.range (owners sides).length) row).map (nthN (owners sides))) + k = pairsI sides ∧ e = [some (.ref r), some (nT sides), some (nL (owners sides)), some (nL (lineAt (List.range (owners sides).length) row)), some (.ref st.length), some (nI v1), x6, x7, x8] ∧ s = base ++ [.lst (row.map nI)])
      (by simp [hp]) (by omega) ⟨b1, [], none, none, none, hB1, rfl, rfl, by show ups ((List.range (owners sides).length).map (nthN (owners sides))) + 0 = pairsI sides; rw [range_map, ups_pairs]; rfl, rfl, rfl⟩ ?_ ?_)
    · rintro k env s J hk ⟨base, row, x6, x7, x8, hB, hlen, hpre, hups, rfl, rfl⟩ tu
      have hline := okPre_line lineOk_range hpre
      generalize eL : lineAt (List.range (owners sides).length) row = l at *
      generalize eO : owners sides = ow at *
      have hll := hline.len
      /- the rest: a place drawn of those that serve -/
      have rest : ∀ base cs, Bas st r base → cs ≠ [] → (∀ p ∈ cs, canLay ow l p = true) → cs.length ≤ 1000 → ∀ x8, Post ((sSeq (sSet 8 (op2 gIx (mVar 7) (mFn sem__law_taken [] (aCons (mVar 0) (aCons (mCall gLen (aCons (mVar 7) aNil)) aNil)))))
    (sSeq (sExpr (mMeth "list" gAppend (mVar 4) (aCons (mVar 8) aNil)))
    (sSet 3 (op2 gAdd (op2 gAdd (mSl (mVar 3) (mret none) (mPart (mVar 8))) (mLst (aCons (op2 gIx (mVar 3) (op2 gAdd (mVar 8) (mret (.int 1)))) (aCons (op2 gIx (mVar 3) (mVar 8)) aNil)))) (mSl (mVar 3) (mPart (op2 gAdd (mVar 8) (mret (.int 2)))) (mret none)))))) [some (.ref r), some (nT sides), some (nL ow), some (nL l), some (.ref st.length), some (nI v1), some (nI k), some (nL cs), x8] (base ++ [.lst (row.map nI)])) J := by
        intro base cs hB hne hall hcl x8
        have hcpos : 0 < cs.length := List.length_pos_iff.mpr hne
        obtain ⟨v2, b2, e2, hv2, hB2⟩ := eq_tak (tl := [.lst (row.map nI)]) (n := cs.length) (d := nI cs.length) hB rfl hcpos (by omega)
        have hcan := hall _ (nth_mem hv2)
        have hlt := canLay_lt hcan
        have ap : gAppend (.ref st.length) [nI (nthN cs v2)] (b2 ++ [.lst (row.map nI)]) = .ok .non (b2 ++ [.lst ((row ++ [nthN cs v2]).map nI)]) := by
          rw [m_append (at0 hB2) (by simp; omega), st0 hB2, List.map_append]
          rfl
        have ty1 : tyD (b2 ++ [.lst (row.map nI)]) "list" (.ref st.length) = true := ty_ref (at0 hB2)
        generalize ep : nthN cs v2 = p at *
        have x1 : ∀ S, gIx (nL l) (nI p) S = _ := fun S => n_ixL (by omega)
        have x2 : ∀ S, gIx (nL l) (nI (p + 1)) S = _ := fun S => n_ixL (by omega)
        have y1 : ∀ S, gIx (nL cs) (nI v2) S = .ok (nI p) S := fun S => by rw [n_ixL hv2, ep]
        have s1 : ∀ S, gSl (nL l) none (some (p : Int)) S = .ok (nL (l.take p)) S := fun S => sl_to (by omega)
        have s2 : ∀ S, gSl (nL l) (some ((p + 2 : Nat) : Int)) none S = .ok (nL (l.drop (p + 2))) S := fun S => sl_from (by omega)
        have ad1 : ∀ S, gAdd (nL (l.take p)) (.lst [nI (nthN l (p + 1)), nI (nthN l p)]) S = .ok (nL (l.take p ++ [nthN l (p + 1), nthN l p])) S := fun S => by
          unfold nL
          rw [g_addL, if_pos (by rw [sizeLine_eq]; simp; omega), List.map_append]
          rfl
        have ad2 : ∀ S, gAdd (nL (l.take p ++ [nthN l (p + 1), nthN l p])) (nL (l.drop (p + 2))) S = .ok (nL (swapAt l p)) S := fun S => by
          unfold nL
          rw [g_addL, if_pos (by rw [sizeLine_eq]; simp; omega), ← List.map_append]
          rfl
        simp [e2, y1, ty1, ap, x1, x2, s1, s2, ad1, ad2, -Int.natCast_add, -List.map_append]
        have hu := ups_lay hll hcan
        have eS : lineAt (List.range ow.length) (row ++ [p]) = swapAt l p := by
          show (row ++ [p]).foldl swapAt _ = _
          rw [List.foldl_append]
          show swapAt (lineAt (List.range ow.length) row) p = _
          rw [eL]
        refine tu.nx _ _ ⟨b2, row ++ [p], some (nI k), some (nL cs), some (nI p), hB2, by simp [hlen], okPre_snoc hpre (by rw [eL]; exact hcan), by rw [eS]; omega, by rw [eS], rfl⟩
      have hgt : ∀ S, gGt (nI v1) (.int 1) S = .ok (.bl (decide (1 < v1))) S := fun S => n_gt (b := 1)
      have hcs : ∃ p, canLay ow l p = true := by
        obtain ⟨p, hp⟩ := has_asc (l := l.map (nthN ow)) (by omega)
        exact ⟨p, (canLay_asc hll).mpr hp⟩
      have hall : ∀ p ∈ (List.range l.length).filter (canLay ow l), canLay ow l p = true := fun p hp => (List.mem_filter.mp hp).2
      have hne : (List.range l.length).filter (canLay ow l) ≠ [] := by
        obtain ⟨p, hp⟩ := hcs
        have := canLay_lt hp
        exact List.ne_nil_of_mem (List.mem_filter.mpr ⟨List.mem_range.mpr (by omega), hp⟩)
      have hcl : ((List.range l.length).filter (canLay ow l)).length ≤ 1000 := Nat.le_trans (List.length_filter_le _ _) (by simp; omega)
      simp only [s_nm, List.set_cons_succ, List.set_cons_zero, post_ok, toB_nx]
      rw [s_seq, s_set, mLc_r1 (n := l.length) (canLay ow l) nI (by simp) (by omega) (fun p hp acc => ⟨_, by simp [wipeE]; rfl, by simp [eq_law_can hline], fun _ => by simp⟩) (fun _ _ _ => below_nI)]
      have ecs : D.lst (((List.range l.length).filter (canLay ow l)).map nI) = nL ((List.range l.length).filter (canLay ow l)) := rfl
      rw [ecs]
      generalize ec : (List.range l.length).filter (canLay ow l) = cs at *
      simp only [thn_ok, List.set_cons_succ, List.set_cons_zero]
      rw [s_seq]
      by_cases hv : 1 < v1
      · obtain ⟨v2, b2, e2, hv2, hB2⟩ := eq_tak (tl := [.lst (row.map nI)]) (n := 9) (d := .int 9) hB rfl (by decide) (by decide)
        have hgt2 : ∀ S, gGt (nI v2) (.int 0) S = .ok (.bl (decide (0 < v2))) S := fun S => n_gt (b := 0)
        by_cases hv2 : 0 < v2
        · obtain ⟨x, hx, ex⟩ : ∃ x ∈ cs, gIx (nL cs) (.int (0 - (v1 : Int) % 2)) (b2 ++ [.lst (row.map nI)]) = .ok (nI x) (b2 ++ [.lst (row.map nI)]) := by
            have : (v1 : Int) % 2 = 0 ∨ (v1 : Int) % 2 = 1 := by omega
            rcases this with h | h
            · rw [h]
              exact g_ix0 hne
            · rw [h]
              exact g_ixm hne
          have em : ∀ S, gMod (nI v1) (.int 2) S = .ok (.int ((v1 : Int) % 2)) S := fun S => rfl
          have es : ∀ (i : Int) S, gSub (.int 0) (.int i) S = .ok (.int (0 - i)) S := fun i S => rfl
          have hif : sIf (tAnd2 (mTest (op2 gGt (mVar 5) (mret (.int 1)))) (mTest (op2 gGt (mFn sem__law_taken [] (aCons (mVar 0) (aCons (mret (.int 9)) aNil))) (mret (.int 0))))) (sSet 7 (mLst (aCons (op2 gIx (mVar 7) (op2 gSub (mret (.int 0)) (op2 gMod (mVar 5) (mret (.int 2))))) aNil))) sNil [some (.ref r), some (nT sides), some (nL ow), some (nL l), some (.ref st.length), some (nI v1), some (nI k), some (nL cs), x8] (base ++ [.lst (row.map nI)]) = .ok .nx [some (.ref r), some (nT sides), some (nL ow), some (nL l), some (.ref st.length), some (nI v1), some (nI k), some (nL [x]), x8] (b2 ++ [.lst (row.map nI)]) := by
            simp [hgt, hv, e2, hgt2, hv2, em, -g_I, -g_I0]
            rw [es, a_bind_ok, ex]
            rfl
          rw [hif, thn_ok]
          exact rest b2 [x] hB2 (by simp) (fun p hp => by rw [List.mem_singleton] at hp; rw [hp]; exact hall x hx) (by simp) x8
        · have hif : sIf (tAnd2 (mTest (op2 gGt (mVar 5) (mret (.int 1)))) (mTest (op2 gGt (mFn sem__law_taken [] (aCons (mVar 0) (aCons (mret (.int 9)) aNil))) (mret (.int 0))))) (sSet 7 (mLst (aCons (op2 gIx (mVar 7) (op2 gSub (mret (.int 0)) (op2 gMod (mVar 5) (mret (.int 2))))) aNil))) sNil [some (.ref r), some (nT sides), some (nL ow), some (nL l), some (.ref st.length), some (nI v1), some (nI k), some (nL cs), x8] (base ++ [.lst (row.map nI)]) = .ok .nx [some (.ref r), some (nT sides), some (nL ow), some (nL l), some (.ref st.length), some (nI v1), some (nI k), some (nL cs), x8] (b2 ++ [.lst (row.map nI)]) := by
            simp [hgt, hv, e2, hgt2, hv2]
          rw [hif, thn_ok]
          exact rest b2 cs hB2 hne hall hcl x8
      · have hif : sIf (tAnd2 (mTest (op2 gGt (mVar 5) (mret (.int 1)))) (mTest (op2 gGt (mFn sem__law_taken [] (aCons (mVar 0) (aCons (mret (.int 9)) aNil))) (mret (.int 0))))) (sSet 7 (mLst (aCons (op2 gIx (mVar 7) (op2 gSub (mret (.int 0)) (op2 gMod (mVar 5) (mret (.int 2))))) aNil))) sNil [some (.ref r), some (nT sides), some (nL ow), some (nL l), some (.ref st.length), some (nI v1), some (nI k), some (nL cs), x8] (base ++ [.lst (row.map nI)]) = .ok .nx [some (.ref r), some (nT sides), some (nL ow), some (nL l), some (.ref st.length), some (nI v1), some (nI k), some (nL cs), x8] (base ++ [.lst (row.map nI)]) := by
          simp [hgt, hv]
        rw [hif, thn_ok]
        exact rest base cs hB hne hall hcl x8
    · rintro env s ⟨base, row, x6, x7, x8, hB, hlen, hpre, hups, rfl, rfl⟩
      have hline := okPre_line lineOk_range hpre
      simp
      exact fin_basl hB (pures_nI row) ⟨row, rfl, hB, ⟨okRow_of hpre ((isOver_iff hline.len).mpr (by omega)), by omega⟩, hlen⟩
  obtain ⟨d, s, e, row, rfl, h1, h2, h3⟩ := key
  exact ⟨row, s, e, h1, h2, h3⟩
end LZ

set_option maxRecDepth 100000
set_option maxHeartbeats 1000000
namespace LZ
open PySem PySem.Spec PyProof.Rows L2 RR
abbrev LozL := Nat × Nat × Nat × List Nat × List Nat
def laidL : List Nat → List Nat → List LozL
  | _, [] => []
  | l, p :: row => (nthN l p, nthN l (p + 1), p, l.take p, l.drop (p + 2)) :: laidL (swapAt l p) row
def encY (y : LozL) : D := .tup [nI y.1, nI y.2.1, nI y.2.2.1, nL y.2.2.2.1, nL y.2.2.2.2]
theorem laidL_snoc {p} : ∀ {row l : List Nat}, laidL l (row ++ [p]) = laidL l row ++ [(nthN (lineAt l row) p, nthN (lineAt l row) (p + 1), p, (lineAt l row).take p, (lineAt l row).drop (p + 2))]
  | [], l => rfl
  | q :: row, l => by
    simp only [List.cons_append, laidL, laidL_snoc (row := row) (l := swapAt l q)]
    rfl
theorem laidL_len : ∀ {row l : List Nat}, (laidL l row).length = row.length
  | [], _ => rfl
  | _ :: row, _ => by simp [laidL, laidL_len (row := row)]
theorem laidL_walk {ow m} : ∀ {row l : List Nat}, (laidL l row).map (fun y => (y.1, y.2.1, y.2.2.1, footOf ow m y.2.2.2.1)) = walk ow m l row
  | [], _ => rfl
  | _ :: row, _ => by simp only [laidL, walk, List.map_cons, laidL_walk (row := row)]
theorem pure_encY {y : LozL} : Pure (encY y) := pure_tup (pures_cons pure_nI (pures_cons pure_nI (pures_cons pure_nI (pures_cons pure_nL (pures_cons pure_nL pures_nil)))))
theorem eq_law_laid {sides row : List Nat} {o : D} {st : Store} (hs : SidesOk sides) (hr : RowOk sides row) (ho : IsL st o row) : sem__law_laid [nT sides, o] st = .ok (.lst ((laidL (List.range (owners sides).length) row).map encY)) st := by
  have hl := len_owners sides
  have h10 := hs.ten
  have hrl := hr.len
  have hOk := fun k => lineAt_ok lineOk_range hr.ok k
  refine semB_eq rfl ?_
  unfold b__law_laid
  simp only [env0, List.map_cons, List.map_nil, List.length_cons, List.length_nil, Nat.reduceAdd, Nat.reduceSub, List.cons_append, List.nil_append, List.reduceReplicate]
  rw [s_seq]
  simp [n_sumT, g_rgF (show sides.sum ≤ 1000000 by omega)]
  rw [← hl]
  refine post_thn (post_s (d := o) row nI (fun k e s => ∃ x4 x5 x6, e = [some (nT sides), some o, some (nL (lineAt (List.range (owners sides).length) (row.take k))), some (.ref st.length), x4, x5, x6] ∧ s = st ++ [.lst ((laidL (List.range (owners sides).length) (row.take k)).map encY)])
    ((ho.app _).itL rfl) (by omega) ⟨none, none, none, rfl, rfl⟩ ?_ ?_ ?_)
  · rintro k env s hk ⟨x4, x5, x6, rfl, rfl⟩
    exact (ho.app _).seq
  · rintro k p env s J hk ⟨x4, x5, x6, rfl, rfl⟩ tu
    have hline := hOk k
    have hcan := okRow_get hr.ok hk
    have hlt := canLay_lt hcan
    have eN1 := take_snoc hk
    have hlen : (laidL (List.range (owners sides).length) (row.take k)).length ≤ 10000 := by rw [laidL_len]; simp; omega
    have eS : lineAt (List.range (owners sides).length) (row.take (k + 1)) = swapAt (lineAt (List.range (owners sides).length) (row.take k)) p := by
      rw [eN1]
      show (row.take k ++ [p]).foldl swapAt _ = _
      rw [List.foldl_append]
      rfl
    have eZ := laidL_snoc (p := p) (row := row.take k) (l := List.range (owners sides).length)
    rw [← eN1] at eZ
    generalize eL : lineAt (List.range (owners sides).length) (row.take k) = l at *
    have hll := hline.len
    have x1 : ∀ S, gIx (nL l) (nI p) S = _ := fun S => n_ixL (by omega)
    have x2 : ∀ S, gIx (nL l) (nI (p + 1)) S = _ := fun S => n_ixL (by omega)
    have s1 : ∀ S, gSl (nL l) none (some (p : Int)) S = .ok (nL (l.take p)) S := fun S => sl_to (by omega)
    have s2 : ∀ S, gSl (nL l) (some ((p + 2 : Nat) : Int)) none S = .ok (nL (l.drop (p + 2))) S := fun S => sl_from (by omega)
    have ad1 : ∀ S, gAdd (nL (l.take p)) (.lst [nI (nthN l (p + 1)), nI (nthN l p)]) S = .ok (nL (l.take p ++ [nthN l (p + 1), nthN l p])) S := fun S => by
      unfold nL
      rw [g_addL, if_pos (by rw [sizeLine_eq]; simp; omega), List.map_append]
      rfl
    have ad2 : ∀ S, gAdd (nL (l.take p ++ [nthN l (p + 1), nthN l p])) (nL (l.drop (p + 2))) S = .ok (nL (swapAt l p)) S := fun S => by
      unfold nL
      rw [g_addL, if_pos (by rw [sizeLine_eq]; simp; omega), ← List.map_append]
      rfl
    have ty1 : tyD (st ++ [.lst ((laidL (List.range (owners sides).length) (row.take k)).map encY)]) "list" (.ref st.length) = true := ty_ref (by simp; rfl)
    have ap : gAppend (.ref st.length) [.tup [nI (nthN l p), nI (nthN l (p + 1)), nI p, nL (l.take p), nL (l.drop (p + 2))]] (st ++ [.lst ((laidL (List.range (owners sides).length) (row.take k)).map encY)]) = .ok .non (st ++ [.lst ((laidL (List.range (owners sides).length) (row.take (k + 1))).map encY)]) := by
      rw [m_append (by simp; rfl) (by simp; omega), eZ, List.map_append]
      simp [encY]
    simp [x1, x2, ty1, s1, s2, ap, ad1, ad2, -Int.natCast_add]
    exact tu.nx _ _ ⟨_, _, _, by rw [eS], rfl⟩
  · rintro env s ⟨x4, x5, x6, rfl, rfl⟩
    rw [List.take_length]
    simp
    exact fin_lst (pures_map fun _ _ => pure_encY) (by simp)
/-! ### alike -/
@[simp] theorem g_eqB {neg a b : Bool} {st : Store} : gEqB neg (.bl a) (.bl b) st = .ok (.bl (if neg then !(a == b) else a == b)) st := by cases neg <;> cases a <;> cases b <;> rfl
structure SqD (st : Store) (d : D) (kind : Bool) (xs : List D) : Prop where
  isT : gIsi [d, .ty "tuple"] st = .ok (.bl kind) st
  isL : gIsi [d, .ty "list"] st = .ok (.bl (!kind)) st
  isB : gIsiT [d, .tup [.ty "tuple", .ty "list"]] st = .ok (.bl true) st
  len : gLen [d] st = .ok (nI xs.length) st
  ix : ∀ tl k (h : k < xs.length), gIx d (nI k) (st ++ tl) = .ok xs[k] (st ++ tl)
theorem sqD_tup {st : Store} {xs : List D} : SqD st (.tup xs) true xs :=
  ⟨by simp [gIsi, tyName, isTy, subTy], by simp [gIsi, tyName, isTy, subTy], by simp [gIsiT, tyName, isTy, subTy, anyTy], by simp [nI], fun tl k h => g_ix (j := k) (xs := xs) rfl rfl (by simp [h])⟩
theorem sqD_lst {st : Store} {xs : List D} : SqD st (.lst xs) false xs :=
  ⟨by simp [gIsi, tyName, isTy, subTy], by simp [gIsi, tyName, isTy, subTy], by simp [gIsiT, tyName, isTy, subTy, anyTy], by simp [nI], fun tl k h => g_ix (j := k) (xs := xs) rfl rfl (by simp [h])⟩
theorem sqD_ref {st : Store} {i : Nat} {xs : List D} (hi : st[i]? = some (.lst xs)) : SqD st (.ref i) false xs :=
  ⟨by simp [gIsi, tyName, isTy, subTy, hi], by simp [gIsi, tyName, isTy, subTy, hi], by simp [gIsiT, tyName, isTy, subTy, anyTy, hi], by rw [g_lenR hi]; rfl, fun tl k h => g_ix (j := k) (xs := xs) (items_ref (by rw [List.getElem?_append_left (List.getElem?_eq_some_iff.mp hi).1]; exact hi)) rfl (by simp [h])⟩
theorem alike_seq {n : Nat} {st : Store} {d e : D} {kind : Bool} {xs : List D} (hd : SqD st d kind xs) (he : SqD st e kind xs) (hl : xs.length ≤ 1000) (h : ∀ x ∈ xs, ∀ st, semr__law_alike n [x, x] st = .ok (.bl true) st) : semr__law_alike (n + 1) [d, e] st = .ok (.bl true) st := by
  refine semB_eq rfl ?_
  unfold b__law_alike
  simp only [env0, List.map_cons, List.map_nil, List.length_cons, List.length_nil, Nat.reduceAdd, Nat.reduceSub, List.cons_append, List.nil_append, List.reduceReplicate]
  have key : Post ((sSeq (sIf (tOr2 (mTest (op2 gNe (mCall gIsi (aCons (mVar 0) (aCons (mret (.ty "tuple")) aNil))) (mCall gIsi (aCons (mVar 1) (aCons (mret (.ty "tuple")) aNil))))) (tNot1 (mTest (mCall gIsiT (aCons (mVar 0) (aCons (mTup (aCons (mret (.ty "tuple")) (aCons (mret (.ty "list")) aNil))) aNil))))))
    (sRet (mret (.bl false)))
    sNil)
    (sSeq (sIf (mTest (op2 gNe (mCall gLen (aCons (mVar 0) aNil)) (mCall gLen (aCons (mVar 1) aNil))))
    (sRet (mret (.bl false)))
    sNil)
    (sRet (op2 gEq (mLeave 1 (mLcN (iRng1 (aCons (mCall gLen (aCons (mVar 1) aNil)) aNil)) (gNm 2) (tNot1 (mTest (mFn (semr__law_alike n) [] (aCons (op2 gIx (mVar 0) (mVar 2)) (aCons (op2 gIx (mVar 1) (mVar 2)) aNil))))) (mVar 2) [2])) (mLst aNil))))) [some d, some e, none] st) (fun fl _ s => ∃ x, fl = .rt x ∧ Ok1 (leave 3 (st.length + 0) st x s) fun d' s' => d' = .bl true ∧ s' = st) := by
    simp [hd.isT, he.isT, hd.isB, hd.len, he.len]
    rw [mLc_r1 (n := xs.length) (fun _ => false) (fun _ => .non) (by simp [he.len]) (by omega) (fun k hk acc => ⟨_, by simp [wipeE]; rfl, by simp [hd.ix _ k hk, he.ix _ k hk, h _ (List.getElem_mem hk)], fun h => by cases h⟩) (fun _ _ h => by cases h)]
    have ef : (List.range xs.length).filter (fun _ => false) = [] := by simp
    have eq0 : gEq (.lst []) (.lst []) st = .ok (.bl true) st := by
      have := g_eqL (neg := false) (xs := []) (ys := []) (st := st)
      simpa [nL] using this
    rw [ef]
    simp [eq0]
    exact fin_pure pure_bl (by simp)
  rw [s_seq]
  refine post_thn ?_
  have hif : ∀ (a b : MS) env, (env[1]? = some (some e)) → sIf (tOr2 (mTest (mCall gIsi (aCons (mVar 1) (aCons (mret (.ty "tuple")) aNil)))) (mTest (mCall gIsi (aCons (mVar 1) (aCons (mret (.ty "list")) aNil))))) a b env st = a env st := by
    intro a b env h1
    cases kind <;> simp [h1, he.isT, he.isL]
  rw [hif _ _ _ rfl]
  exact key.mono fun fl e s h => by
    obtain ⟨x, rfl, h⟩ := h
    exact h
theorem alike_int {n : Nat} {st : Store} {i : Int} : semr__law_alike (n + 1) [.int i, .int i] st = .ok (.bl true) st := by
  refine semB_eq rfl ?_
  unfold b__law_alike
  simp [env0, gIsi, tyName, isTy, subTy, gIsN]
  exact fin_pure pure_bl (by simp)
end LZ

set_option maxRecDepth 100000
set_option maxHeartbeats 1000000
namespace RR
open PySem PySem.Spec PyProof.Rows L2
/-! ### sorted -/
theorem reps_perm {W : Wd} {f : List Addr} {H : Hp} {vs ys : List V} {ds : List D} (p : ys.Perm vs) (r : Reps W f H vs ds) : ∃ es, Reps W f H ys es ∧ es.Perm ds := by
  induction p generalizing ds with
  | nil => cases r; exact ⟨[], .nil, .refl _⟩
  | cons x p ih =>
    cases r with
    | cons r1 r2 =>
      obtain ⟨es, h1, h2⟩ := ih r2
      exact ⟨_, .cons r1 h1, h2.cons _⟩
  | swap x y l =>
    cases r with
    | cons r1 r2 =>
      cases r2 with
      | cons r3 r4 => exact ⟨_, .cons r3 (.cons r1 r4), .swap _ _ _⟩
  | trans p1 p2 i1 i2 =>
    obtain ⟨es, h1, h2⟩ := i2 r
    obtain ⟨fs, h3, h4⟩ := i1 h1
    exact ⟨fs, h3, h4.trans h2⟩
theorem code_lt {B : Int} (hB : 0 < B) : ∀ {n : List Int}, TS.Bd B n → 0 ≤ TS.code B n ∧ TS.code B n < B ^ n.length
  | [], _ => ⟨Int.le_refl _, by simp [TS.code]⟩
  | d :: r, h => by
    have h1 := h.head
    have h2 := code_lt hB h.tail
    have hp : 0 < B ^ r.length := Int.pow_pos hB
    have h3 : 0 ≤ d * B ^ r.length := Int.mul_nonneg h1.1 (Int.le_of_lt hp)
    have h4 : (d + 1) * B ^ r.length ≤ B * B ^ r.length := Int.mul_le_mul_of_nonneg_right (by omega) (Int.le_of_lt hp)
    rw [Int.add_mul, Int.one_mul] at h4
    simp only [TS.code, List.length_cons, Int.pow_succ]
    rw [Int.mul_comm (B ^ r.length) B]
    omega
theorem code_inj {B : Int} (hB : 0 < B) : ∀ {n m : List Int}, n.length = m.length → TS.Bd B n → TS.Bd B m → TS.code B n = TS.code B m → n = m
  | [], [], _, _, _, _ => rfl
  | [], _ :: _, h, _, _, _ => by simp at h
  | _ :: _, [], h, _, _, _ => by simp at h
  | a :: r, b :: s, h, h1, h2, e => by
    have hl : r.length = s.length := by simpa using h
    have c1 := code_lt hB h1.tail
    have c2 := code_lt hB h2.tail
    simp only [TS.code] at e
    rw [hl] at e c1
    have hp : 0 < B ^ s.length := Int.pow_pos hB
    have hab : a = b := by
      by_cases q : a < b
      · have : (a + 1) * B ^ s.length ≤ b * B ^ s.length := Int.mul_le_mul_of_nonneg_right (by omega) (Int.le_of_lt hp)
        rw [Int.add_mul, Int.one_mul] at this
        omega
      · by_cases q2 : b < a
        · have : (b + 1) * B ^ s.length ≤ a * B ^ s.length := Int.mul_le_mul_of_nonneg_right (by omega) (Int.le_of_lt hp)
          rw [Int.add_mul, Int.one_mul] at this
          omega
        · omega
    subst hab
    rw [code_inj hB hl h1.tail h2.tail (by omega)]
def tupI : D → Option (List Int)
  | .tup xs => intsOf xs
  | _ => none
theorem tupI_eq {x : D} {n : List Int} (h : tupI x = some n) : x = .tup (n.map D.int) := by
  cases x with
  | tup xs => rw [intsOf_eq (show intsOf xs = some n from h)]
  | _ => cases h
def keyT (B : Int) (x : D) : Int := TS.code B ((tupI x).getD [])
def sortBy (key : D → Int) (ds : List D) : List D := ds.mergeSort fun a b => decide (key a ≤ key b)
theorem sortBy_perm {key : D → Int} {ds : List D} : (sortBy key ds).Perm ds := List.mergeSort_perm _ _
theorem sortBy_pw {key : D → Int} {ds : List D} : (sortBy key ds).Pairwise fun a b => key a ≤ key b := by
  have h := List.pairwise_mergeSort (le := fun a b => decide (key a ≤ key b)) (fun a b c h1 h2 => by simp at *; omega) (fun a b => by simp; omega) ds
  exact h.imp fun h => by simpa using h
theorem sortBy_uniq {key : D → Int} {ds es : List D} (hi : ∀ a ∈ ds, ∀ b ∈ ds, key a = key b → a = b) (p : es.Perm ds) (pw : es.Pairwise fun a b => key a ≤ key b) : es = sortBy key ds :=
  List.Perm.eq_of_pairwise (le := fun a b => key a ≤ key b) (fun a b ha hb h1 h2 => hi a (p.mem_iff.mp ha) b (sortBy_perm.mem_iff.mp hb) (Int.le_antisymm h1 h2)) pw sortBy_pw (p.trans sortBy_perm.symm)
/-- tuples of d counts below 1000 -/
def okTup (d : Nat) (x : D) : Bool := match tupI x with
  | some n => n.length == d && n.all fun i => decide (0 ≤ i) && decide (i < 1000)
  | none => false
def gSortT (d : Nat) (new : Bool) : List D → Store → Rs D
  | [x], st => match seqOf st x with
    | some ds => if ds.length < 64 ∧ ds.all (okTup d) = true then (if new then .ok (.ref st.length) (st ++ [.lst (sortBy (keyT 1000) ds)]) else .ok (.lst (sortBy (keyT 1000) ds)) st) else .no
    | none => .no
  | _, _ => .no
theorem okTup_at {d : Nat} {x : D} (h : okTup d x = true) : ∃ n, tupI x = some n ∧ n.length = d ∧ TS.Bd 1000 n := by
  unfold okTup at h
  split at h
  · rename_i n e
    simp only [Bool.and_eq_true, beq_iff_eq, List.all_eq_true, decide_eq_true_eq] at h
    exact ⟨n, e, h.1, fun m hm => h.2 m hm⟩
  · cases h
theorem tup_is {W : Wd} {f H} {v : V} {x : D} {n : List Int} (r : Rep W f H v x) (h : tupI x = some n) : TupI W.K H v n := by
  rw [tupI_eq h] at r
  obtain ⟨a, vs, rfl, h1, h2⟩ := r.tupS
  rw [h2.ints] at h1
  exact ⟨a, rfl, h1⟩
section
variable {X : Cx} {cl : Ctx} {Wx : WX} {p pos : Pos} {e o : Expr} {r : ME (List D)} {m : ME D}
theorem o_sortT {d : Nat} {new : Bool} : OpL X cl Wx (rSortU X.K d 1000) (gSortT d new) := by
  intro f H st σ xs us Q S rs h
  unfold gSortT at h
  split at h
  · obtain ⟨u, rfl, q⟩ := rs.one
    split at h
    · rename_i ds eq
      obtain ⟨a, vs, rfl, hp, rp⟩ := S.seq q eq
      split at h
      · rename_i hc
        obtain ⟨h64, hall⟩ := hc
        rw [List.all_eq_true] at hall
        refine ⟨a, vs, rfl, hp, by rw [rp.length]; exact h64, fun v hv => ?_, fun ys l hperm hpw hl => ?_⟩
        · obtain ⟨i, hi, e⟩ := List.mem_iff_getElem.mp hv
          obtain ⟨x, hx, rx⟩ := rp.getV (i := i) (v := v) (by simp [hi, e])
          obtain ⟨n, h1, h2, h3⟩ := okTup_at (hall x (List.mem_of_getElem? hx))
          exact ⟨n, tup_is rx h1, h2, h3⟩
        · obtain ⟨es, re, pe⟩ := reps_perm hperm rp
          have hes : es = sortBy (keyT 1000) ds := by
            refine sortBy_uniq (fun x hx y hy e => ?_) pe ?_
            · obtain ⟨n, h1, h2, h3⟩ := okTup_at (hall x hx)
              obtain ⟨k, h4, h5, h6⟩ := okTup_at (hall y hy)
              simp only [keyT, h1, h4, Option.getD_some] at e
              rw [tupI_eq h1, tupI_eq h4, code_inj (by decide) (h2.trans h5.symm) h3 h6 e]
            · rw [List.pairwise_iff_getElem] at hpw ⊢
              intro i j hi hj hij
              have li := re.length
              have hi' : i < ys.length := by omega
              have hj' : j < ys.length := by omega
              obtain ⟨x, hx, rx⟩ := re.getV (i := i) (v := ys[i]) (by simp)
              obtain ⟨y, hy, ry⟩ := re.getV (i := j) (v := ys[j]) (by simp)
              have ex : es[i] = x := by
                have := (List.getElem?_eq_some_iff.mp hx).2
                exact this
              have ey : es[j] = y := (List.getElem?_eq_some_iff.mp hy).2
              obtain ⟨n, h1, h2, h3⟩ := okTup_at (hall x (pe.mem_iff.mp (List.mem_of_getElem? hx)))
              obtain ⟨k, h4, h5, h6⟩ := okTup_at (hall y (pe.mem_iff.mp (List.mem_of_getElem? hy)))
              rw [ex, ey]
              simp only [keyT, h1, h4, Option.getD_some]
              exact hpw i j hi' hj' hij n k (tup_is rx h1) (tup_is ry h4)
          subst hes
          split at h
          · exact lay_cell (c := .lst (sortBy (keyT 1000) ds)) S (fun p hp => ⟨ys, upd_same, re.mono (Ext.cell S hp).lean⟩) h l hl
          · exact lay_lst S re h l hl
      · exact h.elim
    · exact h.elim
  · exact h.elim
theorem pv_sortT {d : Nat} {new : Bool} (hd : 1 ≤ d) (hg : Gl X "sorted") (hm : X.mg "sorted" = none) (ha : PVA X cl Wx [e] r) (he : starEach [e] X.env = (false, eval e X.env) :: starEach [] X.env := by rfl) : PV X cl Wx (.Call (.Name "sorted" p) [e] [] pos) (mCall (gSortT d new) r) :=
  pv_callB (cr_sortT hd) o_sortT hg hm (by decide +kernel) ha (he := he)
/-! ### sorted ints -/
def keyI : D → Int
  | .int i => i
  | _ => 0
def gSortI (new : Bool) : List D → Store → Rs D
  | [x], st => match seqOf st x with
    | some ds => match intsOf ds with
      | some _ => if new then .ok (.ref st.length) (st ++ [.lst (sortBy keyI ds)]) else .ok (.lst (sortBy keyI ds)) st
      | none => .no
    | none => .no
  | _, _ => .no
theorem o_sortI {new : Bool} : OpL X cl Wx (rSortedI X.K) (gSortI new) := by
  intro f H st σ xs us Q S rs h
  unfold gSortI at h
  split at h
  · obtain ⟨u, rfl, q⟩ := rs.one
    split at h
    · rename_i ds eq
      obtain ⟨a, vs, rfl, hp, rp⟩ := S.seq q eq
      split at h
      · rename_i ns en
        rw [intsOf_eq en] at rp
        have ev := rp.ints
        subst ev
        refine ⟨a, ns, rfl, hp, fun ns' l hperm hpw hl => ?_⟩
        have hes : ns'.map D.int = sortBy keyI ds := by
          rw [intsOf_eq en]
          refine sortBy_uniq (fun x hx y hy e => ?_) (hperm.map _) ?_
          · obtain ⟨i, _, rfl⟩ := List.mem_map.mp hx
            obtain ⟨j, _, rfl⟩ := List.mem_map.mp hy
            exact congrArg D.int e
          · rw [List.pairwise_map]
            exact hpw
        have re : Reps ⟨X.K, cl⟩ f H (ns'.map V.int) (sortBy keyI ds) := by
          rw [← hes]
          exact Reps.of_ints ns'
        split at h
        · exact lay_cell (c := .lst (sortBy keyI ds)) S (fun p hp => ⟨_, upd_same, re.mono (Ext.cell S hp).lean⟩) h l hl
        · exact lay_lst S re h l hl
      · exact h.elim
    · exact h.elim
  · exact h.elim
theorem pv_sortI {new : Bool} (hg : Gl X "sorted") (hm : X.mg "sorted" = none) (ha : PVA X cl Wx [e] r) (he : starEach [e] X.env = (false, eval e X.env) :: starEach [] X.env := by rfl) : PV X cl Wx (.Call (.Name "sorted" p) [e] [] pos) (mCall (gSortI new) r) :=
  pv_callB cr_sortedI o_sortI hg hm (by decide +kernel) ha (he := he)
/-! ### bit_length -/
def gBits : D → Store → Rs D
  | .int i, st => .ok (.int (Builtin.Int.intBits i : Nat)) st
  | _, _ => .no
theorem pv_bits {apos : Pos} (ho : PV X cl Wx o m) (hb : attributeBase o "bit_length" X.env (eval o X.env) = eval o X.env := by rfl) (hl : (apos.endLine == pos.line) = true := by rfl) : PV X cl Wx (.Call (.Attribute o "bit_length" apos) [] [] pos) (op1 gBits m) := by
  refine PE.imp (pe_bits ho hb hl) fun σ H Q h => ?_
  obtain ⟨f, env, st, S, N, h⟩ := h
  refine h.bind S N fun u H1 f1 x st1 A1 h1 => ?_
  unfold gBits at h1
  have rx := A1.rel
  split at h1
  · cases rx
    exact ⟨_, rfl, h1.okv A1.sim (.int _)⟩
  · exact h1.elim
end
end RR

set_option maxRecDepth 100000
set_option maxHeartbeats 1000000
namespace RR
open PySem PySem.Spec PyProof.Rows L2
/-! ### sets of bits -/
section
variable {a b k : Nat} {st : Store}
theorem or_nat (a b : Nat) : Builtin.bitOr (a : Int) (b : Int) = ((a ||| b : Nat) : Int) := by
  have h1 : ¬ (0 : Int) ≤ Builtin.bitNot (a : Int) := by simp [Builtin.bitNot]; omega
  have h2 : ¬ (0 : Int) ≤ Builtin.bitNot (b : Int) := by simp [Builtin.bitNot]; omega
  have h3 : ∀ x : Int, Builtin.bitNot (Builtin.bitNot x) = x := fun x => by simp only [Builtin.bitNot]; omega
  unfold Builtin.bitOr
  rw [bitAnd_nn h1 h2, h3, h3, h3, Int.toNat_natCast, Int.toNat_natCast]
@[simp] theorem n_or : gOr (nI a) (nI b) st = .ok (nI (a ||| b)) st := by simp [nI, or_nat]
theorem n_shl (h : k ≤ 1000000) : gShl (.int 1) (nI k) st = .ok (nI (2 ^ k)) st := by
  simp only [nI, g_I]
  rw [if_pos (by simp; omega)]
  simp
theorem n_shr : gShr (nI a) (nI k) st = .ok (nI (a / 2 ^ k)) st := by
  simp only [nI, g_I]
  rw [if_pos (by simp)]
  simp
theorem n_and1 : gAnd (nI a) (.int 1) st = .ok (nI (a % 2)) st := by
  simp [nI, bitAnd_m1]
theorem n_bits : gBits (nI a) st = .ok (nI (if a = 0 then 0 else a.log2 + 1)) st := by
  have e : Builtin.Int.intBits (a : Int) = if a = 0 then 0 else a.log2 + 1 := by
    unfold Builtin.Int.intBits
    by_cases h : a = 0
    · subst h; rfl
    · have h' : ((a : Int) == 0) = false := by
        rw [beq_eq_false_iff_ne]
        omega
      rw [h', if_neg h]
      simp
  simp only [nI, gBits, e]
end
end RR

set_option maxRecDepth 100000
set_option maxHeartbeats 4000000
namespace LZ
open PySem PySem.Spec PyProof.Rows L2 RR

abbrev N_Outline_bits_of : List Str := ["self", "threes", "found", "three"]
noncomputable def b_Outline_bits_of : MS :=
  (sSeq (sSet 2 (mret (.int 0)))
    (sSeq (sFor (iSeq (mVar 1)) (gNm 3)
    (sAug 2 Builtin.bitOr (op2 gShl (mret (.int 1)) (op2 gDget (op1 (gFld 0 "spot") (mVar 0)) (mVar 3)))))
    (sRet (mVar 2))))

noncomputable def sem_Outline_bits_of : List D → Store → Rs D := semB 3 0 2 N_Outline_bits_of b_Outline_bits_of
theorem ar_Outline_bits_of : HasArity 2 sem_Outline_bits_of := ar_B
theorem lv_Outline_bits_of : ∀ (ds : List D) (st0 : Store), ds.length = 2 → Leaves st0 (b_Outline_bits_of (env0 N_Outline_bits_of ds) st0) (sem_Outline_bits_of ds st0) := fun _ _ h => lv_B h

abbrev N_Outline_threes_of : List Str := ["self", "code", "number"]
noncomputable def b_Outline_threes_of : MS :=
  (sRet (mLcN (iRng1 (aCons (op1 gBits (mVar 1)) aNil)) (gNm 2) (mTest (op2 gEq (op2 gAnd (op2 gShr (mVar 1) (mVar 2)) (mret (.int 1))) (mret (.int 1)))) (op2 gIx (op1 (gFld 0 "threes") (mVar 0)) (mVar 2)) [2]))

noncomputable def sem_Outline_threes_of : List D → Store → Rs D := semB 3 1 2 N_Outline_threes_of b_Outline_threes_of
theorem ar_Outline_threes_of : HasArity 2 sem_Outline_threes_of := ar_B
theorem lv_Outline_threes_of : ∀ (ds : List D) (st0 : Store), ds.length = 2 → Leaves st0 (b_Outline_threes_of (env0 N_Outline_threes_of ds) st0) (sem_Outline_threes_of ds st0) := fun _ _ h => lv_B h

abbrev N_code_of : List Str := ["outline", "row", "walk", "found", "line", "other", "place", "foot", "above", "some", "middle", "three"]
noncomputable def b_code_of : MS :=
  (sSeq (sSet 2 (mMk 1 sem_Pass___init__ [] (aCons (mVar 0) aNil)))
    (sSeq (sSet 3 (mret (.int 0)))
    (sSeq (sFor (iSeq (op1 (gFld 1 "laid") (mFn sem_passed [] (aCons (mVar 0) (aCons (mVar 1) aNil))))) (gTp 4 (gsCons (gNm 4) (gsCons (gNm 5) (gsCons (gNm 6) (gsCons (gNm 7) gsNil)))))
    (sSeq (sSet 8 (mSl (op1 (gFld 1 "order") (mVar 2)) (mPart (op2 gAdd (mVar 6) (mret (.int 2)))) (mret none)))
    (sSeq (sSet 9 (mLeave 1 (mLcN (iSeq (mVar 8)) (gNm 10) (mTest (mChain gLt gLt (mVar 4) (mVar 10) (mVar 5))) (mTup (aCons (mVar 4) (aCons (mVar 10) (aCons (mVar 5) aNil)))) [10])))
    (sSeq (sAug 3 Builtin.bitOr (mMt 0 "bits_of" sem_Outline_bits_of [] (mVar 0) (aCons (mLeave 1 (mLcN (iSeq (mVar 9)) (gNm 11) (mTest (op2 (gDin false) (mVar 11) (op1 (gFld 0 "spot") (mVar 0)))) (mVar 11) [11])) aNil)))
    (sExpr (mMt 1 "lay" sem_Pass_lay [] (mVar 2) (aCons (mVar 6) aNil)))))))
    (sRet (mVar 3)))))

noncomputable def sem_code_of : List D → Store → Rs D := semB 3 0 2 N_code_of b_code_of
theorem ar_code_of : HasArity 2 sem_code_of := ar_B
theorem lv_code_of : ∀ (ds : List D) (st0 : Store), ds.length = 2 → Leaves st0 (b_code_of (env0 N_code_of ds) st0) (sem_code_of ds st0) := fun _ _ h => lv_B h

abbrev N_opened : List Str := ["sides", "row", "outline"]
noncomputable def b_opened : MS :=
  (sSeq (sExpr (mFn sem_need_sides [.int 0] (aCons (mVar 0) aNil)))
    (sSeq (sSet 2 (mLeave 2 (mMk 0 sem_Outline___init__ [] (aCons (mVar 0) aNil))))
    (sRet (mTup (aCons (mVar 2) (aCons (mFn sem_code_of [] (aCons (mVar 2) (aCons (mVar 1) aNil))) aNil))))))

noncomputable def sem_opened : List D → Store → Rs D := semB 3 0 2 N_opened b_opened
theorem ar_opened : HasArity 2 sem_opened := ar_B
theorem lv_opened : ∀ (ds : List D) (st0 : Store), ds.length = 2 → Leaves st0 (b_opened (env0 N_opened ds) st0) (sem_opened ds st0) := fun _ _ h => lv_B h

abbrev N_highs : List Str := ["sides", "row", "outline", "code"]
noncomputable def b_highs : MS :=
  (sSeq (sAsg (mFn sem_opened [] (aCons (mVar 0) (aCons (mVar 1) aNil))) (okNx (gTp 2 (gsCons (gNm 2) (gsCons (gNm 3) gsNil)))))
    (sRet (mMt 0 "threes_of" sem_Outline_threes_of [] (mVar 2) (aCons (mVar 3) aNil))))

noncomputable def sem_highs : List D → Store → Rs D := semB 3 1 2 N_highs b_highs
theorem ar_highs : HasArity 2 sem_highs := ar_B
theorem lv_highs : ∀ (ds : List D) (st0 : Store), ds.length = 2 → Leaves st0 (b_highs (env0 N_highs ds) st0) (sem_highs ds st0) := fun _ _ h => lv_B h

abbrev N__law_highs : List Str := ["_law_sides_here", "_law_told", "_law_owner_here", "_law_found", "_law_a", "_law_c", "_law_place", "_law_beneath", "_law_above", "_law_b"]
noncomputable def b__law_highs : MS :=
  (sSeq (sSet 2 (mFn sem__law_owner [] (aCons (mVar 0) aNil)))
    (sSeq (sSet 3 (mLst aNil))
    (sSeq (sFor (iSeq (mFn sem__law_laid [] (aCons (mVar 0) (aCons (mVar 1) aNil)))) (gTp 5 (gsCons (gNm 4) (gsCons (gNm 5) (gsCons (gNm 6) (gsCons (gNm 7) (gsCons (gNm 8) gsNil))))))
    (sSet 3 (op2 gAdd (mVar 3) (mLeave 1 (mLcN (iSeq (mVar 8)) (gNm 9) (tAnd2 (mTest (mChain gLt gLt (mVar 4) (mVar 9) (mVar 5))) (mTest (mChain gLt gLt (op2 gIx (mVar 2) (mVar 4)) (op2 gIx (mVar 2) (mVar 9)) (op2 gIx (mVar 2) (mVar 5))))) (mTup (aCons (mVar 4) (aCons (mVar 9) (aCons (mVar 5) aNil)))) [9])))))
    (sRet (mCall (gSortT 3 false) (aCons (mVar 3) aNil))))))

noncomputable def sem__law_highs : List D → Store → Rs D := semB 3 0 2 N__law_highs b__law_highs
theorem ar__law_highs : HasArity 2 sem__law_highs := ar_B
theorem lv__law_highs : ∀ (ds : List D) (st0 : Store), ds.length = 2 → Leaves st0 (b__law_highs (env0 N__law_highs ds) st0) (sem__law_highs ds st0) := fun _ _ h => lv_B h

end LZ

set_option maxRecDepth 100000
set_option maxHeartbeats 1000000
namespace LZ
open RR
/-! ### lines in order: a permutation of all numbers below n -/
structure Line (n : Nat) (l : List Nat) : Prop where
  nd : l.Nodup
  len : l.length = n
  mem : ∀ x, x ∈ l ↔ x < n
theorem Line.range (n : Nat) : Line n (List.range n) := ⟨List.nodup_range, by simp, fun x => by simp⟩
theorem Line.ok {n l} (h : Line n l) : LineOk n l := ⟨h.len, fun x hx => (h.mem x).mp hx⟩
theorem nth_eq {l : List Nat} {p : Nat} (h : p < l.length) : nthN l p = l[p] := nth_get h
theorem Line.nth_lt {n l p} (h : Line n l) (hp : p < n) : nthN l p < n := (h.mem _).mp (nth_mem (by rw [h.len]; exact hp))
theorem Line.pos_lt {n l x} (h : Line n l) (hx : x < n) : l.idxOf x < n := by
  have := List.idxOf_lt_length_iff.mpr ((h.mem x).mpr hx)
  rwa [h.len] at this
theorem Line.nth_pos {n l x} (h : Line n l) (hx : x < n) : nthN l (l.idxOf x) = x := by
  have h1 := List.idxOf_lt_length_iff.mpr ((h.mem x).mpr hx)
  rw [nth_eq h1, List.getElem_idxOf]
theorem Line.pos_nth {n l p} (h : Line n l) (hp : p < n) : l.idxOf (nthN l p) = p := by
  have hp' : p < l.length := by rw [h.len]; exact hp
  rw [nth_eq hp']
  exact h.nd.idxOf_getElem p hp'
theorem Line.pos_iff {n l p x} (h : Line n l) (hp : p < n) (hx : x < n) : l.idxOf x = p ↔ nthN l p = x := by
  constructor
  · rintro rfl; exact h.nth_pos hx
  · rintro rfl; exact h.pos_nth hp
theorem Line.pos_inj {n l x y} (h : Line n l) (hx : x < n) (hy : y < n) (e : l.idxOf x = l.idxOf y) : x = y := by
  rw [← h.nth_pos hx, e, h.nth_pos hy]
theorem nth_swap {l : List Nat} {p i : Nat} (hp : p + 2 ≤ l.length) : nthN (swapAt l p) i = if i = p then nthN l (p + 1) else if i = p + 1 then nthN l p else nthN l i := by
  unfold swapAt nthN
  simp only [List.getD_eq_getElem?_getD, List.append_assoc]
  by_cases h1 : i < p
  · have hne1 : i ≠ p := by omega
    have hne2 : i ≠ p + 1 := by omega
    rw [List.getElem?_append_left (by simp; omega), List.getElem?_take_of_lt h1]
    simp [hne1, hne2]
  · rw [List.getElem?_append_right (by simp; omega)]
    have e : (l.take p).length = p := by simp; omega
    rw [e]
    by_cases h2 : i = p
    · subst h2; simp
    · by_cases h3 : i = p + 1
      · subst h3
        have : p + 1 - p = 1 := by omega
        simp [this]
      · have : i - p = (i - p - 2) + 2 := by omega
        rw [this]
        simp only [List.cons_append, List.nil_append, List.getElem?_cons_succ, List.getElem?_drop]
        have : p + 2 + (i - p - 2) = i := by omega
        rw [this]
        simp [h2, h3]
theorem Line.swap {n l p} (h : Line n l) (hp : p + 2 ≤ n) : Line n (swapAt l p) := by
  have hl := h.len
  have hpl : p + 2 ≤ l.length := by omega
  have perm : (swapAt l p).Perm l := by
    have e := split_two hpl
    have e2 : swapAt l p = l.take p ++ (nthN l (p + 1) :: nthN l p :: l.drop (p + 2)) := by simp [swapAt]
    rw [e2]
    conv => rhs; rw [e]
    exact List.Perm.append_left _ (List.Perm.swap ..)
  exact ⟨perm.nodup_iff.mpr h.nd, by rw [perm.length_eq]; exact hl, fun x => by rw [perm.mem_iff]; exact h.mem x⟩
theorem Line.pos_swap {n l p x} (h : Line n l) (hp : p + 2 ≤ n) (hx : x < n) : (swapAt l p).idxOf x = if x = nthN l p then p + 1 else if x = nthN l (p + 1) then p else l.idxOf x := by
  have hl := h.len
  have hs := h.swap hp
  have hpx := h.pos_lt hx
  split
  · rename_i e
    rw [hs.pos_iff (by omega) hx, nth_swap (by omega)]
    simp [e]
  · rename_i e1
    split
    · rename_i e
      rw [hs.pos_iff (by omega) hx, nth_swap (by omega)]
      simp [e]
    · rename_i e2
      rw [hs.pos_iff hpx hx, nth_swap (by omega)]
      have n1 : l.idxOf x ≠ p := fun e => e1 (by rw [← e, h.nth_pos hx])
      have n2 : l.idxOf x ≠ p + 1 := fun e => e2 (by rw [← e, h.nth_pos hx])
      simp [n1, n2, h.nth_pos hx]
theorem Line.take_iff {n l p x} (h : Line n l) (hp : p ≤ n) (hx : x < n) : x ∈ l.take p ↔ l.idxOf x < p := by
  have hl := h.len
  have hpx := h.pos_lt hx
  constructor
  · intro hm
    obtain ⟨i, hi, e⟩ := List.mem_iff_getElem.mp hm
    simp only [List.length_take] at hi
    rw [List.getElem_take] at e
    have : l.idxOf x = i := by
      rw [h.pos_iff (by omega) hx, nth_eq (by omega)]
      exact e
    omega
  · intro hi
    have e := h.nth_pos hx
    rw [nth_eq (by omega)] at e
    exact List.mem_iff_getElem.mpr ⟨l.idxOf x, by simp; omega, by rw [List.getElem_take]; exact e⟩
theorem Line.drop_iff {n l p x} (h : Line n l) (hp : p ≤ n) (hx : x < n) : x ∈ l.drop p ↔ p ≤ l.idxOf x := by
  have hl := h.len
  have hpx := h.pos_lt hx
  constructor
  · intro hm
    obtain ⟨i, hi, e⟩ := List.mem_iff_getElem.mp hm
    simp only [List.length_drop] at hi
    rw [List.getElem_drop] at e
    have : l.idxOf x = p + i := by
      rw [h.pos_iff (by omega) hx, nth_eq (by omega)]
      exact e
    omega
  · intro hi
    have e := h.nth_pos hx
    rw [nth_eq (by omega)] at e
    exact List.mem_iff_getElem.mpr ⟨l.idxOf x - p, by simp; omega, by
      rw [List.getElem_drop]
      have : p + (l.idxOf x - p) = l.idxOf x := by omega
      simp only [this]
      exact e⟩
/-! ### owners rise -/
def Up (ow : List Nat) : Prop := ∀ i j, i ≤ j → j < ow.length → nthN ow i ≤ nthN ow j
theorem up_owners {sides : List Nat} (h : sides.sum ≤ 16) : Up (owners sides) := (owOk h).up
theorem Up.lt {ow x y} (h : Up ow) (hx : x < ow.length) (hlt : nthN ow x < nthN ow y) : x < y := by
  by_cases e : y ≤ x
  · have := h y x e hx; omega
  · omega
theorem idxOf_le {A : Type} [BEq A] [LawfulBEq A] {a : A} : ∀ {l : List A} {k : Nat}, l[k]? = some a → l.idxOf a ≤ k
  | [], k, h => by cases h
  | x :: l, 0, h => by
    simp at h
    subst h
    simp
  | x :: l, k + 1, h => by
    simp only [List.getElem?_cons_succ] at h
    have := idxOf_le h
    rw [List.idxOf_cons]
    cases (x == a) <;> simp <;> omega
/-! ### which pair crosses when -/
def prs (l row : List Nat) : List (Nat × Nat) := (laidL l row).map fun y => (y.1, y.2.1)
theorem prs_len {l row : List Nat} : (prs l row).length = row.length := by simp [prs, laidL_len]
theorem prs_nil {l : List Nat} : prs l [] = [] := rfl
theorem prs_cons {l row : List Nat} {p : Nat} : prs l (p :: row) = (nthN l p, nthN l (p + 1)) :: prs (swapAt l p) row := rfl
theorem laidL_get {k p : Nat} : ∀ {row l : List Nat}, row[k]? = some p → (laidL l row)[k]? = some (nthN (lineAt l (row.take k)) p, nthN (lineAt l (row.take k)) (p + 1), p, (lineAt l (row.take k)).take p, (lineAt l (row.take k)).drop (p + 2)) := by
  induction k with
  | zero =>
    intro row l h
    cases row with
    | nil => cases h
    | cons q row => simp at h; subst h; rfl
  | succ k ih =>
    intro row l h
    cases row with
    | nil => cases h
    | cons q row =>
      simp only [List.getElem?_cons_succ] at h
      simp only [laidL, List.getElem?_cons_succ, ih h, List.take_succ_cons]
      rfl
theorem prs_get {k p : Nat} {row l : List Nat} (h : row[k]? = some p) : (prs l row)[k]? = some (nthN (lineAt l (row.take k)) p, nthN (lineAt l (row.take k)) (p + 1)) := by
  simp [prs, laidL_get h]
def tm (l row : List Nat) (x y : Nat) : Nat := (prs l row).idxOf (x, y)
theorem tm_le {l row : List Nat} {x y : Nat} : tm l row x y ≤ row.length := by
  have := List.idxOf_le_length (a := (x, y)) (l := prs l row)
  rwa [prs_len] at this
theorem tm_get {l row : List Nat} {x y : Nat} (h : tm l row x y < row.length) : (prs l row)[tm l row x y]? = some (x, y) := by
  have h' : (prs l row).idxOf (x, y) < (prs l row).length := by rw [prs_len]; exact h
  unfold tm
  rw [List.getElem?_eq_getElem h', List.getElem_idxOf]
/-- each place of a row can be laid -/
theorem okPre_get {ow row l : List Nat} {k p : Nat} (h : okPre ow l row = true) (hk : row[k]? = some p) : canLay ow (lineAt l (row.take k)) p = true := by
  induction k generalizing row l with
  | zero =>
    cases row with
    | nil => cases hk
    | cons q row =>
      simp at hk; subst hk
      simp only [okPre, Bool.and_eq_true] at h
      exact h.1
  | succ k ih =>
    cases row with
    | nil => cases hk
    | cons q row =>
      simp only [okPre, Bool.and_eq_true] at h
      simp only [List.getElem?_cons_succ] at hk
      exact ih h.2 hk
theorem okRow_pre {ow : List Nat} : ∀ {row l : List Nat}, okRow ow l row = true → okPre ow l row = true
  | [], _, _ => rfl
  | p :: row, l, h => by
    simp only [okRow, okPre, Bool.and_eq_true] at h ⊢
    exact ⟨h.1, okRow_pre h.2⟩
theorem lineAt_line {ow : List Nat} : ∀ {row l : List Nat}, Line ow.length l → okPre ow l row = true → Line ow.length (lineAt l row)
  | [], l, h, _ => h
  | p :: row, l, h, h' => by
    simp only [okPre, Bool.and_eq_true] at h'
    exact lineAt_line (row := row) (h.swap (canLay_lt h'.1)) h'.2
theorem okPre_take {ow : List Nat} {k : Nat} : ∀ {row l : List Nat}, okPre ow l row = true → okPre ow l (row.take k) = true := by
  induction k with
  | zero => intro row l _; simp [okPre]
  | succ k ih =>
    intro row l h
    cases row with
    | nil => simp [okPre]
    | cons p row =>
      simp only [okPre, Bool.and_eq_true, List.take_succ_cons] at h ⊢
      exact ⟨h.1, ih h.2⟩
theorem canLay_ow {ow l : List Nat} {p : Nat} (h : canLay ow l p = true) : nthN ow (nthN l p) < nthN ow (nthN l (p + 1)) := by
  simp only [canLay, Bool.and_eq_true, decide_eq_true_eq] at h
  exact h.2
/-- two lines have changed places just if they have crossed -/
theorem ord_time {ow row : List Nat} (up : Up ow) (ok : okPre ow (List.range ow.length) row = true) : ∀ k, k ≤ row.length → ∀ x y, x < y → y < ow.length →
    ((lineAt (List.range ow.length) (row.take k)).idxOf y < (lineAt (List.range ow.length) (row.take k)).idxOf x ↔ tm (List.range ow.length) row x y < k) := by
  intro k
  induction k with
  | zero =>
    intro _ x y hxy hy
    have L := Line.range ow.length
    have e : ∀ z, z < ow.length → (List.range ow.length).idxOf z = z := fun z hz => by
      rw [L.pos_iff hz hz, nth_eq (by simpa using hz)]; simp
    simp only [List.take_zero, lineAt, List.foldl_nil, e x (by omega), e y hy]
    omega
  | succ k ih =>
    intro hk x y hxy hy
    have hp : row[k]? = some row[k] := by simp [show k < row.length by omega]
    generalize row[k] = p at hp
    have ih := ih (by omega)
    have can := okPre_get ok hp
    have hpl := canLay_lt can
    have how := canLay_ow can
    have L := lineAt_line (Line.range ow.length) (okPre_take (k := k) ok)
    have et : row.take (k + 1) = row.take k ++ [p] := by rw [List.take_add_one, hp]; rfl
    have el : lineAt (List.range ow.length) (row.take (k + 1)) = swapAt (lineAt (List.range ow.length) (row.take k)) p := by
      rw [et]; simp [lineAt, List.foldl_append]
    have hprs := prs_get (l := List.range ow.length) hp
    rw [el]
    generalize lineAt (List.range ow.length) (row.take k) = l at *
    have hu := L.nth_lt (p := p) (by omega)
    have hv := L.nth_lt (p := p + 1) (by omega)
    have huv : nthN l p < nthN l (p + 1) := up.lt hu how
    have pu := L.pos_nth (p := p) (by omega)
    have pv := L.pos_nth (p := p + 1) (by omega)
    rw [L.pos_swap hpl (show x < ow.length by omega), L.pos_swap hpl hy]
    have ihxy := ih x y hxy hy
    by_cases e : x = nthN l p ∧ y = nthN l (p + 1)
    · obtain ⟨rfl, rfl⟩ := e
      have hge : ¬ tm (List.range ow.length) row (nthN l p) (nthN l (p + 1)) < k := fun h => by
        have := ihxy.mpr h
        omega
      have hle : tm (List.range ow.length) row (nthN l p) (nthN l (p + 1)) ≤ k := by
        exact idxOf_le hprs
      have ne : nthN l (p + 1) ≠ nthN l p := by omega
      simp [ne]
      omega
    · have hne : tm (List.range ow.length) row x y ≠ k := fun h => by
        have := tm_get (l := List.range ow.length) (row := row) (x := x) (y := y) (by omega)
        rw [h, hprs] at this
        have := Option.some.inj this
        simp only [Prod.mk.injEq] at this
        exact e ⟨this.1.symm, this.2.symm⟩
      have hpx : ∀ z, z < ow.length → z ≠ nthN l p → z ≠ nthN l (p + 1) → l.idxOf z ≠ p ∧ l.idxOf z ≠ p + 1 := fun z hz h1 h2 =>
        ⟨fun h => h1 (by rw [← h, L.nth_pos hz]), fun h => h2 (by rw [← h, L.nth_pos hz])⟩
      have key : (tm (List.range ow.length) row x y < k + 1) ↔ (tm (List.range ow.length) row x y < k) := by omega
      rw [key, ← ihxy]
      by_cases x1 : x = nthN l p
      · have y1 : y ≠ nthN l (p + 1) := fun h => e ⟨x1, h⟩
        have y2 : y ≠ nthN l p := by omega
        have := hpx y hy y2 y1
        have px : l.idxOf x = p := by rw [x1]; exact pu
        simp only [x1, if_true, y1, y2, if_false]
        rw [x1] at px
        omega
      · by_cases x2 : x = nthN l (p + 1)
        · have y1 : y ≠ nthN l p := by omega
          have y2 : y ≠ nthN l (p + 1) := by omega
          have := hpx y hy y1 y2
          have px : l.idxOf x = p + 1 := by rw [x2]; exact pv
          simp only [x1, x2, if_true, y1, y2, if_false]
          rw [x2] at px
          have : nthN l (p + 1) ≠ nthN l p := by omega
          simp only [this, if_false]
          omega
        · have := hpx x (by omega) x1 x2
          simp only [x1, x2, if_false]
          by_cases y1 : y = nthN l p
          · have py : l.idxOf y = p := by rw [y1]; exact pu
            simp only [y1, if_true]
            rw [y1] at py
            omega
          · by_cases y2 : y = nthN l (p + 1)
            · have py : l.idxOf y = p + 1 := by rw [y2]; exact pv
              have : nthN l (p + 1) ≠ nthN l p := by omega
              simp only [y2, this, if_true, if_false]
              rw [y2] at py
              omega
            · simp [y1, y2]
end LZ

set_option maxRecDepth 100000
set_option maxHeartbeats 1000000
namespace LZ
open RR
theorem over_down {ow l : List Nat} (h : isOver ow l = true) (hl : l.length = ow.length) : ∀ d i, i + d < ow.length → nthN ow (nthN l (i + d)) ≤ nthN ow (nthN l i) := by
  have step : ∀ i, i + 1 < ow.length → nthN ow (nthN l (i + 1)) ≤ nthN ow (nthN l i) := by
    intro i hi
    unfold isOver at h
    simp only [Bool.not_eq_true', List.any_eq_false, List.mem_range] at h
    have := h i (by omega)
    unfold canLay at this
    simp only [Bool.not_eq_true, Bool.and_eq_false_iff, decide_eq_false_iff_not] at this
    omega
  intro d
  induction d with
  | zero => intro i _; exact Nat.le_refl _
  | succ d ih =>
    intro i hi
    have h1 := ih i (by omega)
    have h2 := step (i + d) (by omega)
    have e : i + (d + 1) = i + d + 1 := by omega
    rw [e]
    omega
/-- the times at which lines cross, of a whole row: numbers of places -/
structure Flo (ow : List Nat) (N : Nat) (T : Nat → Nat → Nat) : Prop where
  fin : ∀ x y, x < y → y < ow.length → (T x y < N ↔ nthN ow x < nthN ow y)
  inj : ∀ x y u v, T x y < N → T x y = T u v → x = u ∧ y = v
  lo : ∀ z x y, z < x → x < y → y < ow.length → nthN ow x < nthN ow y → (T z x < T x y ↔ T z y < T x y)
  mid : ∀ x z y, x < z → z < y → y < ow.length → nthN ow x < nthN ow y → (T x z < T x y ↔ ¬ T z y < T x y)
  hi : ∀ x y z, x < y → y < z → z < ow.length → nthN ow x < nthN ow y → (T x z < T x y ↔ T y z < T x y)
abbrev tmR (ow row : List Nat) (x y : Nat) : Nat := tm (List.range ow.length) row x y
section
variable {ow row : List Nat}
/-- the order of the lines, when two cross -/
theorem at_time (up : Up ow) (ok : okPre ow (List.range ow.length) row = true) {x y : Nat} (h : tmR ow row x y < row.length) :
    ∃ p, row[tmR ow row x y]? = some p ∧ p + 2 ≤ ow.length ∧ Line ow.length (lineAt (List.range ow.length) (row.take (tmR ow row x y))) ∧ nthN (lineAt (List.range ow.length) (row.take (tmR ow row x y))) p = x ∧ nthN (lineAt (List.range ow.length) (row.take (tmR ow row x y))) (p + 1) = y ∧ nthN ow x < nthN ow y ∧ x < y ∧ y < ow.length := by
  have hp : row[tmR ow row x y]? = some row[tmR ow row x y] := by simp [h]
  generalize row[tmR ow row x y] = p at hp
  have can := okPre_get ok hp
  have hpl := canLay_lt can
  have how := canLay_ow can
  have L := lineAt_line (Line.range ow.length) (okPre_take (k := tmR ow row x y) ok)
  have h1 := tm_get h
  have h2 := prs_get (l := List.range ow.length) hp
  have h3 := Option.some.inj (h1.symm.trans h2)
  simp only [Prod.mk.injEq] at h3
  have lt := up.lt (L.nth_lt (p := p) (by omega)) how
  have hy := L.nth_lt (p := p + 1) (by omega)
  rw [← h3.1, ← h3.2] at how lt
  rw [← h3.2] at hy
  exact ⟨p, hp, hpl, L, h3.1.symm, h3.2.symm, how, lt, hy⟩
theorem flo_of (up : Up ow) (ok : okRow ow (List.range ow.length) row = true) : Flo ow row.length (tmR ow row) := by
  have okp := okRow_pre ok
  have ord := ord_time up okp
  have LE := lineAt_line (Line.range ow.length) okp
  have over := okRow_end ok
  have fin : ∀ x y, x < y → y < ow.length → (tmR ow row x y < row.length ↔ nthN ow x < nthN ow y) := by
    intro x y hxy hy
    constructor
    · intro h
      obtain ⟨p, _, _, _, _, _, h1, _⟩ := at_time up okp h
      exact h1
    · intro h
      have h1 := ord row.length (Nat.le_refl _) x y hxy hy
      rw [List.take_length] at h1
      apply h1.mp
      by_cases e : (lineAt (List.range ow.length) row).idxOf y < (lineAt (List.range ow.length) row).idxOf x
      · exact e
      · exfalso
        have h2 := over_down over LE.len ((lineAt (List.range ow.length) row).idxOf y - (lineAt (List.range ow.length) row).idxOf x) ((lineAt (List.range ow.length) row).idxOf x)
        have h3 := LE.pos_lt hy
        have e2 : (lineAt (List.range ow.length) row).idxOf x + ((lineAt (List.range ow.length) row).idxOf y - (lineAt (List.range ow.length) row).idxOf x) = (lineAt (List.range ow.length) row).idxOf y := by omega
        rw [e2, LE.nth_pos hy, LE.nth_pos (by omega)] at h2
        have := h2 h3
        omega
  have key : ∀ x y z, tmR ow row x y < row.length → z < ow.length → z ≠ x → z ≠ y →
      ∃ l : List Nat, Line ow.length l ∧ (l.idxOf z < l.idxOf x ↔ l.idxOf z < l.idxOf y) ∧ (∀ a b, a < b → b < ow.length → (l.idxOf b < l.idxOf a ↔ tmR ow row a b < tmR ow row x y)) ∧ l.idxOf z ≠ l.idxOf x ∧ l.idxOf z ≠ l.idxOf y := by
    intro x y z h hz hzx hzy
    obtain ⟨p, hp, hpl, L, h1, h2, h3, h4, h5⟩ := at_time up okp h
    refine ⟨_, L, ?_, ord _ (Nat.le_of_lt h), ?_, ?_⟩
    · have e1 : (lineAt (List.range ow.length) (row.take (tmR ow row x y))).idxOf x = p := (L.pos_iff (by omega) (by omega)).mpr h1
      have e2 : (lineAt (List.range ow.length) (row.take (tmR ow row x y))).idxOf y = p + 1 := (L.pos_iff (by omega) (by omega)).mpr h2
      have n1 : (lineAt (List.range ow.length) (row.take (tmR ow row x y))).idxOf z ≠ p := fun e => hzx (by
        rw [← h1, ← e, L.nth_pos hz])
      rw [e1, e2]
      omega
    · exact fun e => hzx (L.pos_inj hz (by omega) e)
    · exact fun e => hzy (L.pos_inj hz (by omega) e)
  refine ⟨fin, ?_, ?_, ?_, ?_⟩
  · intro x y u v h e
    have h1 := tm_get h
    have h2 := tm_get (l := List.range ow.length) (row := row) (x := u) (y := v) (by unfold tmR at e h; omega)
    unfold tmR at e
    rw [e, h2] at h1
    have := Option.some.inj h1
    simp only [Prod.mk.injEq] at this
    exact ⟨this.1.symm, this.2.symm⟩
  · intro z x y hzx hxy hy how
    have h := (fin x y hxy hy).mpr how
    obtain ⟨l, L, a, b, c, d⟩ := key x y z h (by omega) (by omega) (by omega)
    have b1 := b z x hzx (by omega)
    have b2 := b z y (by omega) hy
    omega
  · intro x z y hxz hzy hy how
    have h := (fin x y (by omega) hy).mpr how
    obtain ⟨l, L, a, b, c, d⟩ := key x y z h (by omega) (by omega) (by omega)
    have b1 := b x z hxz (by omega)
    have b2 := b z y hzy hy
    omega
  · intro x y z hxy hyz hz how
    have h := (fin x y hxy (by omega)).mpr how
    obtain ⟨l, L, a, b, c, d⟩ := key x y z h (by omega) (by omega) (by omega)
    have b1 := b x z (by omega) hz
    have b2 := b y z hyz hz
    omega
/-- a line lies beneath the lozenge in which two cross -/
theorem beneath_time (up : Up ow) (ok : okPre ow (List.range ow.length) row = true) {x y z : Nat} (h : tmR ow row x y < row.length) (hz : z < ow.length) (hzx : z ≠ x) (hzy : z ≠ y) {p : Nat} (hp : row[tmR ow row x y]? = some p) :
    (z ∈ (lineAt (List.range ow.length) (row.take (tmR ow row x y))).take p ↔ if z < x then ¬ tmR ow row z x < tmR ow row x y else tmR ow row x z < tmR ow row x y) ∧
    (z ∈ (lineAt (List.range ow.length) (row.take (tmR ow row x y))).drop (p + 2) ↔ ¬ z ∈ (lineAt (List.range ow.length) (row.take (tmR ow row x y))).take p) := by
  obtain ⟨p', hp', hpl, L, h1, h2, h3, h4, h5⟩ := at_time up ok h
  rw [hp] at hp'
  cases hp'
  have ord : ∀ a b, a < b → b < ow.length → ((lineAt (List.range ow.length) (row.take (tmR ow row x y))).idxOf b < (lineAt (List.range ow.length) (row.take (tmR ow row x y))).idxOf a ↔ tmR ow row a b < tmR ow row x y) := ord_time up ok (tmR ow row x y) (Nat.le_of_lt h)
  rw [L.take_iff (by omega) hz, L.drop_iff (by omega) hz]
  have e1 : (lineAt (List.range ow.length) (row.take (tmR ow row x y))).idxOf x = p := (L.pos_iff (by omega) (by omega)).mpr h1
  have e2 : (lineAt (List.range ow.length) (row.take (tmR ow row x y))).idxOf y = p + 1 := (L.pos_iff (by omega) (by omega)).mpr h2
  have n1 : (lineAt (List.range ow.length) (row.take (tmR ow row x y))).idxOf z ≠ p := fun e => hzx (by rw [← h1, ← e, L.nth_pos hz])
  have n2 : (lineAt (List.range ow.length) (row.take (tmR ow row x y))).idxOf z ≠ p + 1 := fun e => hzy (by rw [← h2, ← e, L.nth_pos hz])
  refine ⟨?_, by omega⟩
  split
  · rename_i hlt
    have := ord z x hlt (by omega)
    rw [e1] at this
    omega
  · rename_i hlt
    have := ord x z (by omega) hz
    rw [e1] at this
    omega
end
/-! ### what is high -/
section
variable {ow : List Nat} {N : Nat} {T : Nat → Nat → Nat}
/-- b lies above the lozenge in which a and c cross -/
def hiT (T : Nat → Nat → Nat) (a b c : Nat) : Bool := decide (T b c < T a c)
theorem Flo.three (F : Flo ow N T) {a b c : Nat} (ab : a < b) (bc : b < c) (hc : c < ow.length) (h1 : nthN ow a < nthN ow b) (h2 : nthN ow b < nthN ow c) :
    (hiT T a b c = false ∧ T a b < T a c ∧ T a c < T b c) ∨ (hiT T a b c = true ∧ T b c < T a c ∧ T a c < T a b) := by
  have f1 := (F.fin a b ab (by omega)).mpr h1
  have f2 := (F.fin b c bc hc).mpr h2
  have f3 := (F.fin a c (by omega) hc).mpr (by omega)
  have m := F.mid a b c ab bc hc (by omega)
  have n1 : T a b ≠ T a c := fun e => by have := F.inj _ _ _ _ f1 e; omega
  have n2 : T b c ≠ T a c := fun e => by have := F.inj _ _ _ _ f2 e; omega
  unfold hiT
  by_cases h : T b c < T a c
  · right; refine ⟨by simp [h], h, by omega⟩
  · left; refine ⟨by simp [h], by omega, by omega⟩
theorem Flo.left (F : Flo ow N T) {a b c : Nat} (ab : a < b) (bc : b < c) (hc : c < ow.length) (h1 : nthN ow a = nthN ow b) (h2 : nthN ow b < nthN ow c) : T b c < T a c ∧ T a c < N := by
  have f1 : ¬ T a b < N := fun h => by have := (F.fin a b ab (by omega)).mp h; omega
  have f3 := (F.fin a c (by omega) hc).mpr (by omega)
  have m := F.mid a b c ab bc hc (by omega)
  exact ⟨by omega, f3⟩
theorem Flo.right (F : Flo ow N T) {a b c : Nat} (ab : a < b) (bc : b < c) (hc : c < ow.length) (h1 : nthN ow a < nthN ow b) (h2 : nthN ow b = nthN ow c) : T a b < T a c ∧ T a c < N := by
  have f1 : ¬ T b c < N := fun h => by have := (F.fin b c bc hc).mp h; omega
  have f3 := (F.fin a c (by omega) hc).mpr (by omega)
  have m := F.mid a b c ab bc hc (by omega)
  exact ⟨by omega, f3⟩
/-- whether a line lies beneath the lozenge in which two lines cross, by what is high -/
def fl (ow : List Nat) (H : Nat → Nat → Nat → Bool) (z x y : Nat) : Bool :=
  if z < x then (if nthN ow z = nthN ow x then true else H z x y)
  else if z < y then (if nthN ow x = nthN ow z then false else if nthN ow z = nthN ow y then true else !H x z y)
  else (if nthN ow y = nthN ow z then false else H x y z)
theorem Flo.fl (F : Flo ow N T) (up : Up ow) {x y z : Nat} (xy : x < y) (hy : y < ow.length) (how : nthN ow x < nthN ow y) (hz : z < ow.length) (zx : z ≠ x) (zy : z ≠ y) :
    LZ.fl ow (hiT T) z x y = true ↔ (if z < x then ¬ T z x < T x y else T x z < T x y) := by
  unfold LZ.fl
  by_cases h1 : z < x
  · simp only [h1, if_true]
    have u := up z x (by omega) (by omega)
    by_cases e : nthN ow z = nthN ow x
    · simp only [e, if_true]
      have f : ¬ T z x < N := fun h => by have := (F.fin z x h1 (by omega)).mp h; omega
      have g := (F.fin x y xy hy).mpr how
      simp; omega
    · simp only [e, if_false]
      have := F.three h1 xy hy (by omega) how
      rcases this with ⟨a, b, c⟩ | ⟨a, b, c⟩
      · rw [a]; simp; omega
      · rw [a]; simp; omega
  · by_cases h2 : z < y
    · simp only [h1, h2, if_true, if_false]
      have u1 := up x z (by omega) (by omega)
      have u2 := up z y (by omega) (by omega)
      by_cases e1 : nthN ow x = nthN ow z
      · simp only [e1, if_true]
        have f : ¬ T x z < N := fun h => by have := (F.fin x z (by omega) (by omega)).mp h; omega
        have g := (F.fin x y xy hy).mpr how
        simp; omega
      · by_cases e2 : nthN ow z = nthN ow y
        · simp only [e1, e2, if_true, if_false]
          have := F.right (a := x) (b := z) (c := y) (by omega) h2 hy (by omega) e2
          have e3 : nthN ow x ≠ nthN ow y := by omega
          simp [e3]; omega
        · simp only [e1, e2, if_false]
          have := F.three (a := x) (b := z) (c := y) (by omega) h2 hy (by omega) (by omega)
          rcases this with ⟨a, b, c⟩ | ⟨a, b, c⟩
          · rw [a]; simp; omega
          · rw [a]; simp; omega
    · simp only [h1, h2, if_false]
      have u := up y z (by omega) (by omega)
      by_cases e : nthN ow y = nthN ow z
      · simp only [e, if_true]
        have := F.right (a := x) (b := y) (c := z) xy (by omega) hz how e
        simp; omega
      · simp only [e, if_false]
        have := F.three (a := x) (b := y) (c := z) xy (by omega) hz how (by omega)
        rcases this with ⟨a, b, c⟩ | ⟨a, b, c⟩
        · rw [a]; simp; omega
        · rw [a]; simp; omega
end
end LZ

set_option maxRecDepth 100000
set_option maxHeartbeats 1000000
namespace LZ
open PySem PySem.Spec PyProof.Rows L2 RR
theorem aug_or {j a b : Nat} {me : ME D} {env : RR.Env} {st : Store} (h : env[j]? = some (some (nI a))) (he : me env st = .ok (nI b) st) : sAug j Builtin.bitOr me env st = .ok .nx (env.set j (some (nI (a ||| b)))) st := by
  unfold sAug
  rw [h]
  simp [nI, he, or_nat]
theorem aug_add {j a b : Nat} {me : ME D} {env : RR.Env} {st : Store} (h : env[j]? = some (some (nI a))) (he : me env st = .ok (nI b) st) : sAug j (fun i j => i + j) me env st = .ok .nx (env.set j (some (nI (a + b)))) st := by
  unfold sAug
  rw [h]
  simp [nI, he]
/-! ### bits -/
def bitsN (T xs : List (List Nat)) : Nat := xs.foldl (fun c t => c ||| 2 ^ T.idxOf t) 0
theorem take_snoc' {A : Type} {xs : List A} {k : Nat} {p : A} (h : xs[k]? = some p) : xs.take (k + 1) = xs.take k ++ [p] := by
  rw [List.take_add_one, h]; rfl
theorem bitsN_acc (T : List (List Nat)) : ∀ (xs : List (List Nat)) (c : Nat), xs.foldl (fun c t => c ||| 2 ^ T.idxOf t) c = c ||| bitsN T xs
  | [], c => by simp [bitsN]
  | x :: xs, c => by
    have h1 := bitsN_acc T xs (c ||| 2 ^ T.idxOf x)
    have h2 := bitsN_acc T xs (0 ||| 2 ^ T.idxOf x)
    unfold bitsN at *
    simp only [List.foldl_cons]
    rw [h1, h2, Nat.zero_or, Nat.or_assoc]
theorem bitsN_app (T xs ys : List (List Nat)) : bitsN T (xs ++ ys) = bitsN T xs ||| bitsN T ys := by
  have := bitsN_acc T ys (bitsN T xs)
  unfold bitsN at *
  rw [List.foldl_append, this]
theorem bitsN_snoc (T xs : List (List Nat)) (t : List Nat) : bitsN T (xs ++ [t]) = bitsN T xs ||| 2 ^ T.idxOf t := by
  rw [bitsN_app]; simp [bitsN]
theorem bitsN_test (T xs : List (List Nat)) (i : Nat) : (bitsN T xs).testBit i = xs.any fun t => decide (T.idxOf t = i) := by
  induction xs with
  | nil => simp [bitsN]
  | cons x xs ih =>
    have h : bitsN T (x :: xs) = 2 ^ T.idxOf x ||| bitsN T xs := by
      have := bitsN_app T [x] xs
      simpa [bitsN] using this
    rw [h, Nat.testBit_or, ih, List.any_cons, Nat.testBit_two_pow]
theorem out_threes {sides : List Nat} {st : Store} : HasF 0 st (outD sides) "threes" (.lst ((threesOf (owners sides)).map nT)) := hasF_o (i := 3) (by decide +kernel) rfl
theorem out_spot {sides : List Nat} {st : Store} : HasF 0 st (outD sides) "spot" (.dT ((threesOf (owners sides)).map keyN) (spotD (threesOf (owners sides)))) := hasF_o (i := 4) (by decide +kernel) rfl
theorem out_no {sides : List Nat} {st : Store} {x : Str} (h : fidx outN x = none) : NoF 0 st (outD sides) x := noF_o h
theorem spot_get {st : Store} {T : List (List Nat)} {three : List Nat} (h : three ∈ T) : gDget (.dT (T.map keyN) (spotD T)) (nT three) st = .ok (nI (T.idxOf three)) st := by
  have := (spot_T (st := st) (sp := .dT (T.map keyN) (spotD T)) (T := T) fun tl => rfl).get (tl := []) h
  simpa using this
theorem dget_none {κ : Type} [DecidableEq κ] {k : κ} : ∀ {ks : List κ} {ds : List D}, k ∉ ks → dget ks ds k = none
  | [], ds, _ => by cases ds <;> rfl
  | j :: ks, [], _ => rfl
  | j :: ks, d :: ds, h => by
    simp only [dget]
    rw [if_neg fun e => h (by simp [e]), dget_none fun e => h (by simp [e])]
theorem spot_in {st : Store} {neg : Bool} {T : List (List Nat)} {three : List Nat} : gDin neg (nT three) (.dT (T.map keyN) (spotD T)) st = .ok (.bl (if neg then !decide (three ∈ T) else decide (three ∈ T))) st := by
  by_cases h : three ∈ T
  · have e := spot_T (st := st) (sp := .dT (T.map keyN) (spotD T)) (T := T) (fun tl => rfl) [] three h
    simp only [List.append_nil] at e
    simp [gDin, e, h]
  · have e : dlook st (.dT (T.map keyN) (spotD T)) (nT three) = some none := by
      unfold dlook
      simp only [dcOf, tkey_nT, Option.map_some]
      rw [dget_none (keyN_mem h)]
    simp [gDin, e, h]
theorem len_T {sides : List Nat} (h : sides.sum ≤ 16) : (threesOf (owners sides)).length ≤ 16 * (16 * 16) := len_th (by rw [len_owners]; exact h)
theorem eq_bits_of {sides : List Nat} {xs : List (List Nat)} {st : Store} (h16 : sides.sum ≤ 16) (hx : ∀ x ∈ xs, x ∈ threesOf (owners sides)) (hn : xs.length ≤ 10000) : sem_Outline_bits_of [outD sides, .lst (xs.map nT)] st = .ok (nI (bitsN (threesOf (owners sides)) xs)) st := by
  have hT := len_T h16
  refine semB_eq rfl ?_
  unfold b_Outline_bits_of
  simp only [env0, List.map_cons, List.map_nil, List.length_cons, List.length_nil, Nat.reduceAdd, Nat.reduceSub, List.cons_append, List.nil_append, List.reduceReplicate]
  simp
  refine post_thn (post_sL (st1 := st) xs nT (fun k e s => ∃ x, e = [some (outD sides), some (.lst (xs.map nT)), some (nI (bitsN (threesOf (owners sides)) (xs.take k))), x] ∧ s = st)
    (by simp) (by omega) ⟨none, by simp [bitsN, nI], rfl⟩ ?_ ?_)
  · rintro k y env s J hy ⟨x, rfl, rfl⟩ tu
    have hm := hx y (List.mem_of_getElem? hy)
    have hi := List.idxOf_lt_length_iff.mpr hm
    have e1 := n_shl (st := s) (k := (threesOf (owners sides)).idxOf y) (by omega)
    simp only [s_nm, List.set_cons_succ, List.set_cons_zero, post_ok, toB_nx]
    rw [aug_or (a := bitsN (threesOf (owners sides)) (xs.take k)) (b := 2 ^ (threesOf (owners sides)).idxOf y) rfl (by simp [out_spot.fld, spot_get hm, e1])]
    refine post_ok.mpr (tu.nx _ _ ⟨some (nT y), ?_, rfl⟩)
    rw [take_snoc' hy, bitsN_snoc]
    rfl
  · rintro env s ⟨x, rfl, rfl⟩
    simp
    exact fin_pure pure_nI (by simp)
theorem test_shift (a k : Nat) : decide (a / 2 ^ k % 2 = 1) = a.testBit k := by
  rw [Nat.testBit_eq_decide_div_mod_eq]
/-- the three lines whose bits are set -/
def threesN (T : List (List Nat)) (code : Nat) : List (List Nat) := T.filter fun t => code.testBit (T.idxOf t)
theorem range_filter_get {A : Type} [BEq A] [LawfulBEq A] [Inhabited A] : ∀ {T : List A} (m n : Nat) (p : Nat → Bool), T.Nodup → T.length ≤ m → (∀ i, T.length ≤ i → p i = false) → ((List.range m).filter p).map (fun i => T.getD i default) = T.filter fun t => p (T.idxOf t) := by
  intro T m n p nd hm hp
  have h1 : List.range m = List.range T.length ++ (List.range' T.length (m - T.length)) := by
    have := List.range'_append_1 (s := 0) (m := T.length) (n := m - T.length)
    rw [List.range_eq_range', List.range_eq_range']
    rw [show T.length + (m - T.length) = m by omega] at this
    simpa using this.symm
  have h2 : (List.range' T.length (m - T.length)).filter p = [] := by
    rw [List.filter_eq_nil_iff]
    intro i hi
    rw [List.mem_range'_1] at hi
    simp [hp i hi.1]
  rw [h1, List.filter_append, h2, List.append_nil]
  have h3 : T = (List.range T.length).map fun i => T.getD i default := by
    apply List.ext_getElem
    · simp
    · intro i h _
      simp [h]
  conv => rhs; rw [h3]
  rw [List.filter_map]
  congr 1
  apply List.filter_congr
  intro i hi
  rw [List.mem_range] at hi
  simp only [Function.comp_def]
  rw [← h3]
  simp [hi, nd.idxOf_getElem]
theorem log_lt {a n : Nat} (h : a < 2 ^ n) : (if a = 0 then 0 else a.log2 + 1) ≤ n := by
  split
  · omega
  · rename_i h0
    have := (Nat.log2_lt h0).mpr h
    omega
theorem test_log {a i : Nat} (h : (if a = 0 then 0 else a.log2 + 1) ≤ i) : a.testBit i = false := by
  split at h
  · rename_i h0; subst h0; simp
  · rename_i h0
    apply Nat.testBit_lt_two_pow
    exact (Nat.log2_lt h0).mp (by omega)
theorem threesN_range {T : List (List Nat)} {code : Nat} (nd : T.Nodup) (h : code < 2 ^ T.length) : ((List.range (if code = 0 then 0 else code.log2 + 1)).filter fun i => code.testBit i).map (fun i => T.getD i default) = threesN T code := by
  have h1 := log_lt h
  generalize em : (if code = 0 then 0 else code.log2 + 1) = m at h1
  have h2 : ∀ i, m ≤ i → code.testBit i = false := fun i hi => test_log (by rw [em]; exact hi)
  have h4 : (List.range T.length).filter (fun i => code.testBit i) = (List.range m).filter fun i => code.testBit i := by
    have : List.range T.length = List.range m ++ List.range' m (T.length - m) := by
      have := List.range'_append_1 (s := 0) (m := m) (n := T.length - m)
      rw [List.range_eq_range', List.range_eq_range']
      rw [show m + (T.length - m) = T.length by omega] at this
      simpa using this.symm
    rw [this, List.filter_append]
    have h5 : (List.range' m (T.length - m)).filter (fun i => code.testBit i) = [] := by
      rw [List.filter_eq_nil_iff]
      intro i hi
      rw [List.mem_range'_1] at hi
      simp [h2 i hi.1]
    rw [h5, List.append_nil]
  rw [← h4]
  unfold threesN
  exact range_filter_get T.length 0 _ nd (Nat.le_refl _) fun i hi => by
    apply Nat.testBit_lt_two_pow
    exact Nat.lt_of_lt_of_le h (Nat.pow_le_pow_right (by omega) hi)
theorem bitsN_lt {T xs : List (List Nat)} (h : ∀ x ∈ xs, x ∈ T) : bitsN T xs < 2 ^ T.length := by
  refine Nat.lt_pow_two_of_testBit _ fun i hi => ?_
  rw [bitsN_test, List.any_eq_false]
  intro x hx
  have := List.idxOf_lt_length_iff.mpr (h x hx)
  simp; omega
theorem threes_bits {T xs : List (List Nat)} (nd : T.Nodup) (h : ∀ x ∈ xs, x ∈ T) : threesN T (bitsN T xs) = T.filter fun t => decide (t ∈ xs) := by
  unfold threesN
  apply List.filter_congr
  intro t ht
  rw [bitsN_test]
  by_cases e : t ∈ xs
  · simp only [e, decide_true, List.any_eq_true]
    exact ⟨t, e, by simp⟩
  · simp only [e, decide_false, List.any_eq_false]
    intro x hx
    have hx' := h x hx
    intro e2
    simp only [decide_eq_true_eq] at e2
    have h1 := List.idxOf_lt_length_iff.mpr hx'
    have h2 := List.idxOf_lt_length_iff.mpr ht
    have e3 : T[T.idxOf x] = T[T.idxOf t] := by simp only [e2]
    rw [List.getElem_idxOf, List.getElem_idxOf] at e3
    exact e (e3 ▸ hx)
theorem eq_threes_of {sides : List Nat} {code : Nat} {st : Store} (h16 : sides.sum ≤ 16) (hc : code < 2 ^ (threesOf (owners sides)).length) :
    sem_Outline_threes_of [outD sides, nI code] st = .ok (.ref st.length) (st ++ [.lst ((threesN (threesOf (owners sides)) code).map nT)]) := by
  have hT := len_T h16
  have hl := log_lt hc
  refine semB_eq rfl ?_
  unfold b_Outline_threes_of
  simp only [env0, List.map_cons, List.map_nil, List.length_cons, List.length_nil, Nat.reduceAdd, Nat.reduceSub, List.cons_append, List.nil_append, List.reduceReplicate]
  rw [s_ret]
  rw [mLcN_t (s := .rng 0 (if code = 0 then 0 else code.log2 + 1)) (st1 := st) (List.range (if code = 0 then 0 else code.log2 + 1)) nI (fun i => code.testBit i) (fun i => nT ((threesOf (owners sides)).getD i default))]
  rotate_left
  · exact i_r1 (i := ((if code = 0 then 0 else code.log2 + 1 : Nat) : Int)) (by simp [n_bits]; simp [nI]) (by simp) (by omega)
  · simp; omega
  · exact fun acc => gives_r1
  · intro k hk acc
    have hk' := List.mem_range.mp hk
    refine ⟨_, by simp [wipeE]; rfl, ?_, fun _ => ?_⟩
    · have e1 := fun st => n_shr (a := code) (k := k) (st := st)
      have e2 := fun st => n_and1 (a := code / 2 ^ k) (st := st)
      simp [e1, e2]
      have : gEqB false (nI (code / 2 ^ k % 2)) (nI 1) (st ++ [.lst acc]) = .ok (.bl (code.testBit k)) (st ++ [.lst acc]) := by
        rw [n_eq, ← test_shift]
        simp
      have e : (D.int 1) = nI 1 := rfl
      simp [e, this]
    · have e1 : (List.map nT (threesOf (owners sides)))[k]? = some (nT ((threesOf (owners sides)).getD k default)) := by
        rw [List.getElem?_map, List.getD_eq_getElem?_getD, List.getElem?_eq_getElem (show k < (threesOf (owners sides)).length by omega)]
        rfl
      simp [out_threes.fld]
      exact g_ix rfl rfl e1
  · have e := threesN_range (nodup_threes (owners sides)) hc
    have e2 : (((List.range (if code = 0 then 0 else code.log2 + 1)).filter fun i => code.testBit i).map fun i => nT ((threesOf (owners sides)).getD i default)) = (threesN (threesOf (owners sides)) code).map nT := by
      rw [← e, List.map_map]
      rfl
    rw [e2]
    simp only [post_ok, finJ_rt]
    refine fin_new ?_ (by simp) (by simp [below]) ⟨rfl, rfl⟩
    intro c hc
    simp only [List.mem_cons, List.not_mem_nil, or_false] at hc
    subst hc
    exact pures_threes _ _
end LZ

set_option maxRecDepth 100000
set_option maxHeartbeats 1000000
namespace LZ
open PySem PySem.Spec PyProof.Rows L2 RR
/-! ### what is high in a row -/
/-- the three lines that a lozenge makes high -/
def hiOf (T : List (List Nat)) (y : LozL) : List (List Nat) := ((y.2.2.2.2.filter fun m => decide (y.1 < m) && decide (m < y.2.1)).map fun m => [y.1, m, y.2.1]).filter fun t => decide (t ∈ T)
def highsOf (T : List (List Nat)) (ys : List LozL) : List (List Nat) := ys.flatMap (hiOf T)
abbrev Tof (sides : List Nat) : List (List Nat) := threesOf (owners sides)
abbrev laidOf (sides row : List Nat) : List LozL := laidL (List.range (owners sides).length) row
/-- the code of a row's floor -/
def codeN (sides row : List Nat) : Nat := bitsN (Tof sides) (highsOf (Tof sides) (laidOf sides row))
theorem hiOf_mem {T : List (List Nat)} {y : LozL} : ∀ t ∈ hiOf T y, t ∈ T := fun t h => by
  unfold hiOf at h
  simpa using (List.mem_filter.mp h).2
theorem highsOf_mem {T : List (List Nat)} {ys : List LozL} : ∀ t ∈ highsOf T ys, t ∈ T := fun t h => by
  obtain ⟨y, _, h⟩ := List.mem_flatMap.mp h
  exact hiOf_mem t h
theorem codeN_lt {sides row : List Nat} : codeN sides row < 2 ^ (Tof sides).length := bitsN_lt highsOf_mem
theorem hiOf_len {T : List (List Nat)} {y : LozL} : (hiOf T y).length ≤ y.2.2.2.2.length := by
  unfold hiOf
  refine Nat.le_trans (List.length_filter_le _ _) ?_
  rw [List.length_map]
  exact List.length_filter_le _ _
theorem passD_laid {sides row : List Nat} {st : Store} : HasF 1 st (passD sides row) "laid" (.lst ((walkOf sides row).map encZ)) := hasF_o (i := 2) (by decide +kernel) rfl
theorem laidL_len' {n : Nat} {y : LozL} : ∀ {row l : List Nat}, l.length ≤ n → y ∈ laidL l row → True := fun _ _ => trivial
theorem code_snoc {sides row : List Nat} {k p : Nat} (hk : row[k]? = some p) : codeN sides (row.take (k + 1)) = codeN sides (row.take k) ||| bitsN (Tof sides) (hiOf (Tof sides) (nthN (lineAt (List.range (owners sides).length) (row.take k)) p, nthN (lineAt (List.range (owners sides).length) (row.take k)) (p + 1), p, (lineAt (List.range (owners sides).length) (row.take k)).take p, (lineAt (List.range (owners sides).length) (row.take k)).drop (p + 2))) := by
  unfold codeN highsOf laidOf
  rw [take_snoc hk, laidL_snoc, List.flatMap_append, bitsN_app]
  simp
theorem eq_code_of {sides row : List Nat} {o : D} {st : Store} (hs : SidesOk sides) (hr : RowOk sides row) (ho : IsL st o row) : sem_code_of [outD sides, o] st = .ok (nI (codeN sides row)) st := by
  have hl := len_owners sides
  have h3 := hs.ten
  have hlen := hr.len
  have h16 : sides.sum ≤ 16 := by omega
  have hOk := fun k => lineAt_ok lineOk_range hr.ok k
  refine semB_eq rfl ?_
  unfold b_code_of
  simp only [env0, List.map_cons, List.map_nil, List.length_cons, List.length_nil, Nat.reduceAdd, Nat.reduceSub, List.cons_append, List.nil_append, List.reduceReplicate]
  have em : ∀ e : RR.Env, e[0]? = some (some (outD sides)) → mMk 1 sem_Pass___init__ [] (aCons (mVar 0) aNil) e st = .ok (.ref st.length) (st ++ passC sides st.length (List.range (owners sides).length) []) := by
    intro e he
    rw [a_mk]
    simp [he, eq_pass_init st h16]
  rw [s_seq, s_set, em _ rfl]
  simp only [List.set_cons_succ, List.set_cons_zero, thn_ok]
  rw [s_seq, s_set]
  simp only [mret, List.set_cons_succ, List.set_cons_zero, thn_ok]
  have epass : ∀ S, IsL S o row → sem_passed [outD sides, o] S = .ok (passD sides row) S := fun S h => eq_passed hs hr h
  have hwalk : (walkOf sides row).map encZ = (laidOf sides row).map fun y => encZ (y.1, y.2.1, y.2.2.1, footOf (owners sides) sides.length y.2.2.2.1) := by
    unfold walkOf laidOf
    rw [← laidL_walk, List.map_map]
    rfl
  rw [s_seq]
  refine post_thn (post_sL (laidOf sides row) (fun y => encZ (y.1, y.2.1, y.2.2.1, footOf (owners sides) sides.length y.2.2.2.1)) (fun k e s => ∃ x4 x5 x6 x7 x8 x9 x10 x11, e = [some (outD sides), some o, some (.ref st.length), some (nI (codeN sides (row.take k))), x4, x5, x6, x7, x8, x9, x10, x11] ∧ s = st ++ passC sides st.length (lineAt (List.range (owners sides).length) (row.take k)) (walk (owners sides) sides.length (List.range (owners sides).length) (row.take k)))
    (st1 := st ++ passC sides st.length (List.range (owners sides).length) []) (by
      simp [epass _ (ho.app _), passD_laid.fld]
      rw [hwalk]) (by rw [laidL_len]; omega) ⟨none, none, none, none, none, none, none, none, by simp [codeN, laidOf, laidL, highsOf, bitsN, nI], by simp [walk]⟩ ?_ ?_)
  · rintro k y env s J hy ⟨x4, x5, x6, x7, x8, x9, x10, x11, rfl, rfl⟩ tu
    have hkl := (List.getElem?_eq_some_iff.mp hy).1
    rw [laidL_len] at hkl
    have hk : row[k]? = some row[k] := by simp [hkl]
    generalize row[k] = p at hk
    have ey := laidL_get (l := List.range (owners sides).length) hk
    rw [show (laidL (List.range (owners sides).length) row) = laidOf sides row from rfl, hy] at ey
    have ey := Option.some.inj ey
    have hk' := hOk k
    have hc := okRow_get hr.ok hk
    have hpl := canLay_lt hc
    have hll := hk'.len
    have ecode := code_snoc (sides := sides) hk
    rw [← ey] at ecode
    have ewalk : walk (owners sides) sides.length (List.range (owners sides).length) (row.take (k + 1)) = walk (owners sides) sides.length (List.range (owners sides).length) (row.take k) ++ [(nthN (lineAt (List.range (owners sides).length) (row.take k)) p, nthN (lineAt (List.range (owners sides).length) (row.take k)) (p + 1), p, footOf (owners sides) sides.length ((lineAt (List.range (owners sides).length) (row.take k)).take p))] := by
      rw [take_snoc hk, walk_snoc]
    have eline : lineAt (List.range (owners sides).length) (row.take (k + 1)) = swapAt (lineAt (List.range (owners sides).length) (row.take k)) p := by
      rw [take_snoc hk]; simp [lineAt]
    have e2 := eq_lay (st := st) (tl := []) (laid := walk (owners sides) sides.length (List.range (owners sides).length) (row.take k)) hs hk' hpl (by rw [walk_len]; simp; omega)
    have hP := passAt_C (sides := sides) (st := st) (tl := []) (order := lineAt (List.range (owners sides).length) (row.take k)) (laid := walk (owners sides) sides.length (List.range (owners sides).length) (row.take k))
    have hOr := pass_order (sides := sides) (st := st) (tl := []) (order := lineAt (List.range (owners sides).length) (row.take k)) (laid := walk (owners sides) sides.length (List.range (owners sides).length) (row.take k))
    have hAt := pass_at1 (sides := sides) (st := st) (tl := []) (order := lineAt (List.range (owners sides).length) (row.take k)) (laid := walk (owners sides) sides.length (List.range (owners sides).length) (row.take k))
    simp only [List.append_nil] at e2 hP hOr hAt
    rw [← ewalk, ← eline] at e2
    generalize lineAt (List.range (owners sides).length) (row.take (k + 1)) = l2 at *
    generalize hl1 : lineAt (List.range (owners sides).length) (row.take k) = l1 at *
    generalize hS : st ++ passC sides st.length l1 (walk (owners sides) sides.length (List.range (owners sides).length) (row.take k)) = S at *
    have eab : y.2.2.2.2 = l1.drop (p + 2) := by rw [ey]
    have epl : y.2.2.1 = p := by rw [ey]
    have hab : y.2.2.2.2.length ≤ 1000 := by rw [eab]; simp; omega
    have esl : gSl (.ref (st.length + 1)) (some ((y.2.2.1 + 2 : Nat) : Int)) none S = .ok (nL y.2.2.2.2) S := by
      rw [g_slR hAt, cut_from (by rw [epl]; simp; omega), ← List.map_drop, eab, epl]
      rfl
    simp only [encZ, s_tp, List.length_cons, List.length_nil, Nat.reduceAdd, if_true, s_gsc, s_nm, s_gsn, thn_ok, List.set_cons_succ, List.set_cons_zero, post_ok, toB_nx]
    have esl' : gSl (.ref (st.length + 1)) (some ((y.2.2.1 : Int) + 2)) none S = .ok (nL y.2.2.2.2) S := by
      have := esl
      simpa using this
    rw [s_seq, s_set]
    have e8 : mSl (op1 (gFld 1 "order") (mVar 2)) (mPart (op2 gAdd (mVar 6) (mret (.int 2)))) (mret none) [some (outD sides), some o, some (.ref st.length), some (nI (codeN sides (row.take k))), some (nI y.1), some (nI y.2.1), some (nI y.2.2.1), some (nT (footOf (owners sides) sides.length y.2.2.2.1)), x8, x9, x10, x11] S = .ok (nL y.2.2.2.2) S := by
      simp [hOr.fld, esl']
    rw [e8]
    simp only [List.set_cons_succ, List.set_cons_zero, thn_ok]
    rw [s_seq, s_set]
    rw [mLc_s y.2.2.2.2 nI (fun m => decide (y.1 < m) && decide (m < y.2.1)) (fun m => nT [y.1, m, y.2.1]) (by rfl) (by omega) (fun m hm acc => ⟨_, by simp [wipeE]; rfl, ?_, fun _ => by simp [nT]⟩) (fun _ _ _ => bel_T)]
    · simp only [List.set_cons_succ, List.set_cons_zero, thn_ok]
      rw [s_seq]
      have hsome : (((y.2.2.2.2.filter fun m => decide (y.1 < m) && decide (m < y.2.1)).map fun m => nT [y.1, m, y.2.1])) = ((y.2.2.2.2.filter fun m => decide (y.1 < m) && decide (m < y.2.1)).map fun m => [y.1, m, y.2.1]).map nT := by
        rw [List.map_map]; rfl
      rw [hsome]
      have hlen2 : (((y.2.2.2.2.filter fun m => decide (y.1 < m) && decide (m < y.2.1)).map fun m => [y.1, m, y.2.1])).length ≤ 1000 := by
        rw [List.length_map]
        exact Nat.le_trans (List.length_filter_le _ _) hab
      generalize es : ((y.2.2.2.2.filter fun m => decide (y.1 < m) && decide (m < y.2.1)).map fun m => [y.1, m, y.2.1]) = some_ at hlen2
      have ehi : hiOf (Tof sides) y = some_.filter fun t => decide (t ∈ Tof sides) := by
        unfold hiOf; rw [es]
      have elc : mLeave 1 (mLcN (iSeq (mVar 9)) (gNm 11) (mTest (op2 (gDin false) (mVar 11) (op1 (gFld 0 "spot") (mVar 0)))) (mVar 11) [11]) [some (outD sides), some o, some (.ref st.length), some (nI (codeN sides (row.take k))), some (nI y.1), some (nI y.2.1), some (nI y.2.2.1), some (nT (footOf (owners sides) sides.length y.2.2.2.1)), some (nL y.2.2.2.2), some (.lst (some_.map nT)), x10, x11] S = .ok (.lst ((hiOf (Tof sides) y).map nT)) S := by
        rw [mLc_s some_ nT (fun t => decide (t ∈ Tof sides)) nT (by rfl) (by omega) (fun m hm acc => ⟨_, by simp [wipeE]; rfl, ?_, fun _ => by simp⟩) (fun _ _ _ => bel_T)]
        · rw [ehi]
        · simp [out_spot.fld, spot_in]
      have ebits : mMt 0 "bits_of" sem_Outline_bits_of [] (mVar 0) (aCons (mLeave 1 (mLcN (iSeq (mVar 9)) (gNm 11) (mTest (op2 (gDin false) (mVar 11) (op1 (gFld 0 "spot") (mVar 0)))) (mVar 11) [11])) aNil) [some (outD sides), some o, some (.ref st.length), some (nI (codeN sides (row.take k))), some (nI y.1), some (nI y.2.1), some (nI y.2.2.1), some (nT (footOf (owners sides) sides.length y.2.2.2.1)), some (nL y.2.2.2.2), some (.lst (some_.map nT)), x10, x11] S = .ok (nI (bitsN (Tof sides) (hiOf (Tof sides) y))) S := by
        rw [NoF.mt (out_no (by decide +kernel)) rfl]
        simp only [a_cons, a_nil, elc, a_bind_ok, List.append_nil]
        exact eq_bits_of h16 hiOf_mem (by have := hiOf_len (T := Tof sides) (y := y); omega)
      rw [aug_or (a := codeN sides (row.take k)) (b := bitsN (Tof sides) (hiOf (Tof sides) y)) rfl ebits]
      simp only [List.set_cons_succ, List.set_cons_zero, thn_ok]
      rw [← ecode]
      have elay : mMt 1 "lay" sem_Pass_lay [] (mVar 2) (aCons (mVar 6) aNil) [some (outD sides), some o, some (.ref st.length), some (nI (codeN sides (row.take (k + 1)))), some (nI y.1), some (nI y.2.1), some (nI y.2.2.1), some (nT (footOf (owners sides) sides.length y.2.2.2.1)), some (nL y.2.2.2.2), some (.lst (some_.map nT)), x10, x11] S = .ok .non (st ++ passC sides st.length l2 (walk (owners sides) sides.length (List.range (owners sides).length) (row.take (k + 1)))) := by
        rw [NoF.mt hP.no3 rfl]
        simp [epl, e2]
      rw [s_expr, elay]
      simp only [post_ok]
      exact tu.nx _ _ ⟨_, _, _, _, _, _, _, _, rfl, rfl⟩
    · simp
      by_cases h : y.1 < m
      · simp [h]
      · simp [h]
  · rintro env s ⟨x4, x5, x6, x7, x8, x9, x10, x11, rfl, rfl⟩
    have e1 : row.take (laidOf sides row).length = row := by rw [laidL_len, List.take_length]
    rw [e1]
    simp
    exact fin_tail pure_nI (by simp)
theorem eq_opened {sides row : List Nat} {o : D} {st : Store} (hs : SidesOk sides) (hr : RowOk sides row) (ho : IsL st o row) : sem_opened [nT sides, o] st = .ok (.tup [outD sides, nI (codeN sides row)]) st := by
  have h3 := hs.ten
  have h4 := hs.four
  refine semB_eq rfl ?_
  unfold b_opened
  simp only [env0, List.map_cons, List.map_nil, List.length_cons, List.length_nil, Nat.reduceAdd, Nat.reduceSub, List.cons_append, List.nil_append, List.reduceReplicate]
  simp [eq_need_sides hs]
  rw [eq_outline (sides := sides) (by rfl) (by omega) (by omega)]
  simp [eq_code_of hs hr ho]
  exact fin_pure (pure_tup (pures_cons pure_outD (pures_cons pure_nI pures_nil))) (by simp)
theorem eq_highs {sides row : List Nat} {o : D} {st : Store} (hs : SidesOk sides) (hr : RowOk sides row) (ho : IsL st o row) : sem_highs [nT sides, o] st = .ok (.ref st.length) (st ++ [.lst ((threesN (Tof sides) (codeN sides row)).map nT)]) := by
  have h3 := hs.ten
  have h4 := hs.four
  refine semB_eq rfl ?_
  unfold b_highs
  simp only [env0, List.map_cons, List.map_nil, List.length_cons, List.length_nil, Nat.reduceAdd, Nat.reduceSub, List.cons_append, List.nil_append, List.reduceReplicate]
  simp [eq_opened hs hr ho]
  rw [NoF.mt (out_no (by decide +kernel)) rfl]
  simp [eq_threes_of (show sides.sum ≤ 16 by omega) codeN_lt]
  refine fin_new ?_ (by simp) (by simp [below]) ⟨rfl, rfl⟩
  intro c hc
  simp only [List.mem_cons, List.not_mem_nil, or_false] at hc
  subst hc
  exact pures_threes _ _
end LZ

set_option maxRecDepth 100000
set_option maxHeartbeats 1000000
namespace LZ
open PySem PySem.Spec PyProof.Rows L2 RR
/-! ### the three lines of an outline, in order and few -/
theorem key3 (a b c : Nat) : keyT 1000 (nT [a, b, c]) = (((a * 1000 + b) * 1000 + c : Nat) : Int) := by
  have e : tupI (nT [a, b, c]) = some [(a : Int), (b : Int), (c : Int)] := rfl
  unfold keyT
  rw [e]
  simp only [Option.getD_some, TS.code, List.length_cons, List.length_nil]
  omega
theorem threes_lt {ow : List Nat} (hn : ow.length ≤ 16) : (threesOf ow).Pairwise fun s t => keyT 1000 (nT s) < keyT 1000 (nT t) := by
  have r : ∀ n, (List.range n).Pairwise (· < ·) := fun n => List.pairwise_lt_range
  have r' : ∀ a n, (List.range' a n).Pairwise (· < ·) := fun a n => List.pairwise_lt_range'
  unfold threesOf
  rw [List.pairwise_flatMap]
  refine ⟨fun a _ => ?_, (r _).imp fun {a a'} h x hx y hy => ?_⟩
  · unfold threes1
    rw [List.pairwise_flatMap]
    refine ⟨fun b _ => ?_, (r' _ _).imp fun {b b'} h x hx y hy => ?_⟩
    · unfold threes2
      rw [List.pairwise_map]
      exact ((r' _ _).filter _).imp fun {c c'} h => by rw [key3, key3]; omega
    · obtain ⟨c, _, _, _, rfl⟩ := mem_threes2.mp hx
      obtain ⟨c', _, _, _, rfl⟩ := mem_threes2.mp hy
      rw [key3, key3]; omega
  · obtain ⟨b, c, _, _, _, _, rfl⟩ := mem_threes1.mp hx
    obtain ⟨b', c', _, _, _, _, rfl⟩ := mem_threes1.mp hy
    rw [key3, key3]; omega
theorem T_64 : ∀ sides : List Nat, SidesOk sides → (threesOf (owners sides)).length < 64 := by
  intro sides h
  have h2 := h.two
  have h4 := h.four
  have he := h.each
  have ht := h.ten
  have k2 : ∀ a < 5, ∀ b < 5, a + b ≤ 10 → (threesOf (owners [a, b])).length < 64 := by decide +kernel
  have k3 : ∀ a < 5, ∀ b < 5, ∀ c < 5, a + b + c ≤ 10 → (threesOf (owners [a, b, c])).length < 64 := by decide +kernel
  have k4 : ∀ a < 5, ∀ b < 5, ∀ c < 5, ∀ d < 5, a + b + c + d ≤ 10 → (threesOf (owners [a, b, c, d])).length < 64 := by decide +kernel
  match sides, h2, h4, he, ht with
  | [a, b], _, _, he, ht => exact k2 a (by have := he a (by simp); omega) b (by have := he b (by simp); omega) (by simp at ht; omega)
  | [a, b, c], _, _, he, ht => exact k3 a (by have := he a (by simp); omega) b (by have := he b (by simp); omega) c (by have := he c (by simp); omega) (by simp at ht; omega)
  | [a, b, c, d], _, _, he, ht => exact k4 a (by have := he a (by simp); omega) b (by have := he b (by simp); omega) c (by have := he c (by simp); omega) d (by have := he d (by simp); omega) (by simp at ht; omega)
  | [], h, _, _, _ => simp at h
  | [_], h, _, _, _ => simp at h
  | _ :: _ :: _ :: _ :: _ :: _, _, h, _, _ => simp at h
theorem mem_T {ow : List Nat} (up : Up ow) {a b c : Nat} : [a, b, c] ∈ threesOf ow ↔ a < b ∧ b < c ∧ c < ow.length ∧ nthN ow a < nthN ow b ∧ nthN ow b < nthN ow c := by
  rw [mem_threes]
  constructor
  · rintro ⟨a', b', c', h1, h2, h3, h4, e⟩
    simp only [List.cons.injEq, and_true] at e
    obtain ⟨rfl, rfl, rfl⟩ := e
    rw [unl3] at h4
    simp only [Bool.and_eq_true, Bool.not_eq_true', decide_eq_false_iff_not] at h4
    have u1 := up a b (by omega) (by omega)
    have u2 := up b c (by omega) h3
    exact ⟨h1, h2, h3, by omega, by omega⟩
  · rintro ⟨h1, h2, h3, h4, h5⟩
    refine ⟨a, b, c, h1, h2, h3, ?_, rfl⟩
    rw [unl3]
    have n1 : nthN ow a ≠ nthN ow b := by omega
    have n2 : nthN ow b ≠ nthN ow c := by omega
    simp [n1, n2]
/-! ### each two lines cross once -/
theorem tm_at {ow row : List Nat} (up : Up ow) (ok : okPre ow (List.range ow.length) row = true) {k x y : Nat} (h : (prs (List.range ow.length) row)[k]? = some (x, y)) : tmR ow row x y = k := by
  have hk : k < row.length := by
    have := (List.getElem?_eq_some_iff.mp h).1
    rwa [prs_len] at this
  have hp : row[k]? = some row[k] := by simp [hk]
  generalize row[k] = p at hp
  have can := okPre_get ok hp
  have hpl := canLay_lt can
  have L := lineAt_line (Line.range ow.length) (okPre_take (k := k) ok)
  have e := Option.some.inj (h.symm.trans (prs_get (l := List.range ow.length) hp))
  simp only [Prod.mk.injEq] at e
  have lt := up.lt (L.nth_lt (p := p) (by omega)) (canLay_ow can)
  have hy := L.nth_lt (p := p + 1) (by omega)
  rw [← e.1, ← e.2] at lt
  rw [← e.2] at hy
  have ord := ord_time up ok k (by omega) x y lt hy
  have ex : (lineAt (List.range ow.length) (row.take k)).idxOf x = p := (L.pos_iff (by omega) (by omega)).mpr e.1.symm
  have ey : (lineAt (List.range ow.length) (row.take k)).idxOf y = p + 1 := (L.pos_iff (by omega) (by omega)).mpr e.2.symm
  have le : tmR ow row x y ≤ k := idxOf_le h
  have nl : ¬ tmR ow row x y < k := fun h => by have := ord.mpr h; omega
  omega
theorem prs_nodup {ow row : List Nat} (up : Up ow) (ok : okPre ow (List.range ow.length) row = true) : (prs (List.range ow.length) row).Nodup := by
  unfold List.Nodup
  rw [List.pairwise_iff_getElem]
  intro i j hi hj hij e
  have e1 : (prs (List.range ow.length) row)[i]? = some ((prs (List.range ow.length) row)[i].1, (prs (List.range ow.length) row)[i].2) := by simp [hi]
  have e2 : (prs (List.range ow.length) row)[j]? = some ((prs (List.range ow.length) row)[i].1, (prs (List.range ow.length) row)[i].2) := by simp [hj, e]
  have := tm_at up ok e1
  have := tm_at up ok e2
  omega
/-- what is said of each lozenge of a row -/
theorem laid_at {ow row : List Nat} {y : LozL} (h : y ∈ laidL (List.range ow.length) row) : ∃ k p : Nat, row[k]? = some p ∧ (prs (List.range ow.length) row)[k]? = some (y.1, y.2.1) ∧ y = (nthN (lineAt (List.range ow.length) (row.take k)) p, nthN (lineAt (List.range ow.length) (row.take k)) (p + 1), p, (lineAt (List.range ow.length) (row.take k)).take p, (lineAt (List.range ow.length) (row.take k)).drop (p + 2)) := by
  obtain ⟨k, hk, e⟩ := List.mem_iff_getElem.mp h
  rw [laidL_len] at hk
  have hp : row[k]? = some row[k] := by simp [hk]
  refine ⟨k, _, hp, ?_, ?_⟩
  · have := prs_get (l := List.range ow.length) hp
    rw [this]
    have e2 := laidL_get (l := List.range ow.length) hp
    rw [List.getElem?_eq_getElem (by rw [laidL_len]; exact hk), e] at e2
    have e2 := Option.some.inj e2
    rw [e2]
  · have e2 := laidL_get (l := List.range ow.length) hp
    rw [List.getElem?_eq_getElem (by rw [laidL_len]; exact hk), e] at e2
    exact Option.some.inj e2
theorem laid_sorts {ow row : List Nat} (up : Up ow) (ok : okPre ow (List.range ow.length) row = true) {y : LozL} (h : y ∈ laidL (List.range ow.length) row) :
    tmR ow row y.1 y.2.1 < row.length ∧ row[tmR ow row y.1 y.2.1]? = some y.2.2.1 ∧ y.2.2.2.1 = (lineAt (List.range ow.length) (row.take (tmR ow row y.1 y.2.1))).take y.2.2.1 ∧ y.2.2.2.2 = (lineAt (List.range ow.length) (row.take (tmR ow row y.1 y.2.1))).drop (y.2.2.1 + 2) ∧ y.1 < y.2.1 ∧ y.2.1 < ow.length ∧ nthN ow y.1 < nthN ow y.2.1 := by
  obtain ⟨k, p, hk, hp, e⟩ := laid_at h
  have ek := tm_at up ok hp
  have hkl := (List.getElem?_eq_some_iff.mp hk).1
  have ht : tmR ow row y.1 y.2.1 < row.length := by omega
  obtain ⟨p', h1, h2, h3, h4, h5, h6, h7, h8⟩ := at_time up ok ht
  rw [ek] at *
  refine ⟨hkl, ?_, ?_, ?_, h7, h8, h6⟩
  · rw [hk, e]
  · rw [e]
  · rw [e]
/-- a lozenge for each two lines of unlike sides -/
theorem laid_of {ow row : List Nat} (ok : okPre ow (List.range ow.length) row = true) {x y : Nat} (h : tmR ow row x y < row.length) : ∃ z ∈ laidL (List.range ow.length) row, z.1 = x ∧ z.2.1 = y := by
  have e := tm_get h
  have hm := List.mem_of_getElem? e
  unfold prs at hm
  obtain ⟨z, hz, e⟩ := List.mem_map.mp hm
  simp only [Prod.mk.injEq] at e
  exact ⟨z, hz, e.1, e.2⟩
theorem highs_mem {ow row : List Nat} (up : Up ow) (ok : okRow ow (List.range ow.length) row = true) {t : List Nat} : t ∈ highsOf (threesOf ow) (laidL (List.range ow.length) row) ↔ t ∈ threesOf ow ∧ ∃ a b c, t = [a, b, c] ∧ hiT (tmR ow row) a b c = true := by
  have F := flo_of up ok
  have okp := okRow_pre ok
  unfold highsOf
  rw [List.mem_flatMap]
  constructor
  · rintro ⟨y, hy, h⟩
    refine ⟨hiOf_mem t h, ?_⟩
    unfold hiOf at h
    rw [List.mem_filter, List.mem_map] at h
    obtain ⟨⟨m, hm, rfl⟩, h2⟩ := h
    rw [List.mem_filter] at hm
    simp only [Bool.and_eq_true, decide_eq_true_eq] at hm h2
    obtain ⟨h3, h4, h5, h6, h7, h8, h9⟩ := laid_sorts up okp hy
    refine ⟨_, _, _, rfl, ?_⟩
    have hb := (beneath_time (z := m) up okp h3 (by omega) (by omega) (by omega) h4)
    rw [← h5, ← h6] at hb
    have nb := hb.2.mp hm.1
    rw [hb.1] at nb
    rw [if_neg (by omega)] at nb
    have tT := (mem_T up).mp h2
    have := F.three tT.1 tT.2.1 tT.2.2.1 tT.2.2.2.1 tT.2.2.2.2
    rcases this with ⟨_, a, b⟩ | ⟨a, _⟩
    · exact (nb a).elim
    · exact a
  · rintro ⟨hT, a, b, c, rfl, hh⟩
    have tT := (mem_T up).mp hT
    have fin := (F.fin a c (by omega) (by omega)).mpr (by omega)
    obtain ⟨y, hy, e1, e2⟩ := laid_of okp fin
    refine ⟨y, hy, ?_⟩
    obtain ⟨h3, h4, h5, h6, h7, h8, h9⟩ := laid_sorts up okp hy
    have hb := (beneath_time (z := b) up okp h3 (by omega) (by omega) (by omega) h4)
    rw [← h5, ← h6] at hb
    unfold hiOf
    rw [List.mem_filter, List.mem_map]
    refine ⟨⟨b, ?_, by rw [e1, e2]⟩, by simpa using hT⟩
    rw [List.mem_filter]
    refine ⟨hb.2.mpr ?_, by simp [e1, e2]; omega⟩
    rw [hb.1, if_neg (by omega), e1, e2]
    have := F.three tT.1 tT.2.1 tT.2.2.1 tT.2.2.2.1 tT.2.2.2.2
    rcases this with ⟨z, _, _⟩ | ⟨_, z1, z2⟩
    · rw [hh] at z; cases z
    · exact Nat.not_lt.mpr (Nat.le_of_lt z2)
theorem highs_nodup {ow row : List Nat} (up : Up ow) (ok : okPre ow (List.range ow.length) row = true) : (highsOf (threesOf ow) (laidL (List.range ow.length) row)).Nodup := by
  have nd := prs_nodup up ok
  unfold prs at nd
  unfold List.Nodup at nd
  rw [List.pairwise_map] at nd
  unfold highsOf List.Nodup
  rw [List.pairwise_flatMap]
  refine ⟨fun y hy => ?_, nd.imp fun {y z} h s hs t ht e => ?_⟩
  · unfold hiOf
    refine List.Pairwise.filter _ ?_
    rw [List.pairwise_map]
    obtain ⟨_, _, _, h6, _⟩ := laid_sorts up ok hy
    have L := lineAt_line (Line.range ow.length) (okPre_take (k := tmR ow row y.1 y.2.1) ok)
    rw [h6]
    exact (((L.nd.sublist (List.drop_sublist _ _))).filter _).imp fun {c c'} h e => h (by simpa using e)
  · subst e
    unfold hiOf at hs ht
    rw [List.mem_filter, List.mem_map] at hs ht
    obtain ⟨⟨m, _, e⟩, _⟩ := hs
    obtain ⟨⟨m', _, e'⟩, _⟩ := ht
    rw [← e'] at e
    simp only [List.cons.injEq, and_true] at e
    exact h (by rw [e.1, e.2.2])
/-- all that are high, rising, as the walk gathers them -/
def highsL (sides row : List Nat) : List (List Nat) := threesN (Tof sides) (codeN sides row)
theorem highsL_eq {sides row : List Nat} : highsL sides row = (Tof sides).filter fun t => decide (t ∈ highsOf (Tof sides) (laidOf sides row)) := threes_bits (nodup_threes _) highsOf_mem
theorem highsL_sub {sides row : List Nat} : ∀ t ∈ highsL sides row, t ∈ Tof sides := fun t h => (List.mem_filter.mp h).1
theorem highsL_sort {sides row : List Nat} (hs : SidesOk sides) (hr : RowOk sides row) : sortBy (keyT 1000) ((highsOf (Tof sides) (laidOf sides row)).map nT) = (highsL sides row).map nT := by
  have hl := len_owners sides
  have h10 := hs.ten
  have up : Up (owners sides) := up_owners (by omega)
  have okp := okRow_pre hr.ok
  symm
  have lt : ((highsL sides row).map nT).Pairwise fun a b => keyT 1000 a < keyT 1000 b := by
    rw [List.pairwise_map]
    exact (threes_lt (by omega)).filter _
  refine sortBy_uniq ?_ ?_ (lt.imp fun h => Int.le_of_lt h)
  · intro a ha b hb e
    obtain ⟨s, hs, rfl⟩ := List.mem_map.mp ha
    obtain ⟨t, ht, rfl⟩ := List.mem_map.mp hb
    have hs := highsOf_mem s hs
    have ht := highsOf_mem t ht
    obtain ⟨i, hi, rfl⟩ := List.mem_iff_getElem.mp hs
    obtain ⟨j, hj, rfl⟩ := List.mem_iff_getElem.mp ht
    have pw := List.pairwise_iff_getElem.mp (threes_lt (ow := owners sides) (by omega))
    rcases Nat.lt_trichotomy i j with h | h | h
    · exact absurd e (Int.ne_of_lt (pw i j hi hj h))
    · subst h; rfl
    · exact absurd e.symm (Int.ne_of_lt (pw j i hj hi h))
  · refine List.Perm.map _ ?_
    rw [List.perm_ext_iff_of_nodup]
    · intro t
      rw [highsL_eq, List.mem_filter]
      constructor
      · rintro ⟨_, h⟩; simpa using h
      · intro h; exact ⟨highsOf_mem t h, by simpa using h⟩
    · rw [highsL_eq]; exact (nodup_threes _).filter _
    · exact highs_nodup up okp
end LZ

set_option maxRecDepth 100000
set_option maxHeartbeats 1000000
namespace LZ
open PySem PySem.Spec PyProof.Rows L2 RR
/-! ### the law's own walk to what is high -/
def upIn (ow : List Nat) (y : LozL) (m : Nat) : Bool := (decide (y.1 < m) && decide (m < y.2.1)) && (decide (nthN ow y.1 < nthN ow m) && decide (nthN ow m < nthN ow y.2.1))
theorem hiOf_law {ow : List Nat} (up : Up ow) {y : LozL} (ha : y.1 < ow.length) (hc : y.2.1 < ow.length) : ((y.2.2.2.2.filter (upIn ow y)).map fun m => [y.1, m, y.2.1]) = hiOf (threesOf ow) y := by
  unfold hiOf
  rw [List.filter_map, List.filter_filter]
  congr 1
  apply List.filter_congr
  intro m hm
  simp only [Function.comp_def, mem_T up]
  unfold upIn
  by_cases h1 : y.1 < m
  · by_cases h2 : m < y.2.1
    · simp [h1, h2, hc]
    · simp [h1, h2]
  · simp [h1]
theorem eq_law_highs {sides row : List Nat} {o : D} {st : Store} (hs : SidesOk sides) (hr : RowOk sides row) (ho : IsL st o row) : sem__law_highs [nT sides, o] st = .ok (.lst ((highsL sides row).map nT)) st := by
  have hl := len_owners sides
  have h3 := hs.ten
  have h4 := hs.four
  have hlen := hr.len
  have up : Up (owners sides) := up_owners (by omega)
  have okp := okRow_pre hr.ok
  have hT := T_64 sides hs
  have elaid := fun st (h : IsL st o row) => eq_law_laid (st := st) hs hr h
  have hnd := highs_nodup up okp
  have hlenH : ∀ k, (highsOf (Tof sides) ((laidOf sides row).take k)).length ≤ 64 := by
    intro k
    have h1 : (highsOf (Tof sides) ((laidOf sides row).take k)).Nodup := by
      have e : highsOf (Tof sides) (laidOf sides row) = highsOf (Tof sides) ((laidOf sides row).take k) ++ highsOf (Tof sides) ((laidOf sides row).drop k) := by
        unfold highsOf
        rw [← List.flatMap_append, List.take_append_drop]
      have hnd' : (highsOf (Tof sides) (laidOf sides row)).Nodup := hnd
      rw [e] at hnd'
      exact (List.nodup_append.mp hnd').1
    have h2 := List.Nodup.length_le_of_subset h1 (l₂ := Tof sides) fun t ht => highsOf_mem t ht
    have : (Tof sides).length < 64 := hT
    omega
  refine semB_eq rfl ?_
  unfold b__law_highs
  simp only [env0, List.map_cons, List.map_nil, List.length_cons, List.length_nil, Nat.reduceAdd, Nat.reduceSub, List.cons_append, List.nil_append, List.reduceReplicate]
  simp [eq_law_owner st (show sides.length ≤ 100 by omega) (show sides.sum ≤ 1000 by omega)]
  refine post_thn (post_sL (st1 := st) (laidOf sides row) encY (fun k e s => ∃ x4 x5 x6 x7 x8 x9, e = [some (nT sides), some o, some (nL (owners sides)), some (.lst ((highsOf (Tof sides) ((laidOf sides row).take k)).map nT)), x4, x5, x6, x7, x8, x9] ∧ s = st)
    (by simp [elaid st ho]) (by rw [laidL_len]; omega) ⟨none, none, none, none, none, none, by simp [highsOf], rfl⟩ ?_ ?_)
  · rintro k y env s J hy ⟨x4, x5, x6, x7, x8, x9, rfl, rfl⟩ tu
    obtain ⟨_, _, _, h6, h7, h8, h9⟩ := laid_sorts up okp (List.mem_of_getElem? hy)
    have L := lineAt_line (Line.range (owners sides).length) (okPre_take (k := tmR (owners sides) row y.1 y.2.1) okp)
    have hb : ∀ m ∈ y.2.2.2.2, m < (owners sides).length := fun m hm => by
      rw [h6] at hm
      exact (L.mem m).mp (List.mem_of_mem_drop hm)
    have hbl : y.2.2.2.2.length ≤ 16 := by rw [h6]; simp [L.len]; omega
    simp only [encY, s_tp, List.length_cons, List.length_nil, Nat.reduceAdd, if_true, s_gsc, s_nm, s_gsn, thn_ok, List.set_cons_succ, List.set_cons_zero, post_ok, toB_nx]
    have elc : mLeave 1 (mLcN (iSeq (mVar 8)) (gNm 9) (tAnd2 (mTest (mChain gLt gLt (mVar 4) (mVar 9) (mVar 5))) (mTest (mChain gLt gLt (op2 gIx (mVar 2) (mVar 4)) (op2 gIx (mVar 2) (mVar 9)) (op2 gIx (mVar 2) (mVar 5))))) (mTup (aCons (mVar 4) (aCons (mVar 9) (aCons (mVar 5) aNil)))) [9])
        [some (nT sides), some o, some (nL (owners sides)), some (.lst ((highsOf (Tof sides) ((laidOf sides row).take k)).map nT)), some (nI y.1), some (nI y.2.1), some (nI y.2.2.1), some (nL y.2.2.2.1), some (nL y.2.2.2.2), x9] s = .ok (.lst ((hiOf (Tof sides) y).map nT)) s := by
      rw [mLc_s y.2.2.2.2 nI (upIn (owners sides) y) (fun m => nT [y.1, m, y.2.1]) (by rfl) (by omega) (fun m hm acc => ⟨_, by simp [wipeE]; rfl, ?_, fun _ => by simp [nT]⟩) (fun _ _ _ => bel_T)]
      · rw [← hiOf_law up (by omega) h8, List.map_map]
        rfl
      · have hm' := hb m hm
        have i1 : ∀ S, gIx (nL (owners sides)) (nI y.1) S = _ := fun S => n_ixL (by omega)
        have i2 : ∀ S, gIx (nL (owners sides)) (nI m) S = _ := fun S => n_ixL hm'
        have i3 : ∀ S, gIx (nL (owners sides)) (nI y.2.1) S = _ := fun S => n_ixL h8
        unfold upIn
        by_cases c1 : y.1 < m
        · by_cases c2 : m < y.2.1
          · by_cases c3 : nthN (owners sides) y.1 < nthN (owners sides) m
            · simp [i1, i2, i3, c1, c2, c3]
            · simp [i1, i2, i3, c1, c2, c3]
          · simp [i1, i2, i3, c1, c2]
        · simp [i1, i2, i3, c1]
    have hsz := hlenH k
    have hsz2 := hlenH (k + 1)
    have e2 : highsOf (Tof sides) ((laidOf sides row).take (k + 1)) = highsOf (Tof sides) ((laidOf sides row).take k) ++ hiOf (Tof sides) y := by
      unfold highsOf
      rw [fm_take _ hy]
    have eadd : ∀ S, gAdd (.lst ((highsOf (Tof sides) ((laidOf sides row).take k)).map nT)) (.lst ((hiOf (Tof sides) y).map nT)) S = .ok (.lst ((highsOf (Tof sides) ((laidOf sides row).take (k + 1))).map nT)) S := by
      intro S
      rw [g_addL, e2, List.map_append, if_pos]
      rw [e2, List.length_append] at hsz2
      rw [List.length_map, List.length_map, sizeLine_eq]
      omega
    rw [s_set, a_op2]
    simp only [a_var, List.getElem?_cons_succ, List.getElem?_cons_zero, a_bind_ok, elc, eadd, List.set_cons_succ, List.set_cons_zero, post_ok]
    exact tu.nx _ _ ⟨_, _, _, _, _, _, rfl, rfl⟩
  · rintro env s ⟨x4, x5, x6, x7, x8, x9, rfl, rfl⟩
    rw [List.take_length]
    have hsz := hlenH (laidOf sides row).length
    rw [List.take_length] at hsz
    have hlt : (highsOf (Tof sides) (laidOf sides row)).length < 64 := by
      have h2 := List.Nodup.length_le_of_subset hnd (l₂ := Tof sides) fun t ht => highsOf_mem t ht
      exact Nat.lt_of_le_of_lt h2 hT
    have esort : gSortT 3 false [.lst ((highsOf (Tof sides) (laidOf sides row)).map nT)] s = .ok (.lst ((highsL sides row).map nT)) s := by
      unfold gSortT
      have e1 : seqOf s (.lst ((highsOf (Tof sides) (laidOf sides row)).map nT)) = some ((highsOf (Tof sides) (laidOf sides row)).map nT) := rfl
      simp only [e1]
      rw [if_pos, highsL_sort hs hr]
      · rfl
      · refine ⟨by simpa using hlt, ?_⟩
        rw [List.all_eq_true]
        intro d hd
        obtain ⟨t, ht, rfl⟩ := List.mem_map.mp hd
        obtain ⟨a, b, c, h1, h2, h3', _, rfl⟩ := mem_threes.mp (highsOf_mem t ht)
        have e : tupI (nT [a, b, c]) = some [(a : Int), (b : Int), (c : Int)] := rfl
        unfold okTup
        rw [e]
        simp
        omega
    simp [esort]
    exact fin_pure (pure_lst (pures_threes _)) (by simp)
/-! ### alike, of lists of lists -/
theorem alike_nT {n : Nat} {xs : List Nat} {st : Store} (h : xs.length ≤ 1000) : semr__law_alike (n + 2) [nT xs, nT xs] st = .ok (.bl true) st :=
  alike_seq sqD_tup sqD_tup (by simpa using h) fun x hx st => by
    obtain ⟨y, _, rfl⟩ := List.mem_map.mp hx
    exact alike_int
theorem alike_nL {n : Nat} {xs : List Nat} {d e : D} {st : Store} (hd : IsL st d xs) (he : IsL st e xs) (h : xs.length ≤ 1000) : semr__law_alike (n + 2) [d, e] st = .ok (.bl true) st := by
  have sq : ∀ {d : D}, IsL st d xs → SqD st d false (xs.map nI) := fun {d} h => by
    rcases h with rfl | ⟨j, rfl, hj⟩
    · exact sqD_lst
    · exact sqD_ref hj
  refine alike_seq (sq hd) (sq he) (by simpa using h) fun x hx st => ?_
  obtain ⟨y, _, rfl⟩ := List.mem_map.mp hx
  exact alike_int
theorem alike_Ts {n : Nat} {T : List (List Nat)} {d e : D} {st : Store} (hd : SqD st d false (T.map nT)) (he : SqD st e false (T.map nT)) (h : T.length ≤ 1000) (h' : ∀ t ∈ T, t.length ≤ 1000) : semr__law_alike (n + 3) [d, e] st = .ok (.bl true) st := by
  refine alike_seq hd he (by simpa using h) fun x hx st => ?_
  obtain ⟨y, hy, rfl⟩ := List.mem_map.mp hx
  exact alike_nT (h' y hy)
end LZ

set_option maxRecDepth 100000
set_option maxHeartbeats 1000000
namespace RR
open PySem PySem.Spec PyProof.Rows L2 LamX NdefX

/-! ### a frame with cells of its own above captured ones -/
theorem cells_two : ∀ (ys : List (Str × NameKind)) (n : Nat) (more : List (Str × Addr)), cellsFrom n ys more = cellsFrom n ys [] ++ more
  | [], _, _ => rfl
  | (y, k) :: ys, n, more => by
    unfold cellsFrom
    cases k == .cell with
    | true =>
      simp only [if_true]
      rw [cells_two ys (n + 1) ((y, n) :: more), cells_two ys (n + 1) [(y, n)], List.append_assoc]
      rfl
    | false => exact cells_two ys n more
theorem cells_name : ∀ (ys : List (Str × NameKind)) (n : Nat) {y : Str} {c : Addr}, (y, c) ∈ cellsFrom n ys [] → ∃ k, (y, k) ∈ ys ∧ k = .cell
  | [], _, _, _, h => by cases h
  | (z, k) :: ys, n, y, c, h => by
    unfold cellsFrom at h
    cases hk : k == NameKind.cell with
    | true =>
      rw [hk, if_pos rfl, cells_two, List.mem_append] at h
      rcases h with h | h
      · obtain ⟨k', h1, h2⟩ := cells_name ys (n + 1) h
        exact ⟨k', List.mem_cons_of_mem _ h1, h2⟩
      · simp only [List.mem_cons, List.not_mem_nil, or_false, Prod.mk.injEq] at h
        obtain ⟨rfl, rfl⟩ := h
        exact ⟨k, List.mem_cons_self, eq_of_beq hk⟩
    | false =>
      rw [hk] at h
      obtain ⟨k', h1, h2⟩ := cells_name ys n h
      exact ⟨k', List.mem_cons_of_mem _ h1, h2⟩
section
variable {M : Model} {A : Around} {E : Value → Shared → Prop} {z₀ z : Shared} {env : PySem.Env} {own clo : List (Str × Addr)} {m cm : Str → Option Value}
theorem two_local {y : Str} {v : Value} {Q : Unit → Shared → Prop} (x : InCallC z₀ env.locals m own cm z) (fk : env.scope.kind = .function) (hy : env.kindOf y = some .local)
    (go : ∀ z', InCallC z₀ env.locals (fun q => if q = y then some v else m q) own cm z' → Q () z') : wpAny M A (storeName env y v) Q E z := by
  refine wpAny_storeName_local hy x.toInCall.ns (fun g ng sg => go _ ?_) (by rw [fk]; rfl)
  obtain ⟨g0, t0, e0⟩ := x.toInCall.same
  refine ⟨⟨⟨g, t0 + 1, by rw [e0]⟩, ng, fun b o hb => ?_, x.toInCall.fresh⟩, fun k c hc => ?_, x.apart, x.above⟩
  · have lt : b < env.locals := Nat.lt_of_lt_of_le (Heap.lt_size hb) x.toInCall.fresh
    exact sg.extBut b o (Nat.ne_of_lt lt) (x.toInCall.keep b o hb)
  · have gt : env.locals < c := x.above k c (PySem.mem_of_lookup hc)
    exact (x.cell k c hc).sameBut sg (Nat.ne_of_gt gt)
theorem two_cell {y : Str} {c : Addr} {v : Value} {Q : Unit → Shared → Prop} (x : InCallC z₀ env.locals m own cm z) (fk : env.scope.kind = .function) (hy : env.kindOf y = some .cell) (hc : own.lookup y = some c) (ec : env.cells = own ++ clo)
    (go : ∀ z', InCallC z₀ env.locals m own (fun q => if q = y then some v else cm q) z' → Q () z') : wpAny M A (storeName env y v) Q E z := by
  have gt : env.locals < c := x.above y c (PySem.mem_of_lookup hc)
  have hc' : env.cells.lookup y = some c := by rw [ec, List.lookup_append, hc]; rfl
  refine wpAny_storeName_cell fk hy hc' (x.cell y c hc) fun g cg sg => go _ ?_
  obtain ⟨g0, t0, e0⟩ := x.toInCall.same
  refine ⟨⟨⟨g, t0, by rw [e0]⟩, x.toInCall.ns.sameBut sg (Nat.ne_of_lt gt), fun b o hb => ?_, x.toInCall.fresh⟩, fun k d hd => ?_, x.apart, x.above⟩
  · have lt : b < env.locals := Nat.lt_of_lt_of_le (Heap.lt_size hb) x.toInCall.fresh
    exact sg.extBut b o (Nat.ne_of_lt (Nat.lt_trans lt gt)) (x.toInCall.keep b o hb)
  · by_cases q : k = y
    · rw [q, hc] at hd
      cases hd
      rw [if_pos q]
      exact cg
    · rw [if_neg q]
      refine (x.cell k d hd).sameBut sg fun e => q ?_
      exact name_of_addr x.apart (PySem.mem_of_lookup hd) (by rw [e]; exact PySem.mem_of_lookup hc)
theorem two_binds (f : Str × Value → PUnit → Sem (ForInStep PUnit)) (ef : ∀ y v u, f (y, v) u = (do storeName env y v; pure (.yield ⟨⟩))) (fk : env.scope.kind = .function) (ec : env.cells = own ++ clo) :
    ∀ (bs : List (Str × Value)) (m cm : Str → Option Value) (z : Shared) (Q : PUnit → Shared → Prop), InCallC z₀ env.locals m own cm z →
      (∀ b ∈ bs, env.kindOf b.1 = some .local ∨ (env.kindOf b.1 = some .cell ∧ ∃ c, own.lookup b.1 = some c)) →
      (∀ z', InCallC z₀ env.locals (bindL env.kindOf bs m) own (bindC env.kindOf bs cm) z' → Q ⟨⟩ z') → wpAny M A (forIn bs ⟨⟩ f) Q E z
  | [], _, _, z, _, x, _, go => by
    rw [List.forIn_nil]
    exact wpAny_pure (go z x)
  | (y, v) :: bs, m, cm, z, Q, x, hb, go => by
    rw [List.forIn_cons, ef]
    have hbs := fun b (hm : b ∈ bs) => hb b (List.mem_cons_of_mem _ hm)
    rcases hb (y, v) List.mem_cons_self with k | ⟨k, c, hc⟩
    · refine wpAny_bind (wpAny_bind (two_local x fk k fun z1 x1 => wpAny_pure (two_binds f ef fk ec bs _ _ z1 Q x1 hbs fun z2 x2 => go z2 ?_)))
      simp only [bindL, bindC, if_pos k]
      exact x2
    · have nk : ¬ env.kindOf y = some .local := by rw [k]; decide
      refine wpAny_bind (wpAny_bind (two_cell x fk k hc ec fun z1 x1 => wpAny_pure (two_binds f ef fk ec bs _ _ z1 Q x1 hbs fun z2 x2 => go z2 ?_)))
      simp only [bindL, bindC, if_neg nk]
      exact x2
theorem two_env {sc : Scope} {gl : Addr} {bs : List (Str × Value)} {ql : Str} {fu : Option Addr} {cd : Value} {bu : Addr} {Q : PySem.Env → Shared → Prop} (fk : sc.kind = .function)
    (hb : ∀ b ∈ bs, sc.names.lookup b.1 = some .local ∨ sc.names.lookup b.1 = some .cell)
    (go : ∀ z', InCallC z z.heap.objs.size (bindL (fun y => List.lookup y sc.names) bs fun _ => none) (cellsFrom (z.heap.objs.size + 1) sc.names []) (bindC (fun y => List.lookup y sc.names) bs fun _ => none) z' →
      Q (newEnv sc z.heap.objs.size gl (cellsFrom (z.heap.objs.size + 1) sc.names clo) ql fu cd none bu) z') : wpAny M A (newFunctionEnv sc gl clo bs ql fu cd none bu) Q E z := by
  simp only [newFunctionEnv, Option.isSome_none, Bool.false_eq_true, if_false]
  refine wpAny_bind (wpAny_alloc ?_)
  refine wpAny_bind (wpAny_layCells _ (fun y k cs => by cases hk : k == NameKind.cell <;> simp [hk]) _ _ _ _ ?_)
  have ok := cellsFrom_ok sc.names (z.heap.push { cls := .type "frame", data := .dict #[] }) (z.heap.objs.size + 1) [] ⟨fun _ _ q => (nomatch q), List.Pairwise.nil⟩ (by rw [Heap.size_push]; exact Nat.le_refl _)
  rw [Heap.size_push] at ok
  have es : ({ z with heap := z.heap.push { cls := .type "frame", data := .dict #[] } } : Shared).heap.objs.size = z.heap.objs.size + 1 := Heap.size_push ..
  rw [es]
  refine wpAny_bind (two_binds (z₀ := z) (own := cellsFrom (z.heap.objs.size + 1) sc.names []) (clo := clo) (env := newEnv sc z.heap.objs.size gl (cellsFrom (z.heap.objs.size + 1) sc.names clo) ql fu cd none bu)
    _ (fun _ _ _ => rfl) fk (cells_two _ _ _) bs (fun _ => none) (fun _ => none) _ _ ?_ (fun b hm => ?_) fun z' x => wpAny_pure (go z' x))
  · refine ⟨⟨⟨_, _, rfl⟩, ?_, fun b o e => ?_, Nat.le_refl _⟩, fun y c hc => (ok.empty y c (PySem.mem_of_lookup hc)).1, ok.apart, fun y c hm => (ok.empty y c hm).2⟩
    · exact (Heap.Ns.new z.heap (.type "frame")).keeps (pushCells_keeps _ _)
    · exact pushCells_keeps _ _ b o (Heap.get?_push_of_some _ e)
  · rcases hb b hm with k | k
    · exact .inl k
    · exact .inr ⟨k, cell_has k⟩
end
/-- names of a nested def: parameters, captured ones, then its own; its own may be cells -/
structure ScN (N ps fr : List Str) (sc : Scope) : Prop where
  kind : sc.kind = .function
  co : sc.isCoroutine = false
  gen : sc.isGenerator = false
  nd : N.Nodup
  pre : N.take (ps.length + fr.length) = ps ++ fr
  par : ∀ x ∈ ps, sc.names.lookup x = some .local ∨ sc.names.lookup x = some .cell
  uniq : ∀ y ∈ sc.names, sc.names.lookup y.1 = some y.2
  free : ∀ y ∈ sc.names, y.2 = .free → y.1 ∈ fr
  frk : ∀ x ∈ fr, sc.names.lookup x = some .free
def scNB (N ps fr : List Str) (sc : Scope) : Bool :=
  decide (sc.kind = .function) && !sc.isCoroutine && !sc.isGenerator && decide N.Nodup && decide (N.take (ps.length + fr.length) = ps ++ fr) && ps.all (fun x => decide (sc.names.lookup x = some .local) || decide (sc.names.lookup x = some .cell)) &&
    sc.names.all (fun y => decide (sc.names.lookup y.1 = some y.2)) && sc.names.all (fun y => !decide (y.2 = .free) || decide (y.1 ∈ fr)) && fr.all (fun x => decide (sc.names.lookup x = some .free))
theorem scN_by {N ps fr : List Str} {sc : Scope} (h : scNB N ps fr sc = true) : ScN N ps fr sc := by
  unfold scNB at h
  simp only [Bool.and_eq_true, Bool.not_eq_true', decide_eq_true_eq, List.all_eq_true, Bool.or_eq_true, decide_eq_false_iff_not] at h
  obtain ⟨⟨⟨⟨⟨⟨⟨⟨a1, a2⟩, a3⟩, a4⟩, a5⟩, a6⟩, a7⟩, a8⟩, a9⟩ := h
  exact ⟨a1, a2, a3, a4, a5, a6, a7, fun y hy e => (a8 y hy).elim (fun q => (q e).elim) id, a9⟩
abbrev envT (F : NF) (f L : Addr) : PySem.Env := PySem.W.envX F.qual F.scope L f (.ref F.c) (cellsFrom (L + 1) F.scope.names F.cl)
/-- the context of such a body -/
def ncT (CX : CXT) (P : Program) (w : World) (K : PySem.W.Frag) (mg : Str → Option Value) (base : Heap) (N : List Str) (F : NF) (f : Addr) (A : Around) (outer : List PySem.Env) (s : Shared) (H : Hp) (E : XK) : Cx :=
  { prog := P, w := w, K := K, mg := mg, base := base, A := A.deeper (envT F f s.heap.objs.size), N := N, s_0 := s, H_0 := H, env := envT F f s.heap.objs.size, outer := outer,
    stack := envT F f s.heap.objs.size :: outer, ex := [], calm := true, fn := fun x => F.scope.names.lookup x == some .cell, pn := [],
    xe := fun e s' => wpAny (model P w) (A.deeper (envT F f s.heap.objs.size)) (leaving (envT F f s.heap.objs.size) e) (fun _ s'' => CX outer H s E e s'') (fun e' s'' => CX outer H s E e' s'') s' }
section
variable {CX : CXT} {P : Program} {w : World} {K : PySem.W.Frag} {mg : Str → Option Value} {base : Heap} {N ps fr : List Str} {F : NF} {f : Addr} {A : Around} {outer : List PySem.Env} {s s1 : Shared} {H : Hp} {E : XK} {us : List Value} {vs : List V} {ws : List (Option V)}
theorem two_inv (S : ScN N ps fr F.scope) (hd : A.handled = none) (e0 : Env0 P w K mg base A outer s H) (hl : vs.length = ps.length) (r : Vals vs us) (C : CellsAt F.cl fr ws s.heap H)
    (x : InCallC s s.heap.objs.size (bindL (fun y => List.lookup y F.scope.names) (ps.zip us) fun _ => none) (cellsFrom (s.heap.objs.size + 1) F.scope.names []) (bindC (fun y => List.lookup y F.scope.names) (ps.zip us) fun _ => none) s1) :
    Inv (ncT CX P w K mg base N F f A outer s H E) [] (startF N vs ws) H s1 := by
  have hpl : ps.length + fr.length ≤ N.length := by
    have q := congrArg List.length S.pre
    rw [List.length_take, List.length_append] at q
    omega
  obtain ⟨g, tk, rfl, kp⟩ := x.done
  have none_ex : ∀ b : Addr, b ∉ (ncT CX P w K mg base N F f A outer s H E).ex := fun b q => by cases q
  have own_look : ∀ {y c}, (cellsFrom (s.heap.objs.size + 1) F.scope.names []).lookup y = some c → F.scope.names.lookup y = some .cell := fun {y c} h => by
    obtain ⟨k, h1, h2⟩ := cells_name _ _ (PySem.mem_of_lookup h)
    have := S.uniq _ h1
    rw [h2] at this
    exact this
  have clo_lt : ∀ {y c}, F.cl.lookup y = some c → c < s.heap.objs.size := fun {y c} h => by
    obtain ⟨_, v, o, ho, _⟩ := C.all y c h
    exact Heap.lt_size ho
  have own_gt : ∀ {y c}, (cellsFrom (s.heap.objs.size + 1) F.scope.names []).lookup y = some c → s.heap.objs.size < c := fun {y c} h => x.above y c (PySem.mem_of_lookup h)
  have look : ∀ {y c}, (cellsFrom (s.heap.objs.size + 1) F.scope.names F.cl).lookup y = some c → (cellsFrom (s.heap.objs.size + 1) F.scope.names []).lookup y = some c ∨ ((cellsFrom (s.heap.objs.size + 1) F.scope.names []).lookup y = none ∧ F.cl.lookup y = some c) := fun {y c} h => by
    rw [cells_two, List.lookup_append] at h
    cases q : (cellsFrom (s.heap.objs.size + 1) F.scope.names []).lookup y with
    | some d => rw [q] at h; exact .inl h
    | none => rw [q] at h; exact .inr ⟨rfl, h⟩
  have has_own : ∀ {y c}, (cellsFrom (s.heap.objs.size + 1) F.scope.names []).lookup y = some c → (cellsFrom (s.heap.objs.size + 1) F.scope.names F.cl).lookup y = some c := fun {y c} h => by
    rw [cells_two, List.lookup_append, h]; rfl
  have has_clo : ∀ {y c}, F.scope.names.lookup y = some .free → F.cl.lookup y = some c → (cellsFrom (s.heap.objs.size + 1) F.scope.names F.cl).lookup y = some c := fun {y c} k h => by
    rw [cells_two, List.lookup_append]
    cases q : (cellsFrom (s.heap.objs.size + 1) F.scope.names []).lookup y with
    | some d => have := own_look q; rw [k] at this; cases this
    | none => exact h
  have keepC : ∀ {c : Addr} {v : Option Value}, s.heap.IsCell c v → g.IsCell c v := fun {c v} ⟨o, ho, hdd⟩ => ⟨o, kp _ _ ho, hdd⟩
  refine ⟨⟨e0.mod, S.kind, rfl, rfl, Nat.le_refl _, fun y1 y2 c h1 h2 => ?_, fun y hy => ?_, fun y c hf h => ?_, fun _ => hd, Around.frames_deeper e0.frames, .inr ⟨rfl, rfl⟩, fun b q => (none_ex b q).elim, e0.bs, e0.bsz, fun b _ _ => none_ex b, fun b q => (none_ex b q).elim, e0.funs, e0.frf⟩,
    rfl, e0.bare, Un.kept kp, ⟨_, x.toInCall.ns, fun i y v h1 h2 _ => ?_⟩, fun y c h => ?_, e0.hok.fresh (Nat.le_refl _), fun y c h => ?_, fun p hp => (nomatch hp), e0.hok.kept kp, ?_⟩
  · rcases look h1 with a | ⟨_, a⟩ <;> rcases look h2 with b | ⟨_, b⟩
    · exact name_of_addr x.apart (PySem.mem_of_lookup a) (PySem.mem_of_lookup b)
    · exact absurd (own_gt a) (Nat.lt_asymm (clo_lt b))
    · exact absurd (own_gt b) (Nat.lt_asymm (clo_lt a))
    · exact C.inj y1 y2 c a b
  · have hy : F.scope.names.lookup y = some .cell ∨ F.scope.names.lookup y = some .free := hy
    rcases hy with k | k
    · obtain ⟨c, hc⟩ := cell_has (n := s.heap.objs.size + 1) k
      exact ⟨c, has_own hc⟩
    · obtain ⟨i, hi⟩ := List.mem_iff_getElem?.mp (S.free _ (PySem.mem_of_lookup k) rfl)
      obtain ⟨c, hc, _⟩ := C.has i y hi
      exact ⟨c, has_clo k hc⟩
  · have hf : (F.scope.names.lookup y == some NameKind.cell) = true := hf
    have k : F.scope.names.lookup y = some .cell := eq_of_beq hf
    obtain ⟨d, hdd⟩ := cell_has (n := s.heap.objs.size + 1) k
    have e := has_own hdd
    have h : (cellsFrom (s.heap.objs.size + 1) F.scope.names F.cl).lookup y = some c := h
    rw [e] at h
    cases h
    exact Nat.le_of_lt (own_gt hdd)
  · have h1 : N[i]? = some y := h1
    have cl := C.len
    unfold startF at h2
    by_cases i1 : i < ps.length
    · have hq : (ps ++ fr)[i]? = some y := by rw [← S.pre, List.getElem?_take_of_lt (by omega)]; exact h1
      rw [List.getElem?_append_left i1] at hq
      rw [List.getElem?_append_left (by rw [List.length_map]; omega), List.getElem?_map] at h2
      have ha : vs[i]? = some v := by
        cases e : vs[i]? with
        | none => rw [e] at h2; cases h2
        | some a => rw [e] at h2; cases h2; rfl
      obtain ⟨u, hu, rv⟩ := r.get ha
      have ndP : ps.Nodup := by
        have q := S.nd.sublist (List.take_sublist (ps.length + fr.length) N)
        rw [S.pre] at q
        exact (List.nodup_append.mp q).1
      refine ⟨u, rv, ?_⟩
      rcases S.par y (List.mem_of_getElem? hq) with k | k
      · exact .inl ⟨k, bindL_get ndP hq hu k⟩
      · obtain ⟨c, hc⟩ := cell_has (n := s.heap.objs.size + 1) k
        refine .inr ⟨.inl k, c, has_own hc, ?_⟩
        have q := x.cell y c hc
        rw [bindC_get ndP hq hu (by rw [k]; decide)] at q
        exact q
    · rw [List.getElem?_append_right (by rw [List.length_map]; omega), List.length_map] at h2
      by_cases i2 : i < ps.length + fr.length
      · have hq : (ps ++ fr)[i]? = some y := by rw [← S.pre, List.getElem?_take_of_lt (by omega)]; exact h1
        rw [List.getElem?_append_right (by omega)] at hq
        rw [List.getElem?_append_left (by omega), hl] at h2
        obtain ⟨c, hc, hv⟩ := C.has (i - ps.length) y hq
        obtain ⟨u, ru, hu⟩ := hv v h2
        have k := S.frk y (List.mem_of_getElem? hq)
        exact ⟨u, ru, .inr ⟨.inr k, c, has_clo k hc, keepC hu⟩⟩
      · rw [List.getElem?_append_right (by omega), List.getElem?_replicate] at h2
        split at h2 <;> cases h2
  · rcases look h with a | ⟨_, a⟩
    · exact ⟨_, x.cell y c a⟩
    · obtain ⟨v, q⟩ := (C.all y c a).2
      exact ⟨v, keepC q⟩
  · rcases look h with a | ⟨_, a⟩
    · exact e0.hok.fresh (Nat.le_of_lt (own_gt a))
    · exact (C.all y c a).1
  · have cl := C.len
    unfold startF
    show _ = N.length
    rw [List.length_append, List.length_append, List.length_map, List.length_replicate]
    omega
end
section
variable {CX : CXT} {P : Program} {w : World} {K : PySem.W.Frag} {mg : Str → Option Value} {base : Heap} {N ps fr : List Str} {F : NF} {f : Addr} {k : Nat} {sp : List (Option V) → Sp}
/-- a nested def by its body -/
theorem two_nok (S : ScN N ps fr F.scope) (hb : ∀ (doc pm ctv : Value) (us : List Value), us.length = ps.length → bindArgs (F.fd doc pm ctv) ⟨us, []⟩ = pure (ps.zip us)) (len : ∀ ws vs H Q E, sp ws vs H Q E → vs.length = ps.length)
    (body : ∀ (A : Around) (outer : List PySem.Env) (s : Shared) (H : Hp) (vs : List V) (ws : List (Option V)) (Q : VK) (E : XK), Room k (A.deeper (envT F f s.heap.objs.size)) → H f = some (FnO f F) → H F.c = some (CodeO F.c F.qual) → ws.length = fr.length → sp ws vs H Q E →
      ∃ t, PSs (ncT CX P w K mg base N F f A outer s H E) F.body t ∧ t { nx := fun _ H' => Q .non H', rt := Q } (startF N vs ws) H) :
    NOk P w K mg base CX (k + 1) f F ps fr sp := by
  refine ⟨len, fun A outer s H us vs ws Q E hr e0 hf hc C r hsp => ?_⟩
  have hl := len _ _ _ _ _ hsp
  have lim : s.heap.NoLimit := e0.mod.nolimit.keeps fun b o e => (e0.bs b o e).1
  obtain ⟨od, sl, doc, pm, ctv, ho⟩ := fnO_at e0.hok hf
  refine codeAny_call_function hr.depth ho rfl S.co S.gen rfl (codeO_at e0.hok hc) ?_
  have hu : us.length = ps.length := by rw [← r.length]; exact hl
  rw [hb doc pm ctv us hu]
  refine wpAny_pure (two_env S.kind (fun b hm => S.par b.1 (List.of_mem_zip hm).1) fun z' x => ⟨lim.keeps x.toInCall.keep, codeAny_func ?_⟩)
  obtain ⟨t, ht, hq⟩ := body A outer s H vs ws Q E (hr.deeper _) hf hc C.len hsp
  have I : Inv (ncT CX P w K mg base N F f A outer s H E) [] (startF N vs ws) H z' := two_inv S hr.hd e0 hl r C x
  refine wpAny_mono (ht.run [] z' (startF N vs ws) H _ I hq) (fun fl s' hs => ?_) fun e s' hs => hs
  have fin : ∀ {σ' : L2.St} {H' : Hp} {v : V} {u : Value}, Inv (ncT CX P w K mg base N F f A outer s H E) [] σ' H' s' → L2.RelV v u → Q v H' → CE outer P w H s Q u s' :=
    fun J rv q => ⟨_, _, J.os, J.bare, J.base, J.hok, rv, q⟩
  cases fl with
  | brk =>
    obtain ⟨_, _, _, q⟩ := hs
    exact q.elim
  | cont =>
    obtain ⟨_, _, _, q⟩ := hs
    exact q.elim
  | ret u =>
    obtain ⟨v, σ', H', J, rv, q⟩ := hs
    exact fin J rv q
  | next =>
    obtain ⟨σ', H', J, q⟩ := hs
    exact fin (v := V.non) (u := Value.none) J rfl q
end
end RR

set_option maxRecDepth 100000
set_option maxHeartbeats 1000000
namespace RR
open PySem PySem.Spec PyProof.Rows L2 LamX NdefX
/-! ### a comprehension, its parts read with what is known of the frame at its start -/
section
variable {X : Cx} {elt tg iter : Expr} {ifs : List Expr} {scope : Scope} {own : List (Str × Nat)} {pos pos' : Pos} {wi : TI} {g : TG} {tt : TT} {te : TE}
/-- the frame stands at z as Inv tells -/
def Start (X : Cx) (σ : L2.St) (z : Shared) (G : Hp) (fp : List Addr) : Prop := ∃ pins, Inv X pins σ G z ∧ ∀ b ∈ fp, FpOk X pins G b
abbrev blkE (X : Cx) (scope : Scope) (z : Shared) : PySem.Env := compEnvC scope (cellsFrom (z.heap.objs.size + 1) scope.names (cloFrom X.env.cells scope.names [])) z.heap.objs.size X.env
structure Parts (X : Cx) (σ : L2.St) (tg elt : Expr) (ifs : List Expr) (scope : Scope) (g : TG) (tt : TT) (te : TE) : Prop where
  tgt : ∀ (z : Shared) (G : Hp) (fp : List Addr), Start X σ z G fp → PG (X.blk z G scope (blkE X scope z) fp) tg g
  ift : ∀ (z : Shared) (G : Hp) (fp : List Addr), Start X σ z G fp → PTs (X.blk z G scope (blkE X scope z) fp) ifs tt
  elm : ∀ (z : Shared) (G : Hp) (fp : List Addr), Start X σ z G fp → PE (X.blk z G scope (blkE X scope z) fp) elt te
theorem lc_with {pins : List (Addr × Obj)} {z : Shared} {σ : L2.St} {H : Hp} {Q : VK} {use : Option (Value → Sem Unit)} {Qf : Value → Shared → Prop} (hc : X.calm = true) (hN : X.N.Nodup) (I : Inv X pins σ H z) (hi : PI X tg iter wi) (ok : BlkOk X.N X.env.scope scope own)
    (parts : Parts X σ tg elt ifs scope g tt te) (hs : ∀ x, foldedSetIterable iter X.env x = pure x) (rd : tLc wi g tt te (own.map (·.2)) σ H Q)
    (out : ∀ L C z' m G, Inv X pins σ G z' → Q (.ref L) G → z'.heap.Ns C m → FpOk X pins G C → compPost (model X.prog X.w) X.A X.xe use Qf (.ref L) C (.ok .next) z') :
    wpAny (model X.prog X.w) X.A (comprehension (.ListComp elt [⟨tg, iter, ifs, 0⟩] scope pos) scope X.env pos' (newList []) false (eval iter X.env) use) Qf X.xe z := by
  have cap : ∀ y ∈ scope.names, y.2 = .free → ∃ c, X.env.cells.lookup y.1 = some c := fun y hy e => I.ok.has _ (ok.free y hy e)
  refine wpAny_comprehension_free (use := use) rfl hs (closure_ok cap) ok.kind (fun y hy e => by rw [ok.uniq y hy, e]) (thn (hi.run pins z σ H _ I rd) fun _ zi hx => thn hx fun _ za ha => ?_)
  obtain ⟨it, fp, tn, J, Ga, rfl, Ia, T, sta, fpa, rd1⟩ := ha
  refine wpAny_newObj_type (newEnv_comp ?_) (by show 0 ≤ sizeLine; decide)
  generalize eL : za.heap.objs.size = L
  have freshL : Ga L = none := Ia.hok.fresh (Nat.le_of_eq eL)
  obtain ⟨Wt, ⟨n0, begin0⟩, turns⟩ := rd1 L freshL
  generalize ezb : ({ za with heap := za.heap.push { cls := .type "list", data := .seq ([] : List Value).toArray } } : Shared) = zb
  have hb : zb.heap = za.heap.push { cls := .type "list", data := .seq ([] : List Value).toArray } := by rw [← ezb]
  have Ib : Inv X pins σ (upd Ga L (.lst [])) zb := by
    rw [← ezb]
    refine Ia.laid (t' := za.toks) (fun b o e => Heap.get?_push_of_some _ e) (Nat.le_of_eq eL) ⟨Nat.zero_le _, [], 0, .nil, ?_⟩
    rw [← eL]
    exact Heap.get?_push_size _ rfl
  have old : ∀ b ∈ fp, b < za.heap.objs.size := fun b hm => let ⟨o, e, _⟩ := T.obj _ _ sta b hm; Heap.lt_size e
  have fpb : ∀ b ∈ fp, FpOk X pins (upd Ga L (.lst [])) b ∧ b < zb.heap.objs.size := fun b hm => by
    have lt := old b hm
    refine ⟨⟨?_, (fpa b hm).2⟩, by rw [hb, Heap.size_push]; exact Nat.lt_succ_of_lt lt⟩
    rw [upd_ne (by rw [← eL]; exact Nat.ne_of_lt lt)]
    exact (fpa b hm).1
  have stb : tn 0 zb.heap := T.keep _ _ _ sta fun b _ o e => by rw [hb]; exact Heap.get?_push_of_some _ e
  have Ic := block_start Ib ok hN fpb
  have p1 := parts.tgt zb (upd Ga L (.lst [])) fp ⟨pins, Ib, fun b hm => (fpb b hm).1⟩
  have p2 := parts.ift zb (upd Ga L (.lst [])) fp ⟨pins, Ib, fun b hm => (fpb b hm).1⟩
  have p3 := parts.elm zb (upd Ga L (.lst [])) fp ⟨pins, Ib, fun b hm => (fpb b hm).1⟩
  show codeAny _ _ (.compStart (.ListComp elt [⟨tg, iter, ifs, 0⟩] scope pos) 0 (.ref it) (.ref L) (blkE X scope zb)) (compPost (model X.prog X.w) X.A X.xe use Qf (.ref L) zb.heap.objs.size) { zb with heap := pushCells (zb.heap.push { cls := .type "dict", data := .dict #[] }) scope.names }
  have hid : ∀ b ∈ fp, (upd Ga L (.lst [])) b = none := fun b hm => (fpb b hm).1.1
  have eloc : (blkE X scope zb).locals = zb.heap.objs.size := rfl
  dsimp only [blkE] at p1 p2 p3 eloc ⊢
  generalize ec : compEnvC scope (cellsFrom (zb.heap.objs.size + 1) scope.names (cloFrom X.env.cells scope.names [])) zb.heap.objs.size X.env = ce at Ic p1 p2 p3 eloc ⊢
  generalize eG : upd Ga L (.lst []) = Gb at Ib Ic p1 p2 p3 begin0 hid fpb
  generalize ezc : ({ zb with heap := pushCells (zb.heap.push { cls := .type "dict", data := .dict #[] }) scope.names } : Shared) = zc at Ic ⊢
  have stc : tn 0 zc.heap := T.keep _ _ _ stb fun b _ o e => by rw [← ezc]; exact pushCells_keeps _ _ _ _ (Heap.get?_push_of_some _ e)
  have okfp : ∀ {σ' : L2.St} {G : Hp} {z' : Shared}, Inv (X.blk zb Gb scope ce fp) [] σ' G z' → (∀ b ∈ fp, G b = none) → ∀ b ∈ fp, FpOk (X.blk zb Gb scope ce fp) [] G b := fun {σ' G z'} J' n b hm =>
    ⟨n b hm, (J'.ok.exf b hm).1, J'.ok.exfs b hm, .inl hm, fun x c e => (J'.ok.exf b hm).2 x c e, fun p hp => absurd (show p ∈ ([] : List (Addr × Obj)) ++ [] from hp) (by simp)⟩
  let Turn := fun (n : Nat) (z' : Shared) => ∃ i G, Inv (X.blk zb Gb scope ce fp) [] (wipe σ (own.map (·.2))) G z' ∧ tn i z'.heap ∧ (∀ b ∈ fp, G b = none) ∧ Wt i n G
  have loop : codeAny (model X.prog X.w) X.A (.compLoop (.ListComp elt [⟨tg, iter, ifs, 0⟩] scope pos) 0 (.ref it) (.ref L) ce) (compPost (model X.prog X.w) X.A X.xe use Qf (.ref L) zb.heap.objs.size) zc := by
    refine compLoop_any Turn (fun n zd hd => ?_) n0 ⟨0, Gb, Ic, stc, hid, begin0⟩
    obtain ⟨i, Gd, Id, std, hidd, wd⟩ := hd
    rcases turns i n Gd wd with ⟨stop, fin⟩ | ⟨go, Nx, less, step⟩
    · refine thnF (T.done (X.blk zb Gb scope ce fp) rfl rfl rfl hc i [] zd _ Gd (fun _ _ => False) Id (okfp Id hidd) std stop) fun _ ze ⟨er, Ie⟩ => ?_
      subst er
      have If : Inv X pins σ Gd ze := Ib.call' (ch := fp) Ie.os Ie.base Ie.hok Ie.bare fun b hm => ⟨(fpb b hm).1.2.2.2.1, (fpb b hm).1.2.1, (fpb b hm).1.2.2.2.2.1, (fpb b hm).1.2.2.2.2.2⟩
      have nloc : Gd zb.heap.objs.size = none := by rw [← eloc]; exact Ie.free
      obtain ⟨m, ns, _⟩ := Ie.loc
      have ns : ze.heap.Ns zb.heap.objs.size m := by rw [← eloc]; exact ns
      exact out L zb.heap.objs.size ze m Gd If fin ns (Ib.fpOk (Nat.le_refl _) nloc)
    · refine thnF (T.item (X.blk zb Gb scope ce fp) rfl rfl rfl hc i [] zd _ Gd (fun _ _ => False) Id (okfp Id hidd) std go) fun _ ze ⟨u, er, he⟩ => ?_
      subst er
      refine thnF he fun _ zf ⟨x, Gf, If, rf, yf, stf, hidf⟩ => ?_
      have Ip := If.pinned (okfp If hidf) (T.obj _ _ stf)
      refine thnF (p1.run _ zf _ Gf x u _ Ip rf (step x Gf yf)) fun _ zg ⟨σg, Gg, Ig, same, rdg⟩ => ?_
      refine thnF (p2.run _ zg σg Gg _ Ig rdg) fun b zh ⟨Gh, Ih, rdh⟩ => ?_
      have next : ∀ {z' : Shared} {G : Hp}, Inv (X.blk zb Gb scope ce fp) ([] ++ pinsAt fp zf.heap) σg G z' → Nx G → ∃ m, m < n ∧ Turn m z' := fun {z' G} Iz nx => by
        obtain ⟨m, lt, wn⟩ := less G nx
        have held : ∀ b ∈ fp, ∀ o, zf.heap.get? b = some o → z'.heap.get? b = some o ∧ G b = none := fun b hm o e =>
          let q := Iz.pin (b, o) (List.mem_append_right _ (List.mem_append_right _ (mem_pinsAt hm e)))
          ⟨q.1, q.2.1⟩
        have elen : (wipe σ (own.map (·.2))).length = σg.length := by rw [← same, wipe_length]
        refine ⟨m, lt, i + 1, G, (Iz.unpinned (pins := [])).weak elen (fun j v e => ?_), T.keep _ _ _ stf fun b hm o e => (held b hm o e).1, fun b hm => ?_, wn⟩
        · rw [← same] at e
          exact (wipe_some e).1
        · obtain ⟨o, e, _⟩ := T.obj _ _ stf b hm
          exact (held b hm o e).2
      cases b with
      | true =>
        simp only [if_true] at rdh ⊢
        refine thnF (p3.run _ zh σg Gh _ Ih rdh) fun _ zk ⟨yv, Gk, Ik, rk, acc, hL, hz, nx⟩ => ?_
        exact app_ok (X := X.blk zb Gb scope ce fp) Ik hL hz rk fun zl Il => next Il nx
      | false =>
        simp only [Bool.false_eq_true, if_false] at rdh ⊢
        exact next Ih rdh
  exact codeAny_compStart_list loop (T.self X.A 0 _ _ _ stc loop)
/-- name = [..] on one line; the parts may lean on the slots as they are -/
theorem set_with {i : Nat} {y : Str} {py spos : Pos} {E : Ends} {pins : List (Addr × Obj)} {z : Shared} {σ : L2.St} {H : Hp} (hc : X.calm = true) (hN : X.N.Nodup) (hy : X.N[i]? = some y) (hyl : X.env.scope.names.lookup y = some .local)
    (hsw : swapsWith (.ListComp elt [⟨tg, iter, ifs, 0⟩] scope pos) (some (.Name y py)) spos.line X.env = pure true) (hi : PI X tg iter wi) (ok : BlkOk X.N X.env.scope scope own) (parts : Parts X σ tg elt ifs scope g tt te) (hs : ∀ x, foldedSetIterable iter X.env x = pure x) (I : Inv X pins σ H z)
    (rd : tLc wi g tt te (own.map (·.2)) σ H fun x G => gName i x σ G E.nx) : wpAny (model X.prog X.w) X.A (exec (.Assign [.Name y py] (.ListComp elt [⟨tg, iter, ifs, 0⟩] scope pos) spos) X.env) (fun fl z' => SP X pins E fl z') X.xe z := by
  rw [exec_Assign_Name_used _ _ _ _ hsw]
  refine wpAny_bind (wpAny_standAt (wpAny_bind ?_))
  show wpAny _ X.A (do let _ ← comprehension (.ListComp elt [⟨tg, iter, ifs, 0⟩] scope pos) scope X.env (firstIterPos [⟨tg, iter, ifs, 0⟩] pos) (newList []) false (eval iter X.env) (some (assign (.Name y py) X.env))) _ _ z
  refine wpAny_bind (thn (lc_with (Qf := fun _ z' => SP X pins E .next z') hc hN I hi ok parts hs rd fun L C za m G Ia q ns fo => ?_) fun _ _ hq => wpAny_pure (wpAny_pure hq))
  show wpAny _ _ (assign (.Name y py) X.env (.ref L)) _ _ _
  refine wpAny_assign_Name (store_ok2 (v := V.ref L) Ia hN hy (.inl hyl) rfl (fun zb Ib ⟨a, sb, ha⟩ => ?_) (.inr hyl))
  obtain ⟨n0, n1, n2, n3, n4, n5⟩ := fo
  have ne : C ≠ a := by
    rcases ha with q | q
    · rw [q]; exact n1
    · exact fun e => n4 y a q e.symm
  exact ⟨m, ns.sameBut sb ne, fun _ sc => ⟨_, G, Ib.turned (t' := zb.toks) (fun b o hb e => (sc.2 b hb).trans e) n0 n1 n3 n4 n5, q⟩⟩
end
end RR

set_option maxRecDepth 100000
set_option maxHeartbeats 1000000
namespace RR
open PySem PySem.Spec PyProof.Rows L2 LamX NdefX
/-! ### readings in contexts that know more of the heap -/
structure Ctx.Like (c d : Ctx) : Prop where
  at_ : c.at_ = d.at_
  tabs : c.tabs = d.tabs
theorem Ctx.Like.symm {c d : Ctx} (h : c.Like d) : d.Like c := ⟨h.at_.symm, h.tabs.symm⟩
section
variable {K : PySem.W.Frag} {c d : Ctx} {f : List Addr} {H : Hp}
mutual
theorem rep_conv (e : c.at_ = d.at_) : ∀ {v : V} {x : D}, Rep ⟨K, c⟩ f H v x → Rep ⟨K, d⟩ f H v x
  | _, _, .non => .non
  | _, _, .bl b => .bl b
  | _, _, .int i => .int i
  | _, _, .str x => .str x
  | _, _, .ty n => .ty n
  | _, _, .adr a => .adr a
  | _, _, .tup h q r => .tup h q (reps_conv e r)
  | _, _, .ktp h r => .ktp h (reps_conv e r)
  | _, _, .lst h q r => .lst h q (reps_conv e r)
  | _, _, .scr h => .scr h
  | _, _, .ref h => .ref h
  | _, _, .obj (t := t) h q l r => .obj h (by rw [q]; show some (HO.ins (c.at_ t) _ _) = some (HO.ins (d.at_ t) _ _); rw [e]) l (reps_conv e r)
  | _, _, .dT h q l r => .dT h q l (reps_conv e r)
  | _, _, .dK h q l r => .dK h q l (reps_conv e r)
theorem reps_conv (e : c.at_ = d.at_) : ∀ {v : List V} {x : List D}, Reps ⟨K, c⟩ f H v x → Reps ⟨K, d⟩ f H v x
  | _, _, .nil => .nil
  | _, _, .cons a b => .cons (rep_conv e a) (reps_conv e b)
end
theorem sim_conv (e : c.Like d) {st : Store} (S : Sim ⟨K, c⟩ f H st) : Sim ⟨K, d⟩ f H st := by
  refine ⟨S.len, S.nod, fun i a x h1 h2 => ?_, ?_⟩
  · have q := S.cel i a x h1 h2
    cases x with
    | lst ds => obtain ⟨vs, z, r⟩ := q; exact ⟨vs, z, reps_conv e.at_ r⟩
    | dT ks ds => obtain ⟨vs, z, l, r⟩ := q; exact ⟨vs, z, l, reps_conv e.at_ r⟩
    | dK ks ds => obtain ⟨vs, z, l, r⟩ := q; exact ⟨vs, z, l, reps_conv e.at_ r⟩
    | ins t ns ds =>
      obtain ⟨dx, vs, z, l, r⟩ := q
      refine ⟨dx, vs, ?_, l, reps_conv e.at_ r⟩
      rw [z]
      show some (HO.ins (c.at_ t) _ _) = some (HO.ins (d.at_ t) _ _)
      rw [e.at_]
  · have t := S.tab
    show NdefX.TabsN d.tabs H
    rw [← e.tabs]
    exact t
theorem repX_conv (e : c.at_ = d.at_) {a : Value} {o : Option Addr} {x : Ex} (h : RepX ⟨K, c⟩ f H a o x) : RepX ⟨K, d⟩ f H a o x := by
  cases h with
  | pl t =>
    have z : RepX ⟨K, d⟩ f H (.ref (d.at_ t)) none (.pl t) := .pl t
    rw [← e] at z
    exact z
  | fl h1 h2 h3 =>
    rename_i t x d' v a
    have z : RepX ⟨K, d⟩ f H (.ref (d.at_ t)) (some a) (.fl t x d') := .fl h1 h2 (rep_conv e h3)
    rw [← e] at z
    exact z
theorem run_conv (e : c.Like d) {Wx : WX} {σ : L2.St} {r : Rs D} {Q : VK} (h : RunAt ⟨K, c⟩ Wx (Rep ⟨K, c⟩) f H σ r Q) : RunAt ⟨K, d⟩ Wx (Rep ⟨K, d⟩) f H σ r Q := by
  cases r with
  | ok x st => exact fun v f' H' x s q => h v f' H' x (sim_conv e.symm s) (rep_conv e.at_.symm q)
  | exc y st => exact fun a o f' H' x s q => h a o f' H' x (sim_conv e.symm s) (repX_conv e.at_.symm q)
  | no => exact h
theorem env_conv (e : c.at_ = d.at_) (p : d.Plain) {σ : L2.St} {env : Env} (N : EnvOk ⟨K, c⟩ f H σ env) : EnvOk ⟨K, d⟩ f H σ env :=
  ⟨N.len, fun i x h => let ⟨v, h1, h2⟩ := N.val i x h; ⟨v, h1, rep_conv e h2⟩, p f H⟩
theorem runS_conv (e : c.Like d) (p : c.Plain) {Wx : WX} {r : RS} {E : Ends} (h : RunS ⟨K, c⟩ Wx f H r E) : RunS ⟨K, d⟩ Wx f H r E := by
  cases r with
  | ok fl env st =>
    intro σ f' H' x s n
    have q := h σ f' H' x (sim_conv e.symm s) (env_conv e.at_.symm p n)
    cases fl with
    | rt y => exact fun v rv => q v (rep_conv e.at_.symm rv)
    | _ => exact q
  | exc y env st => exact fun a o σ f' H' x s n q => h a o σ f' H' x (sim_conv e.symm s) (env_conv e.at_.symm p n) (repX_conv e.at_.symm q)
  | no => exact h
theorem spF_conv (e : c.Like d) {n : Nat} {sem : List D → Store → Rs D} {vs : List V} {Q : VK} {E : XK} (h : spF ⟨K, c⟩ n sem vs H Q E) : spF ⟨K, d⟩ n sem vs H Q E := by
  obtain ⟨h1, g, st, ds, h2, h3, h4⟩ := h
  exact ⟨h1, g, st, ds, sim_conv e h2, reps_conv e.at_ h3, run_conv e h4⟩
end
section
variable {P : Program} {w : World} {K : PySem.W.Frag} {c d : Ctx} {mg : Str → Option Value} {base : Heap} {k : Nat}
theorem fnD_conv (e : c.Like d) {f : Addr} {fd : FuncData} {ps : List Str} {sem : List D → Store → Rs D} (F : FnD P w K c mg base k f fd ps sem) : FnD P w K d mg base k f fd ps sem := FnOk.imp F fun _ _ _ _ h => spF_conv e.symm h
theorem ent_conv (e : c.Like d) {x : Str} {ps : List Str} {dds : List D} {sem : List D → Store → Rs D} (h : Ent P w K c mg base x k ps dds sem) : Ent P w K d mg base x k ps dds sem := by
  obtain ⟨f, fd, dvs, ds, h1, h2, h3, h4, h5, h6⟩ := h
  exact ⟨f, fd, dvs, ds, h1, h2, h3, h4, fun g H => reps_conv e.at_ (h5 g H), fnD_conv e h6⟩
theorem entM_conv (e : c.Like d) {t : Nat} {m : Str} {ps : List Str} {sem : List D → Store → Rs D} (h : EntM P w K c mg base t m k ps sem) : EntM P w K d mg base t m k ps sem := by
  obtain ⟨f, fd, h1, h2, h3⟩ := h
  exact ⟨f, fd, by show Meth K (d.at_ t) m f; rw [← e.at_]; exact h1, h2, fnD_conv e h3⟩
theorem entI_conv (e : c.Like d) {x : Str} {t : Nat} {ps : List Str} {sem : List D → Store → Rs D} (h : EntI P w K c mg base x t k ps sem) : EntI P w K d mg base x t k ps sem := by
  obtain ⟨f, fd, h1, h2, h3, h4⟩ := h
  refine ⟨f, fd, ?_, ?_, h3, fnD_conv e h4⟩
  · show mg x = some (.ref (d.at_ t)); rw [← e.at_]; exact h1
  · show Mk K (d.at_ t) f; rw [← e.at_]; exact h2
end
/-! ### a nested def: its promise on data -/
def WsOk (W : Wd) (f : List Addr) (H : Hp) (ws : List (Option V)) (es : List (Option D)) : Prop := ws.length = es.length ∧ ∀ (i : Nat) (x : D), es[i]? = some (some x) → ∃ v, ws[i]? = some (some v) ∧ Rep W f H v x
def spN (W : Wd) (n m : Nat) (sem : List D → List (Option D) → Store → Rs D) : List (Option V) → Sp := fun ws vs H Q E =>
  vs.length = n ∧ ∃ f st ds es, Sim W f H st ∧ Reps W f H vs ds ∧ WsOk W f H ws es ∧ es.length = m ∧ RunAt W (fun c dd _ H => E c dd H) (Rep W) f H [] (sem ds es st) Q
abbrev NsD (P : Program) (w : World) (K : PySem.W.Frag) (cl : Ctx) (mg : Str → Option Value) (base : Heap) (k : Nat) (f : Addr) (F : NF) (ps fr : List Str) (sem : List D → List (Option D) → Store → Rs D) : Prop :=
  NOk P w K mg base (L2.CX P w) k f F ps fr (spN ⟨K, cl⟩ ps.length fr.length sem)
def envN (N : List Str) (ds : List D) (es : List (Option D)) : Env := ds.map some ++ (es ++ List.replicate (N.length - ds.length - es.length) none)
theorem envN_ok {W f H} {N : List Str} {vs : List V} {ds : List D} {ws : List (Option V)} {es : List (Option D)} (r : Reps W f H vs ds) (q : WsOk W f H ws es) (ph : W.cls.Phi f H) : EnvOk W f H (startF N vs ws) (envN N ds es) := by
  have hl := r.length
  obtain ⟨hw, hv⟩ := q
  unfold startF envN
  refine ⟨by simp [hl, hw], fun i x e => ?_, ph⟩
  by_cases i1 : i < ds.length
  · rw [List.getElem?_append_left (by simpa using i1), List.getElem?_map] at e
    rw [List.getElem?_append_left (by simpa [hl] using i1), List.getElem?_map]
    cases q : ds[i]? with
    | none => rw [q] at e; cases e
    | some y =>
      rw [q] at e
      have : y = x := by simpa using e
      subst this
      obtain ⟨v, h1, h2⟩ := r.get q
      exact ⟨v, by rw [h1]; rfl, h2⟩
  · rw [List.getElem?_append_right (by simpa using i1), List.length_map] at e
    rw [List.getElem?_append_right (by simp [hl]; omega), List.length_map, hl]
    by_cases i2 : i - ds.length < es.length
    · rw [List.getElem?_append_left i2] at e
      rw [List.getElem?_append_left (by omega)]
      exact hv _ _ e
    · rw [List.getElem?_append_right (by omega), List.getElem?_replicate] at e
      split at e <;> cases e
theorem NsD.mk {P : Program} {w : World} {K : PySem.W.Frag} {cl : Ctx} {mg : Str → Option Value} {base : Heap} {f : Addr} {F : NF} {N ps fr : List Str} {k : Nat} {sem : List D → List (Option D) → Store → Rs D} {body : MS}
    (pl : cl.Plain) (S : ScN N ps fr F.scope) (hbi : ∀ (doc pm ctv : Value) (us : List Value), us.length = ps.length → bindArgs (F.fd doc pm ctv) ⟨us, []⟩ = pure (ps.zip us))
    (hb : ∀ (A : Around) (outer : List PySem.Env) (s : Shared) (H : Hp) (E : XK), Room k (A.deeper (envT F f s.heap.objs.size)) → H f = some (FnO f F) → H F.c = some (CodeO F.c F.qual) →
      PVB (ncT (L2.CX P w) P w K mg base N F f A outer s H E) cl (fun c d _ H => E c d H) F.body body)
    (hs : ∀ (ds : List D) (es : List (Option D)) (st0 : Store), ds.length = ps.length → es.length = fr.length → Leaves st0 (body (envN N ds es) st0) (sem ds es st0)) : NsD P w K cl mg base (k + 1) f F ps fr sem := by
  refine two_nok S hbi (fun ws vs H Q E h => h.1) (fun A outer s H vs ws Q E hr hf hc hw h => ?_)
  obtain ⟨hl, g, st0, ds, es, hS, rs, qs, el, h⟩ := h
  exact ⟨_, hb A outer s H E hr hf hc, g, envN N ds es, st0, hS, envN_ok rs qs (pl _ _), leaves_run hS (hs ds es st0 (rs.length.symm.trans hl) el) h⟩
noncomputable def semN (k keep np nf : Nat) (N : List Str) (b : MS) : List D → List (Option D) → Store → Rs D := fun ds es st0 =>
  if ds.length = np ∧ es.length = nf then semB k keep 0 [] (fun _ st => b (envN N ds es) st) [] st0 else .no
theorem lv_N {k keep np nf : Nat} {N : List Str} {b : MS} {ds : List D} {es : List (Option D)} {st0 : Store} (h1 : ds.length = np) (h2 : es.length = nf) : Leaves st0 (b (envN N ds es) st0) (semN k keep np nf N b ds es st0) := by
  unfold semN
  rw [if_pos ⟨h1, h2⟩]
  exact lv_B (k := k) (keep := keep) (np := 0) (N := []) (b := fun _ st => b (envN N ds es) st) (ds := []) rfl
/-! ### the function's object is known -/
def PhiF (a : Addr) (mk : Addr → NF) (f : List Addr) (H : Hp) : Prop := ∃ c', (a ∉ f ∧ H a = some (FnO a (mk c'))) ∧ (mk c').c ∉ f ∧ H (mk c').c = some (CodeO (mk c').c (mk c').qual)
def Ctx.fn (cl : Ctx) (a : Addr) (mk : Addr → NF) : Ctx where
  at_ := cl.at_
  tabs := cl.tabs
  Phi := PhiF a mk
  phx := fun ⟨c', ⟨h1, h2⟩, h3, h4⟩ e => ⟨c', e.keep _ _ h1 h2 fnO_ne, e.keep _ _ h3 h4 codeO_ne⟩
theorem like_fn {cl : Ctx} {a : Addr} {mk : Addr → NF} : cl.Like (cl.fn a mk) := ⟨rfl, rfl⟩
/-! ### bodies that make a nested def: the address is told from without -/
def rdN (W : Wd) (Wx : WX) (m : Addr → MS) : TS := fun E σ H => ∃ f env st, Sim W f H st ∧ EnvOk W f H σ env ∧ ∀ a, RunS W Wx f H (m a env st) E
abbrev PVN (X : Cx) (cl : Ctx) (Wx : WX) (s : List Stmt) (m : Addr → MS) : Prop := PSs X s (rdN ⟨X.K, cl⟩ Wx m)
section
variable {X : Cx} {cl : Ctx} {Wx : WX} {s : Stmt} {ss : List Stmt} {m : MS} {ms : Addr → MS}
theorem vn_cons (h1 : PVS X cl Wx s m) (h2 : PVN X cl Wx ss ms) : PVN X cl Wx (s :: ss) (fun a => sSeq m (ms a)) := by
  refine PSs.imp (pss_cons h1 h2) fun E σ H h => ?_
  obtain ⟨f, env, st, S, N, h⟩ := h
  refine ⟨f, env, st, S, N, ?_⟩
  have h : ∀ a, RunS ⟨X.K, cl⟩ Wx f H ((m env st).thn (ms a)) E := h
  cases e : m env st with
  | no => have := h 0; rw [e] at this; exact this
  | exc x e1 s1 => have := h 0; rw [e] at this; exact this
  | ok fl e1 s1 =>
    rw [e] at h
    cases fl with
    | nx => exact fun σ' f' H' x S' N' => ⟨f', e1, s1, S', N', fun a => RunS.shift (h a) x⟩
    | bk => exact h 0
    | ct => exact h 0
    | rt d => exact h 0
theorem vn_def {i : Nat} {mk : Addr → NF} (pl : cl.Plain) (hq : ∀ c', (mk c').c = c') (hd : PS X s (tNdefM cl.tabs i mk)) (hr : ∀ a, PVB X (cl.fn a mk) Wx ss (ms a)) : PVN X cl Wx (s :: ss) (fun a env st => ms a (env.set i (some (.adr a))) st) := by
  have rest : PSs X ss (fun E σ H => ∃ a, rdS ⟨X.K, cl.fn a mk⟩ Wx (ms a) E σ H) := ⟨fun pins s σ H E I ⟨a, h⟩ => (hr a).run pins s σ H E I h⟩
  refine PSs.imp (pss_cons hd rest) fun E σ H h => ?_
  obtain ⟨f, env, st, S, N, h⟩ := h
  refine ⟨S.tab, fun a c' H1 ex fresh tab ha hF hC => ?_⟩
  have keep : ∀ b o, H b = some o → (∀ ps, o ≠ .tbl ps) → H1 b = some o := ex
  have x : Ext f H f H1 := ⟨⟨[], by simp⟩, fun b o hb e n => ⟨hb, keep b o e n⟩⟩
  have S1 : Sim ⟨X.K, cl⟩ f H1 st := by
    refine ⟨S.len, S.nod, fun j b q h1 h2 => (S.cel j b q h1 h2).mono x.lean ?_, tab⟩
    obtain ⟨o, e, n, _⟩ := (S.cel j b q h1 h2).plain
    rw [e]
    exact keep b o e n
  have nf : a ∉ f := S.new ha
  have nc : c' ∉ f := fun hm => by
    obtain ⟨j, hj, e⟩ := List.mem_iff_getElem.mp hm
    obtain ⟨q, _, z⟩ := S1.at (i := j) (a := c') (by simp [hj, e])
    obtain ⟨o, e1, _, n⟩ := z.plain
    rw [hC] at e1
    exact n _ (Option.some.inj e1).symm
  have N1 : EnvOk ⟨X.K, cl.fn a mk⟩ f H1 (σ.set i (some (.ref a))) (env.set i (some (.adr a))) := by
    have q := (N.ext x).set (Rep.adr a) i
    exact ⟨q.len, fun j d e => let ⟨v, h1, h2⟩ := q.val j d e; ⟨v, h1, rep_conv (c := cl) (d := cl.fn a mk) rfl h2⟩, c', ⟨nf, hF⟩, by rw [hq]; exact nc, by rw [hq]; exact hC⟩
  exact ⟨a, f, _, st, sim_conv like_fn S1, N1, runS_conv like_fn pl ((h a).shift x)⟩
end
/-- a def of the text that makes a nested one; its code object's address is known -/
theorem FnD.mkN {P : Program} {w : World} {K : PySem.W.Frag} {cl : Ctx} {mg : Str → Option Value} {base : Heap} {x qual : Str} {params : Arguments} {bd : List Stmt} {scope : Scope} {dvs : List V} {kws : List (Str × V)} {p : Str × Option Str} {fd : FuncData} {N ps : List Str} {k : Nat} {sem : List D → Store → Rs D} {body : Addr → MS}
    (pl : cl.Plain) (F : FunD K x qual params bd scope dvs kws (He.fAd K p) fd) (S : FnScope N ps scope)
    (hb : ∀ (A : Around) (outer : List PySem.Env) (s : Shared) (H : Hp) (E : XK), Room k (A.deeper (envOfC qual scope s.heap.objs.size (He.fAd K p) (.ref (He.codeOf K p)))) →
      PVN (cxOf (L2.CX P w) P w K mg base N qual scope (He.fAd K p) (.ref (He.codeOf K p)) A outer s H E) cl (fun c d _ H => E c d H) bd body)
    (hs : ∀ (a : Addr) (ds : List D) (st0 : Store), ds.length = ps.length → Leaves st0 (body a (env0 N ds) st0) (sem ds st0)) : FnD P w K cl mg base (k + 1) (He.fAd K p) fd ps sem := by
  obtain ⟨oc, od, dV, kV, doc, pm, an, cdv, ct, osl, rfl, lk, hcd, _, _⟩ := F.ex
  obtain ⟨c, rfl⟩ := He.codeIn_ref hcd
  have ec := He.codeOf_eq (p := p) lk (c := c) rfl
  refine fn_of lk hcd S (fun vs H Q E h => h.1) fun A outer s H vs Q E hr h => ?_
  obtain ⟨hl, g, st0, ds, hS, rs, h⟩ := h
  have hb' := hb A outer s H E
  rw [ec] at hb'
  exact ⟨_, hb' hr, g, env0 N ds, st0, hS, env0_ok rs (pl _ _), fun a => leaves_run hS (hs a ds st0 (rs.length.symm.trans hl)) h⟩
end RR

set_option maxRecDepth 100000
set_option maxHeartbeats 1000000
namespace RR
open PySem PySem.Spec PyProof.Rows L2 LamX NdefX
/-! ### calls of a nested def -/
open Classical in
/-- the name in slot i holds the nested def at a; js: the slots of what it captured -/
noncomputable def mNest (i : Nat) (a : Addr) (js : List Nat) (sem : List D → List (Option D) → Store → Rs D) (r : ME (List D)) : ME D := fun env st =>
  if env[i]? = some (some (.adr a)) then mbind r (fun ds env st1 => (sem ds (js.map fun j => (env[j]?).join) st1).nx) env st else .no
theorem noX {P : Program} {w : World} {X : Cx} : Passes (L2.CX P w) X (fun _ _ _ => False) := fun _ _ _ _ _ _ _ ⟨_, _, _, _, _, _, _, _, _, _, _, _, z⟩ => z.elim
section
variable {K : PySem.W.Frag} {cl : Ctx} {Wx : WX} {a : Addr} {mk : Addr → NF} {i np : Nat} {js : List Nat} {sem : List D → List (Option D) → Store → Rs D} {r : ME (List D)}
theorem rd_nest (pl : cl.Plain) (hq : ∀ c', (mk c').c = c') (hA : ∀ ds es st, ds.length ≠ np → sem ds es st = .no) {σ : L2.St} {H : Hp} {Q : VK} (h : rdE ⟨K, cl.fn a mk⟩ Wx (mNest i a js sem r) σ H Q) :
    tCallN mk i js (fun _ _ => spN ⟨K, cl⟩ np js.length sem) (fun _ _ _ => False) (rdA ⟨K, cl.fn a mk⟩ Wx r) σ H Q := by
  obtain ⟨f, env, st, S, N, h⟩ := h
  unfold mNest at h
  split at h
  · rename_i e
    obtain ⟨v, h1, h2⟩ := N.val i _ e
    cases h2
    obtain ⟨c', ⟨p1, p2⟩, p3, p4⟩ := (show PhiF a mk f H from N.phi)
    refine ⟨a, c', h1, p2, h.bind S N fun vs H1 f1 ds st1 A1 g => ?_⟩
    refine ⟨(A1.ext.keep _ _ p1 p2 fnO_ne).2, (A1.ext.keep _ _ p3 p4 codeO_ne).2, ?_⟩
    have hl : ds.length = np := by
      by_cases q : ds.length = np
      · exact q
      · rw [hA _ _ _ q] at g; exact g.elim
    refine ⟨(Reps.length A1.rel).trans hl, f1, st1, ds, js.map fun j => (env[j]?).join, sim_conv like_fn.symm A1.sim, reps_conv (c := cl.fn a mk) (d := cl) rfl A1.rel, ⟨by simp, fun n x q => ?_⟩, by simp, ?_⟩
    · rw [List.getElem?_map] at q
      rw [List.getElem?_map]
      cases ej : js[n]? with
      | none => rw [ej] at q; cases q
      | some j =>
        rw [ej] at q
        have q : (env[j]?).join = some x := by simpa using q
        have q : env[j]? = some (some x) := by
          cases z : env[j]? with
          | none => rw [z] at q; cases q
          | some o => rw [z] at q; exact congrArg some q
        obtain ⟨u, u1, u2⟩ := A1.env.val j x q
        exact ⟨u, by simp [slotAt_of u1], rep_conv (c := cl.fn a mk) (d := cl) rfl u2⟩
    · cases er : sem ds (js.map fun j => (env[j]?).join) st1 with
      | no => rw [er] at g; exact g.elim
      | exc y s2 => rw [er] at g; exact g.elim
      | ok d s2 =>
        rw [er] at g
        exact run_conv (c := cl.fn a mk) (d := cl) like_fn.symm (r := .ok d s2) (show RunAt ⟨K, cl.fn a mk⟩ (fun _ _ _ _ => False) (Rep ⟨K, cl.fn a mk⟩) f1 H1 [] (.ok d s2) Q from g)
  · exact h.elim
end
section
variable {X : Cx} {cl : Ctx} {Wx : WX} {a : Addr} {mk : Addr → NF} {clo : List (Str × Addr)} {ps fr : List Str} {js : List Nat} {i j k : Nat} {x : Str} {p pos : Pos} {e : Expr} {es : List Expr} {sem : List D → List (Option D) → Store → Rs D} {r : ME (List D)}
theorem pv_nest (pl : cl.Plain) (hq : ∀ c', (mk c').c = c') (Fn : ∀ f c', NsD X.prog X.w X.K cl X.mg X.base k f (mk c') ps fr sem) (hcl : ∀ c', (mk c').cl = clo) (cp : X.Ok → Caps X clo fr js) (hj : fr.length = js.length) (hA : ∀ ds es st, ds.length ≠ ps.length → sem ds es st = .no)
    (hr : Room k X.A) (hN : X.N[i]? = some x) (hv : Vis X.env.scope x) (ha : PVA X (cl.fn a mk) Wx (e :: es) r)
    (hd : (x == ("__debug__" : Str)) = false := by decide) (hcd : (x == ("__classdict__" : Str)) = false := by decide)
    (he : starEach (e :: es) X.env = (false, eval e X.env) :: starEach es X.env := by rfl) (hpl : (backTo pos (starEach es X.env)).any (·.1) = false := by rfl) :
    PV X (cl.fn a mk) Wx (.Call (.Name x p) (e :: es) [] pos) (mNest i a js sem r) :=
  PE.imp (pe_calln (sp := fun _ _ => spN ⟨X.K, cl⟩ ps.length fr.length sem) Fn hcl cp hr (Nat.le_refl _) noX hN hv ha hd hcd he hpl) fun σ H Q h => by
    rw [hj]
    exact rd_nest pl hq hA h
/-- .. in a comprehension of the frame that made it; what it captured stands as it stood -/
theorem pe_nestB {σ0 : L2.St} {z : Shared} {G : Hp} {fp : List Addr} {scope : Scope} {sp : Addr → Addr → List (Option V) → Sp} {E : XK} {t : TA} (St : Start X σ0 z G fp) (cp : X.Ok → Caps X clo fr js) (hfn : ∀ y, X.fn y = true)
    (Fn : ∀ f c', NOk X.prog X.w X.K X.mg X.base (L2.CX X.prog X.w) k f (mk c') ps fr (sp f c')) (hcl : ∀ c', (mk c').cl = clo) (hr : Room k X.A) (hx : Passes (L2.CX X.prog X.w) (X.blk z G scope (blkE X scope z) fp) E) (hN : X.N[i]? = some x) (hv : Vis (blkE X scope z).scope x) (ha : PA (X.blk z G scope (blkE X scope z) fp) (e :: es) t)
    (hd : (x == ("__debug__" : Str)) = false := by decide) (hcd : (x == ("__classdict__" : Str)) = false := by decide)
    (he : starEach (e :: es) (blkE X scope z) = (false, eval e (blkE X scope z)) :: starEach es (blkE X scope z) := by rfl) (hpl : (backTo pos (starEach es (blkE X scope z))).any (·.1) = false := by rfl) :
    PE (X.blk z G scope (blkE X scope z) fp) (.Call (.Name x p) (e :: es) [] pos) (fun σ H Q => js.map (NdefX.slotAt σ) = js.map (NdefX.slotAt σ0) ∧ tCallN mk i js sp E t σ H Q) := by
  obtain ⟨pins0, I0, hfp⟩ := St
  have cap := cp I0.ok
  have C0 : CellsAt clo fr (js.map (NdefX.slotAt σ0)) z.heap G := cells_of I0 cap
  have nfs : ∀ y c, clo.lookup y = some c → c ∉ frs X.stack := fun y c e hm => by
    have e1 := cap.sub y c e
    have n1 : c ∉ frs X.outer := fun hm => by
      obtain ⟨_, o, ho, _⟩ := I0.ok.funs.mem hm
      exact absurd (I0.ok.cab y c (hfn y) e1) (Nat.not_le.mpr (Heap.lt_size ho))
    rcases I0.ok.stk with q | ⟨q, q2⟩
    · rw [q] at hm; exact n1 hm
    · rw [q] at hm
      unfold frs at hm
      rw [List.filterMap_cons, q2] at hm
      rcases List.mem_cons.mp hm with z | z
      · exact I0.cne y c e1 z
      · exact n1 z
  have nex : ∀ y c, clo.lookup y = some c → c ∉ fp := fun y c e hm => (hfp c hm).2.2.2.2.1 y c (cap.sub y c e) rfl
  refine ⟨fun pins s σ H Q I ⟨same, f, c', hs, hf, ht⟩ => ?_⟩
  refine wpAny_Call_Name_kw (thn ((pe_var (X := X.blk z G scope (blkE X scope z) fp) (pos := p) hN hv hd hcd).run pins s σ H (fun v H1 => v = .ref f ∧ H1 = H) I ⟨.ref f, hs, rfl, rfl⟩) fun u s1 ⟨v, H1, I1, r1, q1⟩ => ?_)
  obtain ⟨ev, eH⟩ := q1
  subst ev
  rw [eH] at I1
  obtain rfl : u = Value.ref f := r1
  refine PySem.W.callWith_F (first := []) (fnAt_of I1 hf) (thn (ha.run pos pins s1 σ H _ I1 ht) fun us s2 ⟨vs, H2, I2, r, h1, h2, q⟩ => ⟨fnAt_of I2 h1, ?_⟩) he hpl
  show wpAny _ _ (call (.ref f) us) _ _ _
  refine run_n (X := X.blk z G scope (blkE X scope z) fp) (Fn f c') hr (Nat.le_refl _) hx I2 h1 h2 ?_ r q
  rw [hcl, same]
  exact CellsAt.later (X := X.blk z G scope (blkE X scope z) fp) C0 nfs nex I2
theorem slots_same {σ σ2 : L2.St} {vs : List Nat} (h : ∀ j ∈ js, j ∉ vs) (e : wipe σ2 vs = wipe σ vs) : js.map (NdefX.slotAt σ2) = js.map (NdefX.slotAt σ) := by
  apply List.map_congr_left
  intro j hj
  have q := congrArg (fun l : L2.St => l[j]?) e
  simp only [wipe_get] at q
  rw [if_neg (h j hj), if_neg (h j hj)] at q
  unfold NdefX.slotAt
  rw [q]
end
theorem rd_lcW {K : PySem.W.Frag} {cl : Ctx} {Wx : WX} {it : ME Src} {g : D → MS} {ws vs : List Nat} {tt : ME Bool} {te : ME D} (hw : ∀ i ∈ ws, i ∈ vs) {σ H Q} (h : rdE ⟨K, cl⟩ Wx (mLcN it g tt te vs) σ H Q) :
    tLc (rdG ⟨K, cl⟩ Wx (fun f H J s => Walks1 ⟨K, cl⟩ f H J s) it) (rdTg ⟨K, cl⟩ Wx0 ws g) (fun σ2 H2 Q => L2.wipe σ2 vs = L2.wipe σ vs ∧ rdT ⟨K, cl⟩ Wx0 tt σ2 H2 Q) (rdE ⟨K, cl⟩ Wx0 te) vs σ H Q := by
  obtain ⟨f, env, st, S, N, h⟩ := h
  refine h.bind S N fun J H1 f1 s st1 A1 h1 => ?_
  intro D hD
  have w := A1.rel
  have hn : f1.length = st1.length := A1.sim.len
  have x0 : Ext f1 H1 (f1 ++ [D]) (upd H1 D (.lst [])) := Ext.cell A1.sim hD
  have S0 : Sim ⟨K, cl⟩ (f1 ++ [D]) (upd H1 D (.lst [])) (st1 ++ [.lst []]) := A1.sim.grow hD ⟨[], upd_same, .nil⟩
  have N0 : EnvOk ⟨K, cl⟩ f1 H1 (L2.wipe σ vs) (wipeE env vs) := A1.env.wipe vs
  refine ⟨fun i m H => ∃ f st, Ext (f1 ++ [D]) (upd H1 D (.lst [])) f H ∧ Sim ⟨K, cl⟩ f H st ∧ RunAt ⟨K, cl⟩ Wx (Rep ⟨K, cl⟩) f H σ ((cLoop s g tt te (wipeE env vs) st1.length m i st).bind fun _ st' => .ok (.ref st1.length) st') Q,
    ⟨FUEL, f1 ++ [D], st1 ++ [.lst []], .refl _ _, S0, h1.shift x0⟩, ?_⟩
  rintro i m H2 ⟨f2, st2, x2, S2, r2⟩
  have hfD : f2[st1.length]? = some D := by
    obtain ⟨g', rfl⟩ := x2.pre
    rw [List.append_assoc, List.getElem?_append_right (by omega)]
    simp [hn]
  cases m with
  | zero => exact r2.elim
  | succ m =>
    simp only [cLoop] at r2
    cases eg : s.get st2 i with
    | none => rw [eg] at r2; exact r2.elim
    | some o =>
      rw [eg] at r2
      cases o with
      | none => exact .inl ⟨(w i f2 H2 st2 (x0.trans x2) S2).2 eg, r2.okv S2 (.ref hfD)⟩
      | some d =>
        obtain ⟨go, yl⟩ := (w i f2 H2 st2 (x0.trans x2) S2).1 d eg
        refine .inr ⟨go, fun H' => ∃ f st, Ext (f1 ++ [D]) (upd H1 D (.lst [])) f H' ∧ Sim ⟨K, cl⟩ f H' st ∧ RunAt ⟨K, cl⟩ Wx (Rep ⟨K, cl⟩) f H' σ ((cLoop s g tt te (wipeE env vs) st1.length m (i + 1) st).bind fun _ st' => .ok (.ref st1.length) st') Q,
          fun H' q => ⟨m, Nat.lt_succ_self _, q⟩, fun y H3 hy => ?_⟩
        obtain ⟨x3, S3, r3⟩ := yl y H3 hy
        have r2 := r2.shift x3
        have N3 : EnvOk ⟨K, cl⟩ f2 H3 (L2.wipe σ vs) (wipeE env vs) := N0.ext ((x0.trans x2).trans x3)
        refine ⟨f2, wipeE env vs, st2, d, S3, N3, r3, ?_⟩
        cases e : g d (wipeE env vs) st2 with
        | no => simp only [e] at r2; exact r2.elim
        | exc x a b => simp only [e] at r2; exact r2.elim
        | ok fl e1 s1 =>
          simp only [e] at r2
          cases fl with
          | nx =>
            intro σ4 f4 H4 x4 S4 N4 ⟨fr1, fr2⟩
            refine ⟨wipe_same fr1 hw fr2, ?_⟩
            have r4 := RunAt.shift r2 x4
            simp only [bind_bind] at r4
            refine ⟨wipe_same fr1 hw fr2, ?_⟩
            refine nx_bind S4 N4 r4 fun b H5 f5 b' st5 x5 S5 rb r5 => ?_
            subst rb
            have x15 := (((x2.trans x3).trans x4).trans x5)
            cases b with
            | false => rw [if_neg (by decide)]; exact ⟨f5, st5, x15, S5, r5⟩
            | true =>
              rw [if_pos rfl]
              simp only [bind_bind] at r5
              refine nx_bind S5 (N4.ext x5) r5 fun yv H6 f6 yd st6 x6 S6 ry r6 => ?_
              have x16 := x15.trans x6
              cases ec : cellL st6 (.ref st1.length) with
              | none => simp only [ec] at r6; exact r6.elim
              | some q =>
                obtain ⟨j, acc⟩ := q
                simp only [ec] at r6
                have hfD6 : f6[st1.length]? = some D := by
                  obtain ⟨g', rfl⟩ := x16.pre
                  rw [List.append_assoc, List.getElem?_append_right (by omega)]
                  simp [hn]
                obtain ⟨a', vs', e1, hf', hH', rp⟩ := S6.cellL (.ref hfD6) ec
                cases e1
                split at r6
                · rename_i hz
                  refine ⟨vs', hH', by rw [rp.length]; exact hz, f6, st6.set st1.length (.lst (acc ++ [yd])), ?_, ?_, ?_⟩
                  · exact x16.trans (Ext.write (List.mem_of_getElem? hfD6))
                  · exact S6.write hfD6 ⟨_, upd_same, (rp.append (.cons ry .nil)).mono (Ext.write (List.mem_of_getElem? hfD6)).lean⟩
                  · exact r6.shift (Ext.write (List.mem_of_getElem? hfD6))
                · exact r6.elim
          | _ => exact r2.elim
section
variable {X : Cx} {cl : Ctx} {Wx : WX} {a : Addr} {mk : Addr → NF} {clo : List (Str × Addr)} {ps fr : List Str} {js : List Nat} {k : Nat} {x : Str} {sem : List D → List (Option D) → Store → Rs D}
/-- name = [elt for tg in iter if test and f(arg)], f nested -/
theorem vs_setNest {i n kk : Nat} {y : Str} {elt tg iter e1 ea : Expr} {scope : Scope} {own : List (Str × Nat)} {ws : List Nat} {p py pos spos cpos bpos : Pos} {it : ME Src} {g : D → MS} {t1 : ME Bool} {te : ME D} {ra : ME (List D)}
    (pl : cl.Plain) (hq : ∀ c', (mk c').c = c') (Fn : ∀ f c', NsD X.prog X.w X.K cl X.mg X.base k f (mk c') ps fr sem) (hcl : ∀ c', (mk c').cl = clo) (cp : X.Ok → Caps X clo fr js) (hj : fr.length = js.length) (hA : ∀ ds es st, ds.length ≠ ps.length → sem ds es st = .no) (hr : Room k X.A) (hfn : ∀ y, X.fn y = true)
    (hx : X.N[i]? = some x) (hv : ∀ z : Shared, Vis (blkE X scope z).scope x) (hjv : ∀ j ∈ js, j ∉ own.map (·.2))
    (hc : X.calm = true) (hN : X.N.Nodup) (hy : X.N[n]? = some y) (hyl : X.env.scope.names.lookup y = some .local)
    (hsw : swapsWith (.ListComp elt [⟨tg, iter, [.BoolOp .And [e1, .Call (.Name x p) [ea] [] cpos] bpos], 0⟩] scope pos) (some (.Name y py)) spos.line X.env = pure true) (hi : PVI X (cl.fn a mk) Wx tg iter it) (ok : BlkOk X.N X.env.scope scope own)
    (hg : ∀ (s : Shared) (H : Hp) (fp : List Addr), PVG (X.blk s H scope (blkE X scope s) fp) (cl.fn a mk) Wx0 ws tg g)
    (h1 : ∀ (s : Shared) (H : Hp) (fp : List Addr), PVT (X.blk s H scope (blkE X scope s) fp) (cl.fn a mk) Wx0 e1 t1)
    (ha : ∀ (s : Shared) (H : Hp) (fp : List Addr), PVA (X.blk s H scope (blkE X scope s) fp) (cl.fn a mk) Wx0 [ea] ra)
    (he : ∀ (s : Shared) (H : Hp) (fp : List Addr), PV (X.blk s H scope (blkE X scope s) fp) (cl.fn a mk) Wx0 elt te)
    (hw : ∀ i ∈ ws, i ∈ own.map (·.2) := by decide) (hs : ∀ x, foldedSetIterable iter X.env x = pure x := by intro _; rfl)
    (hd : (x == ("__debug__" : Str)) = false := by decide) (hcd : (x == ("__classdict__" : Str)) = false := by decide)
    (hst : ∀ z : Shared, starEach [ea] (blkE X scope z) = (false, eval ea (blkE X scope z)) :: starEach [] (blkE X scope z) := by intro _; rfl) (hpl : ∀ z : Shared, (backTo cpos (starEach [] (blkE X scope z))).any (·.1) = false := by intro _; rfl)
    (hit : ∀ (z : Shared) whole, isTrue (.Call (.Name x p) [ea] [] cpos) (blkE X scope z) whole = (do let v ← whole; standAt (Expr.pos (.Call (.Name x p) [ea] [] cpos)); holding [v] (truthy v)) := by intro _ _; rfl) :
    PVS X (cl.fn a mk) Wx (.Assign [.Name y py] (.ListComp elt [⟨tg, iter, [.BoolOp .And [e1, .Call (.Name x p) [ea] [] cpos] bpos], 0⟩] scope pos) spos)
      (sSet n (mLeave kk (mLcN it g (tAnd2 t1 (mTest (mNest i a js sem ra))) te (own.map (·.2))))) := by
  refine ⟨fun pins z σ H E I h => ?_⟩
  have test : ∀ (s : Shared) (G : Hp) (fp : List Addr), Start X σ s G fp → PTs (X.blk s G scope (blkE X scope s) fp) [.BoolOp .And [e1, .Call (.Name x p) [ea] [] cpos] bpos]
      (fun σ2 H2 Q => wipe σ2 (own.map (·.2)) = wipe σ (own.map (·.2)) ∧ rdT ⟨X.K, cl.fn a mk⟩ Wx0 (tAnd2 t1 (mTest (mNest i a js sem ra))) σ2 H2 Q) := by
    intro s G fp St
    have q := pe_nestB (es := []) (pos := cpos) (p := p) (i := i) (sp := fun _ _ => spN ⟨X.K, cl⟩ ps.length fr.length sem) (E := fun _ _ _ => False) St cp hfn Fn hcl hr noX hx (hv s) (ha s G fp) hd hcd (hst s) (hpl s)
    refine pts_one (PW.pt (PW.imp (pw_and (h1 s G fp) (pw_and1 (pt_val q (hit s)))) fun σ2 H2 Q ⟨same, h⟩ => ?_))
    obtain ⟨f, env, st, S, N, h⟩ := h
    refine h.bind S N fun u H3 f3 b st3 A3 h3 => ?_
    have rb := A3.rel
    subst rb
    cases u with
    | false => rw [if_neg (by decide)]; exact h3.okv A3.sim rfl
    | true =>
      rw [if_pos rfl]
      have z1 := rd_test (A3.rd h3)
      have z2 := rd_nest pl hq hA z1
      rw [← hj] at z2
      exact ⟨slots_same hjv same, z2⟩
  have parts : Parts X σ tg elt [.BoolOp .And [e1, .Call (.Name x p) [ea] [] cpos] bpos] scope (rdTg ⟨X.K, cl.fn a mk⟩ Wx0 ws g) (fun σ2 H2 Q => wipe σ2 (own.map (·.2)) = wipe σ (own.map (·.2)) ∧ rdT ⟨X.K, cl.fn a mk⟩ Wx0 (tAnd2 t1 (mTest (mNest i a js sem ra))) σ2 H2 Q) (rdE ⟨X.K, cl.fn a mk⟩ Wx0 te) :=
    ⟨fun s G fp _ => hg s G fp, test, fun s G fp _ => he s G fp⟩
  refine set_with (wi := rdG ⟨X.K, cl.fn a mk⟩ Wx (fun f H J s => Walks1 ⟨X.K, cl.fn a mk⟩ f H J s) it) hc hN hy hyl hsw hi ok parts hs I ?_
  obtain ⟨f, env, st, S, N, h⟩ := h
  exact rd_lcW (Wx := Wx) (it := it) (g := g) (te := te) (tt := tAnd2 t1 (mTest (mNest i a js sem ra))) hw (rd_leave kk (RunS.bind (rel := Rep ⟨X.K, cl.fn a mk⟩) (Q' := fun x G => gName n x σ G E.nx) S N h fun v H1 f1 d st1 A1 g1 => g1 _ f1 H1 (.refl _ _) A1.sim (A1.env.set A1.rel n)))
end
/-- the nested def is made -/
def sDef (i : Nat) (a : Addr) : MS := fun env st => .ok .nx (env.set i (some (.adr a))) st
open Classical in
/-- a meaning that does not hang on where the nested def lies -/
noncomputable def semA (k keep np : Nat) (N : List Str) (b : Addr → MS) : List D → Store → Rs D := fun ds st =>
  if ∀ a, semB k keep np N (b a) ds st = semB k keep np N (b 0) ds st then semB k keep np N (b 0) ds st else .no
theorem semA_eq {k keep np : Nat} {N : List Str} {b : Addr → MS} {ds : List D} {st : Store} {r : Rs D} (h : ∀ a, semB k keep np N (b a) ds st = r) : semA k keep np N b ds st = r := by
  unfold semA
  rw [if_pos fun a => by rw [h, h], h]
theorem lv_A {k keep np : Nat} {N : List Str} {b : Addr → MS} {ds : List D} {st0 : Store} (a : Addr) (hl : ds.length = np) : Leaves st0 (b a (env0 N ds) st0) (semA k keep np N b ds st0) := by
  unfold semA
  split
  · rename_i h
    rw [← h a]
    exact lv_B hl
  · trivial
theorem ar_A {k keep np : Nat} {N : List Str} {b : Addr → MS} : HasArity np (semA k keep np N b) := fun ds st h => by
  unfold semA
  split
  · exact ar_B ds st h
  · rfl
theorem ar_N {k keep np nf : Nat} {N : List Str} {b : MS} : ∀ ds es st, ds.length ≠ np → semN k keep np nf N b ds es st = .no := fun ds es st h => by
  unfold semN
  rw [if_neg fun q => h q.1]
def inDef (s : Stmt) (j : Nat) : Stmt := (C8.fnBody s).getD j (.Pass ⟨0, 0, 0, 0⟩)
end RR

set_option maxRecDepth 100000
set_option maxHeartbeats 4000000
namespace LZ
open PySem PySem.Spec PyProof.Rows L2 RR
abbrev N_is_beneath : List Str := ["outline", "code", "line", "pair", "low", "high", "three", "is_high"]
noncomputable def b_is_beneath : MS :=
  (sSeq (sAsg (mVar 3) (okNx (gTp 2 (gsCons (gNm 4) (gsCons (gNm 5) gsNil)))))
    (sSeq (sSet 6 (mCall gTupOf (aCons (mCall (gSortI false) (aCons (mLst (aCons (mVar 2) (aCons (mVar 4) (aCons (mVar 5) aNil)))) aNil)) aNil)))
    (sSeq (sIf (mTest (op2 (gDin true) (mVar 6) (op1 (gFld 0 "spot") (mVar 0))))
    (sRet (mOr (op2 gLt (mVar 2) (mVar 4)) (mAnd (op2 gLt (mVar 2) (mVar 5)) (op2 gEq (op2 gIx (op1 (gFld 0 "owner") (mVar 0)) (mVar 2)) (op2 gIx (op1 (gFld 0 "owner") (mVar 0)) (mVar 5))))))
    sNil)
    (sSeq (sSet 7 (op2 gEq (op2 gAnd (op2 gShr (mVar 1) (op2 gDget (op1 (gFld 0 "spot") (mVar 0)) (mVar 6))) (mret (.int 1))) (mret (.int 1))))
    (sRet (mIf (mTest (mChain gLt gLt (mVar 4) (mVar 2) (mVar 5))) (mNot (mVar 7)) (mVar 7)))))))

noncomputable def sem_is_beneath : List D → Store → Rs D := semB 3 0 4 N_is_beneath b_is_beneath
theorem ar_is_beneath : HasArity 4 sem_is_beneath := ar_B
theorem lv_is_beneath : ∀ (ds : List D) (st0 : Store), ds.length = 4 → Leaves st0 (b_is_beneath (env0 N_is_beneath ds) st0) (sem_is_beneath ds st0) := fun _ _ h => lv_B h

abbrev N_least_of__is_next : List Str := ["place", "walk", "outline", "code", "pair", "others", "spot", "line"]
noncomputable def b_least_of__is_next : MS :=
  (sSeq (sSet 4 (mTup (aCons (op2 gIx (op1 (gFld 1 "order") (mVar 1)) (mVar 0)) (aCons (op2 gIx (op1 (gFld 1 "order") (mVar 1)) (op2 gAdd (mVar 0) (mret (.int 1)))) aNil))))
    (sSeq (sSet 5 (mLeave 1 (mLcN (iEnumL (aCons (op1 (gFld 1 "order") (mVar 1)) aNil)) (gTp 2 (gsCons (gNm 6) (gsCons (gNm 7) gsNil))) (mTest (op2 (gIn true) (mVar 7) (mVar 4))) (mTup (aCons (mVar 6) (aCons (mVar 7) aNil))) [6, 7])))
    (sRet (mCall (gBls fun bs => bs.all id) (aCons (mLeave 1 (mLcN (iSeq (mVar 5)) (gTp 2 (gsCons (gNm 6) (gsCons (gNm 7) gsNil))) (mret true) (op2 gEq (mFn sem_is_beneath [] (aCons (mVar 2) (aCons (mVar 3) (aCons (mVar 7) (aCons (mVar 4) aNil))))) (op2 gLt (mVar 6) (mVar 0))) [6, 7])) aNil)))))

noncomputable def sem_least_of__is_next : List D → List (Option D) → Store → Rs D := semN 3 0 1 3 N_least_of__is_next b_least_of__is_next

abbrev N_least_of : List Str := ["outline", "code", "walk", "is_next", "found", "some", "place"]
noncomputable def b_least_of (a : Addr) : MS :=
  (sSeq (sSet 2 (mMk 1 sem_Pass___init__ [] (aCons (mVar 0) aNil)))
    (sSeq (sDef 3 a)
    (sSeq (sSet 4 (mNewL aNil))
    (sSeq (sWhile (tNot1 (mTest (mMt 1 "is_over" sem_Pass_is_over [] (mVar 2) aNil)))
    (sSeq (sSet 5 (mLeave 1 (mLcN (iRng1 (aCons (op2 gSub (op1 (gFld 0 "many") (mVar 0)) (mret (.int 1))) aNil)) (gNm 6) (tAnd2 (mTest (mMt 1 "can_lay" sem_Pass_can_lay [] (mVar 2) (aCons (mVar 6) aNil))) (mTest (mNest 3 a [2, 0, 1] sem_least_of__is_next (aCons (mVar 6) aNil)))) (mVar 6) [6])))
    (sSeq (sExpr (mMt 1 "lay" sem_Pass_lay [] (mVar 2) (aCons (op2 gIx (mVar 5) (mret (.int 0))) aNil)))
    (sExpr (mMeth "list" gAppend (mVar 4) (aCons (op2 gIx (mVar 5) (mret (.int 0))) aNil))))))
    (sRet (mVar 4))))))

noncomputable def sem_least_of : List D → Store → Rs D := semA 3 4 2 N_least_of b_least_of
theorem ar_least_of : HasArity 2 sem_least_of := ar_A

abbrev N_least : List Str := ["sides", "row", "outline", "code"]
noncomputable def b_least : MS :=
  (sSeq (sAsg (mFn sem_opened [] (aCons (mVar 0) (aCons (mVar 1) aNil))) (okNx (gTp 2 (gsCons (gNm 2) (gsCons (gNm 3) gsNil)))))
    (sRet (mFn sem_least_of [] (aCons (mVar 2) (aCons (mVar 3) aNil)))))

noncomputable def sem_least : List D → Store → Rs D := semB 3 4 2 N_least b_least
theorem ar_least : HasArity 2 sem_least := ar_B
theorem lv_least : ∀ (ds : List D) (st0 : Store), ds.length = 2 → Leaves st0 (b_least (env0 N_least ds) st0) (sem_least ds st0) := fun _ _ h => lv_B h


end LZ

set_option maxRecDepth 100000
set_option maxHeartbeats 1000000
namespace LZ
open RR
/-! ### the lozenges of a row, without the order of the lines beneath -/
abbrev LozS := Nat × Nat × Nat × (Nat → Bool)
def laidS (l row : List Nat) : List LozS := (laidL l row).map fun y => (y.1, y.2.1, y.2.2.1, fun z => y.2.2.2.1.contains z)
theorem laidS_cons {l row : List Nat} {p : Nat} : laidS l (p :: row) = (nthN l p, nthN l (p + 1), p, fun z => (l.take p).contains z) :: laidS (swapAt l p) row := rfl
theorem laidS_nil {l : List Nat} : laidS l [] = [] := rfl
def Far (p q : Nat) : Prop := p + 2 ≤ q ∨ q + 2 ≤ p
instance (p q : Nat) : Decidable (Far p q) := inferInstanceAs (Decidable (_ ∨ _))
theorem Far.symm {p q} (h : Far p q) : Far q p := Or.symm h
section
variable {n : Nat} {l : List Nat} {p q : Nat}
theorem Line.ext {n : Nat} {l m : List Nat} (h : Line n l) (h' : Line n m) (e : ∀ i, i < n → nthN l i = nthN m i) : l = m := by
  apply List.ext_getElem
  · rw [h.len, h'.len]
  · intro i h1 h2
    have := e i (by rw [← h.len]; exact h1)
    rwa [nth_eq h1, nth_eq h2] at this
theorem nth_swap_far (f : Far p q) (hp : p + 2 ≤ l.length) : nthN (swapAt l p) q = nthN l q ∧ nthN (swapAt l p) (q + 1) = nthN l (q + 1) := by
  have f' : p + 2 ≤ q ∨ q + 2 ≤ p := f
  rw [nth_swap hp, nth_swap hp]
  constructor
  · rw [if_neg (by omega), if_neg (by omega)]
  · rw [if_neg (by omega), if_neg (by omega)]
theorem swap_comm (L : Line n l) (f : Far p q) (hp : p + 2 ≤ n) (hq : q + 2 ≤ n) : swapAt (swapAt l p) q = swapAt (swapAt l q) p := by
  have f' : p + 2 ≤ q ∨ q + 2 ≤ p := f
  have hl := L.len
  have A := (L.swap hp).swap hq
  have B := (L.swap hq).swap hp
  refine A.ext B fun i hi => ?_
  have l1 := (L.swap hp).len
  have l2 := (L.swap hq).len
  rw [nth_swap (by omega), nth_swap (by omega), nth_swap (by omega), nth_swap (by omega), nth_swap (by omega), nth_swap (by omega), nth_swap (by omega), nth_swap (by omega)]
  by_cases a : i = p
  · subst a
    rw [if_neg (by omega), if_neg (by omega), if_pos rfl, if_pos rfl, if_neg (by omega), if_neg (by omega)]
  · by_cases b : i = p + 1
    · subst b
      rw [if_neg (by omega), if_neg (by omega), if_neg (by omega), if_pos rfl, if_neg (by omega), if_pos rfl, if_neg (by omega), if_neg (by omega)]
    · by_cases c : i = q
      · subst c
        rw [if_pos rfl, if_neg (by omega), if_neg (by omega), if_neg a, if_neg b, if_pos rfl]
      · by_cases d : i = q + 1
        · subst d
          rw [if_neg (by omega), if_pos rfl, if_neg (by omega), if_neg (by omega), if_neg a, if_neg b, if_neg (by omega), if_pos rfl]
        · simp only [a, b, c, d, if_false]
theorem take_swap_far (L : Line n l) (f : Far p q) (hp : p + 2 ≤ n) (hq : q ≤ n) : (fun z => ((swapAt l p).take q).contains z) = fun z => (l.take q).contains z := by
  have f' : p + 2 ≤ q ∨ q + 2 ≤ p := f
  have hl := L.len
  have S := L.swap hp
  funext z
  by_cases hz : z < n
  · have e : (z ∈ (swapAt l p).take q) ↔ (z ∈ l.take q) := by
      rw [S.take_iff hq hz, L.take_iff hq hz, L.pos_swap hp hz]
      split
      · rename_i e
        have : l.idxOf z = p := (L.pos_iff (by omega) hz).mpr e.symm
        omega
      · split
        · rename_i e
          have : l.idxOf z = p + 1 := (L.pos_iff (by omega) hz).mpr e.symm
          omega
        · omega
    by_cases h : z ∈ l.take q
    · have h' := e.mpr h
      simp [h, h']
    · have h' : ¬ z ∈ (swapAt l p).take q := fun x => h (e.mp x)
      simp [h, h']
  · have h1 : ¬ z ∈ (swapAt l p).take q := fun x => hz ((S.mem z).mp (List.mem_of_mem_take x))
    have h2 : ¬ z ∈ l.take q := fun x => hz ((L.mem z).mp (List.mem_of_mem_take x))
    simp [h1, h2]
end
section
variable {ow : List Nat}
theorem canLay_far {l : List Nat} {p q : Nat} (L : Line ow.length l) (f : Far p q) (hp : p + 2 ≤ ow.length) : canLay ow (swapAt l p) q = canLay ow l q := by
  unfold canLay
  rw [(nth_swap_far f (by rw [L.len]; exact hp)).1, (nth_swap_far f (by rw [L.len]; exact hp)).2]
/-- two neighbours that are far exchanged -/
theorem laidS_exch {l r : List Nat} {p q : Nat} (L : Line ow.length l) (f : Far q p) (hp : p + 2 ≤ ow.length) (hq : q + 2 ≤ ow.length) : (laidS l (q :: p :: r)).Perm (laidS l (p :: q :: r)) := by
  have hl := L.len
  have g := f.symm
  simp only [laidS_cons]
  rw [(nth_swap_far f (by omega)).1, (nth_swap_far f (by omega)).2, (nth_swap_far g (by omega)).1, (nth_swap_far g (by omega)).2, take_swap_far L f hq (by omega), take_swap_far L g hp (by omega), swap_comm L f hq hp]
  exact List.Perm.swap ..
theorem okRow_exch {l r : List Nat} {p q : Nat} (L : Line ow.length l) (f : Far q p) (h : okRow ow l (q :: p :: r) = true) : okRow ow l (p :: q :: r) = true := by
  simp only [okRow, Bool.and_eq_true] at h ⊢
  obtain ⟨h1, h2, h3⟩ := h
  have hq := canLay_lt h1
  have hp := canLay_lt h2
  rw [canLay_far L f hq] at h2
  exact ⟨h2, by rw [canLay_far L f.symm hp]; exact h1, by rw [swap_comm L f.symm hp hq]; exact h3⟩
/-- a place that none ahead holds back, laid first -/
theorem free_first {p : Nat} {r2 : List Nat} : ∀ {r1 l : List Nat}, Line ow.length l → (∀ q ∈ r1, Far q p) → okRow ow l (r1 ++ p :: r2) = true →
    okRow ow l (p :: (r1 ++ r2)) = true ∧ (laidS l (r1 ++ p :: r2)).Perm (laidS l (p :: (r1 ++ r2)))
  | [], l, _, _, h => ⟨h, List.Perm.refl _⟩
  | q :: r1, l, L, f, h => by
    have fq := f q (by simp)
    simp only [List.cons_append, okRow, Bool.and_eq_true] at h
    have hq := canLay_lt h.1
    obtain ⟨h2, h3⟩ := free_first (r1 := r1) (L.swap hq) (fun x hx => f x (by simp [hx])) h.2
    have h4 : okRow ow l (q :: p :: (r1 ++ r2)) = true := by
      simp only [okRow, Bool.and_eq_true] at h2 ⊢
      exact ⟨h.1, h2⟩
    have hp : p + 2 ≤ ow.length := by
      simp only [okRow, Bool.and_eq_true] at h2
      exact canLay_lt h2.1
    refine ⟨okRow_exch L fq h4, ?_⟩
    refine List.Perm.trans ?_ (laidS_exch L fq hp hq)
    show (laidS l (q :: (r1 ++ p :: r2))).Perm (laidS l (q :: p :: (r1 ++ r2)))
    rw [laidS_cons, laidS_cons (row := p :: (r1 ++ r2))]
    exact h3.cons _
/-! ### lines that have crossed stay so -/
theorem ord_keep {l : List Nat} {p u v : Nat} (L : Line ow.length l) (h : canLay ow l p = true) (hu : u < ow.length) (hv : v < ow.length) (hn : ¬ (u = nthN l p ∧ v = nthN l (p + 1))) (ho : l.idxOf u < l.idxOf v) : (swapAt l p).idxOf u < (swapAt l p).idxOf v := by
  have hp := canLay_lt h
  have hl := L.len
  rw [L.pos_swap hp hu, L.pos_swap hp hv]
  have pu : ∀ z, z < ow.length → (z = nthN l p → l.idxOf z = p) ∧ (z = nthN l (p + 1) → l.idxOf z = p + 1) ∧ (z ≠ nthN l p → l.idxOf z ≠ p) ∧ (z ≠ nthN l (p + 1) → l.idxOf z ≠ p + 1) := fun z hz =>
    ⟨fun e => (L.pos_iff (by omega) hz).mpr e.symm, fun e => (L.pos_iff (by omega) hz).mpr e.symm, fun e e2 => e ((L.pos_iff (by omega) hz).mp e2).symm, fun e e2 => e ((L.pos_iff (by omega) hz).mp e2).symm⟩
  obtain ⟨u1, u2, u3, u4⟩ := pu u hu
  obtain ⟨v1, v2, v3, v4⟩ := pu v hv
  by_cases a : u = nthN l p
  · have b : v ≠ nthN l (p + 1) := fun e => hn ⟨a, e⟩
    have c : v ≠ nthN l p := fun e => by have := u1 a; have := v1 e; omega
    have := u1 a; have := v4 b; have := v3 c
    rw [if_pos a, if_neg c, if_neg b]; omega
  · by_cases b : u = nthN l (p + 1)
    · have := u2 b
      have c : v ≠ nthN l p := fun e => by have := v1 e; omega
      have d : v ≠ nthN l (p + 1) := fun e => by have := v2 e; omega
      rw [if_neg a, if_pos b, if_neg c, if_neg d]; omega
    · have := u3 a; have := u4 b
      rw [if_neg a, if_neg b]
      by_cases c : v = nthN l p
      · have := v1 c; rw [if_pos c]; omega
      · by_cases d : v = nthN l (p + 1)
        · have := v2 d; rw [if_neg c, if_pos d]; omega
        · rw [if_neg c, if_neg d]; exact ho
theorem laid_some {x y : Nat} (hx : x < ow.length) (hy : y < ow.length) (how : nthN ow x < nthN ow y) : ∀ {r l : List Nat}, Line ow.length l → okRow ow l r = true → l.idxOf x < l.idxOf y → ∃ e ∈ laidS l r, e.1 = x ∧ e.2.1 = y
  | [], l, L, h, ho => by
    have hl := L.len
    have := over_down (show isOver ow l = true from h) L.len (l.idxOf y - l.idxOf x) (l.idxOf x)
    have e : l.idxOf x + (l.idxOf y - l.idxOf x) = l.idxOf y := by omega
    rw [e, L.nth_pos hy, L.nth_pos hx] at this
    have := this (L.pos_lt hy)
    omega
  | q :: r, l, L, h, ho => by
    simp only [okRow, Bool.and_eq_true] at h
    rw [laidS_cons]
    by_cases e : x = nthN l q ∧ y = nthN l (q + 1)
    · exact ⟨_, List.mem_cons_self, e.1.symm, e.2.symm⟩
    · obtain ⟨z, hz, h1⟩ := laid_some hx hy how (L.swap (canLay_lt h.1)) h.2 (ord_keep L h.1 hx hy e ho)
      exact ⟨z, List.mem_cons_of_mem _ hz, h1⟩
theorem above_stays {u : Nat} (hu : u < ow.length) {e : LozS} : ∀ {r l : List Nat}, Line ow.length l → okRow ow l r = true → e ∈ laidS l r → nthN ow u < nthN ow e.1 → l.idxOf e.1 < l.idxOf u → e.2.2.2 u = false
  | [], l, L, h, he, _, _ => by cases he
  | q :: r, l, L, h, he, how, ho => by
    simp only [okRow, Bool.and_eq_true] at h
    have hq := canLay_lt h.1
    rw [laidS_cons] at he
    rcases List.mem_cons.mp he with rfl | he
    · have e1 : l.idxOf (nthN l q) = q := L.pos_nth (by omega)
      simp only at ho ⊢
      rw [e1] at ho
      have : ¬ u ∈ l.take q := fun hm => by
        have := (L.take_iff (by omega) hu).mp hm
        omega
      simp [this]
    · have hx : e.1 < ow.length := by
        unfold laidS at he
        obtain ⟨y, hy, rfl⟩ := List.mem_map.mp he
        have : ∀ {r l : List Nat} , Line ow.length l → okRow ow l r = true → ∀ y ∈ laidL l r, y.1 < ow.length ∧ y.2.1 < ow.length := by
          intro r
          induction r with
          | nil => intro l _ _ y hy; cases hy
          | cons q r ih =>
            intro l L h y hy
            simp only [okRow, Bool.and_eq_true] at h
            have hq := canLay_lt h.1
            simp only [laidL, List.mem_cons] at hy
            rcases hy with rfl | hy
            · exact ⟨L.nth_lt (by omega), L.nth_lt (by omega)⟩
            · exact ih (L.swap hq) h.2 y hy
        exact (this (L.swap hq) h.2 y hy).1
      refine above_stays hu (L.swap hq) h.2 he how (ord_keep L h.1 hx hu ?_ ho)
      rintro ⟨h1, h2⟩
      have := canLay_ow h.1
      rw [← h1, ← h2] at this
      omega
theorem beneath_stays {v : Nat} (hv : v < ow.length) {e : LozS} : ∀ {r l : List Nat}, Line ow.length l → okRow ow l r = true → e ∈ laidS l r → nthN ow e.2.1 < nthN ow v → l.idxOf v < l.idxOf e.2.1 → v ≠ e.1 → e.2.2.2 v = true
  | [], l, L, h, he, _, _, _ => by cases he
  | q :: r, l, L, h, he, how, ho, hne => by
    simp only [okRow, Bool.and_eq_true] at h
    have hq := canLay_lt h.1
    rw [laidS_cons] at he
    rcases List.mem_cons.mp he with rfl | he
    · have e1 : l.idxOf (nthN l (q + 1)) = q + 1 := L.pos_nth (by omega)
      simp only at ho hne ⊢
      rw [e1] at ho
      have n1 : l.idxOf v ≠ q := fun e => hne (by rw [← e, L.nth_pos hv])
      have : v ∈ l.take q := (L.take_iff (by omega) hv).mpr (by omega)
      simp [this]
    · have hx : e.2.1 < ow.length := by
        unfold laidS at he
        obtain ⟨y, hy, rfl⟩ := List.mem_map.mp he
        have : ∀ {r l : List Nat} , Line ow.length l → okRow ow l r = true → ∀ y ∈ laidL l r, y.1 < ow.length ∧ y.2.1 < ow.length := by
          intro r
          induction r with
          | nil => intro l _ _ y hy; cases hy
          | cons q r ih =>
            intro l L h y hy
            simp only [okRow, Bool.and_eq_true] at h
            have hq := canLay_lt h.1
            simp only [laidL, List.mem_cons] at hy
            rcases hy with rfl | hy
            · exact ⟨L.nth_lt (by omega), L.nth_lt (by omega)⟩
            · exact ih (L.swap hq) h.2 y hy
        exact (this (L.swap hq) h.2 y hy).2
      refine beneath_stays hv (L.swap hq) h.2 he how (ord_keep L h.1 hv hx ?_ ho) hne
      rintro ⟨h1, h2⟩
      have := canLay_ow h.1
      rw [← h1, ← h2] at this
      omega
/-! ### which lozenge can be next -/
/-- what is told of each lozenge of a row: which lines lie beneath -/
def Tells (ow : List Nat) (B : Nat → Nat → Nat → Bool) (l r : List Nat) : Prop := ∀ e ∈ laidS l r, ∀ z, z < ow.length → z ≠ e.1 → z ≠ e.2.1 → B z e.1 e.2.1 = e.2.2.2 z
def Next (ow : List Nat) (B : Nat → Nat → Nat → Bool) (l : List Nat) (p : Nat) : Prop := canLay ow l p = true ∧ ∀ z, z < ow.length → z ≠ nthN l p → z ≠ nthN l (p + 1) → (B z (nthN l p) (nthN l (p + 1)) = true ↔ l.idxOf z < p)
theorem Tells.perm {B} {l r l' r' : List Nat} (h : Tells ow B l r) (p : (laidS l' r').Perm (laidS l r)) : Tells ow B l' r' := fun e he => h e (p.mem_iff.mp he)
theorem Tells.tail {B} {l r : List Nat} {p : Nat} (h : Tells ow B l (p :: r)) : Tells ow B (swapAt l p) r := fun e he => h e (by rw [laidS_cons]; exact List.mem_cons_of_mem _ he)
theorem next_of_free {B} {l r1 r2 : List Nat} {p : Nat} (L : Line ow.length l) (f : ∀ q ∈ r1, Far q p) (ok : okRow ow l (r1 ++ p :: r2) = true) (t : Tells ow B l (r1 ++ p :: r2)) : Next ow B l p := by
  obtain ⟨h1, h2⟩ := free_first L f ok
  have t' := t.perm h2.symm
  simp only [okRow, Bool.and_eq_true] at h1
  have hp := canLay_lt h1.1
  refine ⟨h1.1, fun z hz h3 h4 => ?_⟩
  have := t' _ (by rw [laidS_cons]; exact List.mem_cons_self) z hz h3 h4
  simp only at this
  rw [this]
  simp only [List.contains_iff_mem]
  exact L.take_iff (by omega) hz
theorem free_of_next {B} {p : Nat} : ∀ {r l : List Nat}, Line ow.length l → okRow ow l r = true → Tells ow B l r → Next ow B l p → ∃ r1 r2, r = r1 ++ p :: r2 ∧ ∀ q ∈ r1, Far q p
  | [], l, L, h, _, hn => by
    have h' : isOver ow l = true := h
    have hp := canLay_lt hn.1
    unfold isOver at h'
    simp only [Bool.not_eq_true', List.any_eq_false, List.mem_range] at h'
    exact (h' p (by omega) hn.1).elim
  | q :: r, l, L, h, t, hn => by
    simp only [okRow, Bool.and_eq_true] at h
    have hp := canLay_lt hn.1
    have hq := canLay_lt h.1
    have hl := L.len
    have S := L.swap hq
    have hx := L.nth_lt (p := p) (by omega)
    have hy := L.nth_lt (p := p + 1) (by omega)
    have how := canLay_ow hn.1
    by_cases e : q = p
    · subst e
      exact ⟨[], r, rfl, by simp⟩
    · by_cases f : Far q p
      · have n1 := (nth_swap_far (l := l) f (by omega)).1
        have n2 := (nth_swap_far (l := l) f (by omega)).2
        have hn' : Next ow B (swapAt l q) p := by
          refine ⟨by rw [canLay_far L f hq]; exact hn.1, ?_⟩
          rw [n1, n2]
          intro z hz h1 h2
          rw [hn.2 z hz h1 h2]
          have f' : q + 2 ≤ p ∨ p + 2 ≤ q := f
          rw [L.pos_swap hq hz]
          split
          · rename_i e
            have : l.idxOf z = q := (L.pos_iff (by omega) hz).mpr e.symm
            omega
          · split
            · rename_i e
              have : l.idxOf z = q + 1 := (L.pos_iff (by omega) hz).mpr e.symm
              omega
            · omega
        obtain ⟨r1, r2, e, hf⟩ := free_of_next S h.2 t.tail hn'
        refine ⟨q :: r1, r2, by rw [e]; rfl, fun x hx => ?_⟩
        rcases List.mem_cons.mp hx with rfl | hx
        · exact f
        · exact hf x hx
      · exfalso
        have f' : ¬ (q + 2 ≤ p ∨ p + 2 ≤ q) := f
        have ex : l.idxOf (nthN l p) = p := L.pos_nth (by omega)
        have ey : l.idxOf (nthN l (p + 1)) = p + 1 := L.pos_nth (by omega)
        have hqo := canLay_ow h.1
        rcases Nat.lt_or_gt_of_ne e with lt | gt
        · -- a line from beneath crosses the lower one
          have eq : p = q + 1 := by omega
          subst eq
          have hu := L.nth_lt (p := q) (by omega)
          have eu : l.idxOf (nthN l q) = q := L.pos_nth (by omega)
          have hne : ¬ (nthN l (q + 1) = nthN l q ∧ nthN l (q + 1 + 1) = nthN l (q + 1)) := by
            rintro ⟨h1, _⟩; rw [h1] at ex; omega
          have ord := ord_keep L h.1 hx hy hne (by omega)
          obtain ⟨z, hz, z1, z2⟩ := laid_some hx hy how S h.2 ord
          have st := above_stays hu S h.2 hz (by rw [z1]; exact hqo) (by
            rw [z1, L.pos_swap hq hx, L.pos_swap hq hu]
            have : nthN l (q + 1) ≠ nthN l q := fun e => by rw [e] at ex; omega
            simp [this])
          have tz := t z (by rw [laidS_cons]; exact List.mem_cons_of_mem _ hz) (nthN l q) hu (by rw [z1]; intro e; rw [e] at eu; omega) (by rw [z2]; intro e; rw [e] at eu; omega)
          rw [st, z1, z2] at tz
          have := (hn.2 (nthN l q) hu (by intro e; rw [e] at eu; omega) (by intro e; rw [e] at eu; omega)).mpr (by omega)
          rw [this] at tz
          cases tz
        · have eq : q = p + 1 := by omega
          subst eq
          have hv := L.nth_lt (p := p + 1 + 1) (by omega)
          have ev : l.idxOf (nthN l (p + 1 + 1)) = p + 1 + 1 := L.pos_nth (by omega)
          have hne : ¬ (nthN l p = nthN l (p + 1) ∧ nthN l (p + 1) = nthN l (p + 1 + 1)) := by
            rintro ⟨h1, _⟩; rw [h1] at ex; omega
          have ord := ord_keep L h.1 hx hy hne (by omega)
          obtain ⟨z, hz, z1, z2⟩ := laid_some hx hy how S h.2 ord
          have st := beneath_stays hv S h.2 hz (by rw [z2]; exact hqo) (by
            rw [z2, L.pos_swap hq hv, L.pos_swap hq hy]
            have : nthN l (p + 1 + 1) ≠ nthN l (p + 1) := fun e => by rw [e] at ev; omega
            simp [this]) (by rw [z1]; intro e; rw [e] at ev; omega)
          have tz := t z (by rw [laidS_cons]; exact List.mem_cons_of_mem _ hz) (nthN l (p + 1 + 1)) hv (by rw [z1]; intro e; rw [e] at ev; omega) (by rw [z2]; intro e; rw [e] at ev; omega)
          rw [st, z1, z2] at tz
          have := (hn.2 (nthN l (p + 1 + 1)) hv (by intro e; rw [e] at ev; omega) (by intro e; rw [e] at ev; omega)).mp tz
          omega
end
end LZ

set_option maxRecDepth 100000
set_option maxHeartbeats 1000000
namespace LZ
open RR
/-! ### the least row by exchanges -/
def freeAt (r : List Nat) (k : Nat) : Bool := (r.take k).all fun q => decide (Far q (nthN r k))
def frees (r : List Nat) : List Nat := (List.range r.length).filter (freeAt r)
def pickK (r : List Nat) : Option Nat := ((frees r).map fun k => nthN r k * 4096 + k).min?.map (· % 4096)
theorem pick_some {r : List Nat} {k : Nat} (hr : r.length ≤ 4096) (h : pickK r = some k) : k < r.length ∧ freeAt r k = true ∧ (∀ j, j < r.length → freeAt r j = true → nthN r k ≤ nthN r j) ∧ ∀ j, j < r.length → freeAt r j = true → nthN r j = nthN r k → k ≤ j := by
  unfold pickK at h
  rw [Option.map_eq_some_iff] at h
  obtain ⟨m, hm, rfl⟩ := h
  rw [List.min?_eq_some_iff] at hm
  obtain ⟨h1, h2⟩ := hm
  obtain ⟨k, hk, rfl⟩ := List.mem_map.mp h1
  unfold frees at hk
  rw [List.mem_filter, List.mem_range] at hk
  have e : (nthN r k * 4096 + k) % 4096 = k := by omega
  rw [e]
  have key : ∀ j, j < r.length → freeAt r j = true → nthN r k * 4096 + k ≤ nthN r j * 4096 + j := fun j hj hf =>
    h2 _ (List.mem_map.mpr ⟨j, by unfold frees; rw [List.mem_filter, List.mem_range]; exact ⟨hj, hf⟩, rfl⟩)
  refine ⟨hk.1, hk.2, fun j hj hf => ?_, fun j hj hf e => ?_⟩
  · have := key j hj hf; omega
  · have := key j hj hf; omega
theorem pick_none {r : List Nat} (h : pickK r = none) : r = [] := by
  cases r with
  | nil => rfl
  | cons x r =>
    unfold pickK at h
    rw [Option.map_eq_none_iff, List.min?_eq_none_iff] at h
    have hm : 0 ∈ frees (x :: r) := by
      unfold frees
      rw [List.mem_filter, List.mem_range]
      exact ⟨by simp, by simp [freeAt]⟩
    have := List.mem_map_of_mem (f := fun k => nthN (x :: r) k * 4096 + k) hm
    rw [h] at this
    cases this
def lawLeast : Nat → List Nat → List Nat
  | 0, _ => []
  | n + 1, r => match pickK r with
    | none => []
    | some k => nthN r k :: lawLeast n (r.eraseIdx k)
def leastL (r : List Nat) : List Nat := lawLeast r.length r
theorem free_split {r : List Nat} {k : Nat} (hk : k < r.length) (h : freeAt r k = true) : r = r.take k ++ nthN r k :: r.drop (k + 1) ∧ ∀ q ∈ r.take k, Far q (nthN r k) := by
  refine ⟨?_, fun q hq => ?_⟩
  · rw [nth_eq hk]
    have := List.take_append_drop k r
    rw [List.drop_eq_getElem_cons hk] at this
    exact this.symm
  · unfold freeAt at h
    rw [List.all_eq_true] at h
    simpa using h q hq
theorem free_of_split {r1 r2 : List Nat} {p : Nat} (h : ∀ q ∈ r1, Far q p) : r1.length < (r1 ++ p :: r2).length ∧ freeAt (r1 ++ p :: r2) r1.length = true ∧ nthN (r1 ++ p :: r2) r1.length = p := by
  have e : nthN (r1 ++ p :: r2) r1.length = p := by simp [nthN]
  refine ⟨by simp, ?_, e⟩
  unfold freeAt
  rw [e, List.all_eq_true]
  intro q hq
  rw [List.take_left] at hq
  simpa using h q hq
section
variable {ow : List Nat} {B : Nat → Nat → Nat → Bool}
/-- the places that can be next are those that none ahead holds back -/
theorem next_iff {l r : List Nat} {p : Nat} (L : Line ow.length l) (ok : okRow ow l r = true) (t : Tells ow B l r) : Next ow B l p ↔ ∃ k, k < r.length ∧ freeAt r k = true ∧ nthN r k = p := by
  constructor
  · intro h
    obtain ⟨r1, r2, rfl, hf⟩ := free_of_next L ok t h
    exact ⟨_, free_of_split hf⟩
  · rintro ⟨k, hk, hf, rfl⟩
    obtain ⟨e, far⟩ := free_split hk hf
    rw [e] at ok t
    exact next_of_free L far ok t
theorem erase_eq {r : List Nat} {k : Nat} : r.eraseIdx k = r.take k ++ r.drop (k + 1) := List.eraseIdx_eq_take_drop_succ r k
/-- one step: the least place that can be next is laid -/
theorem least_step {l r : List Nat} {k : Nat} (L : Line ow.length l) (ok : okRow ow l r = true) (t : Tells ow B l r) (hk : k < r.length) (hf : freeAt r k = true) :
    okRow ow (swapAt l (nthN r k)) (r.eraseIdx k) = true ∧ Tells ow B (swapAt l (nthN r k)) (r.eraseIdx k) ∧ canLay ow l (nthN r k) = true := by
  obtain ⟨e, far⟩ := free_split hk hf
  have ok' := ok
  have t' := t
  rw [e] at ok' t'
  obtain ⟨h1, h2⟩ := free_first L far ok'
  have h3 : Tells ow B l (nthN r k :: (r.take k ++ r.drop (k + 1))) := t'.perm h2.symm
  rw [erase_eq]
  simp only [okRow, Bool.and_eq_true] at h1
  exact ⟨h1.2, h3.tail, h1.1⟩
end
/-! ### what a row tells of its own floor -/
theorem tells_row {ow row : List Nat} (up : Up ow) (ok : okRow ow (List.range ow.length) row = true) : Tells ow (fl ow (hiT (tmR ow row))) (List.range ow.length) row := by
  have F := flo_of up ok
  have okp := okRow_pre ok
  intro e he z hz zx zy
  unfold laidS at he
  obtain ⟨y, hy, rfl⟩ := List.mem_map.mp he
  simp only at zx zy ⊢
  have hm : ∃ k, (laidL (List.range ow.length) row)[k]? = some y := List.mem_iff_getElem?.mp hy
  obtain ⟨k, hk⟩ := hm
  have hkl := (List.getElem?_eq_some_iff.mp hk).1
  rw [laidL_len] at hkl
  have hp : row[k]? = some row[k] := by simp [hkl]
  have ey := laidL_get (l := List.range ow.length) hp
  rw [hk] at ey
  have ey := Option.some.inj ey
  have hpr : (prs (List.range ow.length) row)[k]? = some (y.1, y.2.1) := by
    unfold prs
    rw [List.getElem?_map, hk]
    rfl
  have et : tmR ow row y.1 y.2.1 ≤ k := idxOf_le hpr
  have htl : tmR ow row y.1 y.2.1 < row.length := by omega
  obtain ⟨p, h1, h2, h3, h4, h5, h6, h7, h8⟩ := at_time up okp htl
  have ek : tmR ow row y.1 y.2.1 = k := by
    have o := ord_time up okp k (by omega) y.1 y.2.1 h7 h8
    have L := lineAt_line (Line.range ow.length) (okPre_take (k := k) okp)
    have hpl := canLay_lt (okPre_get okp hp)
    have e1 : (lineAt (List.range ow.length) (row.take k)).idxOf y.1 = row[k] := (L.pos_iff (by omega) (by omega)).mpr (by rw [ey])
    have e2 : (lineAt (List.range ow.length) (row.take k)).idxOf y.2.1 = row[k] + 1 := (L.pos_iff (by omega) (by omega)).mpr (by rw [ey])
    have : ¬ tmR ow row y.1 y.2.1 < k := fun h => by have := o.mpr h; omega
    omega
  have hp' : row[tmR ow row y.1 y.2.1]? = some row[k] := by rw [ek]; exact hp
  have hb := (beneath_time up okp htl hz zx zy hp').1
  rw [ek] at hb
  have hfl := F.fl up h7 h8 h6 hz zx zy
  have eb : y.2.2.2.1 = (lineAt (List.range ow.length) (row.take k)).take row[k] := by rw [ey]
  rw [eb]
  rw [ek] at hfl
  by_cases c : z ∈ (lineAt (List.range ow.length) (row.take k)).take row[k]
  · rw [hfl.mpr (hb.mp c)]
    simp [c]
  · have : fl ow (hiT (tmR ow row)) z y.1 y.2.1 = false := by
      cases q : fl ow (hiT (tmR ow row)) z y.1 y.2.1 with
      | false => rfl
      | true => exact (c (hb.mpr (hfl.mp q))).elim
    rw [this]
    simp [c]
end LZ

set_option maxRecDepth 100000
set_option maxHeartbeats 1000000
namespace LZ
open PySem PySem.Spec PyProof.Rows L2 RR
theorem a_nest {i : Nat} {a : Addr} {js : List Nat} {sem : List D → List (Option D) → Store → Rs D} {r : ME (List D)} {env : RR.Env} {st : Store} (h : env[i]? = some (some (.adr a))) :
    mNest i a js sem r env st = (r env st).bind fun ds st1 => (sem ds (js.map fun j => (env[j]?).join) st1).nx := by
  unfold mNest
  rw [if_pos h]
  rfl
@[simp] theorem nx_ok {A : Type} {x : A} {st : Store} : (Rs.ok x st).nx = .ok x st := rfl
/-! ### whether a line lies beneath, by the code -/
def sort3 (z x y : Nat) : List Nat := if z < x then [z, x, y] else if z < y then [x, z, y] else [x, y, z]
theorem key_nI (a : Nat) : keyI (nI a) = (a : Int) := rfl
theorem g_sort3 {z x y : Nat} {st : Store} (xy : x < y) (zx : z ≠ x) (zy : z ≠ y) : gSortI false [.lst [nI z, nI x, nI y]] st = .ok (nL (sort3 z x y)) st := by
  have e : sortBy keyI [nI z, nI x, nI y] = (sort3 z x y).map nI := by
    symm
    refine sortBy_uniq ?_ ?_ ?_
    · intro a ha b hb h
      simp only [List.mem_cons, List.not_mem_nil, or_false] at ha hb
      rcases ha with rfl | rfl | rfl <;> rcases hb with rfl | rfl | rfl <;> simp only [key_nI] at h <;> first | rfl | (exfalso; omega)
    · unfold sort3
      split
      · exact List.Perm.refl _
      · split
        · exact List.Perm.swap ..
        · exact (List.perm_append_comm (l₁ := [nI x, nI y]) (l₂ := [nI z]))
    · unfold sort3
      split
      · simp [key_nI]; omega
      · split
        · simp [key_nI]; omega
        · simp [key_nI]; omega
  simp [gSortI, seqOf, intsOf, nI, e]
  unfold nL
  rw [← e]
  rfl
/-- what is high, as bits -/
def hiB (ow : List Nat) (code : Nat) (a b c : Nat) : Bool := code.testBit ((threesOf ow).idxOf [a, b, c])
theorem eq_is_beneath {sides : List Nat} {code z x y : Nat} {st : Store} (h16 : sides.sum ≤ 16) (xy : x < y) (hy : y < (owners sides).length) (how : nthN (owners sides) x < nthN (owners sides) y) (hz : z < (owners sides).length) (zx : z ≠ x) (zy : z ≠ y) :
    sem_is_beneath [outD sides, nI code, nI z, nT [x, y]] st = .ok (.bl (fl (owners sides) (hiB (owners sides) code) z x y)) st := by
  have up : Up (owners sides) := up_owners h16
  have hT := len_T h16
  refine semB_eq rfl ?_
  unfold b_is_beneath
  simp only [env0, List.map_cons, List.map_nil, List.length_cons, List.length_nil, Nat.reduceAdd, Nat.reduceSub, List.cons_append, List.nil_append, List.reduceReplicate]
  have e1 : ∀ st, gSortI false [.lst [nI z, nI x, nI y]] st = .ok (nL (sort3 z x y)) st := fun st => g_sort3 xy zx zy
  have e2 : ∀ st, gTupOf [nL (sort3 z x y)] st = .ok (nT (sort3 z x y)) st := fun st => by unfold nL nT; exact g_tupL
  have e3 : nT [x, y] = .tup [nI x, nI y] := rfl
  have e4 : ∀ st, gDin true (nT (sort3 z x y)) (.dT ((threesOf (owners sides)).map keyN) (spotD (threesOf (owners sides)))) st = _ := fun st => spot_in
  rw [e3]
  by_cases hm : sort3 z x y ∈ threesOf (owners sides)
  · have hi := List.idxOf_lt_length_iff.mpr hm
    have e5 : ∀ st, gDget (.dT ((threesOf (owners sides)).map keyN) (spotD (threesOf (owners sides)))) (nT (sort3 z x y)) st = _ := fun st => spot_get hm
    have e6 : ∀ st k, gShr (nI code) (nI k) st = _ := fun st k => n_shr
    have e7 : ∀ st k, gAnd (nI k) (.int 1) st = _ := fun st k => n_and1
    have e8 : ∀ st k, gEqB false (nI (code / 2 ^ k % 2)) (.int 1) st = .ok (.bl (code.testBit k)) st := fun st k => by
      have : (D.int 1) = nI 1 := rfl
      rw [this, n_eq, ← test_shift]
      simp
    simp [e1, e2, e4, hm, out_spot.fld, e5, e6, e7, e8]
    have fin : ∀ b : Bool, fl (owners sides) (hiB (owners sides) code) z x y = b → Post (.ok (.rt (.bl b)) [some (outD sides), some (nI code), some (nI z), some (.tup [nI x, nI y]), some (nI x), some (nI y), some (nT (sort3 z x y)), some (.bl (code.testBit ((threesOf (owners sides)).idxOf (sort3 z x y))))] st) (FinJ 3 st.length st fun d' s' => d' = .bl (fl (owners sides) (hiB (owners sides) code) z x y) ∧ s' = st) := by
      intro b hb
      rw [hb]
      exact post_ok.mpr (fin_pure pure_bl (by simp))
    by_cases c1 : z < x
    · have es : sort3 z x y = [z, x, y] := by simp [sort3, c1]
      have m := (mem_T up).mp (es ▸ hm)
      have n1 : ¬ x < z := by omega
      have n2 : nthN (owners sides) z ≠ nthN (owners sides) x := by omega
      simp [n1]
      exact fin_pure pure_bl (by simp [fl, c1, n2, hiB, es])
    · by_cases c2 : z < y
      · have c3 : x < z := by omega
        have es : sort3 z x y = [x, z, y] := by simp [sort3, c1, c2]
        have m := (mem_T up).mp (es ▸ hm)
        have n2 : nthN (owners sides) x ≠ nthN (owners sides) z := by omega
        have n3 : nthN (owners sides) z ≠ nthN (owners sides) y := by omega
        simp [c3, c2]
        exact fin_pure pure_bl (by simp [fl, c1, c2, n2, n3, hiB, es])
      · have c3 : x < z := by omega
        have es : sort3 z x y = [x, y, z] := by simp [sort3, c1, c2]
        have m := (mem_T up).mp (es ▸ hm)
        have n2 : nthN (owners sides) y ≠ nthN (owners sides) z := by omega
        simp [c3, c2]
        exact fin_pure pure_bl (by simp [fl, c1, c2, n2, hiB, es])
  · have i1 : ∀ S, gIx (nL (owners sides)) (nI z) S = _ := fun S => n_ixL hz
    have i2 : ∀ S, gIx (nL (owners sides)) (nI y) S = _ := fun S => n_ixL hy
    simp [e1, e2, e4, hm, out_spot.fld]
    by_cases c1 : z < x
    · have u := up z x (by omega) (by omega)
      have n2 : nthN (owners sides) z = nthN (owners sides) x := by
        by_cases q : nthN (owners sides) z = nthN (owners sides) x
        · exact q
        · exact (hm (by rw [show sort3 z x y = [z, x, y] by simp [sort3, c1]]; exact (mem_T up).mpr ⟨c1, xy, hy, by omega, how⟩)).elim
      simp [c1]
      exact fin_pure pure_bl (by simp [fl, c1, n2])
    · by_cases c2 : z < y
      · have u1 := up x z (by omega) (by omega)
        have u2 := up z y (by omega) (by omega)
        simp [c1, c2, out_owner.fld, i1, i2]
        by_cases n3 : nthN (owners sides) z = nthN (owners sides) y
        · have n2 : nthN (owners sides) x ≠ nthN (owners sides) z := by omega
          have n4 : nthN (owners sides) x ≠ nthN (owners sides) y := by omega
          exact fin_pure pure_bl (by simp [fl, c1, c2, n2, n3, n4])
        · have n2 : nthN (owners sides) x = nthN (owners sides) z := by
            by_cases q : nthN (owners sides) x = nthN (owners sides) z
            · exact q
            · exact (hm (by rw [show sort3 z x y = [x, z, y] by simp [sort3, c1, c2]]; exact (mem_T up).mpr ⟨by omega, c2, hy, by omega, by omega⟩)).elim
          exact fin_pure pure_bl (by simp [fl, c1, c2, n2, n3])
      · have u1 := up y z (by omega) (by omega)
        have n2 : nthN (owners sides) y = nthN (owners sides) z := by
          by_cases q : nthN (owners sides) y = nthN (owners sides) z
          · exact q
          · exact (hm (by rw [show sort3 z x y = [x, y, z] by simp [sort3, c1, c2]]; exact (mem_T up).mpr ⟨xy, by omega, hz, how, by omega⟩)).elim
        simp [c1, c2]
        exact fin_pure pure_bl (by simp [fl, c1, c2, n2])
/-! ### the nested test -/
def enc2 (q : Nat × Nat) : D := .tup [nI q.2, nI q.1]
def othersN (l : List Nat) (x y : Nat) : List (Nat × Nat) := l.zipIdx.filter fun q => !([x, y].contains q.1)
def nextB (ow : List Nat) (B : Nat → Nat → Nat → Bool) (l : List Nat) (p : Nat) : Bool := (othersN l (nthN l p) (nthN l (p + 1))).all fun q => B q.1 (nthN l p) (nthN l (p + 1)) == decide (q.2 < p)
theorem mem_others {l : List Nat} {x y : Nat} {q : Nat × Nat} (h : q ∈ othersN l x y) : l[q.2]? = some q.1 ∧ q.1 ≠ x ∧ q.1 ≠ y := by
  unfold othersN at h
  rw [List.mem_filter] at h
  have h1 := List.mem_zipIdx_iff_getElem?.mp h.1
  have h2 := h.2
  simp at h2
  exact ⟨h1, h2.1, h2.2⟩
theorem nextB_iff {ow l : List Nat} {B : Nat → Nat → Nat → Bool} {p : Nat} (L : Line ow.length l) (hp : p + 2 ≤ ow.length) : (canLay ow l p && nextB ow B l p) = true ↔ Next ow B l p := by
  rw [Bool.and_eq_true]
  unfold Next
  refine and_congr_right fun _ => ?_
  unfold nextB
  rw [List.all_eq_true]
  constructor
  · intro h z hz zx zy
    have hpz := L.pos_lt hz
    have hm : (z, l.idxOf z) ∈ othersN l (nthN l p) (nthN l (p + 1)) := by
      unfold othersN
      rw [List.mem_filter]
      refine ⟨List.mem_zipIdx_iff_getElem?.mpr ?_, by simp [zx, zy]⟩
      have e := L.nth_pos hz
      have hl := L.len
      rw [nth_eq (by omega)] at e
      simp only
      rw [List.getElem?_eq_getElem (by omega), e]
    have := h _ hm
    simp only [beq_iff_eq] at this
    rw [this]
    simp
  · intro h q hq
    obtain ⟨h1, h2, h3⟩ := mem_others hq
    have hl := L.len
    have hq2 := (List.getElem?_eq_some_iff.mp h1).1
    have e := (List.getElem?_eq_some_iff.mp h1).2
    have e' : nthN l q.2 = q.1 := by rw [nth_eq hq2]; exact e
    have hz : q.1 < ow.length := by rw [← e']; exact L.nth_lt (by omega)
    have pos : l.idxOf q.1 = q.2 := by rw [← e']; exact L.pos_nth (by omega)
    have := h q.1 hz h2 h3
    rw [pos] at this
    simp only [beq_iff_eq]
    by_cases c : q.2 < p
    · simp [c, this.mpr c]
    · have : B q.1 (nthN l p) (nthN l (p + 1)) = false := by
        cases q' : B q.1 (nthN l p) (nthN l (p + 1)) with
        | false => rfl
        | true => exact (c (this.mp q')).elim
      simp [c, this]
theorem zipIdx_len {l : List Nat} : l.zipIdx.length = l.length := by simp
theorem eq_is_next {sides l : List Nat} {code p : Nat} {w : D} {st : Store} (h16 : sides.sum ≤ 16) (hP : PassAt st w sides l) (L : Line (owners sides).length l) (hc : canLay (owners sides) l p = true) :
    sem_least_of__is_next [nI p] [some w, some (outD sides), some (nI code)] st = .ok (.bl (nextB (owners sides) (fl (owners sides) (hiB (owners sides) code)) l p)) st := by
  have up : Up (owners sides) := up_owners h16
  have hpl := canLay_lt hc
  have how := canLay_ow hc
  have hl := L.len
  have hn := len_owners sides
  have hx := L.nth_lt (p := p) (by omega)
  have hy := L.nth_lt (p := p + 1) (by omega)
  have xy := up.lt hx how
  obtain ⟨o, o1, o2⟩ := hP.ord
  unfold sem_least_of__is_next semN
  rw [if_pos ⟨rfl, rfl⟩]
  refine semB_eq rfl ?_
  unfold b_least_of__is_next
  simp only [envN, List.map_cons, List.map_nil, List.length_cons, List.length_nil, Nat.reduceAdd, Nat.reduceSub, List.cons_append, List.nil_append, List.reduceReplicate]
  have i1 : gIx o (nI p) st = .ok (nI (nthN l p)) st := o2.ix (by omega)
  have i2 : gIx o (nI (p + 1)) st = .ok (nI (nthN l (p + 1))) st := o2.ix (by omega)
  generalize hx' : nthN l p = x at *
  generalize hy' : nthN l (p + 1) = y at *
  have ho : ∀ tl, gFld 1 "order" w (st ++ tl) = .ok o (st ++ tl) := fun tl => (o1.app tl).fld
  have ho0 := ho []
  rw [List.append_nil] at ho0
  rw [s_seq, s_set]
  simp [ho0, i1, i2]
  have e1 : mLeave 1 (mLcN (iEnumL (aCons (op1 (gFld 1 "order") (mVar 1)) aNil)) (gTp 2 (gsCons (gNm 6) (gsCons (gNm 7) gsNil))) (mTest (op2 (gIn true) (mVar 7) (mVar 4))) (mTup (aCons (mVar 6) (aCons (mVar 7) aNil))) [6, 7])
      [some (nI p), some w, some (outD sides), some (nI code), some (.tup [nI x, nI y]), none, none, none] st = .ok (.lst ((othersN l x y).map enc2)) st := by
    rw [mLc_t (s := .enum o) l.zipIdx enc2 (fun q => !([x, y].contains q.1)) enc2 (o2.enL (by simp [ho0])) (by simp; omega) (fun acc => gives_en (o2.app _).items) (fun q hq acc => ⟨_, by simp [wipeE, enc2]; rfl, ?_, fun _ => by simp [enc2]⟩) (fun q _ _ => rfl)]
    · rfl
    · have : ∀ S, gIn true (nI q.1) (.tup [nI x, nI y]) S = _ := fun S => n_in (xs := [x, y])
      simp [this]
  simp [e1]
  have e2 : mLeave 1 (mLcN (iSeq (mVar 5)) (gTp 2 (gsCons (gNm 6) (gsCons (gNm 7) gsNil))) (mret true) (op2 gEq (mFn sem_is_beneath [] (aCons (mVar 2) (aCons (mVar 3) (aCons (mVar 7) (aCons (mVar 4) aNil))))) (op2 gLt (mVar 6) (mVar 0))) [6, 7])
      [some (nI p), some w, some (outD sides), some (nI code), some (.tup [nI x, nI y]), some (.lst ((othersN l x y).map enc2)), none, none] st = .ok (.lst ((othersN l x y).map fun q => .bl (fl (owners sides) (hiB (owners sides) code) q.1 x y == decide (q.2 < p)))) st := by
    have hlen : (othersN l x y).length < 100000 := by
      unfold othersN
      refine Nat.lt_of_le_of_lt (List.length_filter_le _ _) ?_
      simp; omega
    rw [mLc_s (othersN l x y) enc2 (fun _ => true) (fun q => .bl (fl (owners sides) (hiB (owners sides) code) q.1 x y == decide (q.2 < p))) (by rfl) hlen (fun q hq acc => ⟨_, by simp [wipeE, enc2]; rfl, rfl, fun _ => ?_⟩) (fun q _ _ => rfl)]
    · simp
    · obtain ⟨h1, h2, h3⟩ := mem_others hq
      have hq2 := (List.getElem?_eq_some_iff.mp h1).1
      have e := (List.getElem?_eq_some_iff.mp h1).2
      have hz : q.1 < (owners sides).length := by
        have : q.1 ∈ l := List.mem_of_getElem? h1
        exact (L.mem _).mp this
      have := fun S => eq_is_beneath (sides := sides) (code := code) (st := S) h16 xy hy how hz h2 h3
      rw [show nT [x, y] = .tup [nI x, nI y] from rfl] at this
      simp [this]
  simp [e2, g_all]
  refine fin_pure pure_bl ?_
  simp [nextB, hx', hy']
end LZ

set_option maxRecDepth 100000
set_option maxHeartbeats 1000000
namespace LZ
open PySem PySem.Spec PyProof.Rows L2 RR
/-! ### the least row, reckoned -/
theorem filter_head {m p : Nat} {P : Nat → Bool} (hp : p < m) (h : P p = true) (least : ∀ q, q < m → P q = true → p ≤ q) : ∃ t, (List.range m).filter P = p :: t := by
  have e : List.range m = List.range p ++ (List.range' p (m - p)) := by
    have := List.range'_append_1 (s := 0) (m := p) (n := m - p)
    rw [List.range_eq_range', List.range_eq_range']
    rw [show p + (m - p) = m by omega] at this
    simpa using this.symm
  have e2 : List.range' p (m - p) = p :: List.range' (p + 1) (m - p - 1) := by
    have : m - p = (m - p - 1) + 1 := by omega
    rw [this, List.range'_succ]
    simp
  rw [e, e2, List.filter_append, List.filter_cons, if_pos h]
  have : (List.range p).filter P = [] := by
    rw [List.filter_eq_nil_iff]
    intro q hq
    rw [List.mem_range] at hq
    intro hh
    have := least q (by omega) hh
    omega
  exact ⟨_, by rw [this]; rfl⟩
theorem over_nil {ow l r : List Nat} (h : isOver ow l = true) (ok : okRow ow l r = true) : r = [] := by
  cases r with
  | nil => rfl
  | cons p r =>
    simp only [okRow, Bool.and_eq_true] at ok
    have hp := canLay_lt ok.1
    unfold isOver at h
    simp only [Bool.not_eq_true', List.any_eq_false, List.mem_range] at h
    exact (h p (by omega) ok.1).elim
abbrev BB (sides : List Nat) (code : Nat) : Nat → Nat → Nat → Bool := fl (owners sides) (hiB (owners sides) code)
structure LeastSt (sides r : List Nat) (code : Nat) (done rk : List Nat) : Prop where
  all : leastL r = done ++ lawLeast rk.length rk
  line : Line (owners sides).length (lineAt (List.range (owners sides).length) done)
  ok : okRow (owners sides) (lineAt (List.range (owners sides).length) done) rk = true
  tells : Tells (owners sides) (BB sides code) (lineAt (List.range (owners sides).length) done) rk
  len : done.length + rk.length = r.length
theorem LeastSt.next {sides r done rk : List Nat} {code : Nat} (h : LeastSt sides r code done rk) (hr : r.length ≤ 4096) (hn : rk ≠ []) : ∃ p k, pickK rk = some k ∧ nthN rk k = p ∧ canLay (owners sides) (lineAt (List.range (owners sides).length) done) p = true ∧
    (∃ t, (List.range ((owners sides).length - 1)).filter (fun q => canLay (owners sides) (lineAt (List.range (owners sides).length) done) q && nextB (owners sides) (BB sides code) (lineAt (List.range (owners sides).length) done) q) = p :: t) ∧ LeastSt sides r code (done ++ [p]) (rk.eraseIdx k) ∧ (rk.eraseIdx k).length + 1 = rk.length := by
  obtain ⟨k, hk⟩ : ∃ k, pickK rk = some k := by
    cases e : pickK rk with
    | none => exact (hn (pick_none e)).elim
    | some k => exact ⟨k, rfl⟩
  have hlen := h.len
  obtain ⟨h1, h2, h3, h4⟩ := pick_some (by omega) hk
  have L := h.line
  obtain ⟨s1, s2, s3⟩ := least_step L h.ok h.tells h1 h2
  have hpl := canLay_lt s3
  have el : (rk.eraseIdx k).length + 1 = rk.length := by rw [List.length_eraseIdx_of_lt h1]; omega
  have eline : lineAt (List.range (owners sides).length) (done ++ [nthN rk k]) = swapAt (lineAt (List.range (owners sides).length) done) (nthN rk k) := by simp [lineAt]
  refine ⟨_, k, hk, rfl, s3, ?_, ⟨?_, ?_, ?_, ?_, ?_⟩, el⟩
  · refine filter_head (by omega) ((nextB_iff L hpl).mpr ((next_iff L h.ok h.tells).mpr ⟨k, h1, h2, rfl⟩)) fun q hq hh => ?_
    obtain ⟨j, j1, j2, j3⟩ := (next_iff L h.ok h.tells).mp ((nextB_iff L (by omega)).mp hh)
    rw [← j3]
    exact h3 j j1 j2
  · rw [h.all]
    have : rk.length = (rk.eraseIdx k).length + 1 := el.symm
    rw [this]
    simp only [lawLeast, hk, List.append_assoc, List.singleton_append]
  · rw [eline]; exact L.swap hpl
  · rw [eline]; exact s1
  · rw [eline]; exact s2
  · simp; omega
def leastTl (sides : List Nat) (i : Nat) (row : List Nat) : List Cell := passC sides i (lineAt (List.range (owners sides).length) row) (walk (owners sides) sides.length (List.range (owners sides).length) row) ++ [.lst (row.map nI)]
theorem eq_least_of {sides r : List Nat} {code : Nat} {st : Store} (hs : SidesOk sides) (hr : RowOk sides r) (h4 : r.length ≤ 4096) (t : Tells (owners sides) (BB sides code) (List.range (owners sides).length) r) :
    sem_least_of [outD sides, nI code] st = .ok (.ref (st.length + 3)) (st ++ leastTl sides st.length (leastL r)) := by
  have hl := len_owners sides
  have h10 := hs.ten
  have h16 : sides.sum ≤ 16 := by omega
  refine semA_eq fun a => semB_eq rfl ?_
  unfold b_least_of
  simp only [env0, List.map_cons, List.map_nil, List.length_cons, List.length_nil, Nat.reduceAdd, Nat.reduceSub, List.cons_append, List.nil_append, List.reduceReplicate]
  have em : mMk 1 sem_Pass___init__ [] (aCons (mVar 0) aNil) [some (outD sides), some (nI code), none, none, none, none, none] st = .ok (.ref st.length) (st ++ passC sides st.length (List.range (owners sides).length) []) := by
    rw [a_mk]
    simp [eq_pass_init st h16]
  rw [s_seq, s_set, em]
  simp only [List.set_cons_succ, List.set_cons_zero, thn_ok]
  rw [s_seq]
  simp only [sDef, List.set_cons_succ, List.set_cons_zero, thn_ok]
  rw [s_seq, s_set, a_newl]
  simp only [a_nil, a_bind_ok, List.length_nil, List.set_cons_succ, List.set_cons_zero, thn_ok]
  rw [if_pos (by omega)]
  have e3 : (st ++ passC sides st.length (List.range (owners sides).length) []).length = st.length + 3 := by simp [passC]
  rw [e3]
  simp only [thn_ok]
  rw [s_seq]
  have start : LeastSt sides r code [] r := ⟨rfl, Line.range _, hr.ok, t, by simp⟩
  refine post_thn (post_while (fun k e s => ∃ done rk x5 x6, rk.length = k ∧ LeastSt sides r code done rk ∧ e = [some (outD sides), some (nI code), some (.ref st.length), some (.adr a), some (.ref (st.length + 3)), x5, x6] ∧ s = st ++ (passC sides st.length (lineAt (List.range (owners sides).length) done) (walk (owners sides) sides.length (List.range (owners sides).length) done) ++ [.lst (done.map nI)]))
    r.length (by omega) ⟨[], r, none, none, rfl, start, rfl, by simp [walk]⟩ ?_)
  rintro k e s ⟨done, rk, x5, x6, rfl, hS, rfl, rfl⟩
  have L := hS.line
  have hlen := hS.len
  have hP := passAt_C (sides := sides) (st := st) (tl := [.lst (done.map nI)]) (order := lineAt (List.range (owners sides).length) done) (laid := walk (owners sides) sides.length (List.range (owners sides).length) done)
  have eo := eq_is_over hP L.ok (by omega)
  have hat : (st ++ (passC sides st.length (lineAt (List.range (owners sides).length) done) (walk (owners sides) sides.length (List.range (owners sides).length) done) ++ [.lst (done.map nI)]))[st.length + 3]? = some (.lst (done.map nI)) := by simp [passC]
  have hset : ∀ c, (st ++ (passC sides st.length (lineAt (List.range (owners sides).length) done) (walk (owners sides) sides.length (List.range (owners sides).length) done) ++ [Cell.lst (done.map nI)])).set (st.length + 3) c = st ++ (passC sides st.length (lineAt (List.range (owners sides).length) done) (walk (owners sides) sides.length (List.range (owners sides).length) done) ++ [c]) := fun c => by simp [passC]
  have elay := fun p (hp : p + 2 ≤ (owners sides).length) => eq_lay (st := st) (tl := [.lst (done.map nI)]) (laid := walk (owners sides) sides.length (List.range (owners sides).length) done) hs L.ok hp (by rw [walk_len]; omega)
  refine ⟨!isOver (owners sides) (lineAt (List.range (owners sides).length) done), st ++ (passC sides st.length (lineAt (List.range (owners sides).length) done) (walk (owners sides) sides.length (List.range (owners sides).length) done) ++ [Cell.lst (done.map nI)]), ?_, ?_, ?_⟩
  · simp only [a_tnot, a_test]
    rw [NoF.mt hP.no4 rfl]
    simp [eo]
  · intro hq
    have hov : isOver (owners sides) (lineAt (List.range (owners sides).length) done) = true := by simpa using hq
    have enil := over_nil hov hS.ok
    subst enil
    have eall := hS.all
    simp only [List.length_nil, lawLeast, List.append_nil] at eall
    rw [thJ_nx, s_ret]
    simp only [a_var, List.getElem?_cons_succ, List.getElem?_cons_zero, post_ok, finJ_rt]
    refine fin_new ?_ (by simp [passC]) (by simp [below]) ⟨rfl, ?_⟩
    · intro c hc
      simp only [passC, List.cons_append, List.nil_append, List.mem_cons, List.not_mem_nil, or_false] at hc
      have b1 := pure_outD (sides := sides)
      rcases hc with rfl | rfl | rfl | rfl
      · simp [Cell.low, belows, b1 _, below]
      · exact pures_nI _ _
      · exact pures_Z _ _
      · exact pures_nI _ _
    · rw [eall]; rfl
  · intro hq
    have hov : isOver (owners sides) (lineAt (List.range (owners sides).length) done) = false := by simpa using hq
    have hne : rk ≠ [] := by
      rintro rfl
      have := hS.ok
      simp only [okRow] at this
      rw [hov] at this
      cases this
    obtain ⟨p, k, hk, hpk, hcan, ⟨t', hfil⟩, hS', hl'⟩ := hS.next h4 hne
    refine ⟨(rk.eraseIdx k).length, by omega, fun J' tu => ?_⟩
    have hpl := canLay_lt hcan
    have elay := elay p hpl
    have ewalk : walk (owners sides) sides.length (List.range (owners sides).length) (done ++ [p]) = walk (owners sides) sides.length (List.range (owners sides).length) done ++ [(nthN (lineAt (List.range (owners sides).length) done) p, nthN (lineAt (List.range (owners sides).length) done) (p + 1), p, footOf (owners sides) sides.length ((lineAt (List.range (owners sides).length) done).take p))] := walk_snoc
    have eline : lineAt (List.range (owners sides).length) (done ++ [p]) = swapAt (lineAt (List.range (owners sides).length) done) p := by simp [lineAt]
    rw [← ewalk, ← eline] at elay
    generalize hW2 : walk (owners sides) sides.length (List.range (owners sides).length) (done ++ [p]) = W2 at *
    generalize hl2 : lineAt (List.range (owners sides).length) (done ++ [p]) = l2 at *
    generalize hl1 : lineAt (List.range (owners sides).length) done = l1 at *
    generalize hW1 : walk (owners sides) sides.length (List.range (owners sides).length) done = W1 at *
    have hat2 : (st ++ (passC sides st.length l2 W2 ++ [Cell.lst (done.map nI)]))[st.length + 3]? = some (Cell.lst (done.map nI)) := by simp [passC]
    have hset2 : ∀ c, (st ++ (passC sides st.length l2 W2 ++ [Cell.lst (done.map nI)])).set (st.length + 3) c = st ++ (passC sides st.length l2 W2 ++ [c]) := fun c => by simp [passC]
    generalize hS1 : st ++ (passC sides st.length l1 W1 ++ [Cell.lst (done.map nI)]) = S1 at *
    generalize hS2 : st ++ (passC sides st.length l2 W2 ++ [Cell.lst (done.map nI)]) = S2 at *
    have hn1 : 1 ≤ (owners sides).length := by omega
    have esub : ∀ S, gSub (nI (owners sides).length) (.int 1) S = .ok (nI ((owners sides).length - 1)) S := fun S => n_sub1 hn1
    have elc : mLeave 1 (mLcN (iRng1 (aCons (op2 gSub (op1 (gFld 0 "many") (mVar 0)) (mret (.int 1))) aNil)) (gNm 6) (tAnd2 (mTest (mMt 1 "can_lay" sem_Pass_can_lay [] (mVar 2) (aCons (mVar 6) aNil))) (mTest (mNest 3 a [2, 0, 1] sem_least_of__is_next (aCons (mVar 6) aNil)))) (mVar 6) [6])
        [some (outD sides), some (nI code), some (.ref st.length), some (.adr a), some (.ref (st.length + 3)), x5, x6] S1 = .ok (.lst ((p :: t').map nI)) S1 := by
      rw [mLc_r1 (n := (owners sides).length - 1) (fun q => canLay (owners sides) l1 q && nextB (owners sides) (BB sides code) l1 q) nI (by simp [out_many.fld, esub]) (by omega) (fun q hq acc => ⟨_, by simp [wipeE]; rfl, ?_, fun _ => by simp⟩) (fun _ _ _ => below_nI), hfil]
      simp only [a_tand, a_test]
      rw [NoF.mt (hP.app _).no1 rfl]
      simp [eq_can_lay (hP.app _) q L.ok]
      cases hcq : canLay (owners sides) l1 q with
      | false => simp
      | true =>
        simp only [Bool.true_and]
        have en := eq_is_next (code := code) h16 (hP.app [Cell.lst acc]) L hcq
        rw [a_nest rfl]
        simp [en]
    rw [s_seq, s_set, elc]
    simp only [List.set_cons_succ, List.set_cons_zero, thn_ok]
    have e0 : ∀ S, gIx (.lst (nI p :: t'.map nI)) (.int 0) S = .ok (nI p) S := fun S => g_ix (j := 0) rfl rfl rfl
    rw [s_seq, s_expr]
    rw [NoF.mt hP.no3 rfl]
    simp [e0, elay]
    have ty2 : tyD S2 "list" (.ref (st.length + 3)) = true := ty_ref hat2
    have ap2 : gAppend (.ref (st.length + 3)) [nI p] S2 = .ok .non (st ++ (passC sides st.length l2 W2 ++ [Cell.lst ((done ++ [p]).map nI)])) := by
      rw [m_append hat2 (by simp; omega), hset2]
      simp
    simp [ty2, ap2]
    exact tu.nx _ _ ⟨done ++ [p], rk.eraseIdx k, _, _, rfl, hS', rfl, by rw [hl2, hW2]; simp⟩
end LZ

set_option maxRecDepth 100000
set_option maxHeartbeats 1000000
namespace LZ
open PySem PySem.Spec PyProof.Rows L2 RR
/-! ### a row's own code tells its floor -/
theorem hiB_code {sides row : List Nat} (hs : SidesOk sides) (hr : RowOk sides row) {a b c : Nat} (h : [a, b, c] ∈ threesOf (owners sides)) :
    hiB (owners sides) (codeN sides row) a b c = hiT (tmR (owners sides) row) a b c := by
  have h10 := hs.ten
  have up : Up (owners sides) := up_owners (by omega)
  have hm := highs_mem up hr.ok (t := [a, b, c])
  have nd := nodup_threes (owners sides)
  unfold hiB codeN
  rw [bitsN_test]
  have e : ((highsOf (Tof sides) (laidOf sides row)).any fun t => decide ((Tof sides).idxOf t = (threesOf (owners sides)).idxOf [a, b, c])) = decide ([a, b, c] ∈ highsOf (Tof sides) (laidOf sides row)) := by
    by_cases q : [a, b, c] ∈ highsOf (Tof sides) (laidOf sides row)
    · simp only [q, decide_true, List.any_eq_true]
      exact ⟨_, q, by simp⟩
    · simp only [q, decide_false, List.any_eq_false]
      intro t ht
      simp only [decide_eq_true_eq]
      intro e
      have htT := highsOf_mem t ht
      apply q
      have i1 := List.idxOf_lt_length_iff.mpr htT
      have i2 := List.idxOf_lt_length_iff.mpr h
      have : t = [a, b, c] := by
        have e1 := List.getElem_idxOf i1
        have e2 := List.getElem_idxOf i2
        rw [← e1, ← e2]
        congr 1
      rw [← this]
      exact ht
  rw [e]
  cases q : hiT (tmR (owners sides) row) a b c with
  | true => exact decide_eq_true (hm.mpr ⟨h, a, b, c, rfl, q⟩)
  | false =>
    refine decide_eq_false fun k => ?_
    obtain ⟨_, a', b', c', e, k⟩ := hm.mp k
    simp only [List.cons.injEq, and_true] at e
    obtain ⟨rfl, rfl, rfl⟩ := e
    rw [q] at k
    cases k
theorem fl_congr {ow : List Nat} (up : Up ow) {H H' : Nat → Nat → Nat → Bool} (h : ∀ a b c, [a, b, c] ∈ threesOf ow → H a b c = H' a b c) {x y z : Nat} (xy : x < y) (hy : y < ow.length) (how : nthN ow x < nthN ow y) (hz : z < ow.length) (zx : z ≠ x) (zy : z ≠ y) :
    fl ow H z x y = fl ow H' z x y := by
  unfold fl
  by_cases c1 : z < x
  · simp only [c1, if_true]
    by_cases c2 : nthN ow z = nthN ow x
    · simp [c2]
    · have u := up z x (Nat.le_of_lt c1) (by omega)
      simp only [c2, if_false]
      exact h _ _ _ ((mem_T up).mpr ⟨c1, xy, hy, by omega, how⟩)
  · simp only [c1, if_false]
    by_cases c2 : z < y
    · simp only [c2, if_true]
      by_cases c3 : nthN ow x = nthN ow z
      · simp [c3]
      · by_cases c4 : nthN ow z = nthN ow y
        · simp [c3, c4]
        · have u1 := up x z (by omega) (by omega)
          have u2 := up z y (Nat.le_of_lt c2) hy
          simp only [c3, c4, if_false]
          rw [h x z y ((mem_T up).mpr ⟨by omega, c2, hy, by omega, by omega⟩)]
    · simp only [c2, if_false]
      by_cases c3 : nthN ow y = nthN ow z
      · simp [c3]
      · have u := up y z (by omega) hz
        simp only [c3, if_false]
        exact h _ _ _ ((mem_T up).mpr ⟨xy, by omega, hz, how, by omega⟩)
theorem laidS_sorts {ow row : List Nat} (up : Up ow) (ok : okPre ow (List.range ow.length) row = true) {e : LozS} (h : e ∈ laidS (List.range ow.length) row) : e.1 < e.2.1 ∧ e.2.1 < ow.length ∧ nthN ow e.1 < nthN ow e.2.1 := by
  unfold laidS at h
  obtain ⟨y, hy, rfl⟩ := List.mem_map.mp h
  obtain ⟨_, _, _, _, h1, h2, h3⟩ := laid_sorts up ok hy
  exact ⟨h1, h2, h3⟩
theorem tells_code {sides row : List Nat} (hs : SidesOk sides) (hr : RowOk sides row) : Tells (owners sides) (BB sides (codeN sides row)) (List.range (owners sides).length) row := by
  have h10 := hs.ten
  have up : Up (owners sides) := up_owners (by have := hs.ten; omega)
  intro e he z hz zx zy
  obtain ⟨h1, h2, h3⟩ := laidS_sorts up (okRow_pre hr.ok) he
  rw [← tells_row up hr.ok e he z hz zx zy]
  exact fl_congr up (fun a b c h => hiB_code hs hr h) h1 h2 h3 hz zx zy
theorem row_short {sides r : List Nat} (hs : SidesOk sides) (hr : RowOk sides r) : r.length ≤ 100 := by
  have h10 := hs.ten
  have hl := len_owners sides
  have up : Up (owners sides) := up_owners (by omega)
  have okp := okRow_pre hr.ok
  have nd := prs_nodup up okp
  have sub : prs (List.range (owners sides).length) r ⊆ (List.range 10).flatMap fun x => (List.range 10).map fun y => (x, y) := by
    rintro ⟨x, y⟩ h
    unfold prs at h
    obtain ⟨z, hz, e⟩ := List.mem_map.mp h
    simp only [Prod.mk.injEq] at e
    obtain ⟨_, _, _, _, h1, h2, h3⟩ := laid_sorts up okp hz
    rw [e.1] at h1
    rw [e.2] at h1 h2
    simp only [List.mem_flatMap, List.mem_map, List.mem_range, Prod.mk.injEq]
    exact ⟨x, by omega, y, by omega, rfl, rfl⟩
  have h := List.Nodup.length_le_of_subset nd sub
  rw [prs_len] at h
  exact Nat.le_trans h (by decide)
/-- the least row of a row's floor -/
theorem eq_least_code {sides r : List Nat} {st : Store} (hs : SidesOk sides) (hr : RowOk sides r) :
    sem_least_of [outD sides, nI (codeN sides r)] st = .ok (.ref (st.length + 3)) (st ++ leastTl sides st.length (leastL r)) :=
  eq_least_of hs hr (by have := row_short hs hr; omega) (tells_code hs hr)
end LZ

set_option maxRecDepth 100000
set_option maxHeartbeats 1000000
namespace RR
open PySem PySem.Spec PyProof.Rows L2
open Sem (wp)
/-! ### min of a list of tuples of ints -/
/-- the place of the first least one -/
def bestL (kss : List (List Int)) : Nat := argBest (fun i j => HT.lexLt (kss.getD i []) (kss.getD j [])) (kss.length - 1)
def rMinT (K : PySem.W.Frag) : List V → Hp → VK → Prop := fun vs H Q => ∃ (a : Addr) (xs : List V) (kss : List (List Int)), vs = [V.ref a] ∧ SqL K H a xs ∧ xs.length = kss.length ∧ 0 < xs.length ∧ (∀ i x, xs[i]? = some x → TupI K H x (kss.getD i [])) ∧ ∀ v, xs[bestL kss]? = some v → Q v H
theorem cr_minT {X : Cx} (hc : X.calm = true) (hu : X.A.units + 1 < cLine) : CallR X (.builtin "min") (rMinT X.K) := by
  intro pins s σ H vs us Q I r h
  obtain ⟨a, xs, kss, rfl, hs, hlen, hne, hx, q⟩ := h
  obtain ⟨its, rv, hl, hz⟩ := I.list hs
  rw [Vals.ref1 r]
  have il : its.length = xs.length := rv.length.symm
  have tup : ∀ (i : Nat) u, its[i]? = some u → ∃ v, xs[i]? = some v ∧ RelV v u ∧ ∃ t, u = .ref t ∧ TS.TupInts s.heap (.ref t) (kss.getD i []) := fun i u e => by
    have hi : i < xs.length := by rw [← il]; exact (List.getElem?_eq_some_iff.mp e).1
    obtain ⟨u', e', rr⟩ := rv.get (show xs[i]? = some xs[i] by simp [hi])
    rw [e] at e'
    cases e'
    obtain ⟨t, ev, ht⟩ := hx i xs[i] (by simp [hi])
    have z := tupI_raw I ht
    have eu : u = .ref t := by
      rw [ev] at rr
      exact rr
    exact ⟨xs[i], by simp [hi], rr, t, eu, z⟩
  refine PySem.call_min_walkH (PySem.W.iter_listW (A := X.A.in1) (I.ok.hd hc) hl.isList fun s₂ e W st hfp hw hk => ?_)
  refine ⟨_, _, _, _, _, _, _, s.heap, fun i j => HT.lexLt (kss.getD i []) (kss.getD j []), rfl, W, st, hfp, by simp; omega, hw, hk, ?_, fun v s' hP m => ?_⟩
  · intro i j vi vj z Q E hk hi hj hq
    obtain ⟨_, _, _, t, rfl, t1, xs1, e1, T1, I1⟩ := tup i vi (by simpa using hi)
    obtain ⟨_, _, _, t', rfl, t2, xs2, e2, T2, I2⟩ := tup j vj (by simpa using hj)
    cases e1
    cases e2
    have keep : ∀ {b ys}, IsTup s.heap b ys → IsTup z.heap b ys := fun ⟨o, ho, hc, hd⟩ => ⟨o, hk _ _ ho, hc, hd⟩
    exact HT.lt_tupInts (keep T1) (keep T2) I1 I2 (by show X.A.units + 1 < _; exact hu) hq
  · obtain ⟨h', tk, rfl, hk'⟩ := PySem.W.moved_old e rfl m
    have e1 : its[bestL kss]? = some v := by
      have : its.toArray.size - 1 = kss.length - 1 := by simp; omega
      rw [this] at hP
      simpa [bestL] using hP
    obtain ⟨x, hx1, rr, _⟩ := tup _ _ e1
    exact ⟨x, H, I.kept hk', rr, q x hx1⟩
/-- the first of the least tuples -/
def gMinT : List D → Store → Rs D
  | [x], st => match seqOf st x with
    | some ds => if 0 < ds.length ∧ ds.all (fun d => (tupI d).isSome) = true then .ok (ds.getD (bestL (ds.map fun d => (tupI d).getD [])) .non) st else .no
    | none => .no
  | _, _ => .no
section
variable {X : Cx} {cl : Ctx} {Wx : WX} {p pos : Pos} {e o : Expr} {r : ME (List D)} {m : ME D}
theorem o_minT : OpL X cl Wx (rMinT X.K) gMinT := by
  intro f H st σ xs us Q S rs h
  unfold gMinT at h
  split at h
  · obtain ⟨u, rfl, q⟩ := rs.one
    split at h
    · rename_i ds eq
      obtain ⟨a, vs, rfl, hp, rp⟩ := S.seq q eq
      split at h
      · rename_i hc
        obtain ⟨h0, hall⟩ := hc
        rw [List.all_eq_true] at hall
        refine ⟨a, vs, ds.map fun d => (tupI d).getD [], rfl, hp, by rw [rp.length]; simp, by rw [rp.length]; exact h0, fun i v hv => ?_, fun v hv => ?_⟩
        · obtain ⟨x, hx, rx⟩ := rp.getV hv
          obtain ⟨n, hn⟩ := Option.isSome_iff_exists.mp (hall x (List.mem_of_getElem? hx))
          have : ((ds.map fun d => (tupI d).getD []).getD i []) = n := by
            rw [List.getD_eq_getElem?_getD, List.getElem?_map, hx]
            simp [hn]
          rw [this]
          exact tup_is rx hn
        · obtain ⟨x, hx, rx⟩ := rp.getV hv
          rw [List.getD_eq_getElem?_getD, hx] at h
          exact h.okv S rx
      · exact h.elim
    · exact h.elim
  · exact h.elim
theorem pv_minT (hc : X.calm = true) (hu : X.A.units + 1 < cLine) (hg : Gl X "min") (hm : X.mg "min" = none) (ha : PVA X cl Wx [e] r) (he : starEach [e] X.env = (false, eval e X.env) :: starEach [] X.env := by rfl) : PV X cl Wx (.Call (.Name "min" p) [e] [] pos) (mCall gMinT r) :=
  pv_callB (cr_minT hc hu) o_minT hg hm (by decide +kernel) ha (he := he)
end
end RR

set_option maxRecDepth 100000
set_option maxHeartbeats 1000000
namespace RR
open PySem PySem.Spec PyProof.Rows L2
open Sem (wp)
/-! ### tuples of ints side by side -/
theorem reads_ints {h : Heap} : ∀ {vs : List Value} {ns : List Int}, IntsAre vs ns → ReadsAll h vs (ns.map PyData.int) [] := by
  intro vs ns q
  induction q with
  | nil => exact .nil
  | cons i t r ih => exact .cons (.int i t) ih
theorem reads_tup {h : Heap} {a : Addr} {ns : List Int} (q : TS.TupInts h (.ref a) ns) : Reads h (.ref a) (.tuple (ns.map .int)) [] := by
  obtain ⟨b, xs, e, ⟨o, ho, hc, n, hd⟩, hi⟩ := q
  cases e
  exact .tuple ho hc hd (reads_ints hi)
theorem alike_ints : ∀ ns ms : List Int, PySem.W.alikeAll (ns.map PyData.int) (ms.map PyData.int) = true
  | [], _ => by simp [PySem.W.alikeAll]
  | _ :: _, [] => by simp [PySem.W.alikeAll]
  | n :: ns, m :: ms => by simp [PySem.W.alikeAll, PySem.W.alike, alike_ints ns ms]
theorem depth_ints (ns : List Int) : PyData.depthAll (ns.map PyData.int) = 0 := by
  induction ns with
  | nil => rfl
  | cons n ns ih => simp [PyData.depthAll, PyData.depth, ih]
theorem depth_tup (ns : List Int) : (PyData.tuple (ns.map .int)).depth = 1 := by
  show PyData.depthAll _ + 1 = 1
  rw [depth_ints]
def rCmpT (K : PySem.W.Frag) (g : List Int → List Int → Bool) : R2 := fun x y H Q => ∃ ns ms, TupI K H x ns ∧ TupI K H y ms ∧ Q (.bl (g ns ms)) H
theorem op_leT {X : Cx} (hu : X.A.units + 1 < cLine) : OpR X (compareOp .LtE) (rCmpT X.K fun ns ms => !decide (ms < ns)) := by
  intro pins s σ H x y v u Q I rx ry h
  obtain ⟨ns, ms, ⟨t, rfl, h1⟩, ⟨t', rfl, h2⟩, q⟩ := h
  cases rx
  cases ry
  have e : PySem.W.dataLt (.tuple (ms.map .int)) (.tuple (ns.map .int)) = decide (ms < ns) := by
    rw [PySem.W.dataLt_tuple, ← PySem.W.dataLt_ints]
    rfl
  refine PySem.W.le_data (reads_tup (tupI_raw I h1)) (reads_tup (tupI_raw I h2)) (by rw [PySem.W.alike]; exact alike_ints _ _) (by intro h; cases h) (by rw [depth_tup, depth_tup]; simpa using hu) ?_
  rw [e]
  exact ⟨.bl _, H, I, rfl, q⟩
def gCmpT (g : List Int → List Int → Bool) : D → D → Store → Rs D := fun x y st => match tupI x, tupI y with
  | some ns, some ms => .ok (.bl (g ns ms)) st
  | _, _ => .no
abbrev gLeT := gCmpT fun ns ms => !decide (ms < ns)
section
variable {X : Cx} {cl : Ctx} {Wx : WX} {p pos : Pos} {a b : Expr} {ma mb : ME D}
theorem o_cmpT {g} : Op2 X cl Wx (rCmpT X.K g) (gCmpT g) := by
  intro f H st σ x y u v Q S ru rv h
  unfold gCmpT at h
  split at h
  · rename_i ns ms e1 e2
    exact ⟨ns, ms, tup_is ru e1, tup_is rv e2, h.okv S (.bl _)⟩
  · exact h.elim
theorem pv_leT (hu : X.A.units + 1 < cLine) (ha : PV X cl Wx a ma) (hb : PV X cl Wx b mb) : PV X cl Wx (.Compare a [.LtE] [b] pos) (op2 gLeT ma mb) := pv_cmp (op_leT hu) o_cmpT ha hb (nomark _)
end
end RR

set_option maxRecDepth 100000
set_option maxHeartbeats 4000000
namespace LZ
open PySem PySem.Spec PyProof.Rows L2 RR
abbrev N_Outline_is_barred : List Str := ["self", "code", "rule", "bits", "number", "k"]
noncomputable def b_Outline_is_barred : MS :=
  (sSeq (sSet 3 (mLeave 1 (mLcN (iTupS (op2 gIx (mVar 2) (mret (.int 2)))) (gNm 4) (mret true) (op2 gAnd (op2 gShr (mVar 1) (mVar 4)) (mret (.int 1))) [4])))
    (sSeq (sIf (mTest (op2 gEq (op2 gIx (mVar 2) (mret (.int 1))) (mret (.str "then"))))
    (sRet (mAnd (op2 gEq (op2 gIx (mVar 3) (mret (.int 0))) (mret (.int 1))) (op2 gEq (op2 gIx (mVar 3) (mret (.int 1))) (mret (.int 0)))))
    sNil)
    (sRet (op2 gGt (mCall gLen (aCons (mLeave 1 (mLcN (iRng1 (aCons (mret (.int 3)) aNil)) (gNm 5) (mTest (op2 gNe (op2 gIx (mVar 3) (mVar 5)) (op2 gIx (mVar 3) (op2 gAdd (mVar 5) (mret (.int 1)))))) (mVar 5) [5])) aNil)) (mret (.int 1))))))

noncomputable def sem_Outline_is_barred : List D → Store → Rs D := semB 3 0 3 N_Outline_is_barred b_Outline_is_barred
theorem ar_Outline_is_barred : HasArity 3 sem_Outline_is_barred := ar_B
theorem lv_Outline_is_barred : ∀ (ds : List D) (st0 : Store), ds.length = 3 → Leaves st0 (b_Outline_is_barred (env0 N_Outline_is_barred ds) st0) (sem_Outline_is_barred ds st0) := fun _ _ h => lv_B h

abbrev N_Outline_first_bar : List Str := ["self", "code", "rule"]
noncomputable def b_Outline_first_bar : MS :=
  (sSeq (sFor (iSeq (op1 (gFld 0 "rules") (mVar 0))) (gNm 2)
    (sIf (mTest (mMt 0 "is_barred" sem_Outline_is_barred [] (mVar 0) (aCons (mVar 1) (aCons (mVar 2) aNil))))
    (sRet (op2 gIx (mVar 2) (mret (.int 0))))
    sNil))
    (sRet (mret .non)))

noncomputable def sem_Outline_first_bar : List D → Store → Rs D := semB 3 0 2 N_Outline_first_bar b_Outline_first_bar
theorem ar_Outline_first_bar : HasArity 2 sem_Outline_first_bar := ar_B
theorem lv_Outline_first_bar : ∀ (ds : List D) (st0 : Store), ds.length = 2 → Leaves st0 (b_Outline_first_bar (env0 N_Outline_first_bar ds) st0) (sem_Outline_first_bar ds st0) := fun _ _ h => lv_B h

abbrev N_is_three : List Str := ["outline", "three", "line"]
noncomputable def b_is_three : MS :=
  (sSeq (sIf (tOr2 (tNot1 (mTest (mCall gIsi (aCons (mVar 1) (aCons (mret (.ty "tuple")) aNil))))) (mTest (op2 gNe (mCall gLen (aCons (mVar 1) aNil)) (mret (.int 3)))))
    (sRet (mret (.bl false)))
    sNil)
    (sSeq (sIf (tNot1 (mTest (mCall (gBls fun bs => bs.all id) (aCons (mLeave 1 (mLcN (iTupS (mVar 1)) (gNm 2) (mret true) (mAnd (mCall gIsi (aCons (mVar 2) (aCons (mret (.ty "int")) aNil))) (mNot (mCall gIsi (aCons (mVar 2) (aCons (mret (.ty "bool")) aNil))))) [2])) aNil))))
    (sRet (mret (.bl false)))
    sNil)
    (sRet (op2 (gDin false) (mVar 1) (op1 (gFld 0 "spot") (mVar 0))))))

noncomputable def sem_is_three : List D → Store → Rs D := semB 3 0 2 N_is_three b_is_three
theorem ar_is_three : HasArity 2 sem_is_three := ar_B
theorem lv_is_three : ∀ (ds : List D) (st0 : Store), ds.length = 2 → Leaves st0 (b_is_three (env0 N_is_three ds) st0) (sem_is_three ds st0) := fun _ _ h => lv_B h

abbrev N_need_threes : List Str := ["outline", "threes", "last", "three"]
noncomputable def b_need_threes : MS :=
  (sSeq (sIf (tNot1 (mTest (mCall gIsi (aCons (mVar 1) (aCons (mret (.ty "list")) aNil)))))
    sNo
    sNil)
    (sSeq (sSet 2 (mTup aNil))
    (sFor (iSeq (mVar 1)) (gNm 3)
    (sSeq (sIf (tOr2 (tNot1 (mTest (mFn sem_is_three [] (aCons (mVar 0) (aCons (mVar 3) aNil))))) (mTest (op2 gLeT (mVar 3) (mVar 2))))
    sNo
    sNil)
    (sSet 2 (mVar 3))))))

noncomputable def sem_need_threes : List D → Store → Rs D := semB 3 0 2 N_need_threes b_need_threes
theorem ar_need_threes : HasArity 2 sem_need_threes := ar_B
theorem lv_need_threes : ∀ (ds : List D) (st0 : Store), ds.length = 2 → Leaves st0 (b_need_threes (env0 N_need_threes ds) st0) (sem_need_threes ds st0) := fun _ _ h => lv_B h

abbrev N_floor_of : List Str := ["sides", "threes", "outline", "code", "lines"]
noncomputable def b_floor_of : MS :=
  (sSeq (sExpr (mFn sem_need_sides [.int 0] (aCons (mVar 0) aNil)))
    (sSeq (sSet 2 (mLeave 2 (mMk 0 sem_Outline___init__ [] (aCons (mVar 0) aNil))))
    (sSeq (sExpr (mFn sem_need_threes [] (aCons (mVar 2) (aCons (mVar 1) aNil))))
    (sSeq (sSet 3 (mMt 0 "bits_of" sem_Outline_bits_of [] (mVar 2) (aCons (mVar 1) aNil)))
    (sSeq (sSet 4 (mMt 0 "first_bar" sem_Outline_first_bar [] (mVar 2) (aCons (mVar 3) aNil)))
    (sSeq (sIf (mTest (op1 (gIsN true) (mVar 4)))
    sNo
    sNil)
    (sRet (mFn sem_least_of [] (aCons (mVar 2) (aCons (mVar 3) aNil))))))))))

noncomputable def sem_floor_of : List D → Store → Rs D := semB 3 4 2 N_floor_of b_floor_of
theorem ar_floor_of : HasArity 2 sem_floor_of := ar_B
theorem lv_floor_of : ∀ (ds : List D) (st0 : Store), ds.length = 2 → Leaves st0 (b_floor_of (env0 N_floor_of ds) st0) (sem_floor_of ds st0) := fun _ _ h => lv_B h

abbrev N__law_least : List Str := ["_law_told", "_law_left", "_law_found", "_law_free", "_law_k", "_law_place"]
noncomputable def b__law_least : MS :=
  (sSeq (sSet 1 (mCall (gList true) (aCons (mVar 0) aNil)))
    (sSeq (sSet 2 (mNewL aNil))
    (sSeq (sWhile (mTest (op2 gNe (mVar 1) (mLst aNil)))
    (sSeq (sSet 3 (mNewL aNil))
    (sSeq (sFor (iRng1 (aCons (mCall gLen (aCons (mVar 1) aNil)) aNil)) (gNm 4)
    (sIf (mTest (op2 gEq (mLeave 1 (mLcN (iSeq (mSl (mVar 1) (mret none) (mPart (mVar 4)))) (gNm 5) (mTest (op2 gLt (mCall gAbs (aCons (op2 gSub (mVar 5) (op2 gIx (mVar 1) (mVar 4))) aNil)) (mret (.int 2)))) (mVar 5) [5])) (mLst aNil)))
    (sExpr (mMeth "list" gAppend (mVar 3) (aCons (mTup (aCons (op2 gIx (mVar 1) (mVar 4)) (aCons (mVar 4) aNil))) aNil)))
    sNil))
    (sExpr (mMeth "list" gAppend (mVar 2) (aCons (mMeth "list" gPopAt (mVar 1) (aCons (op2 gIx (mCall gMinT (aCons (mVar 3) aNil)) (mret (.int 1))) aNil)) aNil))))))
    (sRet (mVar 2)))))

noncomputable def sem__law_least : List D → Store → Rs D := semB 3 0 1 N__law_least b__law_least
theorem ar__law_least : HasArity 1 sem__law_least := ar_B
theorem lv__law_least : ∀ (ds : List D) (st0 : Store), ds.length = 1 → Leaves st0 (b__law_least (env0 N__law_least ds) st0) (sem__law_least ds st0) := fun _ _ h => lv_B h


end LZ

set_option maxRecDepth 100000
set_option maxHeartbeats 1000000
namespace LZ
open PySem PySem.Spec PyProof.Rows L2 RR
/-! ### what four lines bar -/
def bitK (code : Nat) (r : Rule) (k : Nat) : Bool := code.testBit (nthN r.2.2 k)
def barB (code : Nat) (r : Rule) : Bool :=
  if r.2.1 then bitK code r 0 && !bitK code r 1 else decide (1 < ((List.range 3).filter fun k => bitK code r k != bitK code r (k + 1)).length)
def RuleOk (r : Rule) : Prop := (r.2.1 = true → r.2.2.length = 2) ∧ (r.2.1 = false → r.2.2.length = 4)
theorem ruleOf_ok {T ow a b c d r} (h : ruleOf T ow a b c d = some r) : RuleOk r := by
  unfold ruleOf at h
  split at h <;> cases h <;> (constructor <;> intro h <;> first | rfl | cases h)
theorem rules_ok {T ow} : ∀ r ∈ rulesOf T ow, RuleOk r := by
  intro r h
  unfold rulesOf rules1 rules2 rules3 at h
  simp only [List.mem_flatMap, List.mem_filterMap] at h
  obtain ⟨a, _, b, _, c, _, d, _, h⟩ := h
  exact ruleOf_ok h
theorem bit_mod {c k : Nat} : c / 2 ^ k % 2 = if c.testBit k then 1 else 0 := by
  rw [Nat.testBit_eq_decide_div_mod_eq]
  by_cases h : c / 2 ^ k % 2 = 1
  · simp [h]
  · have := Nat.mod_two_eq_zero_or_one (c / 2 ^ k)
    simp [h]
    omega
theorem eq_bits {self : D} {code : Nat} {four : List Nat} {kind : Bool} {idx : List Nat} {x3 x4 x5 : Option D} {st : Store} (hlen : idx.length ≤ 4) :
    mLeave 1 (mLcN (iTupS (op2 gIx (mVar 2) (mret (.int 2)))) (gNm 4) (mret true) (op2 gAnd (op2 gShr (mVar 1) (mVar 4)) (mret (.int 1))) [4]) [some self, some (nI code), some (encR (four, kind, idx)), x3, x4, x5] st = .ok (nL (idx.map fun n => if code.testBit n then 1 else 0)) st := by
  have e0 : gIx (encR (four, kind, idx)) (.int 2) st = .ok (nT idx) st := g_ix (j := 2) rfl rfl rfl
  have e1 := mLc_u (k := 1) (m := op2 gIx (mVar 2) (mret (.int 2))) (g := gNm 4) (tt := mret true) (te := op2 gAnd (op2 gShr (mVar 1) (mVar 4)) (mret (.int 1))) (vs := [4])
    (env := [some self, some (nI code), some (encR (four, kind, idx)), x3, x4, x5]) (st := st) idx nI (fun _ => true) (fun n => nI (if code.testBit n then 1 else 0))
    (by simp [e0, nT]) (by omega) (fun n hn acc => ⟨[some self, some (nI code), some (encR (four, kind, idx)), x3, some (nI n), x5], by simp [wipeE], rfl, fun _ => by simp [n_shr, n_and1, bit_mod]⟩) (fun _ _ _ => rfl)
  rw [e1]
  simp [nL, List.map_map, Function.comp_def]
theorem eq_kind {four idx : List Nat} {kind : Bool} {st : Store} : (gIx (encR (four, kind, idx)) (.int 1) st).bind (fun x st => gEq x (.str "then") st) = .ok (.bl kind) st := by
  have e1 : gIx (encR (four, kind, idx)) (.int 1) st = .ok (.str (if kind then "then" else "unlike")) st := g_ix (j := 1) rfl rfl rfl
  rw [e1, a_bind_ok]
  show gEqB false _ _ _ = _
  cases kind
  · rw [g_eqd (d' := .str "unlike") (e' := .str "then") rfl rfl (by decide +kernel) (by decide +kernel)]
    have : ¬ ((Str.ofString "unlike") = (Str.ofString "then")) := by decide +kernel
    simp [this]
  · rw [g_eqd (d' := .str "then") (e' := .str "then") rfl rfl (by decide +kernel) (by decide +kernel)]
    simp
theorem eq_is_barred {self : D} {code : Nat} {r : Rule} {st : Store} (hr : RuleOk r) : sem_Outline_is_barred [self, nI code, encR r] st = .ok (.bl (barB code r)) st := by
  obtain ⟨four, kind, idx⟩ := r
  refine semB_eq rfl ?_
  unfold b_Outline_is_barred
  simp only [env0, List.map_cons, List.map_nil, List.length_cons, List.length_nil, Nat.reduceAdd, Nat.reduceSub, List.cons_append, List.nil_append, List.reduceReplicate]
  have hlen : idx.length ≤ 4 := by
    cases kind
    · have := hr.2 rfl; simp at this; omega
    · have := hr.1 rfl; simp at this; omega
  rw [s_seq, s_set, eq_bits hlen]
  simp only [List.set_cons_succ, List.set_cons_zero, thn_ok]
  have ek : ∀ {x3 x4 x5}, mTest (op2 gEq (op2 gIx (mVar 2) (mret (.int 1))) (mret (.str "then"))) [some self, some (nI code), some (encR (four, kind, idx)), x3, x4, x5] st = .ok kind st := fun {x3 x4 x5} => by
    have e := eq_kind (four := four) (idx := idx) (kind := kind) (st := st)
    simp only [a_test, a_op2, a_var, List.getElem?_cons_succ, List.getElem?_cons_zero, a_mret, a_bind_ok]
    rw [e]
    simp
  rw [s_seq, s_if, ek]
  have b10 : ∀ b : Bool, gEq (nI (if b then 1 else 0)) (.int 1) st = .ok (.bl b) st := fun b => by cases b <;> simp [nI]
  have b00 : ∀ b : Bool, gEq (nI (if b then 1 else 0)) (.int 0) st = .ok (.bl (!b)) st := fun b => by cases b <;> simp [nI]
  cases kind with
  | true =>
    have hl := hr.1 rfl
    simp only at hl
    match idx, hl with
    | [i, j], _ =>
      have x0 : gIx (nL ([i, j].map fun n => if code.testBit n then 1 else 0)) (.int 0) st = .ok (nI (if code.testBit i then 1 else 0)) st := g_ix (j := 0) rfl rfl rfl
      have x1 : gIx (nL ([i, j].map fun n => if code.testBit n then 1 else 0)) (.int 1) st = .ok (nI (if code.testBit j then 1 else 0)) st := g_ix (j := 1) rfl rfl rfl
      have eb : barB code (four, true, [i, j]) = (code.testBit i && !code.testBit j) := rfl
      rw [eb]
      simp only [s_ret, a_and, a_op2, a_var, List.getElem?_cons_succ, List.getElem?_cons_zero, a_mret, a_bind_ok, x0, b10]
      cases code.testBit i with
      | true =>
        simp only [a_bind_ok, x1, b00, Bool.true_and, thn_rt, post_ok, finJ_rt]
        exact fin_pure pure_bl ⟨rfl, rfl⟩
      | false =>
        simp only [a_bind_ok, Bool.false_and, thn_rt, post_ok, finJ_rt]
        exact fin_pure pure_bl ⟨rfl, rfl⟩
  | false =>
    have hl := hr.2 rfl
    simp only at hl
    have eix : ∀ k, k < 4 → nthN (idx.map fun n => if code.testBit n then 1 else 0) k = if bitK code (four, false, idx) k then 1 else 0 := fun k hk => by
      unfold nthN bitK nthN
      simp [List.getD_eq_getElem?_getD, List.getElem?_map, show k < idx.length by omega]
    have e2 := mLc_r1 (k := 1) (n := 3) (m := mret (.int 3)) (g := gNm 5) (tt := mTest (op2 gNe (op2 gIx (mVar 3) (mVar 5)) (op2 gIx (mVar 3) (op2 gAdd (mVar 5) (mret (.int 1)))))) (te := mVar 5) (vs := [5])
      (env := [some self, some (nI code), some (encR (four, false, idx)), some (nL (idx.map fun n => if code.testBit n then 1 else 0)), none, none]) (st := st)
      (fun m => bitK code (four, false, idx) m != bitK code (four, false, idx) (m + 1)) nI rfl (by omega)
      (fun m hm acc => ⟨[some self, some (nI code), some (encR (four, false, idx)), some (nL (idx.map fun n => if code.testBit n then 1 else 0)), none, some (nI m)], by simp [wipeE], by
        have e3 := n_ixL (st := st ++ [Cell.lst acc]) (xs := idx.map fun n => if code.testBit n then 1 else 0) (k := m) (by simp; omega)
        have e4 := n_ixL (st := st ++ [Cell.lst acc]) (xs := idx.map fun n => if code.testBit n then 1 else 0) (k := m + 1) (by simp; omega)
        rw [eix _ (by omega)] at e3 e4
        simp [e3, e4]
        cases bitK code (four, false, idx) m <;> cases bitK code (four, false, idx) (m + 1) <;> rfl, fun _ => by simp⟩) (fun _ _ _ => rfl)
    simp only [s_nil, thn_ok, s_ret, a_op2, a_call, a_cons, a_nil, e2, a_bind_ok, a_mret, n_lenM]
    have e5 : ∀ n : Nat, gGt (nI n) (.int 1) st = .ok (.bl (decide (1 < n))) st := fun n => by simp [nI]; omega
    rw [e5]
    simp only [post_ok, finJ_rt]
    exact fin_pure pure_bl ⟨rfl, rfl⟩
/-- the first four lines that bar -/
def firstBar (T : List (List Nat)) (ow : List Nat) (code : Nat) : Option Rule := (rulesOf T ow).find? (barB code)
theorem out_rules {sides : List Nat} {st : Store} : HasF 0 st (outD sides) "rules" (.lst ((rulesOf (Tof sides) (owners sides)).map encR)) := hasF_o (i := 5) (by decide +kernel) rfl
theorem out_no_ib {sides : List Nat} {st : Store} : NoF 0 st (outD sides) "is_barred" := noF_o (by decide +kernel)
theorem out_no_fb {sides : List Nat} {st : Store} : NoF 0 st (outD sides) "first_bar" := noF_o (by decide +kernel)
def foundD : Option Rule → D
  | none => .non
  | some r => nT r.1
theorem eq_first_bar {sides : List Nat} {code : Nat} {st : Store} (hs : SidesOk sides) : sem_Outline_first_bar [outD sides, nI code] st = .ok (foundD (firstBar (Tof sides) (owners sides) code)) st := by
  have hl := len_owners sides
  have h10 := hs.ten
  refine semB_eq rfl ?_
  unfold b_Outline_first_bar
  simp only [env0, List.map_cons, List.map_nil, List.length_cons, List.length_nil, Nat.reduceAdd, Nat.reduceSub, List.cons_append, List.nil_append, List.reduceReplicate]
  have hok : ∀ r ∈ rulesOf (Tof sides) (owners sides), RuleOk r := rules_ok
  have hlen : (rulesOf (Tof sides) (owners sides)).length < 100000 := by
    have h : (rulesOf (Tof sides) (owners sides)).length ≤ (List.range (owners sides).length).length * (16 * (16 * 16)) := len_fm fun a _ => len_r1 (by omega)
    simp at h
    omega
  rw [s_seq]
  refine post_thn (post_s (st1 := st) (d := .lst ((rulesOf (Tof sides) (owners sides)).map encR)) (rulesOf (Tof sides) (owners sides)) encR (fun k e s => ∃ x, e = [some (outD sides), some (nI code), x] ∧ s = st ∧ ((rulesOf (Tof sides) (owners sides)).take k).find? (barB code) = none)
    (i_seqL (by simp [out_rules.fld])) hlen ⟨none, rfl, rfl, by simp⟩ (fun k e s _ _ => rfl) ?_ ?_)
  · rintro k r e s J hr ⟨x, rfl, rfl, hf⟩ tu
    have hm := List.mem_of_getElem? hr
    have e1 : mTest (mMt 0 "is_barred" sem_Outline_is_barred [] (mVar 0) (aCons (mVar 1) (aCons (mVar 2) aNil))) [some (outD sides), some (nI code), some (encR r)] s = .ok (barB code r) s := by
      rw [a_test, NoF.mt out_no_ib rfl]
      simp [eq_is_barred (hok r hm)]
    have e2 : ((rulesOf (Tof sides) (owners sides)).take (k + 1)) = ((rulesOf (Tof sides) (owners sides)).take k) ++ [r] := by
      rw [List.take_add_one, hr]; rfl
    have e3 : gIx (encR r) (.int 0) s = .ok (nT r.1) s := g_ix (j := 0) rfl rfl rfl
    simp only [s_nm, List.set_cons_succ, List.set_cons_zero, post_ok, toB_nx, s_if, e1]
    cases hb : barB code r with
    | true =>
      have ef : firstBar (Tof sides) (owners sides) code = some r := by
        have e4 : rulesOf (Tof sides) (owners sides) = (rulesOf (Tof sides) (owners sides)).take k ++ (r :: (rulesOf (Tof sides) (owners sides)).drop (k + 1)) := by
          have hk := (List.getElem?_eq_some_iff.mp hr)
          obtain ⟨hk, er⟩ := hk
          rw [← er]
          simp
        unfold firstBar
        rw [e4, List.find?_append, hf]
        simp [hb]
      simp only [s_ret, a_op2, a_var, List.getElem?_cons_succ, List.getElem?_cons_zero, a_mret, a_bind_ok, e3, post_ok]
      refine tu.rt _ _ _ ?_
      simp only [thJ_rt, finJ_rt]
      rw [ef]
      exact fin_pure pure_nT ⟨rfl, rfl⟩
    | false =>
      simp only [s_nil, post_ok]
      refine tu.nx _ _ ⟨_, rfl, rfl, ?_⟩
      rw [e2, List.find?_append, hf]
      simp [hb]
  · rintro e s ⟨x, rfl, rfl, hf⟩
    rw [List.take_length] at hf
    have ef : firstBar (Tof sides) (owners sides) code = none := hf
    rw [thJ_nx, s_ret]
    simp only [a_mret, post_ok, finJ_rt, ef]
    exact fin_pure pure_non ⟨rfl, rfl⟩
end LZ

set_option maxRecDepth 100000
set_option maxHeartbeats 1000000
namespace LZ
open PySem PySem.Spec PyProof.Rows L2 RR
/-! ### no four lines bar what is a floor's -/
theorem rule_mem {T ow r} (h : r ∈ rulesOf T ow) : ∃ a b c d, a < b ∧ b < c ∧ c < d ∧ d < ow.length ∧ ruleOf T ow a b c d = some r := by
  unfold rulesOf rules1 rules2 rules3 at h
  simp only [List.mem_flatMap, List.mem_filterMap, List.mem_range, List.mem_range'_1] at h
  obtain ⟨a, ha, b, hb, c, hc, d, hd, h⟩ := h
  exact ⟨a, b, c, d, by omega, by omega, by omega, by omega, h⟩
/-- what is told of all four lines: unlike ones, and two alike -/
structure FourOk (ow : List Nat) (H : Nat → Nat → Nat → Bool) : Prop where
  unl : ∀ a b c d, a < b → b < c → c < d → d < ow.length → nthN ow a < nthN ow b → nthN ow b < nthN ow c → nthN ow c < nthN ow d →
    ((List.range 3).filter fun k => ([H a b c, H a b d, H a c d, H b c d].getD k false) != ([H a b c, H a b d, H a c d, H b c d].getD (k + 1) false)).length ≤ 1
  al0 : ∀ a b c d, a < b → b < c → c < d → d < ow.length → nthN ow a = nthN ow b → nthN ow b < nthN ow c → nthN ow c < nthN ow d → H b c d = true → H a c d = true
  al1 : ∀ a b c d, a < b → b < c → c < d → d < ow.length → nthN ow a < nthN ow b → nthN ow b = nthN ow c → nthN ow c < nthN ow d → H a b d = true → H a c d = true
  al2 : ∀ a b c d, a < b → b < c → c < d → d < ow.length → nthN ow a < nthN ow b → nthN ow b < nthN ow c → nthN ow c = nthN ow d → H a b d = true → H a b c = true
theorem Flo.fourOk {ow : List Nat} {N : Nat} {T : Nat → Nat → Nat} (F : Flo ow N T) : FourOk ow (hiT T) := by
  refine ⟨fun a b c d ab bc cd hd h1 h2 h3 => ?_, fun a b c d ab bc cd hd h1 h2 h3 h => ?_, fun a b c d ab bc cd hd h1 h2 h3 h => ?_, fun a b c d ab bc cd hd h1 h2 h3 h => ?_⟩
  · have t1 := F.three ab bc (by omega) h1 h2
    have t2 := F.three ab (show b < d by omega) (by omega) h1 (by omega)
    have t3 := F.three (show a < c by omega) cd (by omega) (by omega) h3
    have t4 := F.three bc cd (by omega) h2 h3
    rcases t1 with ⟨e1, t1⟩ | ⟨e1, t1⟩ <;> rcases t2 with ⟨e2, t2⟩ | ⟨e2, t2⟩ <;> rcases t3 with ⟨e3, t3⟩ | ⟨e3, t3⟩ <;> rcases t4 with ⟨e4, t4⟩ | ⟨e4, t4⟩ <;> rw [e1, e2, e3, e4] <;> first | decide | omega
  · have t3 := F.three (show a < c by omega) cd (by omega) (by omega) h3
    have t4 := F.three bc cd (by omega) h2 h3
    have t5 := F.left ab bc (by omega) h1 h2
    rcases t3 with ⟨e3, t3⟩ | ⟨e3, t3⟩ <;> rcases t4 with ⟨e4, t4⟩ | ⟨e4, t4⟩ <;> rw [e3] <;> rw [e4] at h <;> first | rfl | omega | cases h
  · have t2 := F.three ab (show b < d by omega) (by omega) h1 (by omega)
    have t3 := F.three (show a < c by omega) cd (by omega) (by omega) h3
    have t5 := F.right ab bc (by omega) h1 h2
    rcases t3 with ⟨e3, t3⟩ | ⟨e3, t3⟩ <;> rcases t2 with ⟨e4, t4⟩ | ⟨e4, t4⟩ <;> rw [e3] <;> rw [e4] at h <;> first | rfl | omega | cases h
  · have t1 := F.three ab bc (by omega) h1 h2
    have t2 := F.three ab (show b < d by omega) (by omega) h1 (by omega)
    have t5 := F.right bc cd (by omega) h2 h3
    rcases t1 with ⟨e3, t3⟩ | ⟨e3, t3⟩ <;> rcases t2 with ⟨e4, t4⟩ | ⟨e4, t4⟩ <;> rw [e3] <;> rw [e4] at h <;> first | rfl | omega | cases h
/-- a code bars nothing just if it does well by all four lines -/
theorem bar_unl {ow : List Nat} {code a b c d : Nat} (e : alikeOf ow [a, b, c, d] = []) : ∃ r, ruleOf (threesOf ow) ow a b c d = some r ∧ r.1 = [a, b, c, d] ∧ barB code r = decide (1 < ((List.range 3).filter fun k => ([hiB ow code a b c, hiB ow code a b d, hiB ow code a c d, hiB ow code b c d].getD k false) != ([hiB ow code a b c, hiB ow code a b d, hiB ow code a c d, hiB ow code b c d].getD (k + 1) false)).length) := by
  refine ⟨_, by unfold ruleOf; rw [e], rfl, ?_⟩
  unfold barB
  simp only [Bool.false_eq_true, if_false]
  have r : List.range 3 = [0, 1, 2] := rfl
  rw [r]
  rfl
theorem bar_0 {ow : List Nat} {code a b c d : Nat} (e : alikeOf ow [a, b, c, d] = [0]) : ∃ r, ruleOf (threesOf ow) ow a b c d = some r ∧ r.1 = [a, b, c, d] ∧ barB code r = (hiB ow code b c d && !hiB ow code a c d) :=
  ⟨_, by unfold ruleOf; rw [e]; rfl, rfl, rfl⟩
theorem bar_1 {ow : List Nat} {code a b c d : Nat} (e : alikeOf ow [a, b, c, d] = [1]) : ∃ r, ruleOf (threesOf ow) ow a b c d = some r ∧ r.1 = [a, b, c, d] ∧ barB code r = (hiB ow code a b d && !hiB ow code a c d) :=
  ⟨_, by unfold ruleOf; rw [e]; rfl, rfl, rfl⟩
theorem bar_2 {ow : List Nat} {code a b c d : Nat} (e : alikeOf ow [a, b, c, d] = [2]) : ∃ r, ruleOf (threesOf ow) ow a b c d = some r ∧ r.1 = [a, b, c, d] ∧ barB code r = (hiB ow code a b d && !hiB ow code a b c) :=
  ⟨_, by unfold ruleOf; rw [e]; rfl, rfl, rfl⟩
theorem mem_rule {T ow r} {a b c d : Nat} (ab : a < b) (bc : b < c) (cd : c < d) (hd : d < ow.length) (h : ruleOf T ow a b c d = some r) : r ∈ rulesOf T ow := by
  unfold rulesOf rules1 rules2 rules3
  simp only [List.mem_flatMap, List.mem_filterMap, List.mem_range, List.mem_range'_1]
  exact ⟨a, by omega, b, by omega, c, by omega, d, by omega, h⟩
theorem firstBar_none {ow : List Nat} {code : Nat} (up : Up ow) : firstBar (threesOf ow) ow code = none ↔ FourOk ow (hiB ow code) := by
  unfold firstBar
  rw [List.find?_eq_none]
  constructor
  · intro h
    have al : ∀ {a b c d : Nat}, nthN ow a ≤ nthN ow b → nthN ow b ≤ nthN ow c → nthN ow c ≤ nthN ow d → alikeOf ow [a, b, c, d] = al3 (decide (nthN ow a = nthN ow b)) (decide (nthN ow b = nthN ow c)) (decide (nthN ow c = nthN ow d)) := fun _ _ _ => alike_eq ow _ _ _ _
    refine ⟨fun a b c d ab bc cd hd h1 h2 h3 => ?_, fun a b c d ab bc cd hd h1 h2 h3 hh => ?_, fun a b c d ab bc cd hd h1 h2 h3 hh => ?_, fun a b c d ab bc cd hd h1 h2 h3 hh => ?_⟩
    · have e : alikeOf ow [a, b, c, d] = [] := by
        rw [alike_eq, decide_eq_false (by omega), decide_eq_false (by omega), decide_eq_false (by omega)]
        rfl
      obtain ⟨r, hr, _, hb⟩ := bar_unl (code := code) e
      have := h r (mem_rule ab bc cd hd hr)
      rw [hb] at this
      simp only [decide_eq_true_eq] at this
      omega
    · have e : alikeOf ow [a, b, c, d] = [0] := by
        rw [alike_eq, decide_eq_true (by omega), decide_eq_false (by omega), decide_eq_false (by omega)]
        rfl
      obtain ⟨r, hr, _, hb⟩ := bar_0 (code := code) e
      have := h r (mem_rule ab bc cd hd hr)
      rw [hb, hh] at this
      simpa using this
    · have e : alikeOf ow [a, b, c, d] = [1] := by
        rw [alike_eq, decide_eq_false (by omega), decide_eq_true (by omega), decide_eq_false (by omega)]
        rfl
      obtain ⟨r, hr, _, hb⟩ := bar_1 (code := code) e
      have := h r (mem_rule ab bc cd hd hr)
      rw [hb, hh] at this
      simpa using this
    · have e : alikeOf ow [a, b, c, d] = [2] := by
        rw [alike_eq, decide_eq_false (by omega), decide_eq_false (by omega), decide_eq_true (by omega)]
        rfl
      obtain ⟨r, hr, _, hb⟩ := bar_2 (code := code) e
      have := h r (mem_rule ab bc cd hd hr)
      rw [hb, hh] at this
      simpa using this
  · intro F r hr hb
    obtain ⟨a, b, c, d, ab, bc, cd, hd, h⟩ := rule_mem hr
    have u1 := up a b (by omega) (by omega)
    have u2 := up b c (by omega) (by omega)
    have u3 := up c d (by omega) (by omega)
    rcases alike_cases ow (threesOf ow) a b c d with ⟨e, h1, h2, h3⟩ | ⟨e, h1, h2, h3⟩ | ⟨e, h1, h2, h3⟩ | ⟨e, h1, h2, h3⟩ | ⟨_, _, e⟩
    · obtain ⟨r', hr', _, hb'⟩ := bar_unl (code := code) e
      rw [h] at hr'
      cases hr'
      have := F.unl a b c d ab bc cd hd (by omega) (by omega) (by omega)
      rw [hb'] at hb
      simp only [decide_eq_true_eq] at hb
      omega
    · obtain ⟨r', hr', _, hb'⟩ := bar_0 (code := code) e
      rw [h] at hr'
      cases hr'
      rw [hb'] at hb
      simp only [Bool.and_eq_true, Bool.not_eq_true'] at hb
      have := F.al0 a b c d ab bc cd hd (by omega) (by omega) (by omega) hb.1
      rw [hb.2] at this
      cases this
    · obtain ⟨r', hr', _, hb'⟩ := bar_1 (code := code) e
      rw [h] at hr'
      cases hr'
      rw [hb'] at hb
      simp only [Bool.and_eq_true, Bool.not_eq_true'] at hb
      have := F.al1 a b c d ab bc cd hd (by omega) (by omega) (by omega) hb.1
      rw [hb.2] at this
      cases this
    · obtain ⟨r', hr', _, hb'⟩ := bar_2 (code := code) e
      rw [h] at hr'
      cases hr'
      rw [hb'] at hb
      simp only [Bool.and_eq_true, Bool.not_eq_true'] at hb
      have := F.al2 a b c d ab bc cd hd (by omega) (by omega) (by omega) hb.1
      rw [hb.2] at this
      cases this
    · rw [h] at e
      cases e
theorem firstBar_row {sides row : List Nat} (hs : SidesOk sides) (hr : RowOk sides row) : firstBar (Tof sides) (owners sides) (codeN sides row) = none := by
  have h10 := hs.ten
  have hl := len_owners sides
  have up : Up (owners sides) := up_owners (by omega)
  have F := (flo_of up hr.ok).fourOk
  refine (firstBar_none up).mpr ?_
  have e : ∀ a b c, a < b → b < c → c < (owners sides).length → nthN (owners sides) a < nthN (owners sides) b → nthN (owners sides) b < nthN (owners sides) c → hiB (owners sides) (codeN sides row) a b c = hiT (tmR (owners sides) row) a b c := fun a b c h1 h2 h3 h4 h5 => hiB_code hs hr ((mem_T up).mpr ⟨h1, h2, h3, h4, h5⟩)
  refine ⟨fun a b c d ab bc cd hd h1 h2 h3 => ?_, fun a b c d ab bc cd hd h1 h2 h3 h => ?_, fun a b c d ab bc cd hd h1 h2 h3 h => ?_, fun a b c d ab bc cd hd h1 h2 h3 h => ?_⟩
  · rw [e a b c ab bc (by omega) h1 h2, e a b d ab (by omega) (by omega) h1 (by omega), e a c d (by omega) cd (by omega) (by omega) h3, e b c d bc cd (by omega) h2 h3]
    exact F.unl a b c d ab bc cd hd h1 h2 h3
  · rw [e b c d bc cd (by omega) h2 h3] at h
    rw [e a c d (by omega) cd (by omega) (by omega) h3]
    exact F.al0 a b c d ab bc cd hd h1 h2 h3 h
  · rw [e a b d ab (by omega) (by omega) h1 (by omega)] at h
    rw [e a c d (by omega) cd (by omega) (by omega) h3]
    exact F.al1 a b c d ab bc cd hd h1 h2 h3 h
  · rw [e a b d ab (by omega) (by omega) h1 (by omega)] at h
    rw [e a b c ab bc (by omega) h1 h2]
    exact F.al2 a b c d ab bc cd hd h1 h2 h3 h
end LZ

set_option maxRecDepth 100000
set_option maxHeartbeats 1000000
namespace LZ
open PySem PySem.Spec PyProof.Rows L2 RR
/-! ### floors of what is high -/
/-- a list, as a tree or a cell -/
def IsD (st : Store) (o : D) (ds : List D) : Prop := o = .lst ds ∨ ∃ j, o = .ref j ∧ st[j]? = some (.lst ds)
theorem IsD.app {st o ds} (h : IsD st o ds) (tl : Store) : IsD (st ++ tl) o ds := h.imp id fun ⟨j, a, b⟩ => ⟨j, a, by rw [List.getElem?_append_left (List.getElem?_eq_some_iff.mp b).1]; exact b⟩
theorem IsD.seq {st o ds} (h : IsD st o ds) : seqOf st o = some ds := by
  rcases h with rfl | ⟨j, rfl, h⟩
  · rfl
  · exact seq_ref h
theorem IsD.it {st o ds} (h : IsD st o ds) {m : ME D} {env : RR.Env} (hr : m env st = .ok o st) : iSeq m env st = .ok (.seq o) st := by
  rcases h with rfl | ⟨j, rfl, h⟩
  · exact i_seqL hr
  · exact i_seqR hr h
theorem IsD.isl {st o ds} (h : IsD st o ds) : gIsi [o, .ty "list"] st = .ok (.bl true) st := by
  rcases h with rfl | ⟨j, rfl, h⟩
  · simp [gIsi, tyName, isTy, subTy]
  · simp [gIsi, tyName, h, isTy, subTy]
theorem eq_bits_ofD {sides : List Nat} {xs : List (List Nat)} {o : D} {st : Store} (h16 : sides.sum ≤ 16) (hx : ∀ x ∈ xs, x ∈ threesOf (owners sides)) (hn : xs.length ≤ 10000) (ho : IsD st o (xs.map nT)) : sem_Outline_bits_of [outD sides, o] st = .ok (nI (bitsN (threesOf (owners sides)) xs)) st := by
  have hT := len_T h16
  refine semB_eq rfl ?_
  unfold b_Outline_bits_of
  simp only [env0, List.map_cons, List.map_nil, List.length_cons, List.length_nil, Nat.reduceAdd, Nat.reduceSub, List.cons_append, List.nil_append, List.reduceReplicate]
  simp
  refine post_thn (post_s (st1 := st) (d := o) xs nT (fun k e s => ∃ x, e = [some (outD sides), some o, some (nI (bitsN (threesOf (owners sides)) (xs.take k))), x] ∧ s = st)
    (ho.it (by simp)) (by omega) ⟨none, by simp [bitsN, nI], rfl⟩ ?_ ?_ ?_)
  · rintro k e s _ ⟨x, rfl, rfl⟩
    exact ho.seq
  · rintro k y env s J hy ⟨x, rfl, rfl⟩ tu
    have hm := hx y (List.mem_of_getElem? hy)
    have hi := List.idxOf_lt_length_iff.mpr hm
    have e1 := n_shl (st := s) (k := (threesOf (owners sides)).idxOf y) (by omega)
    simp only [s_nm, List.set_cons_succ, List.set_cons_zero, post_ok, toB_nx]
    rw [aug_or (a := bitsN (threesOf (owners sides)) (xs.take k)) (b := 2 ^ (threesOf (owners sides)).idxOf y) rfl (by simp [out_spot.fld, spot_get hm, e1])]
    refine post_ok.mpr (tu.nx _ _ ⟨some (nT y), ?_, rfl⟩)
    rw [take_snoc' hy, bitsN_snoc]
    rfl
  · rintro env s ⟨x, rfl, rfl⟩
    simp
    exact fin_pure pure_nI (by simp)
theorem eq_is_three {sides x : List Nat} {st : Store} (hx : x ∈ Tof sides) : sem_is_three [outD sides, nT x] st = .ok (.bl true) st := by
  obtain ⟨a, b, c, _, _, _, _, rfl⟩ := mem_threes.mp hx
  refine semB_eq rfl ?_
  unfold b_is_three
  simp only [env0, List.map_cons, List.map_nil, List.length_cons, List.length_nil, Nat.reduceAdd, Nat.reduceSub, List.cons_append, List.nil_append, List.reduceReplicate]
  have e1 := mLc_u (k := 1) (m := mVar 1) (g := gNm 2) (tt := mret true) (te := mAnd (mCall gIsi (aCons (mVar 2) (aCons (mret (.ty "int")) aNil))) (mNot (mCall gIsi (aCons (mVar 2) (aCons (mret (.ty "bool")) aNil))))) (vs := [2])
    (env := [some (outD sides), some (nT [a, b, c]), none]) (st := st) [a, b, c] nI (fun _ => true) (fun _ => .bl true)
    (by simp [nT]) (by simp) (fun n hn acc => ⟨[some (outD sides), some (nT [a, b, c]), some (nI n)], by simp [wipeE], rfl, fun _ => by simp [gIsi, tyName, nI, isTy, subTy]⟩) (fun _ _ _ => rfl)
  have e2 : gLen [nT [a, b, c]] st = .ok (nI 3) st := by simp [gLen, nT, nI]
  have e3 : gNe (nI 3) (.int 3) st = .ok (.bl false) st := by simp [nI]
  have e4 : gBls (fun bs => bs.all id) [.lst (([a, b, c].filter fun _ => true).map fun _ => D.bl true)] st = .ok (.bl true) st := by
    have := g_all (st := st) (g := fun _ : Nat => true) (ys := [a, b, c])
    simpa using this
  simp only [s_seq, s_if, a_tor, a_tnot, a_test, a_call, a_cons, a_var, a_nil, List.getElem?_cons_succ, List.getElem?_cons_zero, a_bind_ok, a_mret, isi_nT, Bool.not_true, a_op2, e2, e3, s_nil, thn_ok, e1, e4, s_ret]
  simp only [a_op1, a_var, List.getElem?_cons_zero, a_bind_ok, out_spot.fld, spot_in, Bool.false_eq_true, if_false, hx, decide_true, post_ok, finJ_rt]
  exact fin_pure pure_bl ⟨rfl, rfl⟩
theorem three_lt {sides s t : List Nat} (h16 : sides.sum ≤ 16) (hs : s ∈ Tof sides) (ht : t ∈ Tof sides) (h : keyT 1000 (nT s) < keyT 1000 (nT t)) : (s.map fun (x : Nat) => (x : Int)) < (t.map fun (x : Nat) => (x : Int)) := by
  have hl := len_owners sides
  obtain ⟨a, b, c, h1, h2, h3, _, rfl⟩ := mem_threes.mp hs
  obtain ⟨a', b', c', h1', h2', h3', _, rfl⟩ := mem_threes.mp ht
  rw [key3, key3] at h
  simp only [List.map_cons, List.map_nil, List.cons_lt_cons_iff]
  have : ¬ (([] : List Int) < []) := List.lt_irrefl _
  by_cases e1 : a < a'
  · left; omega
  · right
    refine ⟨by omega, ?_⟩
    by_cases e2 : b < b'
    · left; omega
    · right
      refine ⟨by omega, ?_⟩
      left; omega
theorem eq_need_threes {sides : List Nat} {xs : List (List Nat)} {o : D} {st : Store} (h16 : sides.sum ≤ 16) (hx : ∀ x ∈ xs, x ∈ Tof sides) (hp : xs.Pairwise fun s t => keyT 1000 (nT s) < keyT 1000 (nT t)) (hn : xs.length ≤ 10000) (ho : IsD st o (xs.map nT)) :
    sem_need_threes [outD sides, o] st = .ok .non st := by
  refine semB_eq rfl ?_
  unfold b_need_threes
  simp only [env0, List.map_cons, List.map_nil, List.length_cons, List.length_nil, Nat.reduceAdd, Nat.reduceSub, List.cons_append, List.nil_append, List.reduceReplicate]
  simp only [s_seq, s_if, a_tnot, a_test, a_call, a_cons, a_var, a_nil, List.getElem?_cons_succ, List.getElem?_cons_zero, a_bind_ok, a_mret, ho.isl, Bool.not_true, s_nil, thn_ok, s_set, a_tup, List.length_nil, Nat.zero_le, if_true, List.set_cons_succ, List.set_cons_zero]
  refine post_s (st1 := st) (d := o) xs nT (fun k e s => ∃ y x, e = [some (outD sides), some o, some (nT y), x] ∧ s = st ∧ (y = [] ∨ ∃ j, j + 1 = k ∧ xs[j]? = some y))
    (ho.it (by simp)) (by omega) ⟨[], none, rfl, rfl, .inl rfl⟩ ?_ ?_ ?_
  · rintro k e s _ ⟨y, x, rfl, rfl, _⟩
    exact ho.seq
  · rintro k z e s J hz ⟨y, x, rfl, rfl, hy⟩ tu
    have hm := hx z (List.mem_of_getElem? hz)
    have e1 : gLeT (nT z) (nT y) s = .ok (.bl false) s := by
      have ez : tupI (nT z) = some (z.map fun (x : Nat) => (x : Int)) := intsOf_nI z
      have ey : tupI (nT y) = some (y.map fun (x : Nat) => (x : Int)) := intsOf_nI y
      unfold gLeT gCmpT
      rw [ez, ey]
      simp only [Rs.ok.injEq, D.bl.injEq, and_true, Bool.not_eq_false', decide_eq_true_eq]
      rcases hy with rfl | ⟨j, hj, hy⟩
      · obtain ⟨a, b, c, _, _, _, _, rfl⟩ := mem_threes.mp hm
        exact List.nil_lt_cons _ _
      · refine three_lt h16 (hx y (List.mem_of_getElem? hy)) hm ?_
        rw [List.pairwise_iff_getElem] at hp
        obtain ⟨h1, e1⟩ := List.getElem?_eq_some_iff.mp hy
        obtain ⟨h2, e2⟩ := List.getElem?_eq_some_iff.mp hz
        rw [← e1, ← e2]
        exact hp j k h1 h2 (by omega)
    simp only [s_nm, List.set_cons_succ, List.set_cons_zero, post_ok, toB_nx, s_seq, s_if, a_tor, a_tnot, a_test, a_fn, a_cons, a_var, a_nil, List.getElem?_cons_succ, List.getElem?_cons_zero, a_bind_ok, List.append_nil, eq_is_three hm, Bool.not_true, a_op2, e1, s_nil, thn_ok, s_set]
    exact tu.nx _ _ ⟨z, _, rfl, rfl, .inr ⟨k, rfl, hz⟩⟩
  · rintro e s ⟨y, x, rfl, rfl, _⟩
    simp only [finJ_nx]
    exact fin_pure pure_non ⟨rfl, rfl⟩
theorem bits_threes {T : List (List Nat)} {code : Nat} (nd : T.Nodup) (h : code < 2 ^ T.length) : bitsN T (threesN T code) = code := by
  apply Nat.eq_of_testBit_eq
  intro i
  rw [bitsN_test]
  by_cases hi : i < T.length
  · have e : T.idxOf T[i] = i := nd.idxOf_getElem i hi
    cases q : code.testBit i with
    | true =>
      rw [List.any_eq_true]
      refine ⟨T[i], ?_, by simp [e]⟩
      unfold threesN
      rw [List.mem_filter]
      exact ⟨List.getElem_mem _, by rw [e]; exact q⟩
    | false =>
      rw [List.any_eq_false]
      intro t ht
      unfold threesN at ht
      rw [List.mem_filter] at ht
      simp only [decide_eq_true_eq]
      intro e2
      rw [e2, q] at ht
      cases ht.2
  · have q : code.testBit i = false := Nat.testBit_lt_two_pow (Nat.lt_of_lt_of_le h (Nat.pow_le_pow_right (by omega) (by omega)))
    rw [q, List.any_eq_false]
    intro t ht
    unfold threesN at ht
    rw [List.mem_filter] at ht
    have := List.idxOf_lt_length_iff.mpr ht.1
    simp only [decide_eq_true_eq]
    omega
theorem len_leastTl {sides row : List Nat} {i : Nat} : (leastTl sides i row).length = 4 := by simp [leastTl, passC]
theorem low_leastTl {sides row : List Nat} {i : Nat} : ∀ c ∈ leastTl sides i row, c.low (i + 4) = true := by
  intro c hc
  simp only [leastTl, passC, List.cons_append, List.nil_append, List.mem_cons, List.not_mem_nil, or_false] at hc
  have b1 := pure_outD (sides := sides)
  rcases hc with rfl | rfl | rfl | rfl
  · simp [Cell.low, belows, b1 _, below]
  · exact pures_nI _ _
  · exact pures_Z _ _
  · exact pures_nI _ _
theorem eq_least {sides row : List Nat} {o : D} {st : Store} (hs : SidesOk sides) (hr : RowOk sides row) (ho : IsL st o row) :
    sem_least [nT sides, o] st = .ok (.ref (st.length + 3)) (st ++ leastTl sides st.length (leastL row)) := by
  refine semB_eq rfl ?_
  unfold b_least
  simp only [env0, List.map_cons, List.map_nil, List.length_cons, List.length_nil, Nat.reduceAdd, Nat.reduceSub, List.cons_append, List.nil_append, List.reduceReplicate]
  simp [eq_opened hs hr ho, eq_least_code hs hr]
  refine fin_new low_leastTl (by rw [len_leastTl]) (by simp [below]) ⟨rfl, rfl⟩
theorem eq_floor_of {sides row : List Nat} {o : D} {st : Store} (hs : SidesOk sides) (hr : RowOk sides row) (ho : IsD st o ((highsL sides row).map nT)) :
    sem_floor_of [nT sides, o] st = .ok (.ref (st.length + 3)) (st ++ leastTl sides st.length (leastL row)) := by
  have h3 := hs.ten
  have h4 := hs.four
  have hl := len_owners sides
  have hx : ∀ x ∈ highsL sides row, x ∈ Tof sides := highsL_sub
  have hp : (highsL sides row).Pairwise fun s t => keyT 1000 (nT s) < keyT 1000 (nT t) := by
    unfold highsL threesN
    exact (threes_lt (by omega)).filter _
  have hn : (highsL sides row).length ≤ 10000 := by
    have h1 : (highsL sides row).length ≤ (Tof sides).length := List.length_filter_le _ _
    have := T_64 sides hs
    have : (Tof sides).length < 64 := this
    omega
  have ec : bitsN (Tof sides) (highsL sides row) = codeN sides row := bits_threes (nodup_threes _) codeN_lt
  refine semB_eq rfl ?_
  unfold b_floor_of
  simp only [env0, List.map_cons, List.map_nil, List.length_cons, List.length_nil, Nat.reduceAdd, Nat.reduceSub, List.cons_append, List.nil_append, List.reduceReplicate]
  simp [eq_need_sides hs]
  rw [eq_outline (sides := sides) (by rfl) (by omega) (by omega)]
  simp [eq_need_threes (show sides.sum ≤ 16 by omega) hx hp hn ho]
  rw [NoF.mt (out_no (by decide +kernel)) rfl]
  simp [eq_bits_ofD (show sides.sum ≤ 16 by omega) hx hn ho]
  rw [NoF.mt (out_no (by decide +kernel)) rfl]
  rw [show bitsN (threesOf (owners sides)) (highsL sides row) = codeN sides row from ec]
  simp [eq_first_bar hs, firstBar_row hs hr, foundD]
  have e0 : gIsN true .non st = .ok (.bl false) st := rfl
  rw [e0]
  simp [eq_least_code hs hr]
  refine fin_new low_leastTl (by rw [len_leastTl]) (by simp [below]) ⟨rfl, rfl⟩
end LZ

set_option maxRecDepth 100000
set_option maxHeartbeats 1000000
namespace LZ
open PySem PySem.Spec PyProof.Rows L2 RR
/-! ### the law's own least row -/
theorem argBest_least {bt : Nat → Nat → Bool} {m : Nat} (ir : ∀ i, i ≤ m → bt i i = false) (tr : ∀ i j k, i ≤ m → j ≤ m → k ≤ m → bt i j = true → bt j k = true → bt i k = true) :
    ∀ n, n ≤ m → argBest bt n ≤ n ∧ ∀ i, i ≤ n → bt i (argBest bt n) = false := by
  intro n
  induction n with
  | zero => exact fun h => ⟨Nat.le_refl _, fun i hi => by rw [Nat.le_zero.mp hi]; exact ir 0 h⟩
  | succ n ih =>
    intro h
    obtain ⟨h1, h2⟩ := ih (by omega)
    cases q : bt (n + 1) (argBest bt n) with
    | true =>
      have e : argBest bt (n + 1) = n + 1 := by simp [argBest, q]
      rw [e]
      refine ⟨Nat.le_refl _, fun i hi => ?_⟩
      by_cases c : i = n + 1
      · rw [c]; exact ir _ h
      · cases w : bt i (n + 1) with
        | false => rfl
        | true =>
          have := tr i (n + 1) (argBest bt n) (by omega) h (by omega) w q
          rw [h2 i (by omega)] at this
          cases this
    | false =>
      have e : argBest bt (n + 1) = argBest bt n := by simp [argBest, q]
      rw [e]
      refine ⟨by omega, fun i hi => ?_⟩
      by_cases c : i = n + 1
      · rw [c]; exact q
      · exact h2 i (by omega)
theorem lex2 (a b c d : Nat) : HT.lexLt [(a : Int), (b : Int)] [(c : Int), (d : Int)] = decide (a * 2 < c * 2 ∨ (a = c ∧ b < d)) := by
  simp only [HT.lexLt]
  by_cases h : (a : Int) = c
  · have : a = c := by omega
    subst this
    by_cases h2 : (b : Int) = d
    · have : b = d := by omega
      subst this
      simp
    · simp [h2]
  · have : a ≠ c := by omega
    simp [h, this]
/-- what can be taken, with its place -/
def tupK (r : List Nat) (k : Nat) : D := .tup [nI (nthN r k), nI k]
def kssOf (r F : List Nat) : List (List Int) := F.map fun k => [(nthN r k : Int), (k : Int)]
theorem kss_tups (r F : List Nat) : ((F.map (tupK r)).map fun d => (tupI d).getD []) = kssOf r F := by
  unfold kssOf
  rw [List.map_map]
  rfl
theorem best_pick {r : List Nat} (hr : r.length ≤ 4096) (hne : r ≠ []) : ∃ k, pickK r = some k ∧ ((frees r).map (tupK r)).getD (bestL (kssOf r (frees r))) .non = tupK r k ∧ k < r.length := by
  obtain ⟨k, hk⟩ : ∃ k, pickK r = some k := by
    cases h : pickK r with
    | some k => exact ⟨k, rfl⟩
    | none => exact (hne (pick_none h)).elim
  obtain ⟨h1, h2, h3, h4⟩ := pick_some hr hk
  have hkF : k ∈ frees r := by
    unfold frees
    rw [List.mem_filter]
    exact ⟨List.mem_range.mpr h1, h2⟩
  have hpos : 0 < (frees r).length := List.length_pos_of_mem hkF
  have hbt : ∀ i j, i ≤ (frees r).length - 1 → j ≤ (frees r).length - 1 → HT.lexLt ((kssOf r (frees r)).getD i []) ((kssOf r (frees r)).getD j []) = decide (nthN r (nthN (frees r) i) * 2 < nthN r (nthN (frees r) j) * 2 ∨ (nthN r (nthN (frees r) i) = nthN r (nthN (frees r) j) ∧ nthN (frees r) i < nthN (frees r) j)) := by
    intro i j hi hj
    rw [← lex2]
    have e : ∀ i, i ≤ (frees r).length - 1 → (kssOf r (frees r)).getD i [] = [(nthN r (nthN (frees r) i) : Int), (nthN (frees r) i : Int)] := fun i hi => by
      unfold kssOf nthN
      simp [List.getD_eq_getElem?_getD, List.getElem?_map, show i < (frees r).length by omega]
    rw [e i hi, e j hj]
  have hb := argBest_least (bt := fun i j => HT.lexLt ((kssOf r (frees r)).getD i []) ((kssOf r (frees r)).getD j [])) (m := (frees r).length - 1)
    (fun i hi => by simp only [hbt i i hi hi]; simp)
    (fun i j l hi hj hl a b => by
      simp only [hbt i j hi hj, hbt j l hj hl, hbt i l hi hl, decide_eq_true_eq] at *
      omega) ((frees r).length - 1) (Nat.le_refl _)
  have eb : bestL (kssOf r (frees r)) = argBest (fun i j => HT.lexLt ((kssOf r (frees r)).getD i []) ((kssOf r (frees r)).getD j [])) ((frees r).length - 1) := by
    unfold bestL
    simp [kssOf]
  rw [← eb] at hb
  generalize bestL (kssOf r (frees r)) = b at hb
  obtain ⟨b1, b2⟩ := hb
  have hbl : b < (frees r).length := by omega
  obtain ⟨i, hi, ei⟩ := List.mem_iff_getElem.mp hkF
  have hm : nthN (frees r) b ∈ frees r := nth_mem hbl
  have hm' : nthN (frees r) b < r.length ∧ freeAt r (nthN (frees r) b) = true := by
    have := List.mem_filter.mp (show nthN (frees r) b ∈ (List.range r.length).filter (freeAt r) from hm)
    exact ⟨List.mem_range.mp this.1, this.2⟩
  have e1 := b2 i (by omega)
  rw [hbt i b (by omega) (by omega)] at e1
  have e2 : nthN (frees r) i = k := by
    unfold nthN
    simp [List.getD_eq_getElem?_getD, hi, ei]
  rw [e2] at e1
  simp only [decide_eq_false_iff_not] at e1
  have g1 := h3 _ hm'.1 hm'.2
  have ek : nthN (frees r) b = k := by
    by_cases c : nthN r (nthN (frees r) b) = nthN r k
    · have := h4 _ hm'.1 hm'.2 c
      omega
    · omega
  refine ⟨k, hk, ?_, h1⟩
  have : ((frees r).map (tupK r)).getD b .non = tupK r (nthN (frees r) b) := by
    unfold nthN
    simp [List.getD_eq_getElem?_getD, hbl]
  rw [this, ek]
def nearB (v p : Nat) : Bool := decide ((if (p : Int) - (v : Int) < 0 then -((p : Int) - (v : Int)) else (p : Int) - (v : Int)) < 2)
theorem free_iff {r : List Nat} {k : Nat} : freeAt r k = decide ((r.take k).filter (nearB (nthN r k)) = []) := by
  unfold freeAt
  rw [Bool.eq_iff_iff, List.all_eq_true, decide_eq_true_eq, List.filter_eq_nil_iff]
  constructor
  · intro h p hp
    have w : Far p (nthN r k) := of_decide_eq_true (h p hp)
    unfold Far at w
    unfold nearB
    rw [decide_eq_true_eq]
    split <;> omega
  · intro h p hp
    have w := h p hp
    unfold nearB at w
    rw [decide_eq_true_eq] at w
    refine decide_eq_true ?_
    unfold Far
    split at w <;> omega
theorem gMinT_eq {st : Store} {a : D} {ds : List D} (h : seqOf st a = some ds) (h0 : 0 < ds.length) (hall : ds.all (fun d => (tupI d).isSome) = true) : gMinT [a] st = .ok (ds.getD (bestL (ds.map fun d => (tupI d).getD [])) .non) st := by
  show (match seqOf st a with
    | some ds => if 0 < ds.length ∧ ds.all (fun d => (tupI d).isSome) = true then Rs.ok (ds.getD (bestL (ds.map fun d => (tupI d).getD [])) .non) st else .no
    | none => .no) = _
  rw [h]
  exact if_pos ⟨h0, hall⟩
theorem m_popAt {st : Store} {i k : Nat} {ds : List D} {d : D} (h : st[i]? = some (.lst ds)) (hk : k ≤ 1000000) (hd : ds[k]? = some d) : gPopAt (.ref i) [nI k] st = .ok d (st.set i (.lst (ds.eraseIdx k))) := by
  have hl := (List.getElem?_eq_some_iff.mp hd).1
  have q1 : seqIndex? (k : Int) ds.length = some k := by
    unfold seqIndex?
    have h1 : ¬ ((k : Int) < 0) := by omega
    simp [h1, hl]
  unfold gPopAt
  rw [cell_ref h]
  simp only [nI]
  rw [if_pos (by omega), q1]
  simp only [hd]
theorem eq_law_least {r : List Nat} {o : D} {st : Store} (hr : r.length ≤ 4096) (ho : IsL st o r) : sem__law_least [o] st = .ok (nL (leastL r)) st := by
  refine semB_eq rfl ?_
  unfold b__law_least
  simp only [env0, List.map_cons, List.map_nil, List.length_cons, List.length_nil, Nat.reduceAdd, Nat.reduceSub, List.cons_append, List.nil_append, List.reduceReplicate]
  have e1 : gList true [o] st = .ok (.ref st.length) (st ++ [.lst (r.map nI)]) := by simp [gList, ho.items]
  simp only [s_seq, s_set, a_call, a_cons, a_var, a_nil, List.getElem?_cons_zero, a_bind_ok, e1, thn_ok, List.set_cons_succ, List.set_cons_zero, a_newl, List.length_nil, Nat.zero_le, if_true]
  have e2 : (st ++ [Cell.lst (r.map nI)]).length = st.length + 1 := by simp
  rw [e2]
  refine post_thn (post_while (fun k e s => ∃ found rk junk x3 x4 x5, rk.length = k ∧ found ++ lawLeast rk.length rk = leastL r ∧ rk.length ≤ r.length ∧ found.length + rk.length = r.length ∧ e = [some o, some (.ref st.length), some (.ref (st.length + 1)), x3, x4, x5] ∧ s = st ++ (Cell.lst (rk.map nI) :: Cell.lst (found.map nI) :: junk))
    r.length (by omega) ⟨[], r, [], none, none, none, rfl, rfl, Nat.le_refl _, by simp, rfl, by simp⟩ ?_)
  rintro k e s ⟨found, rk, junk, x3, x4, x5, rfl, hall, hle, hsum, rfl, rfl⟩
  have g0 : ∀ (a b : Cell) (t : List Cell), (st ++ (a :: b :: t))[st.length]? = some a := fun a b t => by simp
  have g1 : ∀ (a b : Cell) (t : List Cell), (st ++ (a :: b :: t))[st.length + 1]? = some b := fun a b t => by simp
  have gm : ∀ (a b c : Cell), (st ++ (a :: b :: (junk ++ [c])))[st.length + 2 + junk.length]? = some c := fun a b c => by
    rw [List.getElem?_append_right (by omega)]
    rw [show st.length + 2 + junk.length - st.length = junk.length + 2 by omega]
    simp
  have sm : ∀ (a b c c' : Cell), (st ++ (a :: b :: (junk ++ [c]))).set (st.length + 2 + junk.length) c' = st ++ (a :: b :: (junk ++ [c'])) := fun a b c c' => by
    rw [List.set_append_right _ _ (by omega)]
    rw [show st.length + 2 + junk.length - st.length = junk.length + 2 by omega]
    simp
  have s0 : ∀ (a b a' : Cell) (t : List Cell), (st ++ (a :: b :: t)).set st.length a' = st ++ (a' :: b :: t) := fun a b a' t => by simp
  have s1 : ∀ (a b a' : Cell) (t : List Cell), (st ++ (a :: b :: t)).set (st.length + 1) a' = st ++ (a :: a' :: t) := fun a b a' t => by simp
  refine ⟨!decide (rk = []), st ++ (Cell.lst (rk.map nI) :: Cell.lst (found.map nI) :: junk), ?_, ?_, ?_⟩
  · have : gNe (.ref st.length) (nL []) (st ++ (Cell.lst (rk.map nI) :: Cell.lst (found.map nI) :: junk)) = .ok (.bl (!decide (rk = []))) (st ++ (Cell.lst (rk.map nI) :: Cell.lst (found.map nI) :: junk)) :=
      (isL_ref (st := st ++ (Cell.lst (rk.map nI) :: Cell.lst (found.map nI) :: junk)) (g0 _ _ _)).eq (nL_isL (xs := [])) (neg := true)
    simp only [a_test, a_op2, a_var, List.getElem?_cons_succ, List.getElem?_cons_zero, a_bind_ok, a_lst, a_nil, List.length_nil, Nat.zero_le, if_true]
    rw [show D.lst [] = nL [] from rfl, this]
    simp
  · intro hq
    have enil : rk = [] := by simpa using hq
    subst enil
    simp only [List.length_nil, lawLeast, List.append_nil] at hall
    rw [thJ_nx, s_ret]
    simp only [a_var, List.getElem?_cons_succ, List.getElem?_cons_zero, post_ok, finJ_rt]
    rw [← hall]
    exact ok1_of (leave_app (frz_lst (k := 2) (by omega) (g1 _ _ _) (pures_nI _))) ⟨rfl, rfl⟩
  · intro hq
    have hne : rk ≠ [] := by simpa using hq
    obtain ⟨j, hj, hbest, hjl⟩ := best_pick (r := rk) (by omega) hne
    have hl1 : (rk.eraseIdx j).length + 1 = rk.length := by rw [List.length_eraseIdx]; simp [hjl]; omega
    refine ⟨(rk.eraseIdx j).length, by omega, fun J' tu => ?_⟩
    have hjl' : (st ++ (Cell.lst (rk.map nI) :: Cell.lst (found.map nI) :: junk)).length = st.length + 2 + junk.length := by simp; omega
    simp only [s_seq, s_set, a_newl, a_nil, a_bind_ok, List.length_nil, Nat.zero_le, if_true, thn_ok, List.set_cons_succ, List.set_cons_zero, hjl', List.append_assoc, List.cons_append]
    have glen : gLen [.ref st.length] (st ++ (Cell.lst (rk.map nI) :: Cell.lst (found.map nI) :: (junk ++ [.lst []]))) = .ok (nI rk.length) (st ++ (Cell.lst (rk.map nI) :: Cell.lst (found.map nI) :: (junk ++ [.lst []]))) := n_lenR (g0 _ _ _)
    refine post_thn (post_r1 (n := rk.length) (fun i e s => ∃ x4 x5, e = [some o, some (.ref st.length), some (.ref (st.length + 1)), some (.ref (st.length + 2 + junk.length)), x4, x5] ∧ s = st ++ (Cell.lst (rk.map nI) :: Cell.lst (found.map nI) :: (junk ++ [Cell.lst (((List.range i).filter (freeAt rk)).map (tupK rk))])))
      (by simp [glen]) (by omega) ⟨x4, x5, rfl, rfl⟩ ?_ ?_)
    · rintro i e s J hi ⟨x4, x5, rfl, rfl⟩ tu2
      have gfr : ((List.range i).filter (freeAt rk)).length ≤ i := Nat.le_trans (List.length_filter_le _ _) (by simp)
      have elc : mLeave 1 (mLcN (iSeq (mSl (mVar 1) (mret none) (mPart (mVar 4)))) (gNm 5) (mTest (op2 gLt (mCall gAbs (aCons (op2 gSub (mVar 5) (op2 gIx (mVar 1) (mVar 4))) aNil)) (mret (.int 2)))) (mVar 5) [5])
          [some o, some (.ref st.length), some (.ref (st.length + 1)), some (.ref (st.length + 2 + junk.length)), some (nI i), x5] (st ++ (Cell.lst (rk.map nI) :: Cell.lst (found.map nI) :: (junk ++ [Cell.lst (((List.range i).filter (freeAt rk)).map (tupK rk))])))
          = .ok (nL ((rk.take i).filter (nearB (nthN rk i)))) (st ++ (Cell.lst (rk.map nI) :: Cell.lst (found.map nI) :: (junk ++ [Cell.lst (((List.range i).filter (freeAt rk)).map (tupK rk))]))) := by
        refine mLc_s (k := 1) (rk.take i) nI (nearB (nthN rk i)) nI ?_ (by simp; omega) (fun p hp acc => ⟨[some o, some (.ref st.length), some (.ref (st.length + 1)), some (.ref (st.length + 2 + junk.length)), some (nI i), some (nI p)], by simp [wipeE], ?_, fun _ => by simp⟩) (fun _ _ _ => rfl)
        · have := slR_to (n := i) (g0 (Cell.lst (rk.map nI)) (Cell.lst (found.map nI)) (junk ++ [Cell.lst (((List.range i).filter (freeAt rk)).map (tupK rk))])) (by omega)
          simp only [a_sl, a_var, List.getElem?_cons_succ, List.getElem?_cons_zero, a_bind_ok, a_mret, a_part]
          exact this
        · have e3 := n_ixR (st := (st ++ (Cell.lst (rk.map nI) :: Cell.lst (found.map nI) :: (junk ++ [Cell.lst (((List.range i).filter (freeAt rk)).map (tupK rk))]))) ++ [Cell.lst acc]) (xs := rk) (j := st.length) (k := i) (by simp) hi
          simp only [a_test, a_op2, a_call, a_cons, a_nil, a_var, List.getElem?_cons_succ, List.getElem?_cons_zero, a_bind_ok, a_mret, e3]
          simp [nI, gAbs, nearB]
      have e4 : (gEqB false (nL ((rk.take i).filter (nearB (nthN rk i)))) (nL []) (st ++ (Cell.lst (rk.map nI) :: Cell.lst (found.map nI) :: (junk ++ [Cell.lst (((List.range i).filter (freeAt rk)).map (tupK rk))])))) = .ok (.bl (freeAt rk i)) (st ++ (Cell.lst (rk.map nI) :: Cell.lst (found.map nI) :: (junk ++ [Cell.lst (((List.range i).filter (freeAt rk)).map (tupK rk))]))) := by
        rw [g_eqL, free_iff]
        rfl
      have e5 : (List.range (i + 1)).filter (freeAt rk) = (List.range i).filter (freeAt rk) ++ (if freeAt rk i then [i] else []) := by
        rw [List.range_succ, List.filter_append]
        congr 1
        simp [List.filter_cons]
      have e6 : tyD (st ++ (Cell.lst (rk.map nI) :: Cell.lst (found.map nI) :: (junk ++ [Cell.lst (((List.range i).filter (freeAt rk)).map (tupK rk))]))) "list" (.ref (st.length + 2 + junk.length)) = true := ty_ref (gm _ _ _)
      have e7 : gIx (.ref st.length) (nI i) (st ++ (Cell.lst (rk.map nI) :: Cell.lst (found.map nI) :: (junk ++ [Cell.lst (((List.range i).filter (freeAt rk)).map (tupK rk))]))) = .ok (nI (nthN rk i)) (st ++ (Cell.lst (rk.map nI) :: Cell.lst (found.map nI) :: (junk ++ [Cell.lst (((List.range i).filter (freeAt rk)).map (tupK rk))]))) := n_ixR (g0 _ _ _) hi
      simp only [s_nm, List.set_cons_succ, List.set_cons_zero, post_ok, toB_nx, s_if, a_test, a_op2, elc, a_bind_ok, a_lst, a_nil, List.length_nil, Nat.zero_le, if_true]
      rw [show D.lst [] = nL [] from rfl, show gEq = gEqB false from rfl, e4]
      cases hf : freeAt rk i with
      | true =>
        simp only [a_bind_ok, s_expr, a_meth, a_var, List.getElem?_cons_succ, List.getElem?_cons_zero, e6, if_true, a_cons, a_tup, a_op2, e7, a_nil, List.length_cons, List.length_nil, Nat.reduceAdd, Nat.reduceLeDiff]
        rw [m_append (gm _ _ _) (by simp; omega)]
        simp only [sm, post_ok]
        refine tu2.nx _ _ ⟨some (nI i), x5, rfl, ?_⟩
        rw [e5, hf]
        simp [tupK]
      | false =>
        simp only [a_bind_ok, s_nil, post_ok]
        refine tu2.nx _ _ ⟨some (nI i), x5, rfl, ?_⟩
        rw [e5, hf]
        simp
    · rintro e s ⟨x4, x5, rfl, rfl⟩
      rw [show (List.range rk.length).filter (freeAt rk) = frees rk from rfl]
      have ej : j ≤ 1000000 := by omega
      have hpos : 0 < (frees rk).length := by
        have hkF : j ∈ frees rk := by
          unfold frees
          rw [List.mem_filter]
          exact ⟨List.mem_range.mpr hjl, (pick_some (by omega) hj).2.1⟩
        exact List.length_pos_of_mem hkF
      have f1 : gMinT [.ref (st.length + 2 + junk.length)] (st ++ (Cell.lst (rk.map nI) :: Cell.lst (found.map nI) :: (junk ++ [Cell.lst ((frees rk).map (tupK rk))]))) = .ok (tupK rk j) (st ++ (Cell.lst (rk.map nI) :: Cell.lst (found.map nI) :: (junk ++ [Cell.lst ((frees rk).map (tupK rk))]))) := by
        rw [gMinT_eq (seq_ref (gm _ _ _)) (by simpa using hpos) (by
          rw [List.all_eq_true]
          intro d hd
          obtain ⟨k, _, rfl⟩ := List.mem_map.mp hd
          rfl), kss_tups, hbest]
      have f2 : gIx (tupK rk j) (.int 1) (st ++ (Cell.lst (rk.map nI) :: Cell.lst (found.map nI) :: (junk ++ [Cell.lst ((frees rk).map (tupK rk))]))) = .ok (nI j) (st ++ (Cell.lst (rk.map nI) :: Cell.lst (found.map nI) :: (junk ++ [Cell.lst ((frees rk).map (tupK rk))]))) := g_ix (j := 1) rfl rfl rfl
      have f3 : gPopAt (.ref st.length) [nI j] (st ++ (Cell.lst (rk.map nI) :: Cell.lst (found.map nI) :: (junk ++ [Cell.lst ((frees rk).map (tupK rk))]))) = .ok (nI (nthN rk j)) (st ++ (Cell.lst ((rk.eraseIdx j).map nI) :: Cell.lst (found.map nI) :: (junk ++ [Cell.lst ((frees rk).map (tupK rk))]))) := by
        rw [m_popAt (g0 _ _ _) ej (get_at hjl)]
        have q3 : (rk.map nI).eraseIdx j = (rk.eraseIdx j).map nI := by
          rw [List.eraseIdx_eq_take_drop_succ, List.eraseIdx_eq_take_drop_succ]
          simp
        rw [q3, s0]
      have t1 : tyD (st ++ (Cell.lst (rk.map nI) :: Cell.lst (found.map nI) :: (junk ++ [Cell.lst ((frees rk).map (tupK rk))]))) "list" (.ref st.length) = true := ty_ref (g0 _ _ _)
      have t2 : tyD (st ++ (Cell.lst (rk.map nI) :: Cell.lst (found.map nI) :: (junk ++ [Cell.lst ((frees rk).map (tupK rk))]))) "list" (.ref (st.length + 1)) = true := ty_ref (g1 _ _ _)
      rw [thJ_nx]
      simp only [s_expr, a_meth, a_var, List.getElem?_cons_succ, List.getElem?_cons_zero, a_bind_ok, t1, t2, if_true, a_cons, a_op2, a_call, a_nil, f1, f2, f3, a_mret]
      rw [m_append (g1 _ _ _) (by simp; omega)]
      simp only [s1, post_ok]
      refine tu.nx _ _ ⟨found ++ [nthN rk j], rk.eraseIdx j, junk ++ [Cell.lst ((frees rk).map (tupK rk))], _, _, _, rfl, ?_, by omega, by simp; omega, rfl, by simp⟩
      rw [← hall, ← hl1]
      simp only [lawLeast, hj]
      simp
end LZ

set_option maxRecDepth 100000
set_option maxHeartbeats 4000000
namespace LZ
open PySem PySem.Spec PyProof.Rows L2 RR
abbrev N_law : List Str := ["_law_script", "_law_row_here", "_law_turn", "_law_sides_here", "_law_some", "_law_high", "_law_handed", "_law_found"]
noncomputable def b_law : MS :=
  (sSeq (sSet 1 (mFn sem__law_row [] (aCons (mVar 0) aNil)))
    (sSeq (sFor (iRng1 (aCons (mret (.int 3)) aNil)) (gNm 2)
    (sSeq (sSet 3 (mFn sem__law_sides [] (aCons (mVar 1) (aCons (mret (.int 45)) aNil))))
    (sSeq (sSet 4 (mFn sem__law_any [] (aCons (mVar 1) (aCons (mVar 3) aNil))))
    (sSeq (sSet 5 (mFn sem__law_highs [] (aCons (mVar 3) (aCons (mVar 4) aNil))))
    (sSeq (sSet 6 (mCall (gList false) (aCons (mVar 5) aNil)))
    (sSeq (sSet 7 (mFn sem_floor_of [] (aCons (mVar 3) (aCons (mVar 6) aNil))))
    (sSeq (sIf (tOr2 (tNot1 (mTest (mFn sem__law_alike [] (aCons (mVar 7) (aCons (mFn sem__law_least [] (aCons (mVar 4) aNil)) aNil))))) (mTest (op2 gNe (mVar 6) (mVar 5))))
    (sRet (mret (.bl false)))
    sNil)
    (sSeq (sIf (tNot1 (mTest (mFn sem__law_alike [] (aCons (mFn sem_highs [] (aCons (mVar 3) (aCons (mVar 7) aNil))) (aCons (mVar 5) aNil)))))
    (sRet (mret (.bl false)))
    sNil)
    (sSeq (sExpr (mMeth "list" gAppend (mVar 7) (aCons (mret (.int 0)) aNil)))
    (sIf (tNot1 (mTest (mFn sem__law_alike [] (aCons (mFn sem_floor_of [] (aCons (mVar 3) (aCons (mVar 6) aNil))) (aCons (mFn sem__law_least [] (aCons (mVar 4) aNil)) aNil)))))
    (sRet (mret (.bl false)))
    sNil))))))))))
    (sRet (mret (.bl true)))))

noncomputable def sem_law : List D → Store → Rs D := semB 3 0 1 N_law b_law
theorem ar_law : HasArity 1 sem_law := ar_B
theorem lv_law : ∀ (ds : List D) (st0 : Store), ds.length = 1 → Leaves st0 (b_law (env0 N_law ds) st0) (sem_law ds st0) := fun _ _ h => lv_B h


end LZ

set_option maxRecDepth 100000
set_option maxHeartbeats 1000000
namespace LZ
open PySem PySem.Spec PyProof.Rows L2 RR
/-! ### the least row is a row of the same floor -/
theorem lawLeast_ok {ow : List Nat} : ∀ (n : Nat) {r l : List Nat}, r.length = n → n ≤ 4096 → Line ow.length l → okRow ow l r = true → okRow ow l (lawLeast n r) = true ∧ (laidS l (lawLeast n r)).Perm (laidS l r) ∧ (lawLeast n r).length = n
  | 0, r, l, hn, _, L, ok => by
    have : r = [] := List.length_eq_zero_iff.mp hn
    subst this
    exact ⟨ok, List.Perm.refl _, rfl⟩
  | n + 1, r, l, hn, h4, L, ok => by
    cases hk : pickK r with
    | none =>
      rw [pick_none hk] at hn
      cases hn
    | some k =>
      obtain ⟨h1, h2, _, _⟩ := pick_some (by omega) hk
      obtain ⟨e, far⟩ := free_split h1 h2
      have ok' := ok
      rw [e] at ok'
      obtain ⟨g1, g2⟩ := free_first L far ok'
      rw [← erase_eq] at g1 g2
      rw [← e] at g2
      simp only [okRow, Bool.and_eq_true] at g1
      have L' : Line ow.length (swapAt l (nthN r k)) := L.swap (canLay_lt g1.1)
      have hl : (r.eraseIdx k).length = n := by rw [List.length_eraseIdx]; simp [h1]; omega
      obtain ⟨i1, i2, i3⟩ := lawLeast_ok n hl (by omega) L' g1.2
      simp only [lawLeast, hk]
      refine ⟨by simp only [okRow, Bool.and_eq_true]; exact ⟨g1.1, i1⟩, ?_, by simp [i3]⟩
      refine List.Perm.trans ?_ g2.symm
      rw [laidS_cons, laidS_cons]
      exact i2.cons _
/-- a code that tells a row's floor is the row's own -/
theorem code_unique {sides r : List Nat} {c : Nat} (hs : SidesOk sides) (hr : RowOk sides r) (hc : c < 2 ^ (Tof sides).length) (t : Tells (owners sides) (BB sides c) (List.range (owners sides).length) r) : c = codeN sides r := by
  have h10 := hs.ten
  have hl := len_owners sides
  have up : Up (owners sides) := up_owners (by omega)
  have t2 := tells_code hs hr
  have F := flo_of up hr.ok
  have okp := okRow_pre hr.ok
  have nd := nodup_threes (owners sides)
  apply Nat.eq_of_testBit_eq
  intro i
  by_cases hi : i < (Tof sides).length
  · have hm : (Tof sides)[i] ∈ Tof sides := List.getElem_mem _
    have ei : (Tof sides).idxOf (Tof sides)[i] = i := nd.idxOf_getElem i hi
    obtain ⟨a, b, d, _, _, _, _, e⟩ := mem_threes.mp hm
    rw [e] at hm ei
    obtain ⟨ab, bd, hd, h1, h2⟩ := (mem_T up).mp hm
    have hfin := (F.fin a d (by omega) hd).mpr (by omega)
    obtain ⟨y, hy, e1, e2⟩ := laid_of okp hfin
    have hS : (y.1, y.2.1, y.2.2.1, fun z => y.2.2.2.1.contains z) ∈ laidS (List.range (owners sides).length) r := by
      unfold laidS
      exact List.mem_map.mpr ⟨y, hy, rfl⟩
    have q1 := t _ hS b (by omega) (by rw [e1]; omega) (by rw [e2]; omega)
    have q2 := t2 _ hS b (by omega) (by rw [e1]; omega) (by rw [e2]; omega)
    rw [← q2] at q1
    simp only [e1, e2] at q1
    unfold BB fl at q1
    rw [if_neg (by omega), if_pos (by omega), if_neg (by omega), if_neg (by omega), if_neg (by omega), if_pos (by omega), if_neg (by omega), if_neg (by omega)] at q1
    have q3 : hiB (owners sides) c a b d = hiB (owners sides) (codeN sides r) a b d := by
      cases p : hiB (owners sides) c a b d <;> cases p' : hiB (owners sides) (codeN sides r) a b d <;> rw [p, p'] at q1 <;> first | rfl | cases q1
    unfold hiB at q3
    rw [ei] at q3
    exact q3
  · have z : ∀ n, n < 2 ^ (Tof sides).length → n.testBit i = false := fun n h => Nat.testBit_lt_two_pow (Nat.lt_of_lt_of_le h (Nat.pow_le_pow_right (by omega) (by omega)))
    rw [z c hc, z _ codeN_lt]
theorem least_ok {sides r : List Nat} (hs : SidesOk sides) (hr : RowOk sides r) : RowOk sides (leastL r) := by
  have := row_short hs hr
  obtain ⟨h1, h2, h3⟩ := lawLeast_ok (ow := owners sides) r.length (r := r) rfl (by omega) (Line.range _) hr.ok
  exact ⟨h1, by unfold leastL; omega⟩
theorem least_code {sides r : List Nat} (hs : SidesOk sides) (hr : RowOk sides r) : codeN sides (leastL r) = codeN sides r := by
  have := row_short hs hr
  obtain ⟨h1, h2, h3⟩ := lawLeast_ok (ow := owners sides) r.length (r := r) rfl (by omega) (Line.range _) hr.ok
  exact (code_unique hs (least_ok hs hr) codeN_lt ((tells_code hs hr).perm h2)).symm
theorem least_len {sides r : List Nat} (hs : SidesOk sides) (hr : RowOk sides r) : (leastL r).length = r.length := by
  have := row_short hs hr
  exact (lawLeast_ok (ow := owners sides) r.length (r := r) rfl (by omega) (Line.range _) hr.ok).2.2
/-- rows of one code have one least row -/
theorem least_of_code {sides r r' : List Nat} (hs : SidesOk sides) (hr : RowOk sides r) (hr' : RowOk sides r') (e : codeN sides r = codeN sides r') : leastL r = leastL r' := by
  have e1 := eq_least_code (st := []) hs hr
  have e2 := eq_least_code (st := []) hs hr'
  rw [e, e2] at e1
  injection e1 with _ e1
  have e3 := List.append_cancel_left e1
  have e4 : (leastTl sides 0 (leastL r'))[3]? = (leastTl sides 0 (leastL r))[3]? := by
    have : leastTl sides 0 (leastL r') = leastTl sides 0 (leastL r) := e3
    rw [this]
  have g : ∀ row, (leastTl sides 0 row)[3]? = some (Cell.lst (row.map nI)) := fun row => by simp [leastTl, passC]
  rw [g, g] at e4
  injection e4 with e4
  injection e4 with e4
  exact (mapI_inj e4).symm
theorem least_least {sides r : List Nat} (hs : SidesOk sides) (hr : RowOk sides r) : leastL (leastL r) = leastL r := least_of_code hs (least_ok hs hr) hr (least_code hs hr)
theorem highsL_code {sides r r' : List Nat} (e : codeN sides r = codeN sides r') : highsL sides r = highsL sides r' := by
  unfold highsL
  rw [e]
end LZ

set_option maxRecDepth 100000
set_option maxHeartbeats 1000000
namespace LZ
open PySem PySem.Spec PyProof.Rows L2 RR
theorem pl_Ts {T : List (List Nat)} : pl 60 (.lst (T.map nT)) = true := by
  unfold pl
  rw [List.all_eq_true]
  intro d hd
  obtain ⟨x, _, rfl⟩ := List.mem_map.mp hd
  unfold nT pl
  exact pl_ints
theorem ne_Ts {T : List (List Nat)} {d e : D} {st : Store} (hd : IsD st d (T.map nT)) (he : IsD st e (T.map nT)) : gNe d e st = .ok (.bl false) st := by
  have r : ∀ d, IsD st d (T.map nT) → rdq st d = some (.lst (T.map nT)) := fun d h => by
    rcases h with rfl | ⟨j, rfl, h⟩
    · rfl
    · show (lstOf st (.ref j)).map D.lst = _
      rw [lst_ref h]
      rfl
  exact g_eqR (neg := true) (r d hd) (r e he) pl_Ts
theorem eq_law {ns : List Int} {st : Store} (hn : ns.length ≤ 1000) : Ok1 (sem_law [.scr ns] st) fun d s => d = .bl true := by
  refine semB_post rfl ?_
  unfold b_law
  simp only [env0, List.map_cons, List.map_nil, List.length_cons, List.length_nil, Nat.reduceAdd, Nat.reduceSub, List.cons_append, List.nil_append, List.reduceReplicate]
  obtain ⟨c, e0, hc⟩ := eq_law_row (st := st) hn
  rw [s_seq]
  simp [e0]
  refine post_thn (post_r1 (n := 3) (fun k e s => ∃ c tl x2 x3 x4 x5 x6 x7, RowCell c ∧ e = [some (.scr ns), some (.ref st.length), x2, x3, x4, x5, x6, x7] ∧ s = st ++ c :: tl)
    rfl (by omega) ⟨c, [], none, none, none, none, none, none, hc, rfl, rfl⟩ ?_ ?_)
  · rintro k env s J hk ⟨c, tl, x2, x3, x4, x5, x6, x7, hc, rfl, rfl⟩ tu
    have hat : (st ++ c :: tl)[st.length]? = some c := by simp
    obtain ⟨sides, b1, e1, hB1, hs, hp⟩ := eq_sides (most := 45) hat hc
    obtain ⟨c1, hc1, hrow1⟩ := hB1.get
    obtain ⟨row, b2, e2, hB2, hr, hlen⟩ := eq_any hc1 hrow1 hs
    have hB := hB1.trans hB2
    obtain ⟨c2, hrow2, eb2⟩ := hB.set
    have eb : b2 = st ++ c2 :: tl := by rw [eb2]; simp
    have h10 := hs.ten
    have h4 := hs.four
    have hl := len_owners sides
    have e45 : nI 45 = .int 45 := rfl
    rw [e45] at e1
    have hT : (Tof sides).length < 64 := T_64 sides hs
    have hTl : (highsL sides row).length ≤ 1000 := Nat.le_trans (List.length_filter_le _ _) (by omega)
    have hT3 : ∀ t ∈ highsL sides row, t.length ≤ 1000 := fun t ht => by
      obtain ⟨a, b, c, _, _, _, _, rfl⟩ := mem_threes.mp (highsL_sub t ht)
      simp
    have hsh := row_short hs hr
    have hll : (leastL row).length ≤ 1000 := by rw [least_len hs hr]; omega
    have eli : ∀ S, gList false [.lst ((highsL sides row).map nT)] S = .ok (.lst ((highsL sides row).map nT)) S := fun S => rfl
    have elaw : ∀ S, sem__law_least [nL row] S = .ok (nL (leastL row)) S := fun S => eq_law_least (by omega) nL_isL
    have ene : ∀ S, gNe (.lst ((highsL sides row).map nT)) (.lst ((highsL sides row).map nT)) S = .ok (.bl false) S := fun S => ne_Ts (.inl rfl) (.inl rfl)
    have efl : ∀ S, sem_floor_of [nT sides, .lst ((highsL sides row).map nT)] S = .ok (.ref (S.length + 3)) (S ++ leastTl sides S.length (leastL row)) := fun S => eq_floor_of hs hr (.inl rfl)
    have g3 : ∀ (S : Store) row, (S ++ leastTl sides S.length row)[S.length + 3]? = some (.lst (row.map nI)) := fun S row => by simp [leastTl, passC]
    have hal : ∀ S : Store, sem__law_alike [.ref (S.length + 3), nL (leastL row)] (S ++ leastTl sides S.length (leastL row)) = .ok (.bl true) (S ++ leastTl sides S.length (leastL row)) := fun S => alike_nL (n := 4) (isL_ref (g3 S _)) nL_isL hll
    have ehi : ∀ S : Store, sem_highs [nT sides, .ref (S.length + 3)] (S ++ leastTl sides S.length (leastL row)) = .ok (.ref (S ++ leastTl sides S.length (leastL row)).length) ((S ++ leastTl sides S.length (leastL row)) ++ [.lst ((highsL sides row).map nT)]) := fun S => by
      have := eq_highs (st := S ++ leastTl sides S.length (leastL row)) hs (least_ok hs hr) (isL_ref (g3 S _))
      rw [show threesN (Tof sides) (codeN sides (leastL row)) = highsL sides (leastL row) from rfl, highsL_code (least_code hs hr)] at this
      exact this
    have hal2 : ∀ S : Store, sem__law_alike [.ref S.length, .lst ((highsL sides row).map nT)] (S ++ [.lst ((highsL sides row).map nT)]) = .ok (.bl true) (S ++ [.lst ((highsL sides row).map nT)]) := fun S => alike_Ts (n := 3) (sqD_ref at_end) sqD_lst hTl hT3
    obtain ⟨TL, hTL⟩ : ∃ TL, TL = leastTl sides b2.length (leastL row) := ⟨_, rfl⟩
    have lTL : TL.length = 4 := by rw [hTL]; exact len_leastTl
    have tTL : TL[3]? = some (Cell.lst ((leastL row).map nI)) := by
      have := g3 b2 (leastL row)
      rw [← hTL, List.getElem?_append_right (by omega), show b2.length + 3 - b2.length = 3 by omega] at this
      exact this
    have efl1 := efl b2
    have hal1 := hal b2
    have ehi1 := ehi b2
    have hal3 := hal2 (b2 ++ TL)
    rw [← hTL] at efl1 hal1 ehi1
    rw [List.append_assoc, List.length_append, lTL] at hal3
    rw [List.append_assoc, List.length_append, lTL] at ehi1
    have at3 : (b2 ++ (TL ++ [Cell.lst ((highsL sides row).map nT)]))[b2.length + 3]? = some (Cell.lst ((leastL row).map nI)) := by
      rw [List.getElem?_append_right (by omega), show b2.length + 3 - b2.length = 3 by omega, List.getElem?_append_left (by omega)]
      exact tTL
    have ap : ∃ TL2, gAppend (.ref (b2.length + 3)) [.int 0] (b2 ++ (TL ++ [Cell.lst ((highsL sides row).map nT)])) = .ok .non (b2 ++ TL2) := by
      rw [m_append at3 (by simp; omega), List.set_append_right _ _ (by omega)]
      exact ⟨_, rfl⟩
    obtain ⟨TL2, ap⟩ := ap
    have ty3 : tyD (b2 ++ (TL ++ [Cell.lst ((highsL sides row).map nT)])) "list" (.ref (b2.length + 3)) = true := ty_ref at3
    have efl2 := efl (b2 ++ TL2)
    have hal4 := hal (b2 ++ TL2)
    generalize leastTl sides (b2 ++ TL2).length (leastL row) = TL3 at efl2 hal4
    rw [List.append_assoc, List.length_append] at efl2 hal4
    simp [e1, e2, fun S => eq_law_highs (st := S) hs hr nL_isL, eli, efl1, elaw, hal1, ene, ehi1, hal3, ty3, ap, efl2, hal4]
    exact tu.nx _ _ ⟨c2, tl ++ (TL2 ++ TL3), _, _, _, _, _, _, hrow2, rfl, by rw [eb]; simp⟩
  · rintro env s ⟨c, tl, x2, x3, x4, x5, x6, x7, hc, rfl, rfl⟩
    simp
    exact fin_tail pure_bl rfl
end LZ

set_option maxRecDepth 100000
set_option maxHeartbeats 1000000
namespace RR
open PySem PySem.Spec PyProof.Rows L2
open Sem (wp)
section
variable {X : Cx} {cl : Ctx} {Wx : WX} {p pos : Pos} {a b : Expr} {ma mb : ME D}
theorem pt_leT (hu : X.A.units + 1 < cLine) (ha : PV X cl Wx a ma) (hb : PV X cl Wx b mb) : PVT X cl Wx (.Compare a [.LtE] [b] pos) (mTest (op2 gLeT ma mb)) := pvt_cmp (op_leT hu) o_cmpT ha hb (nomark _)
/-- a nested def, the statement told by its place -/
theorem vn_defE {i : Nat} {mk : Addr → NdefX.NF} {s s' : Stmt} {ss : List Stmt} {ms : Addr → MS} (hs : s = s') (pl : cl.Plain) (hq : ∀ c', (mk c').c = c') (hd : PS X s' (NdefX.tNdefM cl.tabs i mk)) (hr : ∀ a, PVB X (cl.fn a mk) Wx ss (ms a)) : PVN X cl Wx (s :: ss) (fun a => sSeq (sDef i a) (ms a)) := by
  subst hs
  exact vn_def pl hq hd hr
end
end RR

set_option maxRecDepth 100000
set_option maxHeartbeats 4000000
namespace LZ
open PySem PySem.Spec PyProof.Rows L2 RR

def topS (i : Nat) : Stmt := PySem.Challenge.pw_lozengefloor_k07_whole_floors_of_what_is.main.body.getD i (.Pass ⟨0, 0, 0, 0⟩)
structure Tx (K : PySem.W.Frag) (cl : RR.Ctx) (mg : Str → Option Value) : Prop where
  pl : cl.Plain
  tm_least_of : ((He.cT K ("least_of", none)).2, fun _ _ => (("least_of" ++ ".<locals>." : Str) ++ "is_next")) ∈ cl.tabs
  tu_least_of : ∀ q ∈ cl.tabs, q.1 = (He.cT K ("least_of", none)).2 → q.2 = fun _ _ => (("least_of" ++ ".<locals>." : Str) ++ "is_next")
  b_abs : mg "abs" = none
  b_all : mg "all" = none
  b_any : mg "any" = none
  b_bool : mg "bool" = none
  b_enumerate : mg "enumerate" = none
  b_int : mg "int" = none
  b_isinstance : mg "isinstance" = none
  b_len : mg "len" = none
  b_list : mg "list" = none
  b_max : mg "max" = none
  b_min : mg "min" = none
  b_range : mg "range" = none
  b_sorted : mg "sorted" = none
  b_str : mg "str" = none
  b_sum : mg "sum" = none
  b_tuple : mg "tuple" = none
  c_0 : Cls K (cl 0)
  c_1 : Cls K (cl 1)
  g_MOST_LINES : MgI mg "MOST_LINES" 10
  g_MOST_OF_ONE : MgI mg "MOST_OF_ONE" 4
  g_MOST_SIDES : MgI mg "MOST_SIDES" 4
  g_THEN : MgS mg "THEN" "then"
  g_UNLIKE : MgS mg "UNLIKE" "unlike"
  n_0_held : NoAttr K (cl 0) "held"
  n_0_many : NoAttr K (cl 0) "many"
  n_0_owner : NoAttr K (cl 0) "owner"
  n_0_rules : NoAttr K (cl 0) "rules"
  n_0_sides : NoAttr K (cl 0) "sides"
  n_0_spot : NoAttr K (cl 0) "spot"
  n_0_threes : NoAttr K (cl 0) "threes"
  n_1_laid : NoAttr K (cl 1) "laid"
  n_1_order : NoAttr K (cl 1) "order"
  n_1_outline : NoAttr K (cl 1) "outline"

section
variable {P : Program} {w : World} {K : PySem.W.Frag} {cl : RR.Ctx} {mg : Str → Option Value} {base : Heap}
abbrev s_is_number : Stmt := topS 13
theorem sc_is_number : FnScope N_is_number ["part", "low", "high"] (defScope s_is_number) := ⟨rfl, rfl, rfl, by decide +kernel, rfl, by decide +kernel, by decide +kernel⟩

abbrev s_need_sides : Stmt := topS 14
theorem sc_need_sides : FnScope N_need_sides ["sides", "exact"] (defScope s_need_sides) := ⟨rfl, rfl, rfl, by decide +kernel, rfl, by decide +kernel, by decide +kernel⟩

abbrev s_owners : Stmt := topS 15
theorem sc_owners : FnScope N_owners ["sides"] (defScope s_owners) := ⟨rfl, rfl, rfl, by decide +kernel, rfl, by decide +kernel, by decide +kernel⟩

abbrev s_Outline_are_unlike : Stmt := inClass (topS 16) 1
theorem sc_Outline_are_unlike : FnScope N_Outline_are_unlike ["self", "lines"] (defScope s_Outline_are_unlike) := ⟨rfl, rfl, rfl, by decide +kernel, rfl, by decide +kernel, by decide +kernel⟩

abbrev s_Outline_rule_of : Stmt := inClass (topS 16) 3
theorem sc_Outline_rule_of : FnScope N_Outline_rule_of ["self", "four"] (defScope s_Outline_rule_of) := ⟨rfl, rfl, rfl, by decide +kernel, rfl, by decide +kernel, by decide +kernel⟩

abbrev s_Outline_all_rules : Stmt := inClass (topS 16) 2
theorem sc_Outline_all_rules : FnScope N_Outline_all_rules ["self"] (defScope s_Outline_all_rules) := ⟨rfl, rfl, rfl, by decide +kernel, rfl, by decide +kernel, by decide +kernel⟩

abbrev s_Outline___init__ : Stmt := inClass (topS 16) 0
theorem sc_Outline___init__ : FnScope N_Outline___init__ ["self", "sides"] (defScope s_Outline___init__) := ⟨rfl, rfl, rfl, by decide +kernel, rfl, by decide +kernel, by decide +kernel⟩

abbrev s_Outline_is_barred : Stmt := inClass (topS 16) 4
theorem sc_Outline_is_barred : FnScope N_Outline_is_barred ["self", "code", "rule"] (defScope s_Outline_is_barred) := ⟨rfl, rfl, rfl, by decide +kernel, rfl, by decide +kernel, by decide +kernel⟩

abbrev s_Outline_first_bar : Stmt := inClass (topS 16) 5
theorem sc_Outline_first_bar : FnScope N_Outline_first_bar ["self", "code"] (defScope s_Outline_first_bar) := ⟨rfl, rfl, rfl, by decide +kernel, rfl, by decide +kernel, by decide +kernel⟩

abbrev s_Outline_bits_of : Stmt := inClass (topS 16) 7
theorem sc_Outline_bits_of : FnScope N_Outline_bits_of ["self", "threes"] (defScope s_Outline_bits_of) := ⟨rfl, rfl, rfl, by decide +kernel, rfl, by decide +kernel, by decide +kernel⟩

abbrev s_Outline_threes_of : Stmt := inClass (topS 16) 8
theorem sc_Outline_threes_of : FnScope N_Outline_threes_of ["self", "code"] (defScope s_Outline_threes_of) := ⟨rfl, rfl, rfl, by decide +kernel, rfl, by decide +kernel, by decide +kernel⟩

abbrev s_Pass___init__ : Stmt := inClass (topS 18) 0
theorem sc_Pass___init__ : FnScope N_Pass___init__ ["self", "outline"] (defScope s_Pass___init__) := ⟨rfl, rfl, rfl, by decide +kernel, rfl, by decide +kernel, by decide +kernel⟩

abbrev s_Pass_can_lay : Stmt := inClass (topS 18) 1
theorem sc_Pass_can_lay : FnScope N_Pass_can_lay ["self", "place"] (defScope s_Pass_can_lay) := ⟨rfl, rfl, rfl, by decide +kernel, rfl, by decide +kernel, by decide +kernel⟩

abbrev s_Pass_foot : Stmt := inClass (topS 18) 2
theorem sc_Pass_foot : FnScope N_Pass_foot ["self", "place"] (defScope s_Pass_foot) := ⟨rfl, rfl, rfl, by decide +kernel, rfl, by decide +kernel, by decide +kernel⟩

abbrev s_Pass_lay : Stmt := inClass (topS 18) 3
theorem sc_Pass_lay : FnScope N_Pass_lay ["self", "place"] (defScope s_Pass_lay) := ⟨rfl, rfl, rfl, by decide +kernel, rfl, by decide +kernel, by decide +kernel⟩

abbrev s_Pass_is_over : Stmt := inClass (topS 18) 4
theorem sc_Pass_is_over : FnScope N_Pass_is_over ["self"] (defScope s_Pass_is_over) := ⟨rfl, rfl, rfl, by decide +kernel, rfl, by decide +kernel, by decide +kernel⟩

abbrev s_passed : Stmt := topS 19
theorem sc_passed : FnScope N_passed ["outline", "row"] (defScope s_passed) := ⟨rfl, rfl, rfl, by decide +kernel, rfl, by decide +kernel, by decide +kernel⟩

abbrev s_code_of : Stmt := topS 20
theorem sc_code_of : FnScope N_code_of ["outline", "row"] (defScope s_code_of) := ⟨rfl, rfl, rfl, by decide +kernel, rfl, by decide +kernel, by decide +kernel⟩

abbrev s_is_beneath : Stmt := topS 21
theorem sc_is_beneath : FnScope N_is_beneath ["outline", "code", "line", "pair"] (defScope s_is_beneath) := ⟨rfl, rfl, rfl, by decide +kernel, rfl, by decide +kernel, by decide +kernel⟩

abbrev s_least_of : Stmt := topS 22
theorem sc_least_of : FnScope N_least_of ["outline", "code"] (defScope s_least_of) := ⟨rfl, rfl, rfl, by decide +kernel, rfl, by decide +kernel, by decide +kernel⟩

abbrev s_opened : Stmt := topS 23
theorem sc_opened : FnScope N_opened ["sides", "row"] (defScope s_opened) := ⟨rfl, rfl, rfl, by decide +kernel, rfl, by decide +kernel, by decide +kernel⟩

abbrev s_is_three : Stmt := topS 26
theorem sc_is_three : FnScope N_is_three ["outline", "three"] (defScope s_is_three) := ⟨rfl, rfl, rfl, by decide +kernel, rfl, by decide +kernel, by decide +kernel⟩

abbrev s_need_threes : Stmt := topS 25
theorem sc_need_threes : FnScope N_need_threes ["outline", "threes"] (defScope s_need_threes) := ⟨rfl, rfl, rfl, by decide +kernel, rfl, by decide +kernel, by decide +kernel⟩

abbrev s_highs : Stmt := topS 27
theorem sc_highs : FnScope N_highs ["sides", "row"] (defScope s_highs) := ⟨rfl, rfl, rfl, by decide +kernel, rfl, by decide +kernel, by decide +kernel⟩

abbrev s_floor_of : Stmt := topS 28
theorem sc_floor_of : FnScope N_floor_of ["sides", "threes"] (defScope s_floor_of) := ⟨rfl, rfl, rfl, by decide +kernel, rfl, by decide +kernel, by decide +kernel⟩

abbrev s__law_row : Stmt := topS 30
theorem sc__law_row : FnScope N__law_row ["_law_script"] (defScope s__law_row) := ⟨rfl, rfl, rfl, by decide +kernel, rfl, by decide +kernel, by decide +kernel⟩

abbrev s__law_taken : Stmt := topS 31
theorem sc__law_taken : FnScope N__law_taken ["_law_row_here", "_law_many"] (defScope s__law_taken) := ⟨rfl, rfl, rfl, by decide +kernel, rfl, by decide +kernel, by decide +kernel⟩

abbrev s__law_pairs : Stmt := topS 32
theorem sc__law_pairs : FnScope N__law_pairs ["_law_sides_here"] (defScope s__law_pairs) := ⟨rfl, rfl, rfl, by decide +kernel, rfl, by decide +kernel, by decide +kernel⟩

abbrev s__law_sides : Stmt := topS 33
theorem sc__law_sides : FnScope N__law_sides ["_law_row_here", "_law_most"] (defScope s__law_sides) := ⟨rfl, rfl, rfl, by decide +kernel, rfl, by decide +kernel, by decide +kernel⟩

abbrev s__law_owner : Stmt := topS 34
theorem sc__law_owner : FnScope N__law_owner ["_law_sides_here"] (defScope s__law_owner) := ⟨rfl, rfl, rfl, by decide +kernel, rfl, by decide +kernel, by decide +kernel⟩

abbrev s__law_can : Stmt := topS 35
theorem sc__law_can : FnScope N__law_can ["_law_owner_here", "_law_order", "_law_place"] (defScope s__law_can) := ⟨rfl, rfl, rfl, by decide +kernel, rfl, by decide +kernel, by decide +kernel⟩

abbrev s__law_any : Stmt := topS 36
theorem sc__law_any : FnScope N__law_any ["_law_row_here", "_law_sides_here"] (defScope s__law_any) := ⟨rfl, rfl, rfl, by decide +kernel, rfl, by decide +kernel, by decide +kernel⟩

abbrev s__law_laid : Stmt := topS 37
theorem sc__law_laid : FnScope N__law_laid ["_law_sides_here", "_law_told"] (defScope s__law_laid) := ⟨rfl, rfl, rfl, by decide +kernel, rfl, by decide +kernel, by decide +kernel⟩

abbrev s__law_highs : Stmt := topS 38
theorem sc__law_highs : FnScope N__law_highs ["_law_sides_here", "_law_told"] (defScope s__law_highs) := ⟨rfl, rfl, rfl, by decide +kernel, rfl, by decide +kernel, by decide +kernel⟩

abbrev s__law_alike : Stmt := topS 39
theorem sc__law_alike : FnScope N__law_alike ["_law_found", "_law_due"] (defScope s__law_alike) := ⟨rfl, rfl, rfl, by decide +kernel, rfl, by decide +kernel, by decide +kernel⟩

abbrev s__law_least : Stmt := topS 40
theorem sc__law_least : FnScope N__law_least ["_law_told"] (defScope s__law_least) := ⟨rfl, rfl, rfl, by decide +kernel, rfl, by decide +kernel, by decide +kernel⟩

abbrev s_law : Stmt := topS 41
theorem sc_law : FnScope N_law ["_law_script"] (defScope s_law) := ⟨rfl, rfl, rfl, by decide +kernel, rfl, by decide +kernel, by decide +kernel⟩

abbrev s_least_of__is_next : Stmt := inDef s_least_of 1

theorem ok_is_number {f : Addr} {fd : FuncData} (F : FunD K "is_number" "is_number" (defArgs s_is_number) (defBody s_is_number) (defScope s_is_number) [] [] f fd) (T : Tx K cl mg)  : FnD P w K cl mg base 1 f fd ["part", "low", "high"] sem_is_number := by
  refine FnD.mkD (body := b_is_number) T.pl F sc_is_number (fun cdv A outer s H E hr => ?_) lv_is_number
  have nd := sc_is_number.nd
  have hu := hr.units
  have hu1 := hu_of hr
  have tk := takes_of (X := cxOf (L2.CX P w) P w K mg base N_is_number "is_number" (defScope s_is_number) f cdv A outer s H E) rfl rfl rfl rfl
  have hp := passes_of (X := cxOf (L2.CX P w) P w K mg base N_is_number "is_number" (defScope s_is_number) f cdv A outer s H E) rfl
  exact (vb_one (vs_ret (pv_andv (pv_isi (by rfl) T.b_isinstance (va_cons (pv_var 0) (va_cons (pv_type (by rfl) T.b_int boot_int) va_nil))) (pv_andv (pv_notv (pv_isi (by rfl) T.b_isinstance (va_cons (pv_var 0) (va_cons (pv_type (by rfl) T.b_bool boot_bool) va_nil)))) (pv_one (pv_chain op_le op_le o_le o_le (pv_var 1) (pv_var 0) (pv_var 2)))))))

theorem ok_need_sides {f : Addr} {fd : FuncData} (F : FunD K "need_sides" "need_sides" (defArgs s_need_sides) (defBody s_need_sides) (defScope s_need_sides) [.int 0] [] f fd) (T : Tx K cl mg) (E_is_number : Ent P w K cl mg base "is_number" 1 ["part", "low", "high"] [] sem_is_number) : FnD P w K cl mg base 2 f fd ["sides", "exact"] sem_need_sides := by
  refine FnD.mkD (body := b_need_sides) T.pl F sc_need_sides (fun cdv A outer s H E hr => ?_) lv_need_sides
  have nd := sc_need_sides.nd
  have hu := hr.units
  have hu1 := hu_of hr
  have tk := takes_of (X := cxOf (L2.CX P w) P w K mg base N_need_sides "need_sides" (defScope s_need_sides) f cdv A outer s H E) rfl rfl rfl rfl
  have hp := passes_of (X := cxOf (L2.CX P w) P w K mg base N_need_sides "need_sides" (defScope s_need_sides) f cdv A outer s H E) rfl
  exact (vb_cons (vs_if (pt_wh (pw_o2 (pt_no (pt_v (pv_isi (by rfl) T.b_isinstance (va_cons (pv_var 0) (va_cons (pv_type (by rfl) T.b_tuple boot_tuple) va_nil))))) (pw_o2 (pt_no (pvt_chain op_le op_le o_le o_le pv_int (pv_len (by rfl) T.b_len (va_cons (pv_var 0) va_nil)) (T.g_MOST_SIDES.int (by rfl)))) (pw_o1 (pt_notin (pv_var 1) (pv_tup (va_cons pv_int (va_cons (pv_len (by rfl) T.b_len (va_cons (pv_var 0) va_nil)) va_nil))))))))
    (vb_one vs_no)
    vb_nil)
    (vb_one (vs_if (pt_wh (pw_o2 (pt_no (pt_v (pv_all rfl (by rfl) T.b_all (va_cons (pv_leave 1 (pv_lc (own := [("many", 2)]) rfl nd (vi_tup (pv_var 0)) (blkOk_by (N := N_need_sides) (sc := (defScope s_need_sides)) (by decide +kernel)) (fun _ _ _ _ _ => (vg_name (i := 2) nd rfl (Or.inl rfl))) (fun _ _ _ _ _ => vts_nil) (fun _ _ _ _ _ => (pc_fn E_is_number ar_is_number (hr.mono (by decide)) (by rfl) takes0 (va_cons (pv_var 2) (va_cons pv_int (va_cons (T.g_MOST_OF_ONE.int (by rfl)) va_nil))))))) va_nil)))) (pw_o1 (pt_no (pvt_chain op_le op_le o_le o_le pv_int (pv_sum rfl (by rfl) T.b_sum (va_cons (pv_var 0) va_nil)) (T.g_MOST_LINES.int (by rfl)))))))
    (vb_one vs_no)
    vb_nil)))

theorem ok_owners {f : Addr} {fd : FuncData} (F : FunD K "owners" "owners" (defArgs s_owners) (defBody s_owners) (defScope s_owners) [] [] f fd) (T : Tx K cl mg)  : FnD P w K cl mg base 1 f fd ["sides"] sem_owners := by
  refine FnD.mkD (body := b_owners) T.pl F sc_owners (fun cdv A outer s H E hr => ?_) lv_owners
  have nd := sc_owners.nd
  have hu := hr.units
  have hu1 := hu_of hr
  have tk := takes_of (X := cxOf (L2.CX P w) P w K mg base N_owners "owners" (defScope s_owners) f cdv A outer s H E) rfl rfl rfl rfl
  have hp := passes_of (X := cxOf (L2.CX P w) P w K mg base N_owners "owners" (defScope s_owners) f cdv A outer s H E) rfl
  exact (vb_cons (vs_set (i := 1) nd rfl (Or.inl rfl) (pv_newl va_nil))
    (vb_cons (vs_for hp rfl (vi_enumT (by rfl) T.b_enumerate (va_cons (pv_var 0) va_nil)) (vg_tup rfl (vgs_cons (vg_name (i := 2) nd rfl (Or.inl rfl)) (vgs_cons (vg_name (i := 3) nd rfl (Or.inl rfl)) vgs_nil)))
    (vb_one (vs_expr (pv_extend (pv_var 1) (va_cons (pv_mul (pv_lst (va_cons (pv_var 2) va_nil)) (pv_var 3)) va_nil)))))
    (vb_one (vs_ret (pv_var 1)))))

theorem ok_Outline_are_unlike {f : Addr} {fd : FuncData} (F : FunD K "are_unlike" "Outline.are_unlike" (defArgs s_Outline_are_unlike) (defBody s_Outline_are_unlike) (defScope s_Outline_are_unlike) [] [] f fd) (T : Tx K cl mg)  : FnD P w K cl mg base 1 f fd ["self", "lines"] sem_Outline_are_unlike := by
  refine FnD.mkD (body := b_Outline_are_unlike) T.pl F sc_Outline_are_unlike (fun cdv A outer s H E hr => ?_) lv_Outline_are_unlike
  have nd := sc_Outline_are_unlike.nd
  have hu := hr.units
  have hu1 := hu_of hr
  have tk := takes_of (X := cxOf (L2.CX P w) P w K mg base N_Outline_are_unlike "Outline.are_unlike" (defScope s_Outline_are_unlike) f cdv A outer s H E) rfl rfl rfl rfl
  have hp := passes_of (X := cxOf (L2.CX P w) P w K mg base N_Outline_are_unlike "Outline.are_unlike" (defScope s_Outline_are_unlike) f cdv A outer s H E) rfl
  exact (vb_one (vs_ret (pv_all rfl (by rfl) T.b_all (va_cons (pv_leave 1 (pv_lc (own := [("k", 2)]) rfl nd (vi_range1 (by rfl) T.b_range (va_cons (pv_sub (pv_len (by rfl) T.b_len (va_cons (pv_var 1) va_nil)) pv_int) va_nil)) (blkOk_by (N := N_Outline_are_unlike) (sc := (defScope s_Outline_are_unlike)) (by decide +kernel)) (fun _ _ _ _ _ => (vg_name (i := 2) nd rfl (Or.inl rfl))) (fun _ _ _ _ _ => vts_nil) (fun _ _ _ _ _ => (pv_ne hu (pv_ix (pv_fld T.c_0 T.n_0_owner (pv_var 0)) (pv_ix (pv_var 1) (pv_var 2))) (pv_ix (pv_fld T.c_0 T.n_0_owner (pv_var 0)) (pv_ix (pv_var 1) (pv_add (pv_var 2) pv_int))))))) va_nil))))

theorem ok_Outline_rule_of {f : Addr} {fd : FuncData} (F : FunD K "rule_of" "Outline.rule_of" (defArgs s_Outline_rule_of) (defBody s_Outline_rule_of) (defScope s_Outline_rule_of) [] [] f fd) (T : Tx K cl mg)  : FnD P w K cl mg base 1 f fd ["self", "four"] sem_Outline_rule_of := by
  refine FnD.mkD (body := b_Outline_rule_of) T.pl F sc_Outline_rule_of (fun cdv A outer s H E hr => ?_) lv_Outline_rule_of
  have nd := sc_Outline_rule_of.nd
  have hu := hr.units
  have hu1 := hu_of hr
  have tk := takes_of (X := cxOf (L2.CX P w) P w K mg base N_Outline_rule_of "Outline.rule_of" (defScope s_Outline_rule_of) f cdv A outer s H E) rfl rfl rfl rfl
  have hp := passes_of (X := cxOf (L2.CX P w) P w K mg base N_Outline_rule_of "Outline.rule_of" (defScope s_Outline_rule_of) f cdv A outer s H E) rfl
  exact (vb_cons (vs_asg (pv_var 1) (vg_tup rfl (vgs_cons (vg_name (i := 2) nd rfl (Or.inl rfl)) (vgs_cons (vg_name (i := 3) nd rfl (Or.inl rfl)) (vgs_cons (vg_name (i := 4) nd rfl (Or.inl rfl)) (vgs_cons (vg_name (i := 5) nd rfl (Or.inl rfl)) vgs_nil))))))
    (vb_cons (vs_setLcL (i := 6) (k := 1) (own := [("k", 7)]) rfl nd rfl rfl (sw_true rfl rfl rfl (by decide +kernel)) (vi_range1 (by rfl) T.b_range (va_cons pv_int va_nil)) (blkOk_by (N := N_Outline_rule_of) (sc := (defScope s_Outline_rule_of)) (by decide +kernel)) (fun _ _ _ _ _ => (vg_name (i := 7) nd rfl (Or.inl rfl))) (fun _ _ _ _ _ => (vts_one (pt_eq hu (pv_ix (pv_fld T.c_0 T.n_0_owner (pv_var 0)) (pv_ix (pv_var 1) (pv_var 7))) (pv_ix (pv_fld T.c_0 T.n_0_owner (pv_var 0)) (pv_ix (pv_var 1) (pv_add (pv_var 7) pv_int)))))) (fun _ _ _ _ _ => (pv_var 7)))
    (vb_cons (vs_if (pt_eq hu (pv_var 6) (pv_lst va_nil))
    (vb_one (vs_ret (pv_tup (va_cons (pv_var 1) (va_cons (T.g_UNLIKE.str (by rfl)) (va_cons (pv_tupOf (by rfl) T.b_tuple (va_cons (pv_leave 1 (pv_lc (own := [("three", 8)]) rfl nd (vi_tup (pv_tup (va_cons (pv_tup (va_cons (pv_var 2) (va_cons (pv_var 3) (va_cons (pv_var 4) va_nil)))) (va_cons (pv_tup (va_cons (pv_var 2) (va_cons (pv_var 3) (va_cons (pv_var 5) va_nil)))) (va_cons (pv_tup (va_cons (pv_var 2) (va_cons (pv_var 4) (va_cons (pv_var 5) va_nil)))) (va_cons (pv_tup (va_cons (pv_var 3) (va_cons (pv_var 4) (va_cons (pv_var 5) va_nil)))) va_nil)))))) (blkOk_by (N := N_Outline_rule_of) (sc := (defScope s_Outline_rule_of)) (by decide +kernel)) (fun _ _ _ _ _ => (vg_name (i := 8) nd rfl (Or.inl rfl))) (fun _ _ _ _ _ => vts_nil) (fun _ _ _ _ _ => (pv_dget hu1 (pv_fld T.c_0 T.n_0_spot (pv_var 0)) (pv_var 8))))) va_nil)) va_nil))))))
    vb_nil)
    (vb_cons (vs_if (pt_gt (pv_len (by rfl) T.b_len (va_cons (pv_var 6) va_nil)) pv_int)
    (vb_one (vs_ret pv_non))
    vb_nil)
    (vb_cons (vs_set (i := 9) nd rfl (Or.inl rfl) (pv_tup (va_cons (pv_tup (va_cons (pv_tup (va_cons (pv_var 3) (va_cons (pv_var 4) (va_cons (pv_var 5) va_nil)))) (va_cons (pv_tup (va_cons (pv_var 2) (va_cons (pv_var 4) (va_cons (pv_var 5) va_nil)))) va_nil))) (va_cons (pv_tup (va_cons (pv_tup (va_cons (pv_var 2) (va_cons (pv_var 3) (va_cons (pv_var 5) va_nil)))) (va_cons (pv_tup (va_cons (pv_var 2) (va_cons (pv_var 4) (va_cons (pv_var 5) va_nil)))) va_nil))) (va_cons (pv_tup (va_cons (pv_tup (va_cons (pv_var 2) (va_cons (pv_var 3) (va_cons (pv_var 5) va_nil)))) (va_cons (pv_tup (va_cons (pv_var 2) (va_cons (pv_var 3) (va_cons (pv_var 4) va_nil)))) va_nil))) va_nil)))))
    (vb_one (vs_ret (pv_tup (va_cons (pv_var 1) (va_cons (T.g_THEN.str (by rfl)) (va_cons (pv_tupOf (by rfl) T.b_tuple (va_cons (pv_leave 1 (pv_lc (own := [("three", 8)]) rfl nd (vi_tup (pv_ix (pv_var 9) (pv_ix (pv_var 6) pv_int))) (blkOk_by (N := N_Outline_rule_of) (sc := (defScope s_Outline_rule_of)) (by decide +kernel)) (fun _ _ _ _ _ => (vg_name (i := 8) nd rfl (Or.inl rfl))) (fun _ _ _ _ _ => vts_nil) (fun _ _ _ _ _ => (pv_dget hu1 (pv_fld T.c_0 T.n_0_spot (pv_var 0)) (pv_var 8))))) va_nil)) va_nil)))))))))))

theorem ok_Outline_all_rules {f : Addr} {fd : FuncData} (F : FunD K "all_rules" "Outline.all_rules" (defArgs s_Outline_all_rules) (defBody s_Outline_all_rules) (defScope s_Outline_all_rules) [] [] f fd) (T : Tx K cl mg) (M_Outline_rule_of : EntM P w K cl mg base 0 "rule_of" 1 ["self", "four"] sem_Outline_rule_of) : FnD P w K cl mg base 2 f fd ["self"] sem_Outline_all_rules := by
  refine FnD.mkD (body := b_Outline_all_rules) T.pl F sc_Outline_all_rules (fun cdv A outer s H E hr => ?_) lv_Outline_all_rules
  have nd := sc_Outline_all_rules.nd
  have hu := hr.units
  have hu1 := hu_of hr
  have tk := takes_of (X := cxOf (L2.CX P w) P w K mg base N_Outline_all_rules "Outline.all_rules" (defScope s_Outline_all_rules) f cdv A outer s H E) rfl rfl rfl rfl
  have hp := passes_of (X := cxOf (L2.CX P w) P w K mg base N_Outline_all_rules "Outline.all_rules" (defScope s_Outline_all_rules) f cdv A outer s H E) rfl
  exact (vb_cons (vs_set (i := 1) nd rfl (Or.inl rfl) (pv_newl va_nil))
    (vb_cons (vs_for hp rfl (vi_range1 (by rfl) T.b_range (va_cons (pv_fld T.c_0 T.n_0_many (pv_var 0)) va_nil)) (vg_name (i := 2) nd rfl (Or.inr rfl))
    (vb_one (vs_for hp rfl (vi_range2 (by rfl) T.b_range (va_cons (pv_add (pv_var 2) pv_int) (va_cons (pv_fld T.c_0 T.n_0_many (pv_var 0)) va_nil))) (vg_name (i := 3) nd rfl (Or.inr rfl))
    (vb_one (vs_for hp rfl (vi_range2 (by rfl) T.b_range (va_cons (pv_add (pv_var 3) pv_int) (va_cons (pv_fld T.c_0 T.n_0_many (pv_var 0)) va_nil))) (vg_name (i := 4) nd rfl (Or.inr rfl))
    (vb_cons (vs_setLcL (i := 5) (k := 1) (own := [("d", 6)]) rfl nd rfl rfl (sw_true rfl rfl rfl (by decide +kernel)) (vi_range2 (by rfl) T.b_range (va_cons (pv_add (pv_var 4) pv_int) (va_cons (pv_fld T.c_0 T.n_0_many (pv_var 0)) va_nil))) (blkOk_by (N := N_Outline_all_rules) (sc := (defScope s_Outline_all_rules)) (by decide +kernel)) (fun _ _ _ _ _ => (vg_name (i := 6) nd rfl (Or.inl rfl))) (fun _ _ _ _ _ => vts_nil) (fun _ _ _ _ _ => (pv_tup (va_cons (pv_var 2) (va_cons (pv_var 3) (va_cons (pv_var 4) (va_cons (pv_var 6) va_nil)))))))
    (vb_one (vs_expr (pv_extend (pv_var 1) (va_cons (pv_leave 1 (pv_lc (own := [("rule", 8)]) rfl nd (vi_list (pv_leave 1 (pv_lc (own := [("four", 7)]) rfl nd (vi_list (pv_var 5)) (blkOk_by (N := N_Outline_all_rules) (sc := (defScope s_Outline_all_rules)) (by decide +kernel)) (fun _ _ _ _ _ => (vg_name (i := 7) nd rfl (Or.inl rfl))) (fun _ _ _ _ _ => vts_nil) (fun _ _ _ _ _ => (pc_mt M_Outline_rule_of T.c_0 ar_Outline_rule_of (hr.mono (by decide)) (pv_var 0) takes0 (va_cons (pv_var 7) va_nil)))))) (blkOk_by (N := N_Outline_all_rules) (sc := (defScope s_Outline_all_rules)) (by decide +kernel)) (fun _ _ _ _ _ => (vg_name (i := 8) nd rfl (Or.inl rfl))) (fun _ _ _ _ _ => (vts_one (pt_notN (pv_var 8)))) (fun _ _ _ _ _ => (pv_var 8)))) va_nil))))))))))
    (vb_one (vs_ret (pv_var 1)))))

theorem ok_Outline___init__ {f : Addr} {fd : FuncData} (F : FunD K "__init__" "Outline.__init__" (defArgs s_Outline___init__) (defBody s_Outline___init__) (defScope s_Outline___init__) [] [] f fd) (T : Tx K cl mg) (E_owners : Ent P w K cl mg base "owners" 1 ["sides"] [] sem_owners) (M_Outline_are_unlike : EntM P w K cl mg base 0 "are_unlike" 1 ["self", "lines"] sem_Outline_are_unlike) (M_Outline_all_rules : EntM P w K cl mg base 0 "all_rules" 2 ["self"] sem_Outline_all_rules) : FnD P w K cl mg base 3 f fd ["self", "sides"] sem_Outline___init__ := by
  refine FnD.mkD (body := b_Outline___init__) T.pl F sc_Outline___init__ (fun cdv A outer s H E hr => ?_) lv_Outline___init__
  have nd := sc_Outline___init__.nd
  have hu := hr.units
  have hu1 := hu_of hr
  have tk := takes_of (X := cxOf (L2.CX P w) P w K mg base N_Outline___init__ "Outline.__init__" (defScope s_Outline___init__) f cdv A outer s H E) rfl rfl rfl rfl
  have hp := passes_of (X := cxOf (L2.CX P w) P w K mg base N_Outline___init__ "Outline.__init__" (defScope s_Outline___init__) f cdv A outer s H E) rfl
  exact (vb_cons (vs_fld T.c_0 T.n_0_sides (pv_var 0) (pv_var 1))
    (vb_cons (vs_fld T.c_0 T.n_0_owner (pv_var 0) (pc_fn E_owners ar_owners (hr.mono (by decide)) (by rfl) tk (va_cons (pv_var 1) va_nil)))
    (vb_cons (vs_fld T.c_0 T.n_0_many (pv_var 0) (pv_len (by rfl) T.b_len (va_cons (pv_fld T.c_0 T.n_0_owner (pv_var 0)) va_nil)))
    (vb_cons (vs_fld T.c_0 T.n_0_threes (pv_var 0) (pv_newl va_nil))
    (vb_cons (vs_for hp rfl (vi_range1 (by rfl) T.b_range (va_cons (pv_fld T.c_0 T.n_0_many (pv_var 0)) va_nil)) (vg_name (i := 2) nd rfl (Or.inr rfl))
    (vb_one (vs_for hp rfl (vi_range2 (by rfl) T.b_range (va_cons (pv_add (pv_var 2) pv_int) (va_cons (pv_fld T.c_0 T.n_0_many (pv_var 0)) va_nil))) (vg_name (i := 3) nd rfl (Or.inr rfl))
    (vb_one (vs_expr (pv_extend (pv_fld T.c_0 T.n_0_threes (pv_var 0)) (va_cons (pv_leave 1 (pv_lc (own := [("c", 4)]) rfl nd (vi_range2 (by rfl) T.b_range (va_cons (pv_add (pv_var 3) pv_int) (va_cons (pv_fld T.c_0 T.n_0_many (pv_var 0)) va_nil))) (blkOk_by (N := N_Outline___init__) (sc := (defScope s_Outline___init__)) (by decide +kernel)) (fun _ _ _ _ _ => (vg_name (i := 4) nd rfl (Or.inl rfl))) (fun _ _ _ _ _ => (vts_one (pt_v (pc_mt M_Outline_are_unlike T.c_0 ar_Outline_are_unlike (hr.mono (by decide)) (pv_var 0) takes0 (va_cons (pv_tup (va_cons (pv_var 2) (va_cons (pv_var 3) (va_cons (pv_var 4) va_nil)))) va_nil))))) (fun _ _ _ _ _ => (pv_tup (va_cons (pv_var 2) (va_cons (pv_var 3) (va_cons (pv_var 4) va_nil))))))) va_nil)))))))
    (vb_cons (vs_fld T.c_0 T.n_0_spot (pv_var 0) pv_newT)
    (vb_cons (vs_for hp rfl (vi_enum (by rfl) T.b_enumerate (va_cons (pv_fld T.c_0 T.n_0_threes (pv_var 0)) va_nil)) (vg_tup rfl (vgs_cons (vg_name (i := 5) nd rfl (Or.inl rfl)) (vgs_cons (vg_name (i := 6) nd rfl (Or.inl rfl)) vgs_nil)))
    (vb_one (vs_dput (hu := hu1) (pv_fld T.c_0 T.n_0_spot (pv_var 0)) (pv_var 6) (pv_var 5))))
    (vb_cons (vs_fld T.c_0 T.n_0_rules (pv_var 0) (pc_mt0 M_Outline_all_rules T.c_0 ar_Outline_all_rules (hr.mono (by decide)) (pv_var 0) tk))
    (vb_one (vs_fld T.c_0 T.n_0_held (pv_var 0) (pv_leave 1 (pv_lc (own := [("number", 5)]) rfl nd (vi_range1 (by rfl) T.b_range (va_cons (pv_len (by rfl) T.b_len (va_cons (pv_fld T.c_0 T.n_0_threes (pv_var 0)) va_nil)) va_nil)) (blkOk_by (N := N_Outline___init__) (sc := (defScope s_Outline___init__)) (by decide +kernel)) (fun _ _ _ _ _ => (vg_name (i := 5) nd rfl (Or.inr rfl))) (fun _ _ _ _ _ => vts_nil) (fun _ _ _ _ _ => (pv_leave 1 (pv_lc (own := [("rule", 7)]) rfl nd (vi_list (pv_fld T.c_0 T.n_0_rules (pv_var 0))) (blkOk_by (N := N_Outline___init__) (sc := (relS _ (defScope s_Outline___init__))) (by decide +kernel)) (fun _ _ _ _ _ => (vg_name (i := 7) nd rfl (Or.inl rfl))) (fun _ _ _ _ _ => (vts_one (pt_in (pv_var 5) (pv_ix (pv_var 7) pv_int)))) (fun _ _ _ _ _ => (pv_var 7)))))))))))))))))

theorem ok_Outline_is_barred {f : Addr} {fd : FuncData} (F : FunD K "is_barred" "Outline.is_barred" (defArgs s_Outline_is_barred) (defBody s_Outline_is_barred) (defScope s_Outline_is_barred) [] [] f fd) (T : Tx K cl mg)  : FnD P w K cl mg base 1 f fd ["self", "code", "rule"] sem_Outline_is_barred := by
  refine FnD.mkD (body := b_Outline_is_barred) T.pl F sc_Outline_is_barred (fun cdv A outer s H E hr => ?_) lv_Outline_is_barred
  have nd := sc_Outline_is_barred.nd
  have hu := hr.units
  have hu1 := hu_of hr
  have tk := takes_of (X := cxOf (L2.CX P w) P w K mg base N_Outline_is_barred "Outline.is_barred" (defScope s_Outline_is_barred) f cdv A outer s H E) rfl rfl rfl rfl
  have hp := passes_of (X := cxOf (L2.CX P w) P w K mg base N_Outline_is_barred "Outline.is_barred" (defScope s_Outline_is_barred) f cdv A outer s H E) rfl
  exact (vb_cons (vs_set (i := 3) nd rfl (Or.inr rfl) (pv_leave 1 (pv_lc (own := [("number", 4)]) rfl nd (vi_tup (pv_ix (pv_var 2) pv_int)) (blkOk_by (N := N_Outline_is_barred) (sc := (defScope s_Outline_is_barred)) (by decide +kernel)) (fun _ _ _ _ _ => (vg_name (i := 4) nd rfl (Or.inl rfl))) (fun _ _ _ _ _ => vts_nil) (fun _ _ _ _ _ => (pv_and (pv_shr (pv_var 1) (pv_var 4)) pv_int)))))
    (vb_cons (vs_if (pt_eq hu (pv_ix (pv_var 2) pv_int) (T.g_THEN.str (by rfl)))
    (vb_one (vs_ret (pv_andv (pv_eq hu (pv_ix (pv_var 3) pv_int) pv_int) (pv_one (pv_eq hu (pv_ix (pv_var 3) pv_int) pv_int)))))
    vb_nil)
    (vb_one (vs_ret (pv_gt (pv_len (by rfl) T.b_len (va_cons (pv_leave 1 (pv_lc (own := [("k", 5)]) rfl nd (vi_range1 (by rfl) T.b_range (va_cons pv_int va_nil)) (blkOk_by (N := N_Outline_is_barred) (sc := (defScope s_Outline_is_barred)) (by decide +kernel)) (fun _ _ _ _ _ => (vg_name (i := 5) nd rfl (Or.inl rfl))) (fun _ _ _ _ _ => (vts_one (pt_ne hu (pv_ix (pv_var 3) (pv_var 5)) (pv_ix (pv_var 3) (pv_add (pv_var 5) pv_int))))) (fun _ _ _ _ _ => (pv_var 5)))) va_nil)) pv_int)))))

theorem ok_Outline_first_bar {f : Addr} {fd : FuncData} (F : FunD K "first_bar" "Outline.first_bar" (defArgs s_Outline_first_bar) (defBody s_Outline_first_bar) (defScope s_Outline_first_bar) [] [] f fd) (T : Tx K cl mg) (M_Outline_is_barred : EntM P w K cl mg base 0 "is_barred" 1 ["self", "code", "rule"] sem_Outline_is_barred) : FnD P w K cl mg base 2 f fd ["self", "code"] sem_Outline_first_bar := by
  refine FnD.mkD (body := b_Outline_first_bar) T.pl F sc_Outline_first_bar (fun cdv A outer s H E hr => ?_) lv_Outline_first_bar
  have nd := sc_Outline_first_bar.nd
  have hu := hr.units
  have hu1 := hu_of hr
  have tk := takes_of (X := cxOf (L2.CX P w) P w K mg base N_Outline_first_bar "Outline.first_bar" (defScope s_Outline_first_bar) f cdv A outer s H E) rfl rfl rfl rfl
  have hp := passes_of (X := cxOf (L2.CX P w) P w K mg base N_Outline_first_bar "Outline.first_bar" (defScope s_Outline_first_bar) f cdv A outer s H E) rfl
  exact (vb_cons (vs_for hp rfl (vi_list (pv_fld T.c_0 T.n_0_rules (pv_var 0))) (vg_name (i := 2) nd rfl (Or.inl rfl))
    (vb_one (vs_if (pt_v (pc_mt M_Outline_is_barred T.c_0 ar_Outline_is_barred (hr.mono (by decide)) (pv_var 0) tk (va_cons (pv_var 1) (va_cons (pv_var 2) va_nil))))
    (vb_one (vs_ret (pv_ix (pv_var 2) pv_int)))
    vb_nil)))
    (vb_one (vs_ret pv_non)))

theorem ok_Outline_bits_of {f : Addr} {fd : FuncData} (F : FunD K "bits_of" "Outline.bits_of" (defArgs s_Outline_bits_of) (defBody s_Outline_bits_of) (defScope s_Outline_bits_of) [] [] f fd) (T : Tx K cl mg)  : FnD P w K cl mg base 1 f fd ["self", "threes"] sem_Outline_bits_of := by
  refine FnD.mkD (body := b_Outline_bits_of) T.pl F sc_Outline_bits_of (fun cdv A outer s H E hr => ?_) lv_Outline_bits_of
  have nd := sc_Outline_bits_of.nd
  have hu := hr.units
  have hu1 := hu_of hr
  have tk := takes_of (X := cxOf (L2.CX P w) P w K mg base N_Outline_bits_of "Outline.bits_of" (defScope s_Outline_bits_of) f cdv A outer s H E) rfl rfl rfl rfl
  have hp := passes_of (X := cxOf (L2.CX P w) P w K mg base N_Outline_bits_of "Outline.bits_of" (defScope s_Outline_bits_of) f cdv A outer s H E) rfl
  exact (vb_cons (vs_set (i := 2) nd rfl (Or.inl rfl) pv_int)
    (vb_cons (vs_for hp rfl (vi_list (pv_var 1)) (vg_name (i := 3) nd rfl (Or.inl rfl))
    (vb_one (vs_aug (j := 2) ip_or nd rfl (Or.inl rfl) (pv_shl pv_int (pv_dget hu1 (pv_fld T.c_0 T.n_0_spot (pv_var 0)) (pv_var 3))))))
    (vb_one (vs_ret (pv_var 2)))))

theorem ok_Outline_threes_of {f : Addr} {fd : FuncData} (F : FunD K "threes_of" "Outline.threes_of" (defArgs s_Outline_threes_of) (defBody s_Outline_threes_of) (defScope s_Outline_threes_of) [] [] f fd) (T : Tx K cl mg)  : FnD P w K cl mg base 1 f fd ["self", "code"] sem_Outline_threes_of := by
  refine FnD.mkD (body := b_Outline_threes_of) T.pl F sc_Outline_threes_of (fun cdv A outer s H E hr => ?_) lv_Outline_threes_of
  have nd := sc_Outline_threes_of.nd
  have hu := hr.units
  have hu1 := hu_of hr
  have tk := takes_of (X := cxOf (L2.CX P w) P w K mg base N_Outline_threes_of "Outline.threes_of" (defScope s_Outline_threes_of) f cdv A outer s H E) rfl rfl rfl rfl
  have hp := passes_of (X := cxOf (L2.CX P w) P w K mg base N_Outline_threes_of "Outline.threes_of" (defScope s_Outline_threes_of) f cdv A outer s H E) rfl
  exact (vb_one (vs_ret (pv_lc (own := [("number", 2)]) rfl nd (vi_range1 (by rfl) T.b_range (va_cons (pv_bits (pv_var 1)) va_nil)) (blkOk_by (N := N_Outline_threes_of) (sc := (defScope s_Outline_threes_of)) (by decide +kernel)) (fun _ _ _ _ _ => (vg_name (i := 2) nd rfl (Or.inl rfl))) (fun _ _ _ _ _ => (vts_one (pt_eq hu (pv_and (pv_shr (pv_var 1) (pv_var 2)) pv_int) pv_int))) (fun _ _ _ _ _ => (pv_ix (pv_fld T.c_0 T.n_0_threes (pv_var 0)) (pv_var 2))))))

theorem ok_Pass___init__ {f : Addr} {fd : FuncData} (F : FunD K "__init__" "Pass.__init__" (defArgs s_Pass___init__) (defBody s_Pass___init__) (defScope s_Pass___init__) [] [] f fd) (T : Tx K cl mg)  : FnD P w K cl mg base 1 f fd ["self", "outline"] sem_Pass___init__ := by
  refine FnD.mkD (body := b_Pass___init__) T.pl F sc_Pass___init__ (fun cdv A outer s H E hr => ?_) lv_Pass___init__
  have nd := sc_Pass___init__.nd
  have hu := hr.units
  have hu1 := hu_of hr
  have tk := takes_of (X := cxOf (L2.CX P w) P w K mg base N_Pass___init__ "Pass.__init__" (defScope s_Pass___init__) f cdv A outer s H E) rfl rfl rfl rfl
  have hp := passes_of (X := cxOf (L2.CX P w) P w K mg base N_Pass___init__ "Pass.__init__" (defScope s_Pass___init__) f cdv A outer s H E) rfl
  exact (vb_cons (vs_fld T.c_1 T.n_1_outline (pv_var 0) (pv_var 1))
    (vb_cons (vs_fld T.c_1 T.n_1_order (pv_var 0) (pv_listRg1 (new := true) rfl (by rfl) T.b_list (by rfl) T.b_range (pv_fld T.c_0 T.n_0_many (pv_var 1))))
    (vb_one (vs_fld T.c_1 T.n_1_laid (pv_var 0) (pv_newl va_nil)))))

theorem ok_Pass_can_lay {f : Addr} {fd : FuncData} (F : FunD K "can_lay" "Pass.can_lay" (defArgs s_Pass_can_lay) (defBody s_Pass_can_lay) (defScope s_Pass_can_lay) [] [] f fd) (T : Tx K cl mg) (E_is_number : Ent P w K cl mg base "is_number" 1 ["part", "low", "high"] [] sem_is_number) : FnD P w K cl mg base 2 f fd ["self", "place"] sem_Pass_can_lay := by
  refine FnD.mkD (body := b_Pass_can_lay) T.pl F sc_Pass_can_lay (fun cdv A outer s H E hr => ?_) lv_Pass_can_lay
  have nd := sc_Pass_can_lay.nd
  have hu := hr.units
  have hu1 := hu_of hr
  have tk := takes_of (X := cxOf (L2.CX P w) P w K mg base N_Pass_can_lay "Pass.can_lay" (defScope s_Pass_can_lay) f cdv A outer s H E) rfl rfl rfl rfl
  have hp := passes_of (X := cxOf (L2.CX P w) P w K mg base N_Pass_can_lay "Pass.can_lay" (defScope s_Pass_can_lay) f cdv A outer s H E) rfl
  exact (vb_cons (vs_if (pt_no (pt_v (pc_fn E_is_number ar_is_number (hr.mono (by decide)) (by rfl) tk (va_cons (pv_var 1) (va_cons pv_int (va_cons (pv_sub (pv_fld T.c_0 T.n_0_many (pv_fld T.c_1 T.n_1_outline (pv_var 0))) pv_int) va_nil))))))
    (vb_one (vs_ret pv_bl))
    vb_nil)
    (vb_one (vs_ret (pv_lt (pv_ix (pv_fld T.c_0 T.n_0_owner (pv_fld T.c_1 T.n_1_outline (pv_var 0))) (pv_ix (pv_fld T.c_1 T.n_1_order (pv_var 0)) (pv_var 1))) (pv_ix (pv_fld T.c_0 T.n_0_owner (pv_fld T.c_1 T.n_1_outline (pv_var 0))) (pv_ix (pv_fld T.c_1 T.n_1_order (pv_var 0)) (pv_add (pv_var 1) pv_int)))))))

theorem ok_Pass_foot {f : Addr} {fd : FuncData} (F : FunD K "foot" "Pass.foot" (defArgs s_Pass_foot) (defBody s_Pass_foot) (defScope s_Pass_foot) [] [] f fd) (T : Tx K cl mg)  : FnD P w K cl mg base 1 f fd ["self", "place"] sem_Pass_foot := by
  refine FnD.mkD (body := b_Pass_foot) T.pl F sc_Pass_foot (fun cdv A outer s H E hr => ?_) lv_Pass_foot
  have nd := sc_Pass_foot.nd
  have hu := hr.units
  have hu1 := hu_of hr
  have tk := takes_of (X := cxOf (L2.CX P w) P w K mg base N_Pass_foot "Pass.foot" (defScope s_Pass_foot) f cdv A outer s H E) rfl rfl rfl rfl
  have hp := passes_of (X := cxOf (L2.CX P w) P w K mg base N_Pass_foot "Pass.foot" (defScope s_Pass_foot) f cdv A outer s H E) rfl
  exact (vb_cons (vs_set (i := 2) nd rfl (Or.inl rfl) (pv_mulN (pv_lst (va_cons pv_int va_nil)) (pv_len (by rfl) T.b_len (va_cons (pv_fld T.c_0 T.n_0_sides (pv_fld T.c_1 T.n_1_outline (pv_var 0))) va_nil))))
    (vb_cons (vs_for hp rfl (vi_list (pv_slice (pv_fld T.c_1 T.n_1_order (pv_var 0)) vo_none (vo_some (pv_var 1)))) (vg_name (i := 3) nd rfl (Or.inl rfl))
    (vb_one (vs_subAug ip_add (pv_var 2) (pv_ix (pv_fld T.c_0 T.n_0_owner (pv_fld T.c_1 T.n_1_outline (pv_var 0))) (pv_var 3)) pv_int)))
    (vb_one (vs_ret (pv_tupOf (by rfl) T.b_tuple (va_cons (pv_var 2) va_nil))))))

theorem ok_Pass_lay {f : Addr} {fd : FuncData} (F : FunD K "lay" "Pass.lay" (defArgs s_Pass_lay) (defBody s_Pass_lay) (defScope s_Pass_lay) [] [] f fd) (T : Tx K cl mg) (M_Pass_foot : EntM P w K cl mg base 1 "foot" 1 ["self", "place"] sem_Pass_foot) : FnD P w K cl mg base 2 f fd ["self", "place"] sem_Pass_lay := by
  refine FnD.mkD (body := b_Pass_lay) T.pl F sc_Pass_lay (fun cdv A outer s H E hr => ?_) lv_Pass_lay
  have nd := sc_Pass_lay.nd
  have hu := hr.units
  have hu1 := hu_of hr
  have tk := takes_of (X := cxOf (L2.CX P w) P w K mg base N_Pass_lay "Pass.lay" (defScope s_Pass_lay) f cdv A outer s H E) rfl rfl rfl rfl
  have hp := passes_of (X := cxOf (L2.CX P w) P w K mg base N_Pass_lay "Pass.lay" (defScope s_Pass_lay) f cdv A outer s H E) rfl
  exact (vb_cons (vs_asg (pv_slice (pv_fld T.c_1 T.n_1_order (pv_var 0)) (vo_some (pv_var 1)) (vo_some (pv_add (pv_var 1) pv_int))) (vg_unl rfl (vgs_cons (vg_name (i := 2) nd rfl (Or.inl rfl)) (vgs_cons (vg_name (i := 3) nd rfl (Or.inl rfl)) vgs_nil))))
    (vb_cons (vs_expr (pv_append (pv_fld T.c_1 T.n_1_laid (pv_var 0)) (va_cons (pv_tup (va_cons (pv_var 2) (va_cons (pv_var 3) (va_cons (pv_var 1) (va_cons (pc_mt M_Pass_foot T.c_1 ar_Pass_foot (hr.mono (by decide)) (pv_var 0) tk (va_cons (pv_var 1) va_nil)) va_nil))))) va_nil)))
    (vb_one (vs_sliceSet (pv_fld T.c_1 T.n_1_order (pv_var 0)) (pv_var 1) (pv_add (pv_var 1) pv_int) (pv_lst (va_cons (pv_var 3) (va_cons (pv_var 2) va_nil)))))))

theorem ok_Pass_is_over {f : Addr} {fd : FuncData} (F : FunD K "is_over" "Pass.is_over" (defArgs s_Pass_is_over) (defBody s_Pass_is_over) (defScope s_Pass_is_over) [] [] f fd) (T : Tx K cl mg) (M_Pass_can_lay : EntM P w K cl mg base 1 "can_lay" 2 ["self", "place"] sem_Pass_can_lay) : FnD P w K cl mg base 3 f fd ["self"] sem_Pass_is_over := by
  refine FnD.mkD (body := b_Pass_is_over) T.pl F sc_Pass_is_over (fun cdv A outer s H E hr => ?_) lv_Pass_is_over
  have nd := sc_Pass_is_over.nd
  have hu := hr.units
  have hu1 := hu_of hr
  have tk := takes_of (X := cxOf (L2.CX P w) P w K mg base N_Pass_is_over "Pass.is_over" (defScope s_Pass_is_over) f cdv A outer s H E) rfl rfl rfl rfl
  have hp := passes_of (X := cxOf (L2.CX P w) P w K mg base N_Pass_is_over "Pass.is_over" (defScope s_Pass_is_over) f cdv A outer s H E) rfl
  exact (vb_one (vs_ret (pv_notv (pv_any rfl (by rfl) T.b_any (va_cons (pv_leave 1 (pv_lc (own := [("place", 1)]) rfl nd (vi_range1 (by rfl) T.b_range (va_cons (pv_sub (pv_fld T.c_0 T.n_0_many (pv_fld T.c_1 T.n_1_outline (pv_var 0))) pv_int) va_nil)) (blkOk_by (N := N_Pass_is_over) (sc := (defScope s_Pass_is_over)) (by decide +kernel)) (fun _ _ _ _ _ => (vg_name (i := 1) nd rfl (Or.inl rfl))) (fun _ _ _ _ _ => vts_nil) (fun _ _ _ _ _ => (pc_mt M_Pass_can_lay T.c_1 ar_Pass_can_lay (hr.mono (by decide)) (pv_var 0) takes0 (va_cons (pv_var 1) va_nil))))) va_nil)))))

theorem ok_passed {f : Addr} {fd : FuncData} (F : FunD K "passed" "passed" (defArgs s_passed) (defBody s_passed) (defScope s_passed) [] [] f fd) (T : Tx K cl mg) (M_Pass_can_lay : EntM P w K cl mg base 1 "can_lay" 2 ["self", "place"] sem_Pass_can_lay) (M_Pass_lay : EntM P w K cl mg base 1 "lay" 2 ["self", "place"] sem_Pass_lay) (M_Pass_is_over : EntM P w K cl mg base 1 "is_over" 3 ["self"] sem_Pass_is_over) (I_Pass : EntI P w K cl mg base "Pass" 1 1 ["self", "outline"] sem_Pass___init__) : FnD P w K cl mg base 4 f fd ["outline", "row"] sem_passed := by
  refine FnD.mkD (body := b_passed) T.pl F sc_passed (fun cdv A outer s H E hr => ?_) lv_passed
  have nd := sc_passed.nd
  have hu := hr.units
  have hu1 := hu_of hr
  have tk := takes_of (X := cxOf (L2.CX P w) P w K mg base N_passed "passed" (defScope s_passed) f cdv A outer s H E) rfl rfl rfl rfl
  have hp := passes_of (X := cxOf (L2.CX P w) P w K mg base N_passed "passed" (defScope s_passed) f cdv A outer s H E) rfl
  exact (vb_cons (vs_set (i := 2) nd rfl (Or.inl rfl) (pc_mk I_Pass ar_Pass___init__ (hr.mono (by decide)) (by rfl) tk (va_cons (pv_var 0) va_nil)))
    (vb_cons (vs_if (pt_no (pt_v (pv_isi (by rfl) T.b_isinstance (va_cons (pv_var 1) (va_cons (pv_type (by rfl) T.b_list boot_list) va_nil)))))
    (vb_one vs_no)
    vb_nil)
    (vb_cons (vs_for hp rfl (vi_enum (by rfl) T.b_enumerate (va_cons (pv_var 1) va_nil)) (vg_tup rfl (vgs_cons (vg_name (i := 3) nd rfl (Or.inl rfl)) (vgs_cons (vg_name (i := 4) nd rfl (Or.inl rfl)) vgs_nil)))
    (vb_cons (vs_if (pt_no (pt_v (pc_mt M_Pass_can_lay T.c_1 ar_Pass_can_lay (hr.mono (by decide)) (pv_var 2) tk (va_cons (pv_var 4) va_nil))))
    (vb_one vs_no)
    vb_nil)
    (vb_one (vs_expr (pc_mt M_Pass_lay T.c_1 ar_Pass_lay (hr.mono (by decide)) (pv_var 2) tk (va_cons (pv_var 4) va_nil))))))
    (vb_cons (vs_if (pt_no (pt_v (pc_mt0 M_Pass_is_over T.c_1 ar_Pass_is_over (hr.mono (by decide)) (pv_var 2) tk)))
    (vb_one vs_no)
    vb_nil)
    (vb_one (vs_ret (pv_var 2)))))))

theorem ok_code_of {f : Addr} {fd : FuncData} (F : FunD K "code_of" "code_of" (defArgs s_code_of) (defBody s_code_of) (defScope s_code_of) [] [] f fd) (T : Tx K cl mg) (E_passed : Ent P w K cl mg base "passed" 4 ["outline", "row"] [] sem_passed) (M_Outline_bits_of : EntM P w K cl mg base 0 "bits_of" 1 ["self", "threes"] sem_Outline_bits_of) (M_Pass_lay : EntM P w K cl mg base 1 "lay" 2 ["self", "place"] sem_Pass_lay) (I_Pass : EntI P w K cl mg base "Pass" 1 1 ["self", "outline"] sem_Pass___init__) : FnD P w K cl mg base 5 f fd ["outline", "row"] sem_code_of := by
  refine FnD.mkD (body := b_code_of) T.pl F sc_code_of (fun cdv A outer s H E hr => ?_) lv_code_of
  have nd := sc_code_of.nd
  have hu := hr.units
  have hu1 := hu_of hr
  have tk := takes_of (X := cxOf (L2.CX P w) P w K mg base N_code_of "code_of" (defScope s_code_of) f cdv A outer s H E) rfl rfl rfl rfl
  have hp := passes_of (X := cxOf (L2.CX P w) P w K mg base N_code_of "code_of" (defScope s_code_of) f cdv A outer s H E) rfl
  exact (vb_cons (vs_set (i := 2) nd rfl (Or.inl rfl) (pc_mk I_Pass ar_Pass___init__ (hr.mono (by decide)) (by rfl) tk (va_cons (pv_var 0) va_nil)))
    (vb_cons (vs_set (i := 3) nd rfl (Or.inl rfl) pv_int)
    (vb_cons (vs_for hp rfl (vi_list (pv_fld T.c_1 T.n_1_laid (pc_fn E_passed ar_passed (hr.mono (by decide)) (by rfl) tk (va_cons (pv_var 0) (va_cons (pv_var 1) va_nil))))) (vg_tup rfl (vgs_cons (vg_name (i := 4) nd rfl (Or.inr rfl)) (vgs_cons (vg_name (i := 5) nd rfl (Or.inr rfl)) (vgs_cons (vg_name (i := 6) nd rfl (Or.inl rfl)) (vgs_cons (vg_name (i := 7) nd rfl (Or.inl rfl)) vgs_nil)))))
    (vb_cons (vs_set (i := 8) nd rfl (Or.inl rfl) (pv_slice (pv_fld T.c_1 T.n_1_order (pv_var 2)) (vo_some (pv_add (pv_var 6) pv_int)) vo_none))
    (vb_cons (vs_setLcL (i := 9) (k := 1) (own := [("middle", 10)]) rfl nd rfl rfl (sw_true rfl rfl rfl (by decide +kernel)) (vi_list (pv_var 8)) (blkOk_by (N := N_code_of) (sc := (defScope s_code_of)) (by decide +kernel)) (fun _ _ _ _ _ => (vg_name (i := 10) nd rfl (Or.inl rfl))) (fun _ _ _ _ _ => (vts_one (pvt_chain op_lt op_lt o_lt o_lt (pv_var 4) (pv_var 10) (pv_var 5)))) (fun _ _ _ _ _ => (pv_tup (va_cons (pv_var 4) (va_cons (pv_var 10) (va_cons (pv_var 5) va_nil))))))
    (vb_cons (vs_aug (j := 3) ip_or nd rfl (Or.inl rfl) (pc_mt M_Outline_bits_of T.c_0 ar_Outline_bits_of (hr.mono (by decide)) (pv_var 0) tk (va_cons (pv_leave 1 (pv_lc (own := [("three", 11)]) rfl nd (vi_list (pv_var 9)) (blkOk_by (N := N_code_of) (sc := (defScope s_code_of)) (by decide +kernel)) (fun _ _ _ _ _ => (vg_name (i := 11) nd rfl (Or.inl rfl))) (fun _ _ _ _ _ => (vts_one (pt_din hu1 (pv_var 11) (pv_fld T.c_0 T.n_0_spot (pv_var 0))))) (fun _ _ _ _ _ => (pv_var 11)))) va_nil)))
    (vb_one (vs_expr (pc_mt M_Pass_lay T.c_1 ar_Pass_lay (hr.mono (by decide)) (pv_var 2) tk (va_cons (pv_var 6) va_nil))))))))
    (vb_one (vs_ret (pv_var 3))))))

theorem ok_is_beneath {f : Addr} {fd : FuncData} (F : FunD K "is_beneath" "is_beneath" (defArgs s_is_beneath) (defBody s_is_beneath) (defScope s_is_beneath) [] [] f fd) (T : Tx K cl mg)  : FnD P w K cl mg base 1 f fd ["outline", "code", "line", "pair"] sem_is_beneath := by
  refine FnD.mkD (body := b_is_beneath) T.pl F sc_is_beneath (fun cdv A outer s H E hr => ?_) lv_is_beneath
  have nd := sc_is_beneath.nd
  have hu := hr.units
  have hu1 := hu_of hr
  have tk := takes_of (X := cxOf (L2.CX P w) P w K mg base N_is_beneath "is_beneath" (defScope s_is_beneath) f cdv A outer s H E) rfl rfl rfl rfl
  have hp := passes_of (X := cxOf (L2.CX P w) P w K mg base N_is_beneath "is_beneath" (defScope s_is_beneath) f cdv A outer s H E) rfl
  exact (vb_cons (vs_asg (pv_var 3) (vg_tup rfl (vgs_cons (vg_name (i := 4) nd rfl (Or.inl rfl)) (vgs_cons (vg_name (i := 5) nd rfl (Or.inl rfl)) vgs_nil))))
    (vb_cons (vs_set (i := 6) nd rfl (Or.inl rfl) (pv_tupOf (by rfl) T.b_tuple (va_cons (pv_sortI (new := false) (by rfl) T.b_sorted (va_cons (pv_lst (va_cons (pv_var 2) (va_cons (pv_var 4) (va_cons (pv_var 5) va_nil)))) va_nil)) va_nil)))
    (vb_cons (vs_if (pt_dnotin hu1 (pv_var 6) (pv_fld T.c_0 T.n_0_spot (pv_var 0)))
    (vb_one (vs_ret (pv_orv (pv_lt (pv_var 2) (pv_var 4)) (pv_one (pv_andv (pv_lt (pv_var 2) (pv_var 5)) (pv_one (pv_eq hu (pv_ix (pv_fld T.c_0 T.n_0_owner (pv_var 0)) (pv_var 2)) (pv_ix (pv_fld T.c_0 T.n_0_owner (pv_var 0)) (pv_var 5)))))))))
    vb_nil)
    (vb_cons (vs_set (i := 7) nd rfl (Or.inl rfl) (pv_eq hu (pv_and (pv_shr (pv_var 1) (pv_dget hu1 (pv_fld T.c_0 T.n_0_spot (pv_var 0)) (pv_var 6))) pv_int) pv_int))
    (vb_one (vs_ret (pv_if (pvt_chain op_lt op_lt o_lt o_lt (pv_var 4) (pv_var 2) (pv_var 5)) (pv_notv (pv_var 7)) (pv_var 7))))))))

theorem ok_least_of__is_next {clo : List (Str × Addr)} {f c : Addr} {qual : Str} (T : Tx K cl mg) (E_is_beneath : Ent P w K cl mg base "is_beneath" 1 ["outline", "code", "line", "pair"] [] sem_is_beneath) : NsD P w K cl mg base 2 f (NdefX.NF.of s_least_of__is_next "is_next" qual clo c) ["place"] ["walk", "outline", "code"] sem_least_of__is_next := by
  have S : ScN N_least_of__is_next ["place"] ["walk", "outline", "code"] (C8.fnScope s_least_of__is_next) := scN_by (by decide +kernel)
  refine NsD.mk (body := b_least_of__is_next) T.pl S (fun _ _ _ us hl => match us, hl with | [_], _ => rfl) (fun A outer s H E hr hF hC => ?_) (fun _ _ _ h1 h2 => lv_N h1 h2)
  have nd := S.nd
  have hu := hr.units
  have hu1 := hu_of hr
  have tk := takes_of (X := ncT (L2.CX P w) P w K mg base N_least_of__is_next (NdefX.NF.of s_least_of__is_next "is_next" qual clo c) f A outer s H E) rfl rfl rfl rfl
  have hp := passes_of (X := ncT (L2.CX P w) P w K mg base N_least_of__is_next (NdefX.NF.of s_least_of__is_next "is_next" qual clo c) f A outer s H E) rfl
  exact (vb_cons (vs_set (i := 4) nd rfl (Or.inr rfl) (pv_tup (va_cons (pv_ix (pv_fld T.c_1 T.n_1_order (pv_var 1)) (pv_var 0)) (va_cons (pv_ix (pv_fld T.c_1 T.n_1_order (pv_var 1)) (pv_add (pv_var 0) pv_int)) va_nil))))
    (vb_cons (vs_setLcL (i := 5) (k := 1) (own := [("spot", 6), ("line", 7)]) rfl nd rfl rfl (sw_true rfl rfl rfl (by decide +kernel)) (vi_enum (by rfl) T.b_enumerate (va_cons (pv_fld T.c_1 T.n_1_order (pv_var 1)) va_nil)) (blkOk_by (N := N_least_of__is_next) (sc := (defScope s_least_of__is_next)) (by decide +kernel)) (fun _ _ _ _ _ => (vg_tup rfl (vgs_cons (vg_name (i := 6) nd rfl (Or.inl rfl)) (vgs_cons (vg_name (i := 7) nd rfl (Or.inl rfl)) vgs_nil)))) (fun _ _ _ _ _ => (vts_one (pt_notin (pv_var 7) (pv_var 4)))) (fun _ _ _ _ _ => (pv_tup (va_cons (pv_var 6) (va_cons (pv_var 7) va_nil)))))
    (vb_one (vs_ret (pv_all rfl (by rfl) T.b_all (va_cons (pv_leave 1 (pv_lc (own := [("spot", 6), ("line", 7)]) rfl nd (vi_list (pv_var 5)) (blkOk_by (N := N_least_of__is_next) (sc := (defScope s_least_of__is_next)) (by decide +kernel)) (fun _ _ _ _ _ => (vg_tup rfl (vgs_cons (vg_name (i := 6) nd rfl (Or.inl rfl)) (vgs_cons (vg_name (i := 7) nd rfl (Or.inl rfl)) vgs_nil)))) (fun _ _ _ _ _ => vts_nil) (fun _ _ _ _ _ => (pv_eq hu (pc_fn E_is_beneath ar_is_beneath (hr.mono (by decide)) (by rfl) takes0 (va_cons (pv_var 2) (va_cons (pv_var 3) (va_cons (pv_var 7) (va_cons (pv_var 4) va_nil))))) (pv_lt (pv_var 6) (pv_var 0)))))) va_nil))))))

theorem ok_least_of {fd : FuncData} (F : FunD K "least_of" "least_of" (defArgs s_least_of) (defBody s_least_of) (defScope s_least_of) [] [] (He.fAd K ("least_of", none)) fd) (T : Tx K cl mg) (TB : LamX.TabB base mg (He.cT K ("least_of", none)).1 (He.cT K ("least_of", none)).2) (M_Pass_is_over : EntM P w K cl mg base 1 "is_over" 3 ["self"] sem_Pass_is_over) (M_Pass_can_lay : EntM P w K cl mg base 1 "can_lay" 2 ["self", "place"] sem_Pass_can_lay) (M_Pass_lay : EntM P w K cl mg base 1 "lay" 2 ["self", "place"] sem_Pass_lay) (I_Pass : EntI P w K cl mg base "Pass" 1 1 ["self", "outline"] sem_Pass___init__) (E_is_beneath : Ent P w K cl mg base "is_beneath" 1 ["outline", "code", "line", "pair"] [] sem_is_beneath) : FnD P w K cl mg base 4 (He.fAd K ("least_of", none)) fd ["outline", "code"] sem_least_of := by
  refine FnD.mkN (p := ("least_of", none)) (body := b_least_of) T.pl F sc_least_of (fun A outer s H E hr => ?_) (fun a _ _ h => lv_A a h)
  have nd := sc_least_of.nd
  have hu := hr.units
  have hu1 := hu_of hr
  have tk := takes_of (X := cxOf (L2.CX P w) P w K mg base N_least_of "least_of" (defScope s_least_of) (He.fAd K ("least_of", none)) (.ref (He.codeOf K ("least_of", none))) A outer s H E) rfl rfl rfl rfl
  have hp := passes_of (X := cxOf (L2.CX P w) P w K mg base N_least_of "least_of" (defScope s_least_of) (He.fAd K ("least_of", none)) (.ref (He.codeOf K ("least_of", none))) A outer s H E) rfl
  exact (vn_cons (vs_set (i := 2) nd rfl (Or.inr rfl) (pc_mk I_Pass ar_Pass___init__ (hr.mono (by decide)) (by rfl) tk (va_cons (pv_var 0) va_nil)))
    (vn_defE (by kernel_rfl) (i := 3) (mk := (NdefX.NF.of s_least_of__is_next "is_next" (("least_of" ++ ".<locals>." : Str) ++ "is_next") (cloFrom (envOfC "least_of" (defScope s_least_of) s.heap.objs.size (He.fAd K ("least_of", none)) (.ref (He.codeOf K ("least_of", none)))).cells (C8.fnScope s_least_of__is_next).names []))) T.pl (fun _ => rfl) (NdefX.ps_ndefMS (st := s_least_of__is_next) rfl TB rfl T.tm_least_of rfl T.tu_least_of (NdefX.ndef_free (sc := defScope s_least_of) (nsc := C8.fnScope s_least_of__is_next) (fr := ["walk", "outline", "code"]) (by decide +kernel)) rfl rfl rfl nd rfl (Or.inr rfl) (.inl rfl)) (fun a => by
    have E_is_beneath0 := E_is_beneath
    have M_Pass_is_over := entM_conv (like_fn (a := a) (mk := (NdefX.NF.of s_least_of__is_next "is_next" (("least_of" ++ ".<locals>." : Str) ++ "is_next") (cloFrom (envOfC "least_of" (defScope s_least_of) s.heap.objs.size (He.fAd K ("least_of", none)) (.ref (He.codeOf K ("least_of", none)))).cells (C8.fnScope s_least_of__is_next).names [])))) M_Pass_is_over
    have M_Pass_can_lay := entM_conv (like_fn (a := a) (mk := (NdefX.NF.of s_least_of__is_next "is_next" (("least_of" ++ ".<locals>." : Str) ++ "is_next") (cloFrom (envOfC "least_of" (defScope s_least_of) s.heap.objs.size (He.fAd K ("least_of", none)) (.ref (He.codeOf K ("least_of", none)))).cells (C8.fnScope s_least_of__is_next).names [])))) M_Pass_can_lay
    have M_Pass_lay := entM_conv (like_fn (a := a) (mk := (NdefX.NF.of s_least_of__is_next "is_next" (("least_of" ++ ".<locals>." : Str) ++ "is_next") (cloFrom (envOfC "least_of" (defScope s_least_of) s.heap.objs.size (He.fAd K ("least_of", none)) (.ref (He.codeOf K ("least_of", none)))).cells (C8.fnScope s_least_of__is_next).names [])))) M_Pass_lay
    have I_Pass := entI_conv (like_fn (a := a) (mk := (NdefX.NF.of s_least_of__is_next "is_next" (("least_of" ++ ".<locals>." : Str) ++ "is_next") (cloFrom (envOfC "least_of" (defScope s_least_of) s.heap.objs.size (He.fAd K ("least_of", none)) (.ref (He.codeOf K ("least_of", none)))).cells (C8.fnScope s_least_of__is_next).names [])))) I_Pass
    exact (vb_cons (vs_set (i := 4) nd rfl (Or.inl rfl) (pv_newl va_nil))
    (vb_cons (vs_while hp (pt_no (pt_v (pc_mt0 M_Pass_is_over T.c_1 ar_Pass_is_over (hr.mono (by decide)) (pv_var 2) tk)))
    (vb_cons (vs_setNest (clo := (cloFrom (envOfC "least_of" (defScope s_least_of) s.heap.objs.size (He.fAd K ("least_of", none)) (.ref (He.codeOf K ("least_of", none)))).cells (C8.fnScope s_least_of__is_next).names [])) (i := 3) (n := 5) (kk := 1) (own := [("place", 6)]) (js := [2, 0, 1]) (fr := ["walk", "outline", "code"]) (k := 2) T.pl (fun _ => rfl) (fun f c' => (ok_least_of__is_next T E_is_beneath0)) (fun _ => rfl) (fun ok => NdefX.Caps.made (scope := C8.fnScope s_least_of__is_next) ok (NdefX.ndef_free (sc := defScope s_least_of) (nsc := C8.fnScope s_least_of__is_next) (fr := ["walk", "outline", "code"]) (by decide +kernel)) (NdefX.ndef_fr (sc := defScope s_least_of) (nsc := C8.fnScope s_least_of__is_next) (by decide +kernel)) rfl) rfl ar_N (hr.mono (by decide)) (fun _ => rfl) rfl (fun _ => Or.inr (Or.inl rfl)) (by decide) rfl nd rfl rfl (sw_true rfl rfl rfl (by decide +kernel)) (vi_range1 (by rfl) T.b_range (va_cons (pv_sub (pv_fld T.c_0 T.n_0_many (pv_var 0)) pv_int) va_nil)) (blkOk_by (N := N_least_of) (sc := (defScope s_least_of)) (by decide +kernel)) (fun _ _ _ => (vg_name (i := 6) nd rfl (Or.inl rfl))) (fun _ _ _ => (pt_v (pc_mt M_Pass_can_lay T.c_1 ar_Pass_can_lay (hr.mono (by decide)) (pv_var 2) takes0 (va_cons (pv_var 6) va_nil)))) (fun _ _ _ => (va_cons (pv_var 6) va_nil)) (fun _ _ _ => (pv_var 6)))
    (vb_cons (vs_expr (pc_mt M_Pass_lay T.c_1 ar_Pass_lay (hr.mono (by decide)) (pv_var 2) tk (va_cons (pv_ix (pv_var 5) pv_int) va_nil)))
    (vb_one (vs_expr (pv_append (pv_var 4) (va_cons (pv_ix (pv_var 5) pv_int) va_nil)))))))
    (vb_one (vs_ret (pv_var 4))))))))

theorem ok_opened {f : Addr} {fd : FuncData} (F : FunD K "opened" "opened" (defArgs s_opened) (defBody s_opened) (defScope s_opened) [] [] f fd) (T : Tx K cl mg) (E_need_sides_d : Ent P w K cl mg base "need_sides" 2 ["sides", "exact"] [.int 0] sem_need_sides) (E_code_of : Ent P w K cl mg base "code_of" 5 ["outline", "row"] [] sem_code_of) (I_Outline : EntI P w K cl mg base "Outline" 0 3 ["self", "sides"] sem_Outline___init__) : FnD P w K cl mg base 6 f fd ["sides", "row"] sem_opened := by
  refine FnD.mkD (body := b_opened) T.pl F sc_opened (fun cdv A outer s H E hr => ?_) lv_opened
  have nd := sc_opened.nd
  have hu := hr.units
  have hu1 := hu_of hr
  have tk := takes_of (X := cxOf (L2.CX P w) P w K mg base N_opened "opened" (defScope s_opened) f cdv A outer s H E) rfl rfl rfl rfl
  have hp := passes_of (X := cxOf (L2.CX P w) P w K mg base N_opened "opened" (defScope s_opened) f cdv A outer s H E) rfl
  exact (vb_cons (vs_expr (pc_fn E_need_sides_d ar_need_sides (hr.mono (by decide)) (by rfl) tk (va_cons (pv_var 0) va_nil)))
    (vb_cons (vs_set (i := 2) nd rfl (Or.inl rfl) (pv_leave 2 (pc_mk I_Outline ar_Outline___init__ (hr.mono (by decide)) (by rfl) tk (va_cons (pv_var 0) va_nil))))
    (vb_one (vs_ret (pv_tup (va_cons (pv_var 2) (va_cons (pc_fn E_code_of ar_code_of (hr.mono (by decide)) (by rfl) tk (va_cons (pv_var 2) (va_cons (pv_var 1) va_nil))) va_nil)))))))

theorem ok_is_three {f : Addr} {fd : FuncData} (F : FunD K "is_three" "is_three" (defArgs s_is_three) (defBody s_is_three) (defScope s_is_three) [] [] f fd) (T : Tx K cl mg)  : FnD P w K cl mg base 1 f fd ["outline", "three"] sem_is_three := by
  refine FnD.mkD (body := b_is_three) T.pl F sc_is_three (fun cdv A outer s H E hr => ?_) lv_is_three
  have nd := sc_is_three.nd
  have hu := hr.units
  have hu1 := hu_of hr
  have tk := takes_of (X := cxOf (L2.CX P w) P w K mg base N_is_three "is_three" (defScope s_is_three) f cdv A outer s H E) rfl rfl rfl rfl
  have hp := passes_of (X := cxOf (L2.CX P w) P w K mg base N_is_three "is_three" (defScope s_is_three) f cdv A outer s H E) rfl
  exact (vb_cons (vs_if (pt_wh (pw_o2 (pt_no (pt_v (pv_isi (by rfl) T.b_isinstance (va_cons (pv_var 1) (va_cons (pv_type (by rfl) T.b_tuple boot_tuple) va_nil))))) (pw_o1 (pt_ne hu (pv_len (by rfl) T.b_len (va_cons (pv_var 1) va_nil)) pv_int))))
    (vb_one (vs_ret pv_bl))
    vb_nil)
    (vb_cons (vs_if (pt_no (pt_v (pv_all rfl (by rfl) T.b_all (va_cons (pv_leave 1 (pv_lc (own := [("line", 2)]) rfl nd (vi_tup (pv_var 1)) (blkOk_by (N := N_is_three) (sc := (defScope s_is_three)) (by decide +kernel)) (fun _ _ _ _ _ => (vg_name (i := 2) nd rfl (Or.inl rfl))) (fun _ _ _ _ _ => vts_nil) (fun _ _ _ _ _ => (pv_andv (pv_isi (by rfl) T.b_isinstance (va_cons (pv_var 2) (va_cons (pv_type (by rfl) T.b_int boot_int) va_nil))) (pv_one (pv_notv (pv_isi (by rfl) T.b_isinstance (va_cons (pv_var 2) (va_cons (pv_type (by rfl) T.b_bool boot_bool) va_nil))))))))) va_nil))))
    (vb_one (vs_ret pv_bl))
    vb_nil)
    (vb_one (vs_ret (pv_din hu1 (pv_var 1) (pv_fld T.c_0 T.n_0_spot (pv_var 0)))))))

theorem ok_need_threes {f : Addr} {fd : FuncData} (F : FunD K "need_threes" "need_threes" (defArgs s_need_threes) (defBody s_need_threes) (defScope s_need_threes) [] [] f fd) (T : Tx K cl mg) (E_is_three : Ent P w K cl mg base "is_three" 1 ["outline", "three"] [] sem_is_three) : FnD P w K cl mg base 2 f fd ["outline", "threes"] sem_need_threes := by
  refine FnD.mkD (body := b_need_threes) T.pl F sc_need_threes (fun cdv A outer s H E hr => ?_) lv_need_threes
  have nd := sc_need_threes.nd
  have hu := hr.units
  have hu1 := hu_of hr
  have tk := takes_of (X := cxOf (L2.CX P w) P w K mg base N_need_threes "need_threes" (defScope s_need_threes) f cdv A outer s H E) rfl rfl rfl rfl
  have hp := passes_of (X := cxOf (L2.CX P w) P w K mg base N_need_threes "need_threes" (defScope s_need_threes) f cdv A outer s H E) rfl
  exact (vb_cons (vs_if (pt_no (pt_v (pv_isi (by rfl) T.b_isinstance (va_cons (pv_var 1) (va_cons (pv_type (by rfl) T.b_list boot_list) va_nil)))))
    (vb_one vs_no)
    vb_nil)
    (vb_cons (vs_set (i := 2) nd rfl (Or.inl rfl) (pv_tup va_nil))
    (vb_one (vs_for hp rfl (vi_list (pv_var 1)) (vg_name (i := 3) nd rfl (Or.inl rfl))
    (vb_cons (vs_if (pt_wh (pw_o2 (pt_no (pt_v (pc_fn E_is_three ar_is_three (hr.mono (by decide)) (by rfl) tk (va_cons (pv_var 0) (va_cons (pv_var 3) va_nil))))) (pw_o1 (pt_leT hu1 (pv_var 3) (pv_var 2)))))
    (vb_one vs_no)
    vb_nil)
    (vb_one (vs_set (i := 2) nd rfl (Or.inl rfl) (pv_var 3))))))))

theorem ok_highs {f : Addr} {fd : FuncData} (F : FunD K "highs" "highs" (defArgs s_highs) (defBody s_highs) (defScope s_highs) [] [] f fd) (T : Tx K cl mg) (E_opened : Ent P w K cl mg base "opened" 6 ["sides", "row"] [] sem_opened) (M_Outline_threes_of : EntM P w K cl mg base 0 "threes_of" 1 ["self", "code"] sem_Outline_threes_of) : FnD P w K cl mg base 7 f fd ["sides", "row"] sem_highs := by
  refine FnD.mkD (body := b_highs) T.pl F sc_highs (fun cdv A outer s H E hr => ?_) lv_highs
  have nd := sc_highs.nd
  have hu := hr.units
  have hu1 := hu_of hr
  have tk := takes_of (X := cxOf (L2.CX P w) P w K mg base N_highs "highs" (defScope s_highs) f cdv A outer s H E) rfl rfl rfl rfl
  have hp := passes_of (X := cxOf (L2.CX P w) P w K mg base N_highs "highs" (defScope s_highs) f cdv A outer s H E) rfl
  exact (vb_cons (vs_asg (pc_fn E_opened ar_opened (hr.mono (by decide)) (by rfl) tk (va_cons (pv_var 0) (va_cons (pv_var 1) va_nil))) (vg_tup rfl (vgs_cons (vg_name (i := 2) nd rfl (Or.inl rfl)) (vgs_cons (vg_name (i := 3) nd rfl (Or.inl rfl)) vgs_nil))))
    (vb_one (vs_ret (pc_mt M_Outline_threes_of T.c_0 ar_Outline_threes_of (hr.mono (by decide)) (pv_var 2) tk (va_cons (pv_var 3) va_nil)))))

theorem ok_floor_of {f : Addr} {fd : FuncData} (F : FunD K "floor_of" "floor_of" (defArgs s_floor_of) (defBody s_floor_of) (defScope s_floor_of) [] [] f fd) (T : Tx K cl mg) (E_need_sides_d : Ent P w K cl mg base "need_sides" 2 ["sides", "exact"] [.int 0] sem_need_sides) (E_need_threes : Ent P w K cl mg base "need_threes" 2 ["outline", "threes"] [] sem_need_threes) (E_least_of : Ent P w K cl mg base "least_of" 4 ["outline", "code"] [] sem_least_of) (M_Outline_bits_of : EntM P w K cl mg base 0 "bits_of" 1 ["self", "threes"] sem_Outline_bits_of) (M_Outline_first_bar : EntM P w K cl mg base 0 "first_bar" 2 ["self", "code"] sem_Outline_first_bar) (I_Outline : EntI P w K cl mg base "Outline" 0 3 ["self", "sides"] sem_Outline___init__) : FnD P w K cl mg base 5 f fd ["sides", "threes"] sem_floor_of := by
  refine FnD.mkD (body := b_floor_of) T.pl F sc_floor_of (fun cdv A outer s H E hr => ?_) lv_floor_of
  have nd := sc_floor_of.nd
  have hu := hr.units
  have hu1 := hu_of hr
  have tk := takes_of (X := cxOf (L2.CX P w) P w K mg base N_floor_of "floor_of" (defScope s_floor_of) f cdv A outer s H E) rfl rfl rfl rfl
  have hp := passes_of (X := cxOf (L2.CX P w) P w K mg base N_floor_of "floor_of" (defScope s_floor_of) f cdv A outer s H E) rfl
  exact (vb_cons (vs_expr (pc_fn E_need_sides_d ar_need_sides (hr.mono (by decide)) (by rfl) tk (va_cons (pv_var 0) va_nil)))
    (vb_cons (vs_set (i := 2) nd rfl (Or.inl rfl) (pv_leave 2 (pc_mk I_Outline ar_Outline___init__ (hr.mono (by decide)) (by rfl) tk (va_cons (pv_var 0) va_nil))))
    (vb_cons (vs_expr (pc_fn E_need_threes ar_need_threes (hr.mono (by decide)) (by rfl) tk (va_cons (pv_var 2) (va_cons (pv_var 1) va_nil))))
    (vb_cons (vs_set (i := 3) nd rfl (Or.inl rfl) (pc_mt M_Outline_bits_of T.c_0 ar_Outline_bits_of (hr.mono (by decide)) (pv_var 2) tk (va_cons (pv_var 1) va_nil)))
    (vb_cons (vs_set (i := 4) nd rfl (Or.inl rfl) (pc_mt M_Outline_first_bar T.c_0 ar_Outline_first_bar (hr.mono (by decide)) (pv_var 2) tk (va_cons (pv_var 3) va_nil)))
    (vb_cons (vs_if (pt_notN (pv_var 4))
    (vb_one vs_no)
    vb_nil)
    (vb_one (vs_ret (pc_fn E_least_of ar_least_of (hr.mono (by decide)) (by rfl) tk (va_cons (pv_var 2) (va_cons (pv_var 3) va_nil)))))))))))

theorem ok__law_row {f : Addr} {fd : FuncData} (F : FunD K "_law_row" "_law_row" (defArgs s__law_row) (defBody s__law_row) (defScope s__law_row) [] [] f fd) (T : Tx K cl mg)  : FnD P w K cl mg base 1 f fd ["_law_script"] sem__law_row := by
  refine FnD.mkD (body := b__law_row) T.pl F sc__law_row (fun cdv A outer s H E hr => ?_) lv__law_row
  have nd := sc__law_row.nd
  have hu := hr.units
  have hu1 := hu_of hr
  have tk := takes_of (X := cxOf (L2.CX P w) P w K mg base N__law_row "_law_row" (defScope s__law_row) f cdv A outer s H E) rfl rfl rfl rfl
  have hp := passes_of (X := cxOf (L2.CX P w) P w K mg base N__law_row "_law_row" (defScope s__law_row) f cdv A outer s H E) rfl
  exact (vb_cons (vs_set (i := 1) nd rfl (Or.inl rfl) pv_int)
    (vb_cons (vs_for hp rfl (vi_list (pv_var 0)) (vg_name (i := 2) nd rfl (Or.inl rfl))
    (vb_one (vs_set (i := 1) nd rfl (Or.inl rfl) (pv_mod (pv_add (pv_add (pv_mul (pv_var 1) pv_int) (pv_var 2)) pv_int) pv_int))))
    (vb_one (vs_ret (pv_newl (va_cons (pv_var 0) (va_cons pv_int (va_cons pv_int (va_cons (pv_var 1) va_nil)))))))))

theorem ok__law_taken {f : Addr} {fd : FuncData} (F : FunD K "_law_taken" "_law_taken" (defArgs s__law_taken) (defBody s__law_taken) (defScope s__law_taken) [] [] f fd) (T : Tx K cl mg)  : FnD P w K cl mg base 1 f fd ["_law_row_here", "_law_many"] sem__law_taken := by
  refine FnD.mkD (body := b__law_taken) T.pl F sc__law_taken (fun cdv A outer s H E hr => ?_) lv__law_taken
  have nd := sc__law_taken.nd
  have hu := hr.units
  have hu1 := hu_of hr
  have tk := takes_of (X := cxOf (L2.CX P w) P w K mg base N__law_taken "_law_taken" (defScope s__law_taken) f cdv A outer s H E) rfl rfl rfl rfl
  have hp := passes_of (X := cxOf (L2.CX P w) P w K mg base N__law_taken "_law_taken" (defScope s__law_taken) f cdv A outer s H E) rfl
  exact (vb_cons (vs_if (pt_gt (pv_ix (pv_var 0) pv_int) pv_int)
    (vb_cons (vs_set (i := 2) nd rfl (Or.inl rfl) (pv_mod (pv_ix (pv_var 0) pv_int) (pv_var 1)))
    (vb_cons (vs_subSet (pv_var 0) pv_int (pv_div (pv_ix (pv_var 0) pv_int) (pv_var 1)))
    (vb_one (vs_ret (pv_var 2)))))
    vb_nil)
    (vb_cons (vs_if (pt_lt (pv_ix (pv_var 0) pv_int) (pv_len (by rfl) T.b_len (va_cons (pv_ix (pv_var 0) pv_int) va_nil)))
    (vb_cons (vs_set (i := 3) nd rfl (Or.inl rfl) (pv_ix (pv_ix (pv_var 0) pv_int) (pv_ix (pv_var 0) pv_int)))
    (vb_cons (vs_subSet (pv_var 0) pv_int (pv_add (pv_ix (pv_var 0) pv_int) pv_int))
    (vb_cons (vs_if (pt_ge (pv_var 3) (pv_pow pv_int pv_int))
    (vb_one (vs_subSet (pv_var 0) pv_int (pv_div (pv_var 3) (pv_var 1))))
    vb_nil)
    (vb_one (vs_ret (pv_mod (pv_var 3) (pv_var 1)))))))
    vb_nil)
    (vb_cons (vs_subSet (pv_var 0) pv_int (pv_mod (pv_add (pv_mul (pv_ix (pv_var 0) pv_int) pv_int) pv_int) pv_int))
    (vb_one (vs_ret (pv_mod (pv_div (pv_ix (pv_var 0) pv_int) pv_int) (pv_var 1)))))))

theorem ok__law_pairs {f : Addr} {fd : FuncData} (F : FunD K "_law_pairs" "_law_pairs" (defArgs s__law_pairs) (defBody s__law_pairs) (defScope s__law_pairs) [] [] f fd) (T : Tx K cl mg)  : FnD P w K cl mg base 1 f fd ["_law_sides_here"] sem__law_pairs := by
  refine FnD.mkD (body := b__law_pairs) T.pl F sc__law_pairs (fun cdv A outer s H E hr => ?_) lv__law_pairs
  have nd := sc__law_pairs.nd
  have hu := hr.units
  have hu1 := hu_of hr
  have tk := takes_of (X := cxOf (L2.CX P w) P w K mg base N__law_pairs "_law_pairs" (defScope s__law_pairs) f cdv A outer s H E) rfl rfl rfl rfl
  have hp := passes_of (X := cxOf (L2.CX P w) P w K mg base N__law_pairs "_law_pairs" (defScope s__law_pairs) f cdv A outer s H E) rfl
  exact (vb_cons (vs_set (i := 1) nd rfl (Or.inl rfl) (pv_sum rfl (by rfl) T.b_sum (va_cons (pv_var 0) va_nil)))
    (vb_one (vs_ret (pv_div (pv_sub (pv_mul (pv_var 1) (pv_var 1)) (pv_sum rfl (by rfl) T.b_sum (va_cons (pv_leave 1 (pv_lc (own := [("_law_many", 2)]) rfl nd (vi_any (pv_var 0)) (blkOk_by (N := N__law_pairs) (sc := (defScope s__law_pairs)) (by decide +kernel)) (fun _ _ _ _ _ => (vg_name (i := 2) nd rfl (Or.inl rfl))) (fun _ _ _ _ _ => vts_nil) (fun _ _ _ _ _ => (pv_mul (pv_var 2) (pv_var 2))))) va_nil))) pv_int))))

theorem ok__law_sides {f : Addr} {fd : FuncData} (F : FunD K "_law_sides" "_law_sides" (defArgs s__law_sides) (defBody s__law_sides) (defScope s__law_sides) [] [] f fd) (T : Tx K cl mg) (E__law_taken : Ent P w K cl mg base "_law_taken" 1 ["_law_row_here", "_law_many"] [] sem__law_taken) (E__law_pairs : Ent P w K cl mg base "_law_pairs" 1 ["_law_sides_here"] [] sem__law_pairs) : FnD P w K cl mg base 2 f fd ["_law_row_here", "_law_most"] sem__law_sides := by
  refine FnD.mkD (body := b__law_sides) T.pl F sc__law_sides (fun cdv A outer s H E hr => ?_) lv__law_sides
  have nd := sc__law_sides.nd
  have hu := hr.units
  have hu1 := hu_of hr
  have tk := takes_of (X := cxOf (L2.CX P w) P w K mg base N__law_sides "_law_sides" (defScope s__law_sides) f cdv A outer s H E) rfl rfl rfl rfl
  have hp := passes_of (X := cxOf (L2.CX P w) P w K mg base N__law_sides "_law_sides" (defScope s__law_sides) f cdv A outer s H E) rfl
  exact (vb_cons (vs_set (i := 2) nd rfl (Or.inl rfl) (pv_add pv_int (pc_fn E__law_taken ar__law_taken (hr.mono (by decide)) (by rfl) tk (va_cons (pv_var 0) (va_cons pv_int va_nil)))))
    (vb_cons (vs_set (i := 3) nd rfl (Or.inl rfl) (pc_fn E__law_taken ar__law_taken (hr.mono (by decide)) (by rfl) tk (va_cons (pv_var 0) (va_cons pv_int va_nil))))
    (vb_cons (vs_set (i := 4) nd rfl (Or.inl rfl) (pv_newl va_nil))
    (vb_cons (vs_for hp rfl (vi_range1 (by rfl) T.b_range (va_cons (pv_var 2) va_nil)) (vg_name (i := 5) nd rfl (Or.inl rfl))
    (vb_cons (vs_set (i := 6) nd rfl (Or.inl rfl) (pv_sub pv_int (pv_sum rfl (by rfl) T.b_sum (va_cons (pv_var 4) va_nil))))
    (vb_one (vs_expr (pv_append (pv_var 4) (va_cons (pv_if (pt_eq hu (pv_var 3) pv_int) (pv_min2 rfl (by rfl) T.b_min (va_cons (pv_var 6) (va_cons (pv_add pv_int (pc_fn E__law_taken ar__law_taken (hr.mono (by decide)) (by rfl) tk (va_cons (pv_var 0) (va_cons pv_int va_nil)))) va_nil))) (pc_fn E__law_taken ar__law_taken (hr.mono (by decide)) (by rfl) tk (va_cons (pv_var 0) (va_cons (pv_add (pv_min2 rfl (by rfl) T.b_min (va_cons (pv_var 6) (va_cons pv_int va_nil))) pv_int) va_nil)))) va_nil))))))
    (vb_cons (vs_if (pt_eq hu (pv_sum rfl (by rfl) T.b_sum (va_cons (pv_var 4) va_nil)) pv_int)
    (vb_one (vs_subSet (pv_var 4) (pc_fn E__law_taken ar__law_taken (hr.mono (by decide)) (by rfl) tk (va_cons (pv_var 0) (va_cons (pv_var 2) va_nil))) (pv_add pv_int (pc_fn E__law_taken ar__law_taken (hr.mono (by decide)) (by rfl) tk (va_cons (pv_var 0) (va_cons pv_int va_nil))))))
    vb_nil)
    (vb_cons (vs_for hp rfl (vi_range1 (by rfl) T.b_range (va_cons pv_int va_nil)) (vg_name (i := 7) nd rfl (Or.inl rfl))
    (vb_one (vs_if (pt_gt (pc_fn E__law_pairs ar__law_pairs (hr.mono (by decide)) (by rfl) tk (va_cons (pv_var 4) va_nil)) (pv_var 1))
    (vb_cons (vs_set (i := 5) nd rfl (Or.inl rfl) (pv_index (pv_var 4) (va_cons (pv_max rfl (by rfl) T.b_max (va_cons (pv_var 4) va_nil)) va_nil)))
    (vb_one (vs_subSet (pv_var 4) (pv_var 5) (pv_sub (pv_ix (pv_var 4) (pv_var 5)) pv_int))))
    vb_nil)))
    (vb_one (vs_ret (pv_tupOf (by rfl) T.b_tuple (va_cons (pv_var 4) va_nil))))))))))

theorem ok__law_owner {f : Addr} {fd : FuncData} (F : FunD K "_law_owner" "_law_owner" (defArgs s__law_owner) (defBody s__law_owner) (defScope s__law_owner) [] [] f fd) (T : Tx K cl mg)  : FnD P w K cl mg base 1 f fd ["_law_sides_here"] sem__law_owner := by
  refine FnD.mkD (body := b__law_owner) T.pl F sc__law_owner (fun cdv A outer s H E hr => ?_) lv__law_owner
  have nd := sc__law_owner.nd
  have hu := hr.units
  have hu1 := hu_of hr
  have tk := takes_of (X := cxOf (L2.CX P w) P w K mg base N__law_owner "_law_owner" (defScope s__law_owner) f cdv A outer s H E) rfl rfl rfl rfl
  have hp := passes_of (X := cxOf (L2.CX P w) P w K mg base N__law_owner "_law_owner" (defScope s__law_owner) f cdv A outer s H E) rfl
  exact (vb_cons (vs_set (i := 1) nd rfl (Or.inl rfl) (pv_lst va_nil))
    (vb_cons (vs_for hp rfl (vi_range1 (by rfl) T.b_range (va_cons (pv_len (by rfl) T.b_len (va_cons (pv_var 0) va_nil)) va_nil)) (vg_name (i := 2) nd rfl (Or.inl rfl))
    (vb_one (vs_set (i := 1) nd rfl (Or.inl rfl) (pv_add (pv_var 1) (pv_mul (pv_lst (va_cons (pv_var 2) va_nil)) (pv_ix (pv_var 0) (pv_var 2)))))))
    (vb_one (vs_ret (pv_var 1)))))

theorem ok__law_can {f : Addr} {fd : FuncData} (F : FunD K "_law_can" "_law_can" (defArgs s__law_can) (defBody s__law_can) (defScope s__law_can) [] [] f fd) (T : Tx K cl mg)  : FnD P w K cl mg base 1 f fd ["_law_owner_here", "_law_order", "_law_place"] sem__law_can := by
  refine FnD.mkD (body := b__law_can) T.pl F sc__law_can (fun cdv A outer s H E hr => ?_) lv__law_can
  have nd := sc__law_can.nd
  have hu := hr.units
  have hu1 := hu_of hr
  have tk := takes_of (X := cxOf (L2.CX P w) P w K mg base N__law_can "_law_can" (defScope s__law_can) f cdv A outer s H E) rfl rfl rfl rfl
  have hp := passes_of (X := cxOf (L2.CX P w) P w K mg base N__law_can "_law_can" (defScope s__law_can) f cdv A outer s H E) rfl
  exact (vb_one (vs_ret (pv_andv (pv_chain op_le op_lt o_le o_lt pv_int (pv_var 2) (pv_sub (pv_len (by rfl) T.b_len (va_cons (pv_var 1) va_nil)) pv_int)) (pv_one (pv_lt (pv_ix (pv_var 0) (pv_ix (pv_var 1) (pv_var 2))) (pv_ix (pv_var 0) (pv_ix (pv_var 1) (pv_add (pv_var 2) pv_int))))))))

theorem ok__law_any {f : Addr} {fd : FuncData} (F : FunD K "_law_any" "_law_any" (defArgs s__law_any) (defBody s__law_any) (defScope s__law_any) [] [] f fd) (T : Tx K cl mg) (E__law_owner : Ent P w K cl mg base "_law_owner" 1 ["_law_sides_here"] [] sem__law_owner) (E__law_taken : Ent P w K cl mg base "_law_taken" 1 ["_law_row_here", "_law_many"] [] sem__law_taken) (E__law_pairs : Ent P w K cl mg base "_law_pairs" 1 ["_law_sides_here"] [] sem__law_pairs) (E__law_can : Ent P w K cl mg base "_law_can" 1 ["_law_owner_here", "_law_order", "_law_place"] [] sem__law_can) : FnD P w K cl mg base 2 f fd ["_law_row_here", "_law_sides_here"] sem__law_any := by
  refine FnD.mkD (body := b__law_any) T.pl F sc__law_any (fun cdv A outer s H E hr => ?_) lv__law_any
  have nd := sc__law_any.nd
  have hu := hr.units
  have hu1 := hu_of hr
  have tk := takes_of (X := cxOf (L2.CX P w) P w K mg base N__law_any "_law_any" (defScope s__law_any) f cdv A outer s H E) rfl rfl rfl rfl
  have hp := passes_of (X := cxOf (L2.CX P w) P w K mg base N__law_any "_law_any" (defScope s__law_any) f cdv A outer s H E) rfl
  exact (vb_cons (vs_set (i := 2) nd rfl (Or.inr rfl) (pc_fn E__law_owner ar__law_owner (hr.mono (by decide)) (by rfl) tk (va_cons (pv_var 1) va_nil)))
    (vb_cons (vs_set (i := 3) nd rfl (Or.inr rfl) (pv_listRg1 (new := false) rfl (by rfl) T.b_list (by rfl) T.b_range (pv_len (by rfl) T.b_len (va_cons (pv_var 2) va_nil))))
    (vb_cons (vs_set (i := 4) nd rfl (Or.inl rfl) (pv_newl va_nil))
    (vb_cons (vs_set (i := 5) nd rfl (Or.inl rfl) (pc_fn E__law_taken ar__law_taken (hr.mono (by decide)) (by rfl) tk (va_cons (pv_var 0) (va_cons pv_int va_nil))))
    (vb_cons (vs_for hp rfl (vi_range1 (by rfl) T.b_range (va_cons (pc_fn E__law_pairs ar__law_pairs (hr.mono (by decide)) (by rfl) tk (va_cons (pv_var 1) va_nil)) va_nil)) (vg_name (i := 6) nd rfl (Or.inl rfl))
    (vb_cons (vs_setLcL (i := 7) (k := 1) (own := [("_law_place", 8)]) rfl nd rfl rfl (sw_true rfl rfl rfl (by decide +kernel)) (vi_range1 (by rfl) T.b_range (va_cons (pv_len (by rfl) T.b_len (va_cons (pv_var 3) va_nil)) va_nil)) (blkOk_by (N := N__law_any) (sc := (defScope s__law_any)) (by decide +kernel)) (fun _ _ _ _ _ => (vg_name (i := 8) nd rfl (Or.inl rfl))) (fun _ _ _ _ _ => (vts_one (pt_v (pc_fn E__law_can ar__law_can (hr.mono (by decide)) (by rfl) takes0 (va_cons (pv_var 2) (va_cons (pv_var 3) (va_cons (pv_var 8) va_nil))))))) (fun _ _ _ _ _ => (pv_var 8)))
    (vb_cons (vs_if (pt_wh (pw_a2 (pt_gt (pv_var 5) pv_int) (pw_a1 (pt_gt (pc_fn E__law_taken ar__law_taken (hr.mono (by decide)) (by rfl) tk (va_cons (pv_var 0) (va_cons pv_int va_nil))) pv_int))))
    (vb_one (vs_set (i := 7) nd rfl (Or.inl rfl) (pv_lst (va_cons (pv_ix (pv_var 7) (pv_sub pv_int (pv_mod (pv_var 5) pv_int))) va_nil))))
    vb_nil)
    (vb_cons (vs_set (i := 8) nd rfl (Or.inl rfl) (pv_ix (pv_var 7) (pc_fn E__law_taken ar__law_taken (hr.mono (by decide)) (by rfl) tk (va_cons (pv_var 0) (va_cons (pv_len (by rfl) T.b_len (va_cons (pv_var 7) va_nil)) va_nil)))))
    (vb_cons (vs_expr (pv_append (pv_var 4) (va_cons (pv_var 8) va_nil)))
    (vb_one (vs_set (i := 3) nd rfl (Or.inr rfl) (pv_add (pv_add (pv_slice (pv_var 3) vo_none (vo_some (pv_var 8))) (pv_lst (va_cons (pv_ix (pv_var 3) (pv_add (pv_var 8) pv_int)) (va_cons (pv_ix (pv_var 3) (pv_var 8)) va_nil)))) (pv_slice (pv_var 3) (vo_some (pv_add (pv_var 8) pv_int)) vo_none)))))))))
    (vb_one (vs_ret (pv_var 4))))))))

theorem ok__law_laid {f : Addr} {fd : FuncData} (F : FunD K "_law_laid" "_law_laid" (defArgs s__law_laid) (defBody s__law_laid) (defScope s__law_laid) [] [] f fd) (T : Tx K cl mg)  : FnD P w K cl mg base 1 f fd ["_law_sides_here", "_law_told"] sem__law_laid := by
  refine FnD.mkD (body := b__law_laid) T.pl F sc__law_laid (fun cdv A outer s H E hr => ?_) lv__law_laid
  have nd := sc__law_laid.nd
  have hu := hr.units
  have hu1 := hu_of hr
  have tk := takes_of (X := cxOf (L2.CX P w) P w K mg base N__law_laid "_law_laid" (defScope s__law_laid) f cdv A outer s H E) rfl rfl rfl rfl
  have hp := passes_of (X := cxOf (L2.CX P w) P w K mg base N__law_laid "_law_laid" (defScope s__law_laid) f cdv A outer s H E) rfl
  exact (vb_cons (vs_set (i := 2) nd rfl (Or.inl rfl) (pv_listRg1 (new := false) rfl (by rfl) T.b_list (by rfl) T.b_range (pv_sum rfl (by rfl) T.b_sum (va_cons (pv_var 0) va_nil))))
    (vb_cons (vs_set (i := 3) nd rfl (Or.inl rfl) (pv_newl va_nil))
    (vb_cons (vs_for hp rfl (vi_list (pv_var 1)) (vg_name (i := 4) nd rfl (Or.inl rfl))
    (vb_cons (vs_par (i := 5) (j := 6) rfl nd rfl rfl (by decide) rfl rfl (pv_ix (pv_var 2) (pv_var 4)) (pv_ix (pv_var 2) (pv_add (pv_var 4) pv_int)) (by rfl))
    (vb_cons (vs_expr (pv_append (pv_var 3) (va_cons (pv_tup (va_cons (pv_var 5) (va_cons (pv_var 6) (va_cons (pv_var 4) (va_cons (pv_slice (pv_var 2) vo_none (vo_some (pv_var 4))) (va_cons (pv_slice (pv_var 2) (vo_some (pv_add (pv_var 4) pv_int)) vo_none) va_nil)))))) va_nil)))
    (vb_one (vs_set (i := 2) nd rfl (Or.inl rfl) (pv_add (pv_add (pv_slice (pv_var 2) vo_none (vo_some (pv_var 4))) (pv_lst (va_cons (pv_var 6) (va_cons (pv_var 5) va_nil)))) (pv_slice (pv_var 2) (vo_some (pv_add (pv_var 4) pv_int)) vo_none)))))))
    (vb_one (vs_ret (pv_var 3))))))

theorem ok__law_highs {f : Addr} {fd : FuncData} (F : FunD K "_law_highs" "_law_highs" (defArgs s__law_highs) (defBody s__law_highs) (defScope s__law_highs) [] [] f fd) (T : Tx K cl mg) (E__law_owner : Ent P w K cl mg base "_law_owner" 1 ["_law_sides_here"] [] sem__law_owner) (E__law_laid : Ent P w K cl mg base "_law_laid" 1 ["_law_sides_here", "_law_told"] [] sem__law_laid) : FnD P w K cl mg base 2 f fd ["_law_sides_here", "_law_told"] sem__law_highs := by
  refine FnD.mkD (body := b__law_highs) T.pl F sc__law_highs (fun cdv A outer s H E hr => ?_) lv__law_highs
  have nd := sc__law_highs.nd
  have hu := hr.units
  have hu1 := hu_of hr
  have tk := takes_of (X := cxOf (L2.CX P w) P w K mg base N__law_highs "_law_highs" (defScope s__law_highs) f cdv A outer s H E) rfl rfl rfl rfl
  have hp := passes_of (X := cxOf (L2.CX P w) P w K mg base N__law_highs "_law_highs" (defScope s__law_highs) f cdv A outer s H E) rfl
  exact (vb_cons (vs_set (i := 2) nd rfl (Or.inr rfl) (pc_fn E__law_owner ar__law_owner (hr.mono (by decide)) (by rfl) tk (va_cons (pv_var 0) va_nil)))
    (vb_cons (vs_set (i := 3) nd rfl (Or.inl rfl) (pv_lst va_nil))
    (vb_cons (vs_for hp rfl (vi_list (pc_fn E__law_laid ar__law_laid (hr.mono (by decide)) (by rfl) tk (va_cons (pv_var 0) (va_cons (pv_var 1) va_nil)))) (vg_tup rfl (vgs_cons (vg_name (i := 4) nd rfl (Or.inr rfl)) (vgs_cons (vg_name (i := 5) nd rfl (Or.inr rfl)) (vgs_cons (vg_name (i := 6) nd rfl (Or.inl rfl)) (vgs_cons (vg_name (i := 7) nd rfl (Or.inl rfl)) (vgs_cons (vg_name (i := 8) nd rfl (Or.inl rfl)) vgs_nil))))))
    (vb_one (vs_set (i := 3) nd rfl (Or.inl rfl) (pv_add (pv_var 3) (pv_leave 1 (pv_lc (own := [("_law_b", 9)]) rfl nd (vi_list (pv_var 8)) (blkOk_by (N := N__law_highs) (sc := (defScope s__law_highs)) (by decide +kernel)) (fun _ _ _ _ _ => (vg_name (i := 9) nd rfl (Or.inl rfl))) (fun _ _ _ _ _ => (vts_one (pt_wh (pw_a2 (pvt_chain op_lt op_lt o_lt o_lt (pv_var 4) (pv_var 9) (pv_var 5)) (pw_a1 (pvt_chain op_lt op_lt o_lt o_lt (pv_ix (pv_var 2) (pv_var 4)) (pv_ix (pv_var 2) (pv_var 9)) (pv_ix (pv_var 2) (pv_var 5)))))))) (fun _ _ _ _ _ => (pv_tup (va_cons (pv_var 4) (va_cons (pv_var 9) (va_cons (pv_var 5) va_nil)))))))))))
    (vb_one (vs_ret (pv_sortT (d := 3) (new := false) (by decide) (by rfl) T.b_sorted (va_cons (pv_var 3) va_nil)))))))

theorem ok__law_alike {n : Nat} {f : Addr} {fd : FuncData} (F : FunD K "_law_alike" "_law_alike" (defArgs s__law_alike) (defBody s__law_alike) (defScope s__law_alike) [] [] f fd) (T : Tx K cl mg) (E__law_alike : Ent P w K cl mg base "_law_alike" n ["_law_found", "_law_due"] [] (semr__law_alike n)) : FnD P w K cl mg base (n + 1) f fd ["_law_found", "_law_due"] (semr__law_alike (n + 1)) := by
  refine FnD.mkD (body := b__law_alike (semr__law_alike n)) T.pl F sc__law_alike (fun cdv A outer s H E hr => ?_) lvr__law_alike
  have nd := sc__law_alike.nd
  have hu := hr.units
  have hu1 := hu_of hr
  have tk := takes_of (X := cxOf (L2.CX P w) P w K mg base N__law_alike "_law_alike" (defScope s__law_alike) f cdv A outer s H E) rfl rfl rfl rfl
  have hp := passes_of (X := cxOf (L2.CX P w) P w K mg base N__law_alike "_law_alike" (defScope s__law_alike) f cdv A outer s H E) rfl
  exact (vb_cons (vs_if (pt_wh (pw_o2 (pt_v (pv_isi (by rfl) T.b_isinstance (va_cons (pv_var 1) (va_cons (pv_type (by rfl) T.b_tuple boot_tuple) va_nil)))) (pw_o1 (pt_v (pv_isi (by rfl) T.b_isinstance (va_cons (pv_var 1) (va_cons (pv_type (by rfl) T.b_list boot_list) va_nil)))))))
    (vb_cons (vs_if (pt_wh (pw_o2 (pt_ne hu (pv_isi (by rfl) T.b_isinstance (va_cons (pv_var 0) (va_cons (pv_type (by rfl) T.b_tuple boot_tuple) va_nil))) (pv_isi (by rfl) T.b_isinstance (va_cons (pv_var 1) (va_cons (pv_type (by rfl) T.b_tuple boot_tuple) va_nil)))) (pw_o1 (pt_no (pt_v (pv_isiT (by rfl) T.b_isinstance (va_cons (pv_var 0) (va_cons (pv_tup (va_cons (pv_type (by rfl) T.b_tuple boot_tuple) (va_cons (pv_type (by rfl) T.b_list boot_list) va_nil))) va_nil))))))))
    (vb_one (vs_ret pv_bl))
    vb_nil)
    (vb_cons (vs_if (pt_ne hu (pv_len (by rfl) T.b_len (va_cons (pv_var 0) va_nil)) (pv_len (by rfl) T.b_len (va_cons (pv_var 1) va_nil)))
    (vb_one (vs_ret pv_bl))
    vb_nil)
    (vb_one (vs_ret (pv_eq hu (pv_leave 1 (pv_lc (own := [("_law_k", 2)]) rfl nd (vi_range1 (by rfl) T.b_range (va_cons (pv_len (by rfl) T.b_len (va_cons (pv_var 1) va_nil)) va_nil)) (blkOk_by (N := N__law_alike) (sc := (defScope s__law_alike)) (by decide +kernel)) (fun _ _ _ _ _ => (vg_name (i := 2) nd rfl (Or.inl rfl))) (fun _ _ _ _ _ => (vts_one (pt_no (pt_v (pc_fn E__law_alike (arr__law_alike n) hr (by rfl) takes0 (va_cons (pv_ix (pv_var 0) (pv_var 2)) (va_cons (pv_ix (pv_var 1) (pv_var 2)) va_nil))))))) (fun _ _ _ _ _ => (pv_var 2)))) (pv_lst va_nil))))))
    vb_nil)
    (vb_cons (vs_if (pt_wh (pw_o2 (pt_isN (pv_var 1)) (pw_o1 (pt_isN (pv_var 0)))))
    (vb_one (vs_ret (pv_andv (pv_isN (pv_var 1)) (pv_one (pv_isN (pv_var 0))))))
    vb_nil)
    (vb_cons (vs_if (pt_wh (pw_o2 (pt_v (pv_isi (by rfl) T.b_isinstance (va_cons (pv_var 1) (va_cons (pv_type (by rfl) T.b_bool boot_bool) va_nil)))) (pw_o1 (pt_v (pv_isi (by rfl) T.b_isinstance (va_cons (pv_var 0) (va_cons (pv_type (by rfl) T.b_bool boot_bool) va_nil)))))))
    (vb_one (vs_ret (pv_andv (pv_isi (by rfl) T.b_isinstance (va_cons (pv_var 1) (va_cons (pv_type (by rfl) T.b_bool boot_bool) va_nil))) (pv_andv (pv_isi (by rfl) T.b_isinstance (va_cons (pv_var 0) (va_cons (pv_type (by rfl) T.b_bool boot_bool) va_nil))) (pv_one (pv_eq hu (pv_var 0) (pv_var 1)))))))
    vb_nil)
    (vb_cons (vs_if (pt_v (pv_isi (by rfl) T.b_isinstance (va_cons (pv_var 1) (va_cons (pv_type (by rfl) T.b_str boot_str) va_nil))))
    (vb_one (vs_ret (pv_andv (pv_isi (by rfl) T.b_isinstance (va_cons (pv_var 0) (va_cons (pv_type (by rfl) T.b_str boot_str) va_nil))) (pv_one (pv_eq hu (pv_var 0) (pv_var 1))))))
    vb_nil)
    (vb_one (vs_ret (pv_andv (pv_isi (by rfl) T.b_isinstance (va_cons (pv_var 0) (va_cons (pv_type (by rfl) T.b_int boot_int) va_nil))) (pv_one (pv_eq hu (pv_var 0) (pv_var 1))))))))))

theorem ok__law_least {f : Addr} {fd : FuncData} (F : FunD K "_law_least" "_law_least" (defArgs s__law_least) (defBody s__law_least) (defScope s__law_least) [] [] f fd) (T : Tx K cl mg)  : FnD P w K cl mg base 1 f fd ["_law_told"] sem__law_least := by
  refine FnD.mkD (body := b__law_least) T.pl F sc__law_least (fun cdv A outer s H E hr => ?_) lv__law_least
  have nd := sc__law_least.nd
  have hu := hr.units
  have hu1 := hu_of hr
  have tk := takes_of (X := cxOf (L2.CX P w) P w K mg base N__law_least "_law_least" (defScope s__law_least) f cdv A outer s H E) rfl rfl rfl rfl
  have hp := passes_of (X := cxOf (L2.CX P w) P w K mg base N__law_least "_law_least" (defScope s__law_least) f cdv A outer s H E) rfl
  exact (vb_cons (vs_set (i := 1) nd rfl (Or.inr rfl) (pv_list (new := true) (by rfl) T.b_list (va_cons (pv_var 0) va_nil)))
    (vb_cons (vs_set (i := 2) nd rfl (Or.inl rfl) (pv_newl va_nil))
    (vb_cons (vs_while hp (pt_ne hu (pv_var 1) (pv_lst va_nil))
    (vb_cons (vs_set (i := 3) nd rfl (Or.inl rfl) (pv_newl va_nil))
    (vb_cons (vs_for hp rfl (vi_range1 (by rfl) T.b_range (va_cons (pv_len (by rfl) T.b_len (va_cons (pv_var 1) va_nil)) va_nil)) (vg_name (i := 4) nd rfl (Or.inr rfl))
    (vb_one (vs_if (pt_eq hu (pv_leave 1 (pv_lc (own := [("_law_place", 5)]) rfl nd (vi_list (pv_slice (pv_var 1) vo_none (vo_some (pv_var 4)))) (blkOk_by (N := N__law_least) (sc := (defScope s__law_least)) (by decide +kernel)) (fun _ _ _ _ _ => (vg_name (i := 5) nd rfl (Or.inl rfl))) (fun _ _ _ _ _ => (vts_one (pt_lt (pv_abs (by rfl) T.b_abs (va_cons (pv_sub (pv_var 5) (pv_ix (pv_var 1) (pv_var 4))) va_nil)) pv_int))) (fun _ _ _ _ _ => (pv_var 5)))) (pv_lst va_nil))
    (vb_one (vs_expr (pv_append (pv_var 3) (va_cons (pv_tup (va_cons (pv_ix (pv_var 1) (pv_var 4)) (va_cons (pv_var 4) va_nil))) va_nil))))
    vb_nil)))
    (vb_one (vs_expr (pv_append (pv_var 2) (va_cons (pv_popAt (pv_var 1) (va_cons (pv_ix (pv_minT rfl hu1 (by rfl) T.b_min (va_cons (pv_var 3) va_nil)) pv_int) va_nil)) va_nil)))))))
    (vb_one (vs_ret (pv_var 2))))))

theorem ok_law {f : Addr} {fd : FuncData} (F : FunD K "law" "law" (defArgs s_law) (defBody s_law) (defScope s_law) [] [] f fd) (T : Tx K cl mg) (E__law_row : Ent P w K cl mg base "_law_row" 1 ["_law_script"] [] sem__law_row) (E__law_sides : Ent P w K cl mg base "_law_sides" 2 ["_law_row_here", "_law_most"] [] sem__law_sides) (E__law_any : Ent P w K cl mg base "_law_any" 2 ["_law_row_here", "_law_sides_here"] [] sem__law_any) (E__law_highs : Ent P w K cl mg base "_law_highs" 2 ["_law_sides_here", "_law_told"] [] sem__law_highs) (E_floor_of : Ent P w K cl mg base "floor_of" 5 ["sides", "threes"] [] sem_floor_of) (E__law_least : Ent P w K cl mg base "_law_least" 1 ["_law_told"] [] sem__law_least) (E__law_alike : Ent P w K cl mg base "_law_alike" 6 ["_law_found", "_law_due"] [] sem__law_alike) (E_highs : Ent P w K cl mg base "highs" 7 ["sides", "row"] [] sem_highs) : FnD P w K cl mg base 8 f fd ["_law_script"] sem_law := by
  refine FnD.mkD (body := b_law) T.pl F sc_law (fun cdv A outer s H E hr => ?_) lv_law
  have nd := sc_law.nd
  have hu := hr.units
  have hu1 := hu_of hr
  have tk := takes_of (X := cxOf (L2.CX P w) P w K mg base N_law "law" (defScope s_law) f cdv A outer s H E) rfl rfl rfl rfl
  have hp := passes_of (X := cxOf (L2.CX P w) P w K mg base N_law "law" (defScope s_law) f cdv A outer s H E) rfl
  exact (vb_cons (vs_set (i := 1) nd rfl (Or.inl rfl) (pc_fn E__law_row ar__law_row (hr.mono (by decide)) (by rfl) tk (va_cons (pv_var 0) va_nil)))
    (vb_cons (vs_for hp rfl (vi_range1 (by rfl) T.b_range (va_cons pv_int va_nil)) (vg_name (i := 2) nd rfl (Or.inl rfl))
    (vb_cons (vs_set (i := 3) nd rfl (Or.inl rfl) (pc_fn E__law_sides ar__law_sides (hr.mono (by decide)) (by rfl) tk (va_cons (pv_var 1) (va_cons pv_int va_nil))))
    (vb_cons (vs_set (i := 4) nd rfl (Or.inl rfl) (pc_fn E__law_any ar__law_any (hr.mono (by decide)) (by rfl) tk (va_cons (pv_var 1) (va_cons (pv_var 3) va_nil))))
    (vb_cons (vs_set (i := 5) nd rfl (Or.inl rfl) (pc_fn E__law_highs ar__law_highs (hr.mono (by decide)) (by rfl) tk (va_cons (pv_var 3) (va_cons (pv_var 4) va_nil))))
    (vb_cons (vs_set (i := 6) nd rfl (Or.inl rfl) (pv_list (new := false) (by rfl) T.b_list (va_cons (pv_var 5) va_nil)))
    (vb_cons (vs_set (i := 7) nd rfl (Or.inl rfl) (pc_fn E_floor_of ar_floor_of (hr.mono (by decide)) (by rfl) tk (va_cons (pv_var 3) (va_cons (pv_var 6) va_nil))))
    (vb_cons (vs_if (pt_wh (pw_o2 (pt_no (pt_v (pc_fn E__law_alike ar__law_alike (hr.mono (by decide)) (by rfl) tk (va_cons (pv_var 7) (va_cons (pc_fn E__law_least ar__law_least (hr.mono (by decide)) (by rfl) tk (va_cons (pv_var 4) va_nil)) va_nil))))) (pw_o1 (pt_ne hu (pv_var 6) (pv_var 5)))))
    (vb_one (vs_ret pv_bl))
    vb_nil)
    (vb_cons (vs_if (pt_no (pt_v (pc_fn E__law_alike ar__law_alike (hr.mono (by decide)) (by rfl) tk (va_cons (pc_fn E_highs ar_highs (hr.mono (by decide)) (by rfl) tk (va_cons (pv_var 3) (va_cons (pv_var 7) va_nil))) (va_cons (pv_var 5) va_nil)))))
    (vb_one (vs_ret pv_bl))
    vb_nil)
    (vb_cons (vs_expr (pv_append (pv_var 7) (va_cons pv_int va_nil)))
    (vb_one (vs_if (pt_no (pt_v (pc_fn E__law_alike ar__law_alike (hr.mono (by decide)) (by rfl) tk (va_cons (pc_fn E_floor_of ar_floor_of (hr.mono (by decide)) (by rfl) tk (va_cons (pv_var 3) (va_cons (pv_var 6) va_nil))) (va_cons (pc_fn E__law_least ar__law_least (hr.mono (by decide)) (by rfl) tk (va_cons (pv_var 4) va_nil)) va_nil)))))
    (vb_one (vs_ret pv_bl))
    vb_nil)))))))))))
    (vb_one (vs_ret pv_bl))))

theorem fnD_no {k : Nat} {f : Addr} {fd : FuncData} {ps : List Str} : FnD P w K cl mg base k f fd ps (fun _ _ => .no) :=
  ⟨fun vs H Q E h => h.1, fun A outer s H args us vs Q E hr he hb hv hs => by
    obtain ⟨_, f, st, ds, _, _, h⟩ := hs
    exact h.elim⟩
end
end LZ

set_option maxRecDepth 100000
set_option maxHeartbeats 4000000
namespace LZ
open PySem PySem.Spec PyProof.Rows L2 RR

def d_is_number : He.DefD := ⟨("is_number", none), "is_number", "is_number", defArgs s_is_number, defBody s_is_number, defScope s_is_number, [], []⟩
def d_need_sides : He.DefD := ⟨("need_sides", none), "need_sides", "need_sides", defArgs s_need_sides, defBody s_need_sides, defScope s_need_sides, [.int 0], []⟩
def d_owners : He.DefD := ⟨("owners", none), "owners", "owners", defArgs s_owners, defBody s_owners, defScope s_owners, [], []⟩
def d_Outline_are_unlike : He.DefD := ⟨("Outline", some "are_unlike"), "are_unlike", "Outline.are_unlike", defArgs s_Outline_are_unlike, defBody s_Outline_are_unlike, defScope s_Outline_are_unlike, [], []⟩
def d_Outline_rule_of : He.DefD := ⟨("Outline", some "rule_of"), "rule_of", "Outline.rule_of", defArgs s_Outline_rule_of, defBody s_Outline_rule_of, defScope s_Outline_rule_of, [], []⟩
def d_Outline_all_rules : He.DefD := ⟨("Outline", some "all_rules"), "all_rules", "Outline.all_rules", defArgs s_Outline_all_rules, defBody s_Outline_all_rules, defScope s_Outline_all_rules, [], []⟩
def d_Outline___init__ : He.DefD := ⟨("Outline", some "__init__"), "__init__", "Outline.__init__", defArgs s_Outline___init__, defBody s_Outline___init__, defScope s_Outline___init__, [], []⟩
def d_Outline_is_barred : He.DefD := ⟨("Outline", some "is_barred"), "is_barred", "Outline.is_barred", defArgs s_Outline_is_barred, defBody s_Outline_is_barred, defScope s_Outline_is_barred, [], []⟩
def d_Outline_first_bar : He.DefD := ⟨("Outline", some "first_bar"), "first_bar", "Outline.first_bar", defArgs s_Outline_first_bar, defBody s_Outline_first_bar, defScope s_Outline_first_bar, [], []⟩
def d_Outline_bits_of : He.DefD := ⟨("Outline", some "bits_of"), "bits_of", "Outline.bits_of", defArgs s_Outline_bits_of, defBody s_Outline_bits_of, defScope s_Outline_bits_of, [], []⟩
def d_Outline_threes_of : He.DefD := ⟨("Outline", some "threes_of"), "threes_of", "Outline.threes_of", defArgs s_Outline_threes_of, defBody s_Outline_threes_of, defScope s_Outline_threes_of, [], []⟩
def d_Pass___init__ : He.DefD := ⟨("Pass", some "__init__"), "__init__", "Pass.__init__", defArgs s_Pass___init__, defBody s_Pass___init__, defScope s_Pass___init__, [], []⟩
def d_Pass_can_lay : He.DefD := ⟨("Pass", some "can_lay"), "can_lay", "Pass.can_lay", defArgs s_Pass_can_lay, defBody s_Pass_can_lay, defScope s_Pass_can_lay, [], []⟩
def d_Pass_foot : He.DefD := ⟨("Pass", some "foot"), "foot", "Pass.foot", defArgs s_Pass_foot, defBody s_Pass_foot, defScope s_Pass_foot, [], []⟩
def d_Pass_lay : He.DefD := ⟨("Pass", some "lay"), "lay", "Pass.lay", defArgs s_Pass_lay, defBody s_Pass_lay, defScope s_Pass_lay, [], []⟩
def d_Pass_is_over : He.DefD := ⟨("Pass", some "is_over"), "is_over", "Pass.is_over", defArgs s_Pass_is_over, defBody s_Pass_is_over, defScope s_Pass_is_over, [], []⟩
def d_passed : He.DefD := ⟨("passed", none), "passed", "passed", defArgs s_passed, defBody s_passed, defScope s_passed, [], []⟩
def d_code_of : He.DefD := ⟨("code_of", none), "code_of", "code_of", defArgs s_code_of, defBody s_code_of, defScope s_code_of, [], []⟩
def d_is_beneath : He.DefD := ⟨("is_beneath", none), "is_beneath", "is_beneath", defArgs s_is_beneath, defBody s_is_beneath, defScope s_is_beneath, [], []⟩
def d_least_of : He.DefD := ⟨("least_of", none), "least_of", "least_of", defArgs s_least_of, defBody s_least_of, defScope s_least_of, [], []⟩
def d_opened : He.DefD := ⟨("opened", none), "opened", "opened", defArgs s_opened, defBody s_opened, defScope s_opened, [], []⟩
def d_is_three : He.DefD := ⟨("is_three", none), "is_three", "is_three", defArgs s_is_three, defBody s_is_three, defScope s_is_three, [], []⟩
def d_need_threes : He.DefD := ⟨("need_threes", none), "need_threes", "need_threes", defArgs s_need_threes, defBody s_need_threes, defScope s_need_threes, [], []⟩
def d_highs : He.DefD := ⟨("highs", none), "highs", "highs", defArgs s_highs, defBody s_highs, defScope s_highs, [], []⟩
def d_floor_of : He.DefD := ⟨("floor_of", none), "floor_of", "floor_of", defArgs s_floor_of, defBody s_floor_of, defScope s_floor_of, [], []⟩
def d__law_row : He.DefD := ⟨("_law_row", none), "_law_row", "_law_row", defArgs s__law_row, defBody s__law_row, defScope s__law_row, [], []⟩
def d__law_taken : He.DefD := ⟨("_law_taken", none), "_law_taken", "_law_taken", defArgs s__law_taken, defBody s__law_taken, defScope s__law_taken, [], []⟩
def d__law_pairs : He.DefD := ⟨("_law_pairs", none), "_law_pairs", "_law_pairs", defArgs s__law_pairs, defBody s__law_pairs, defScope s__law_pairs, [], []⟩
def d__law_sides : He.DefD := ⟨("_law_sides", none), "_law_sides", "_law_sides", defArgs s__law_sides, defBody s__law_sides, defScope s__law_sides, [], []⟩
def d__law_owner : He.DefD := ⟨("_law_owner", none), "_law_owner", "_law_owner", defArgs s__law_owner, defBody s__law_owner, defScope s__law_owner, [], []⟩
def d__law_can : He.DefD := ⟨("_law_can", none), "_law_can", "_law_can", defArgs s__law_can, defBody s__law_can, defScope s__law_can, [], []⟩
def d__law_any : He.DefD := ⟨("_law_any", none), "_law_any", "_law_any", defArgs s__law_any, defBody s__law_any, defScope s__law_any, [], []⟩
def d__law_laid : He.DefD := ⟨("_law_laid", none), "_law_laid", "_law_laid", defArgs s__law_laid, defBody s__law_laid, defScope s__law_laid, [], []⟩
def d__law_highs : He.DefD := ⟨("_law_highs", none), "_law_highs", "_law_highs", defArgs s__law_highs, defBody s__law_highs, defScope s__law_highs, [], []⟩
def d__law_alike : He.DefD := ⟨("_law_alike", none), "_law_alike", "_law_alike", defArgs s__law_alike, defBody s__law_alike, defScope s__law_alike, [], []⟩
def d__law_least : He.DefD := ⟨("_law_least", none), "_law_least", "_law_least", defArgs s__law_least, defBody s__law_least, defScope s__law_least, [], []⟩
def d_law : He.DefD := ⟨("law", none), "law", "law", defArgs s_law, defBody s_law, defScope s_law, [], []⟩
def fn : List He.DefD := [d_is_number, d_need_sides, d_owners, d_Outline_are_unlike, d_Outline_rule_of, d_Outline_all_rules, d_Outline___init__, d_Outline_is_barred, d_Outline_first_bar, d_Outline_bits_of, d_Outline_threes_of, d_Pass___init__, d_Pass_can_lay, d_Pass_foot, d_Pass_lay, d_Pass_is_over, d_passed, d_code_of, d_is_beneath, d_least_of, d_opened, d_is_three, d_need_threes, d_highs, d_floor_of, d__law_row, d__law_taken, d__law_pairs, d__law_sides, d__law_owner, d__law_can, d__law_any, d__law_laid, d__law_highs, d__law_alike, d__law_least, d_law]
def fa : List He.Fa := [.free "abs", .free "all", .free "any", .free "bool", .free "enumerate", .free "int", .free "isinstance", .free "len", .free "list", .free "max", .free "min", .free "range", .free "sorted", .free "str", .free "sum", .free "tuple", .cls "Outline", .cls "Pass", .int "MOST_LINES" 10, .int "MOST_OF_ONE" 4, .int "MOST_SIDES" 4, .str "THEN" "then", .str "UNLIKE" "unlike", .noat "Outline" "held", .noat "Outline" "many", .noat "Outline" "owner", .noat "Outline" "rules", .noat "Outline" "sides", .noat "Outline" "spot", .noat "Outline" "threes", .noat "Pass" "laid", .noat "Pass" "order", .noat "Pass" "outline", .glo "is_number", .keep "is_number", .meth "Outline" "rule_of", .glo "owners", .keep "owners", .meth "Outline" "are_unlike", .meth "Outline" "all_rules", .meth "Outline" "is_barred", .meth "Pass" "foot", .meth "Pass" "can_lay", .meth "Pass" "lay", .meth "Pass" "is_over", .glo "Pass", .mkr "Pass", .glo "passed", .keep "passed", .meth "Outline" "bits_of", .glo "is_beneath", .keep "is_beneath", .glo "need_sides", .keep "need_sides", .glo "code_of", .keep "code_of", .glo "Outline", .mkr "Outline", .glo "is_three", .keep "is_three", .glo "opened", .keep "opened", .meth "Outline" "threes_of", .glo "need_threes", .keep "need_threes", .glo "least_of", .keep "least_of", .meth "Outline" "first_bar", .glo "_law_taken", .keep "_law_taken", .glo "_law_pairs", .keep "_law_pairs", .glo "_law_owner", .keep "_law_owner", .glo "_law_can", .keep "_law_can", .glo "_law_laid", .keep "_law_laid", .glo "_law_alike", .keep "_law_alike", .glo "_law_row", .keep "_law_row", .glo "_law_sides", .keep "_law_sides", .glo "_law_any", .keep "_law_any", .glo "_law_highs", .keep "_law_highs", .glo "floor_of", .keep "floor_of", .glo "_law_least", .keep "_law_least", .glo "highs", .keep "highs", .glo "law"]
def tf : List He.Defn := [("least_of", none)]
def csK (K : PySem.W.Frag) : List (Addr × Addr) := tf.map (He.cT K)
/-- the tables lie apart -/
def exB (K : PySem.W.Frag) : Bool := decide ((csK K).map (·.2)).Nodup
def clK (K : PySem.W.Frag) : RR.Ctx where
  at_ := fun t => match t with
    | 0 => He.ga K "Outline"
    | 1 => He.ga K "Pass"
    | _ => 0
  tabs := [((He.cT K ("least_of", none)).2, fun _ _ => (("least_of" ++ ".<locals>." : Str) ++ "is_next"))]
  Phi := fun _ _ => True
  phx := fun _ _ => trivial
theorem csm_0 (K : PySem.W.Frag) : He.cT K ("least_of", none) ∈ csK K := by simp [csK, tf]
theorem tm_0 (K : PySem.W.Frag) : ((He.cT K ("least_of", none)).2, fun _ _ => (("least_of" ++ ".<locals>." : Str) ++ "is_next")) ∈ (clK K).tabs := by simp [clK]
theorem tu_0 (K : PySem.W.Frag) (ex : exB K = true) : ∀ q ∈ (clK K).tabs, q.1 = (He.cT K ("least_of", none)).2 → q.2 = fun _ _ => (("least_of" ++ ".<locals>." : Str) ++ "is_next") := by
  have nd : ((csK K).map (·.2)).Nodup := of_decide_eq_true ex
  intro q hq e
  simp only [clK, List.mem_cons, List.not_mem_nil, or_false] at hq
  simp only [csK, tf, List.map_cons, List.map_nil, List.nodup_cons, List.mem_cons, List.not_mem_nil, or_false, not_or] at nd
  rcases hq with rfl
  · rfl
theorem facts {P : Program} {w : World} {K : PySem.W.Frag} {h : Heap} {mg : Str → Option Value} {f : Addr} (X : K.In h) (G : h.Ns mainGlobals mg) (hfa : mg ("law" : Str) = some (.ref f)) (c : He.SaysD fa fn K) (ex : exB K = true) :
    ∃ fd : FuncData, (∀ (s : Shared) (v : Value), BindsTo s fd ⟨[v], []⟩ [("_law_script", v)]) ∧ ∀ base : Heap, (∀ p ∈ csK K, LamX.TabB base mg p.1 p.2) → FnD P w K (clK K) mg base 8 f fd ["_law_script"] sem_law := by
  obtain ⟨fd_is_number, F_is_number⟩ := c.def_ 0 (d := d_is_number) rfl
  obtain ⟨fd_need_sides, F_need_sides⟩ := c.def_ 1 (d := d_need_sides) rfl
  obtain ⟨fd_owners, F_owners⟩ := c.def_ 2 (d := d_owners) rfl
  obtain ⟨fd_Outline_are_unlike, F_Outline_are_unlike⟩ := c.def_ 3 (d := d_Outline_are_unlike) rfl
  obtain ⟨fd_Outline_rule_of, F_Outline_rule_of⟩ := c.def_ 4 (d := d_Outline_rule_of) rfl
  obtain ⟨fd_Outline_all_rules, F_Outline_all_rules⟩ := c.def_ 5 (d := d_Outline_all_rules) rfl
  obtain ⟨fd_Outline___init__, F_Outline___init__⟩ := c.def_ 6 (d := d_Outline___init__) rfl
  obtain ⟨fd_Outline_is_barred, F_Outline_is_barred⟩ := c.def_ 7 (d := d_Outline_is_barred) rfl
  obtain ⟨fd_Outline_first_bar, F_Outline_first_bar⟩ := c.def_ 8 (d := d_Outline_first_bar) rfl
  obtain ⟨fd_Outline_bits_of, F_Outline_bits_of⟩ := c.def_ 9 (d := d_Outline_bits_of) rfl
  obtain ⟨fd_Outline_threes_of, F_Outline_threes_of⟩ := c.def_ 10 (d := d_Outline_threes_of) rfl
  obtain ⟨fd_Pass___init__, F_Pass___init__⟩ := c.def_ 11 (d := d_Pass___init__) rfl
  obtain ⟨fd_Pass_can_lay, F_Pass_can_lay⟩ := c.def_ 12 (d := d_Pass_can_lay) rfl
  obtain ⟨fd_Pass_foot, F_Pass_foot⟩ := c.def_ 13 (d := d_Pass_foot) rfl
  obtain ⟨fd_Pass_lay, F_Pass_lay⟩ := c.def_ 14 (d := d_Pass_lay) rfl
  obtain ⟨fd_Pass_is_over, F_Pass_is_over⟩ := c.def_ 15 (d := d_Pass_is_over) rfl
  obtain ⟨fd_passed, F_passed⟩ := c.def_ 16 (d := d_passed) rfl
  obtain ⟨fd_code_of, F_code_of⟩ := c.def_ 17 (d := d_code_of) rfl
  obtain ⟨fd_is_beneath, F_is_beneath⟩ := c.def_ 18 (d := d_is_beneath) rfl
  obtain ⟨fd_least_of, F_least_of⟩ := c.def_ 19 (d := d_least_of) rfl
  obtain ⟨fd_opened, F_opened⟩ := c.def_ 20 (d := d_opened) rfl
  obtain ⟨fd_is_three, F_is_three⟩ := c.def_ 21 (d := d_is_three) rfl
  obtain ⟨fd_need_threes, F_need_threes⟩ := c.def_ 22 (d := d_need_threes) rfl
  obtain ⟨fd_highs, F_highs⟩ := c.def_ 23 (d := d_highs) rfl
  obtain ⟨fd_floor_of, F_floor_of⟩ := c.def_ 24 (d := d_floor_of) rfl
  obtain ⟨fd__law_row, F__law_row⟩ := c.def_ 25 (d := d__law_row) rfl
  obtain ⟨fd__law_taken, F__law_taken⟩ := c.def_ 26 (d := d__law_taken) rfl
  obtain ⟨fd__law_pairs, F__law_pairs⟩ := c.def_ 27 (d := d__law_pairs) rfl
  obtain ⟨fd__law_sides, F__law_sides⟩ := c.def_ 28 (d := d__law_sides) rfl
  obtain ⟨fd__law_owner, F__law_owner⟩ := c.def_ 29 (d := d__law_owner) rfl
  obtain ⟨fd__law_can, F__law_can⟩ := c.def_ 30 (d := d__law_can) rfl
  obtain ⟨fd__law_any, F__law_any⟩ := c.def_ 31 (d := d__law_any) rfl
  obtain ⟨fd__law_laid, F__law_laid⟩ := c.def_ 32 (d := d__law_laid) rfl
  obtain ⟨fd__law_highs, F__law_highs⟩ := c.def_ 33 (d := d__law_highs) rfl
  obtain ⟨fd__law_alike, F__law_alike⟩ := c.def_ 34 (d := d__law_alike) rfl
  obtain ⟨fd__law_least, F__law_least⟩ := c.def_ 35 (d := d__law_least) rfl
  obtain ⟨fd_law, F_law⟩ := c.def_ 36 (d := d_law) rfl
  have T : Tx K (clK K) mg := { pl := fun _ _ => trivial, tm_least_of := tm_0 K, tu_least_of := tu_0 K ex, b_abs := He.free_ok X G (c.fact 0 (f := .free "abs") rfl), b_all := He.free_ok X G (c.fact 1 (f := .free "all") rfl), b_any := He.free_ok X G (c.fact 2 (f := .free "any") rfl), b_bool := He.free_ok X G (c.fact 3 (f := .free "bool") rfl), b_enumerate := He.free_ok X G (c.fact 4 (f := .free "enumerate") rfl), b_int := He.free_ok X G (c.fact 5 (f := .free "int") rfl), b_isinstance := He.free_ok X G (c.fact 6 (f := .free "isinstance") rfl), b_len := He.free_ok X G (c.fact 7 (f := .free "len") rfl), b_list := He.free_ok X G (c.fact 8 (f := .free "list") rfl), b_max := He.free_ok X G (c.fact 9 (f := .free "max") rfl), b_min := He.free_ok X G (c.fact 10 (f := .free "min") rfl), b_range := He.free_ok X G (c.fact 11 (f := .free "range") rfl), b_sorted := He.free_ok X G (c.fact 12 (f := .free "sorted") rfl), b_str := He.free_ok X G (c.fact 13 (f := .free "str") rfl), b_sum := He.free_ok X G (c.fact 14 (f := .free "sum") rfl), b_tuple := He.free_ok X G (c.fact 15 (f := .free "tuple") rfl), c_0 := He.cls_ok (c.fact 16 (f := .cls "Outline") rfl), c_1 := He.cls_ok (c.fact 17 (f := .cls "Pass") rfl), g_MOST_LINES := He.int_ok X G (c.fact 18 (f := .int "MOST_LINES" 10) rfl), g_MOST_OF_ONE := He.int_ok X G (c.fact 19 (f := .int "MOST_OF_ONE" 4) rfl), g_MOST_SIDES := He.int_ok X G (c.fact 20 (f := .int "MOST_SIDES" 4) rfl), g_THEN := He.str_ok X G (c.fact 21 (f := .str "THEN" "then") rfl), g_UNLIKE := He.str_ok X G (c.fact 22 (f := .str "UNLIKE" "unlike") rfl), n_0_held := He.noat_ok (c.fact 23 (f := .noat "Outline" "held") rfl), n_0_many := He.noat_ok (c.fact 24 (f := .noat "Outline" "many") rfl), n_0_owner := He.noat_ok (c.fact 25 (f := .noat "Outline" "owner") rfl), n_0_rules := He.noat_ok (c.fact 26 (f := .noat "Outline" "rules") rfl), n_0_sides := He.noat_ok (c.fact 27 (f := .noat "Outline" "sides") rfl), n_0_spot := He.noat_ok (c.fact 28 (f := .noat "Outline" "spot") rfl), n_0_threes := He.noat_ok (c.fact 29 (f := .noat "Outline" "threes") rfl), n_1_laid := He.noat_ok (c.fact 30 (f := .noat "Pass" "laid") rfl), n_1_order := He.noat_ok (c.fact 31 (f := .noat "Pass" "order") rfl), n_1_outline := He.noat_ok (c.fact 32 (f := .noat "Pass" "outline") rfl) }
  have B_is_number : Binds K fd_is_number ["part", "low", "high"] [] := F_is_number.bindsN fun _ _ _ _ _ _ us hl => match us, hl with | [_, _, _], _ => rfl
  obtain ⟨ds_need_sides, V_need_sides, B_need_sides⟩ := F_need_sides.binds1 (ps := ["sides", "exact"]) 1 0 (by intro h; cases h) rfl fun T kV doc pm an cdv ct us its hl hi => match us, hl, its, hi with | [_], _, [_], _ => ⟨_, rfl, rfl⟩
  have B_owners : Binds K fd_owners ["sides"] [] := F_owners.bindsN fun _ _ _ _ _ _ us hl => match us, hl with | [_], _ => rfl
  have B_Outline_are_unlike : Binds K fd_Outline_are_unlike ["self", "lines"] [] := F_Outline_are_unlike.bindsN fun _ _ _ _ _ _ us hl => match us, hl with | [_, _], _ => rfl
  have B_Outline_rule_of : Binds K fd_Outline_rule_of ["self", "four"] [] := F_Outline_rule_of.bindsN fun _ _ _ _ _ _ us hl => match us, hl with | [_, _], _ => rfl
  have B_Outline_all_rules : Binds K fd_Outline_all_rules ["self"] [] := F_Outline_all_rules.bindsN fun _ _ _ _ _ _ us hl => match us, hl with | [_], _ => rfl
  have B_Outline___init__ : Binds K fd_Outline___init__ ["self", "sides"] [] := F_Outline___init__.bindsN fun _ _ _ _ _ _ us hl => match us, hl with | [_, _], _ => rfl
  have B_Outline_is_barred : Binds K fd_Outline_is_barred ["self", "code", "rule"] [] := F_Outline_is_barred.bindsN fun _ _ _ _ _ _ us hl => match us, hl with | [_, _, _], _ => rfl
  have B_Outline_first_bar : Binds K fd_Outline_first_bar ["self", "code"] [] := F_Outline_first_bar.bindsN fun _ _ _ _ _ _ us hl => match us, hl with | [_, _], _ => rfl
  have B_Outline_bits_of : Binds K fd_Outline_bits_of ["self", "threes"] [] := F_Outline_bits_of.bindsN fun _ _ _ _ _ _ us hl => match us, hl with | [_, _], _ => rfl
  have B_Outline_threes_of : Binds K fd_Outline_threes_of ["self", "code"] [] := F_Outline_threes_of.bindsN fun _ _ _ _ _ _ us hl => match us, hl with | [_, _], _ => rfl
  have B_Pass___init__ : Binds K fd_Pass___init__ ["self", "outline"] [] := F_Pass___init__.bindsN fun _ _ _ _ _ _ us hl => match us, hl with | [_, _], _ => rfl
  have B_Pass_can_lay : Binds K fd_Pass_can_lay ["self", "place"] [] := F_Pass_can_lay.bindsN fun _ _ _ _ _ _ us hl => match us, hl with | [_, _], _ => rfl
  have B_Pass_foot : Binds K fd_Pass_foot ["self", "place"] [] := F_Pass_foot.bindsN fun _ _ _ _ _ _ us hl => match us, hl with | [_, _], _ => rfl
  have B_Pass_lay : Binds K fd_Pass_lay ["self", "place"] [] := F_Pass_lay.bindsN fun _ _ _ _ _ _ us hl => match us, hl with | [_, _], _ => rfl
  have B_Pass_is_over : Binds K fd_Pass_is_over ["self"] [] := F_Pass_is_over.bindsN fun _ _ _ _ _ _ us hl => match us, hl with | [_], _ => rfl
  have B_passed : Binds K fd_passed ["outline", "row"] [] := F_passed.bindsN fun _ _ _ _ _ _ us hl => match us, hl with | [_, _], _ => rfl
  have B_code_of : Binds K fd_code_of ["outline", "row"] [] := F_code_of.bindsN fun _ _ _ _ _ _ us hl => match us, hl with | [_, _], _ => rfl
  have B_is_beneath : Binds K fd_is_beneath ["outline", "code", "line", "pair"] [] := F_is_beneath.bindsN fun _ _ _ _ _ _ us hl => match us, hl with | [_, _, _, _], _ => rfl
  have B_least_of : Binds K fd_least_of ["outline", "code"] [] := F_least_of.bindsN fun _ _ _ _ _ _ us hl => match us, hl with | [_, _], _ => rfl
  have B_opened : Binds K fd_opened ["sides", "row"] [] := F_opened.bindsN fun _ _ _ _ _ _ us hl => match us, hl with | [_, _], _ => rfl
  have B_is_three : Binds K fd_is_three ["outline", "three"] [] := F_is_three.bindsN fun _ _ _ _ _ _ us hl => match us, hl with | [_, _], _ => rfl
  have B_need_threes : Binds K fd_need_threes ["outline", "threes"] [] := F_need_threes.bindsN fun _ _ _ _ _ _ us hl => match us, hl with | [_, _], _ => rfl
  have B_highs : Binds K fd_highs ["sides", "row"] [] := F_highs.bindsN fun _ _ _ _ _ _ us hl => match us, hl with | [_, _], _ => rfl
  have B_floor_of : Binds K fd_floor_of ["sides", "threes"] [] := F_floor_of.bindsN fun _ _ _ _ _ _ us hl => match us, hl with | [_, _], _ => rfl
  have B__law_row : Binds K fd__law_row ["_law_script"] [] := F__law_row.bindsN fun _ _ _ _ _ _ us hl => match us, hl with | [_], _ => rfl
  have B__law_taken : Binds K fd__law_taken ["_law_row_here", "_law_many"] [] := F__law_taken.bindsN fun _ _ _ _ _ _ us hl => match us, hl with | [_, _], _ => rfl
  have B__law_pairs : Binds K fd__law_pairs ["_law_sides_here"] [] := F__law_pairs.bindsN fun _ _ _ _ _ _ us hl => match us, hl with | [_], _ => rfl
  have B__law_sides : Binds K fd__law_sides ["_law_row_here", "_law_most"] [] := F__law_sides.bindsN fun _ _ _ _ _ _ us hl => match us, hl with | [_, _], _ => rfl
  have B__law_owner : Binds K fd__law_owner ["_law_sides_here"] [] := F__law_owner.bindsN fun _ _ _ _ _ _ us hl => match us, hl with | [_], _ => rfl
  have B__law_can : Binds K fd__law_can ["_law_owner_here", "_law_order", "_law_place"] [] := F__law_can.bindsN fun _ _ _ _ _ _ us hl => match us, hl with | [_, _, _], _ => rfl
  have B__law_any : Binds K fd__law_any ["_law_row_here", "_law_sides_here"] [] := F__law_any.bindsN fun _ _ _ _ _ _ us hl => match us, hl with | [_, _], _ => rfl
  have B__law_laid : Binds K fd__law_laid ["_law_sides_here", "_law_told"] [] := F__law_laid.bindsN fun _ _ _ _ _ _ us hl => match us, hl with | [_, _], _ => rfl
  have B__law_highs : Binds K fd__law_highs ["_law_sides_here", "_law_told"] [] := F__law_highs.bindsN fun _ _ _ _ _ _ us hl => match us, hl with | [_, _], _ => rfl
  have B__law_alike : Binds K fd__law_alike ["_law_found", "_law_due"] [] := F__law_alike.bindsN fun _ _ _ _ _ _ us hl => match us, hl with | [_, _], _ => rfl
  have B__law_least : Binds K fd__law_least ["_law_told"] [] := F__law_least.bindsN fun _ _ _ _ _ _ us hl => match us, hl with | [_], _ => rfl
  have B_law : Binds K fd_law ["_law_script"] [] := F_law.bindsN fun _ _ _ _ _ _ us hl => match us, hl with | [_], _ => rfl
  have O_is_number : ∀ base : Heap, (∀ p ∈ csK K, LamX.TabB base mg p.1 p.2) → FnD P w K (clK K) mg base 1 (He.fAd K d_is_number.at_) fd_is_number ["part", "low", "high"] sem_is_number := fun base TT => ok_is_number F_is_number T 
  have O_need_sides : ∀ base : Heap, (∀ p ∈ csK K, LamX.TabB base mg p.1 p.2) → FnD P w K (clK K) mg base 2 (He.fAd K d_need_sides.at_) fd_need_sides ["sides", "exact"] sem_need_sides := fun base TT => ok_need_sides F_need_sides T ⟨_, fd_is_number, [], [], (He.glo_ok X G (c.fact 33 (f := .glo "is_number") rfl)), (He.keep_ok (c.fact 34 (f := .keep "is_number") rfl)), B_is_number, .nil, fun _ _ => .nil, O_is_number base TT⟩
  have O_owners : ∀ base : Heap, (∀ p ∈ csK K, LamX.TabB base mg p.1 p.2) → FnD P w K (clK K) mg base 1 (He.fAd K d_owners.at_) fd_owners ["sides"] sem_owners := fun base TT => ok_owners F_owners T 
  have O_Outline_are_unlike : ∀ base : Heap, (∀ p ∈ csK K, LamX.TabB base mg p.1 p.2) → FnD P w K (clK K) mg base 1 (He.fAd K d_Outline_are_unlike.at_) fd_Outline_are_unlike ["self", "lines"] sem_Outline_are_unlike := fun base TT => ok_Outline_are_unlike F_Outline_are_unlike T 
  have O_Outline_rule_of : ∀ base : Heap, (∀ p ∈ csK K, LamX.TabB base mg p.1 p.2) → FnD P w K (clK K) mg base 1 (He.fAd K d_Outline_rule_of.at_) fd_Outline_rule_of ["self", "four"] sem_Outline_rule_of := fun base TT => ok_Outline_rule_of F_Outline_rule_of T 
  have O_Outline_all_rules : ∀ base : Heap, (∀ p ∈ csK K, LamX.TabB base mg p.1 p.2) → FnD P w K (clK K) mg base 2 (He.fAd K d_Outline_all_rules.at_) fd_Outline_all_rules ["self"] sem_Outline_all_rules := fun base TT => ok_Outline_all_rules F_Outline_all_rules T ⟨_, fd_Outline_rule_of, He.meth_ok (c.fact 35 (f := .meth "Outline" "rule_of") rfl), B_Outline_rule_of, O_Outline_rule_of base TT⟩
  have O_Outline___init__ : ∀ base : Heap, (∀ p ∈ csK K, LamX.TabB base mg p.1 p.2) → FnD P w K (clK K) mg base 3 (He.fAd K d_Outline___init__.at_) fd_Outline___init__ ["self", "sides"] sem_Outline___init__ := fun base TT => ok_Outline___init__ F_Outline___init__ T ⟨_, fd_owners, [], [], (He.glo_ok X G (c.fact 36 (f := .glo "owners") rfl)), (He.keep_ok (c.fact 37 (f := .keep "owners") rfl)), B_owners, .nil, fun _ _ => .nil, O_owners base TT⟩ ⟨_, fd_Outline_are_unlike, He.meth_ok (c.fact 38 (f := .meth "Outline" "are_unlike") rfl), B_Outline_are_unlike, O_Outline_are_unlike base TT⟩ ⟨_, fd_Outline_all_rules, He.meth_ok (c.fact 39 (f := .meth "Outline" "all_rules") rfl), B_Outline_all_rules, O_Outline_all_rules base TT⟩
  have O_Outline_is_barred : ∀ base : Heap, (∀ p ∈ csK K, LamX.TabB base mg p.1 p.2) → FnD P w K (clK K) mg base 1 (He.fAd K d_Outline_is_barred.at_) fd_Outline_is_barred ["self", "code", "rule"] sem_Outline_is_barred := fun base TT => ok_Outline_is_barred F_Outline_is_barred T 
  have O_Outline_first_bar : ∀ base : Heap, (∀ p ∈ csK K, LamX.TabB base mg p.1 p.2) → FnD P w K (clK K) mg base 2 (He.fAd K d_Outline_first_bar.at_) fd_Outline_first_bar ["self", "code"] sem_Outline_first_bar := fun base TT => ok_Outline_first_bar F_Outline_first_bar T ⟨_, fd_Outline_is_barred, He.meth_ok (c.fact 40 (f := .meth "Outline" "is_barred") rfl), B_Outline_is_barred, O_Outline_is_barred base TT⟩
  have O_Outline_bits_of : ∀ base : Heap, (∀ p ∈ csK K, LamX.TabB base mg p.1 p.2) → FnD P w K (clK K) mg base 1 (He.fAd K d_Outline_bits_of.at_) fd_Outline_bits_of ["self", "threes"] sem_Outline_bits_of := fun base TT => ok_Outline_bits_of F_Outline_bits_of T 
  have O_Outline_threes_of : ∀ base : Heap, (∀ p ∈ csK K, LamX.TabB base mg p.1 p.2) → FnD P w K (clK K) mg base 1 (He.fAd K d_Outline_threes_of.at_) fd_Outline_threes_of ["self", "code"] sem_Outline_threes_of := fun base TT => ok_Outline_threes_of F_Outline_threes_of T 
  have O_Pass___init__ : ∀ base : Heap, (∀ p ∈ csK K, LamX.TabB base mg p.1 p.2) → FnD P w K (clK K) mg base 1 (He.fAd K d_Pass___init__.at_) fd_Pass___init__ ["self", "outline"] sem_Pass___init__ := fun base TT => ok_Pass___init__ F_Pass___init__ T 
  have O_Pass_can_lay : ∀ base : Heap, (∀ p ∈ csK K, LamX.TabB base mg p.1 p.2) → FnD P w K (clK K) mg base 2 (He.fAd K d_Pass_can_lay.at_) fd_Pass_can_lay ["self", "place"] sem_Pass_can_lay := fun base TT => ok_Pass_can_lay F_Pass_can_lay T ⟨_, fd_is_number, [], [], (He.glo_ok X G (c.fact 33 (f := .glo "is_number") rfl)), (He.keep_ok (c.fact 34 (f := .keep "is_number") rfl)), B_is_number, .nil, fun _ _ => .nil, O_is_number base TT⟩
  have O_Pass_foot : ∀ base : Heap, (∀ p ∈ csK K, LamX.TabB base mg p.1 p.2) → FnD P w K (clK K) mg base 1 (He.fAd K d_Pass_foot.at_) fd_Pass_foot ["self", "place"] sem_Pass_foot := fun base TT => ok_Pass_foot F_Pass_foot T 
  have O_Pass_lay : ∀ base : Heap, (∀ p ∈ csK K, LamX.TabB base mg p.1 p.2) → FnD P w K (clK K) mg base 2 (He.fAd K d_Pass_lay.at_) fd_Pass_lay ["self", "place"] sem_Pass_lay := fun base TT => ok_Pass_lay F_Pass_lay T ⟨_, fd_Pass_foot, He.meth_ok (c.fact 41 (f := .meth "Pass" "foot") rfl), B_Pass_foot, O_Pass_foot base TT⟩
  have O_Pass_is_over : ∀ base : Heap, (∀ p ∈ csK K, LamX.TabB base mg p.1 p.2) → FnD P w K (clK K) mg base 3 (He.fAd K d_Pass_is_over.at_) fd_Pass_is_over ["self"] sem_Pass_is_over := fun base TT => ok_Pass_is_over F_Pass_is_over T ⟨_, fd_Pass_can_lay, He.meth_ok (c.fact 42 (f := .meth "Pass" "can_lay") rfl), B_Pass_can_lay, O_Pass_can_lay base TT⟩
  have O_passed : ∀ base : Heap, (∀ p ∈ csK K, LamX.TabB base mg p.1 p.2) → FnD P w K (clK K) mg base 4 (He.fAd K d_passed.at_) fd_passed ["outline", "row"] sem_passed := fun base TT => ok_passed F_passed T ⟨_, fd_Pass_can_lay, He.meth_ok (c.fact 42 (f := .meth "Pass" "can_lay") rfl), B_Pass_can_lay, O_Pass_can_lay base TT⟩ ⟨_, fd_Pass_lay, He.meth_ok (c.fact 43 (f := .meth "Pass" "lay") rfl), B_Pass_lay, O_Pass_lay base TT⟩ ⟨_, fd_Pass_is_over, He.meth_ok (c.fact 44 (f := .meth "Pass" "is_over") rfl), B_Pass_is_over, O_Pass_is_over base TT⟩ ⟨_, fd_Pass___init__, (He.glo_ok X G (c.fact 45 (f := .glo "Pass") rfl)), He.mkr_ok (c.fact 46 (f := .mkr "Pass") rfl), B_Pass___init__, O_Pass___init__ base TT⟩
  have O_code_of : ∀ base : Heap, (∀ p ∈ csK K, LamX.TabB base mg p.1 p.2) → FnD P w K (clK K) mg base 5 (He.fAd K d_code_of.at_) fd_code_of ["outline", "row"] sem_code_of := fun base TT => ok_code_of F_code_of T ⟨_, fd_passed, [], [], (He.glo_ok X G (c.fact 47 (f := .glo "passed") rfl)), (He.keep_ok (c.fact 48 (f := .keep "passed") rfl)), B_passed, .nil, fun _ _ => .nil, O_passed base TT⟩ ⟨_, fd_Outline_bits_of, He.meth_ok (c.fact 49 (f := .meth "Outline" "bits_of") rfl), B_Outline_bits_of, O_Outline_bits_of base TT⟩ ⟨_, fd_Pass_lay, He.meth_ok (c.fact 43 (f := .meth "Pass" "lay") rfl), B_Pass_lay, O_Pass_lay base TT⟩ ⟨_, fd_Pass___init__, (He.glo_ok X G (c.fact 45 (f := .glo "Pass") rfl)), He.mkr_ok (c.fact 46 (f := .mkr "Pass") rfl), B_Pass___init__, O_Pass___init__ base TT⟩
  have O_is_beneath : ∀ base : Heap, (∀ p ∈ csK K, LamX.TabB base mg p.1 p.2) → FnD P w K (clK K) mg base 1 (He.fAd K d_is_beneath.at_) fd_is_beneath ["outline", "code", "line", "pair"] sem_is_beneath := fun base TT => ok_is_beneath F_is_beneath T 
  have O_least_of : ∀ base : Heap, (∀ p ∈ csK K, LamX.TabB base mg p.1 p.2) → FnD P w K (clK K) mg base 4 (He.fAd K d_least_of.at_) fd_least_of ["outline", "code"] sem_least_of := fun base TT => ok_least_of F_least_of T (TT _ (csm_0 K)) ⟨_, fd_Pass_is_over, He.meth_ok (c.fact 44 (f := .meth "Pass" "is_over") rfl), B_Pass_is_over, O_Pass_is_over base TT⟩ ⟨_, fd_Pass_can_lay, He.meth_ok (c.fact 42 (f := .meth "Pass" "can_lay") rfl), B_Pass_can_lay, O_Pass_can_lay base TT⟩ ⟨_, fd_Pass_lay, He.meth_ok (c.fact 43 (f := .meth "Pass" "lay") rfl), B_Pass_lay, O_Pass_lay base TT⟩ ⟨_, fd_Pass___init__, (He.glo_ok X G (c.fact 45 (f := .glo "Pass") rfl)), He.mkr_ok (c.fact 46 (f := .mkr "Pass") rfl), B_Pass___init__, O_Pass___init__ base TT⟩ ⟨_, fd_is_beneath, [], [], (He.glo_ok X G (c.fact 50 (f := .glo "is_beneath") rfl)), (He.keep_ok (c.fact 51 (f := .keep "is_beneath") rfl)), B_is_beneath, .nil, fun _ _ => .nil, O_is_beneath base TT⟩
  have O_opened : ∀ base : Heap, (∀ p ∈ csK K, LamX.TabB base mg p.1 p.2) → FnD P w K (clK K) mg base 6 (He.fAd K d_opened.at_) fd_opened ["sides", "row"] sem_opened := fun base TT => ok_opened F_opened T ⟨_, fd_need_sides, _, ds_need_sides, (He.glo_ok X G (c.fact 52 (f := .glo "need_sides") rfl)), (He.keep_ok (c.fact 53 (f := .keep "need_sides") rfl)), B_need_sides, V_need_sides, fun _ _ => .cons (.int _) (.nil), O_need_sides base TT⟩ ⟨_, fd_code_of, [], [], (He.glo_ok X G (c.fact 54 (f := .glo "code_of") rfl)), (He.keep_ok (c.fact 55 (f := .keep "code_of") rfl)), B_code_of, .nil, fun _ _ => .nil, O_code_of base TT⟩ ⟨_, fd_Outline___init__, (He.glo_ok X G (c.fact 56 (f := .glo "Outline") rfl)), He.mkr_ok (c.fact 57 (f := .mkr "Outline") rfl), B_Outline___init__, O_Outline___init__ base TT⟩
  have O_is_three : ∀ base : Heap, (∀ p ∈ csK K, LamX.TabB base mg p.1 p.2) → FnD P w K (clK K) mg base 1 (He.fAd K d_is_three.at_) fd_is_three ["outline", "three"] sem_is_three := fun base TT => ok_is_three F_is_three T 
  have O_need_threes : ∀ base : Heap, (∀ p ∈ csK K, LamX.TabB base mg p.1 p.2) → FnD P w K (clK K) mg base 2 (He.fAd K d_need_threes.at_) fd_need_threes ["outline", "threes"] sem_need_threes := fun base TT => ok_need_threes F_need_threes T ⟨_, fd_is_three, [], [], (He.glo_ok X G (c.fact 58 (f := .glo "is_three") rfl)), (He.keep_ok (c.fact 59 (f := .keep "is_three") rfl)), B_is_three, .nil, fun _ _ => .nil, O_is_three base TT⟩
  have O_highs : ∀ base : Heap, (∀ p ∈ csK K, LamX.TabB base mg p.1 p.2) → FnD P w K (clK K) mg base 7 (He.fAd K d_highs.at_) fd_highs ["sides", "row"] sem_highs := fun base TT => ok_highs F_highs T ⟨_, fd_opened, [], [], (He.glo_ok X G (c.fact 60 (f := .glo "opened") rfl)), (He.keep_ok (c.fact 61 (f := .keep "opened") rfl)), B_opened, .nil, fun _ _ => .nil, O_opened base TT⟩ ⟨_, fd_Outline_threes_of, He.meth_ok (c.fact 62 (f := .meth "Outline" "threes_of") rfl), B_Outline_threes_of, O_Outline_threes_of base TT⟩
  have O_floor_of : ∀ base : Heap, (∀ p ∈ csK K, LamX.TabB base mg p.1 p.2) → FnD P w K (clK K) mg base 5 (He.fAd K d_floor_of.at_) fd_floor_of ["sides", "threes"] sem_floor_of := fun base TT => ok_floor_of F_floor_of T ⟨_, fd_need_sides, _, ds_need_sides, (He.glo_ok X G (c.fact 52 (f := .glo "need_sides") rfl)), (He.keep_ok (c.fact 53 (f := .keep "need_sides") rfl)), B_need_sides, V_need_sides, fun _ _ => .cons (.int _) (.nil), O_need_sides base TT⟩ ⟨_, fd_need_threes, [], [], (He.glo_ok X G (c.fact 63 (f := .glo "need_threes") rfl)), (He.keep_ok (c.fact 64 (f := .keep "need_threes") rfl)), B_need_threes, .nil, fun _ _ => .nil, O_need_threes base TT⟩ ⟨_, fd_least_of, [], [], (He.glo_ok X G (c.fact 65 (f := .glo "least_of") rfl)), (He.keep_ok (c.fact 66 (f := .keep "least_of") rfl)), B_least_of, .nil, fun _ _ => .nil, O_least_of base TT⟩ ⟨_, fd_Outline_bits_of, He.meth_ok (c.fact 49 (f := .meth "Outline" "bits_of") rfl), B_Outline_bits_of, O_Outline_bits_of base TT⟩ ⟨_, fd_Outline_first_bar, He.meth_ok (c.fact 67 (f := .meth "Outline" "first_bar") rfl), B_Outline_first_bar, O_Outline_first_bar base TT⟩ ⟨_, fd_Outline___init__, (He.glo_ok X G (c.fact 56 (f := .glo "Outline") rfl)), He.mkr_ok (c.fact 57 (f := .mkr "Outline") rfl), B_Outline___init__, O_Outline___init__ base TT⟩
  have O__law_row : ∀ base : Heap, (∀ p ∈ csK K, LamX.TabB base mg p.1 p.2) → FnD P w K (clK K) mg base 1 (He.fAd K d__law_row.at_) fd__law_row ["_law_script"] sem__law_row := fun base TT => ok__law_row F__law_row T 
  have O__law_taken : ∀ base : Heap, (∀ p ∈ csK K, LamX.TabB base mg p.1 p.2) → FnD P w K (clK K) mg base 1 (He.fAd K d__law_taken.at_) fd__law_taken ["_law_row_here", "_law_many"] sem__law_taken := fun base TT => ok__law_taken F__law_taken T 
  have O__law_pairs : ∀ base : Heap, (∀ p ∈ csK K, LamX.TabB base mg p.1 p.2) → FnD P w K (clK K) mg base 1 (He.fAd K d__law_pairs.at_) fd__law_pairs ["_law_sides_here"] sem__law_pairs := fun base TT => ok__law_pairs F__law_pairs T 
  have O__law_sides : ∀ base : Heap, (∀ p ∈ csK K, LamX.TabB base mg p.1 p.2) → FnD P w K (clK K) mg base 2 (He.fAd K d__law_sides.at_) fd__law_sides ["_law_row_here", "_law_most"] sem__law_sides := fun base TT => ok__law_sides F__law_sides T ⟨_, fd__law_taken, [], [], (He.glo_ok X G (c.fact 68 (f := .glo "_law_taken") rfl)), (He.keep_ok (c.fact 69 (f := .keep "_law_taken") rfl)), B__law_taken, .nil, fun _ _ => .nil, O__law_taken base TT⟩ ⟨_, fd__law_pairs, [], [], (He.glo_ok X G (c.fact 70 (f := .glo "_law_pairs") rfl)), (He.keep_ok (c.fact 71 (f := .keep "_law_pairs") rfl)), B__law_pairs, .nil, fun _ _ => .nil, O__law_pairs base TT⟩
  have O__law_owner : ∀ base : Heap, (∀ p ∈ csK K, LamX.TabB base mg p.1 p.2) → FnD P w K (clK K) mg base 1 (He.fAd K d__law_owner.at_) fd__law_owner ["_law_sides_here"] sem__law_owner := fun base TT => ok__law_owner F__law_owner T 
  have O__law_can : ∀ base : Heap, (∀ p ∈ csK K, LamX.TabB base mg p.1 p.2) → FnD P w K (clK K) mg base 1 (He.fAd K d__law_can.at_) fd__law_can ["_law_owner_here", "_law_order", "_law_place"] sem__law_can := fun base TT => ok__law_can F__law_can T 
  have O__law_any : ∀ base : Heap, (∀ p ∈ csK K, LamX.TabB base mg p.1 p.2) → FnD P w K (clK K) mg base 2 (He.fAd K d__law_any.at_) fd__law_any ["_law_row_here", "_law_sides_here"] sem__law_any := fun base TT => ok__law_any F__law_any T ⟨_, fd__law_owner, [], [], (He.glo_ok X G (c.fact 72 (f := .glo "_law_owner") rfl)), (He.keep_ok (c.fact 73 (f := .keep "_law_owner") rfl)), B__law_owner, .nil, fun _ _ => .nil, O__law_owner base TT⟩ ⟨_, fd__law_taken, [], [], (He.glo_ok X G (c.fact 68 (f := .glo "_law_taken") rfl)), (He.keep_ok (c.fact 69 (f := .keep "_law_taken") rfl)), B__law_taken, .nil, fun _ _ => .nil, O__law_taken base TT⟩ ⟨_, fd__law_pairs, [], [], (He.glo_ok X G (c.fact 70 (f := .glo "_law_pairs") rfl)), (He.keep_ok (c.fact 71 (f := .keep "_law_pairs") rfl)), B__law_pairs, .nil, fun _ _ => .nil, O__law_pairs base TT⟩ ⟨_, fd__law_can, [], [], (He.glo_ok X G (c.fact 74 (f := .glo "_law_can") rfl)), (He.keep_ok (c.fact 75 (f := .keep "_law_can") rfl)), B__law_can, .nil, fun _ _ => .nil, O__law_can base TT⟩
  have O__law_laid : ∀ base : Heap, (∀ p ∈ csK K, LamX.TabB base mg p.1 p.2) → FnD P w K (clK K) mg base 1 (He.fAd K d__law_laid.at_) fd__law_laid ["_law_sides_here", "_law_told"] sem__law_laid := fun base TT => ok__law_laid F__law_laid T 
  have O__law_highs : ∀ base : Heap, (∀ p ∈ csK K, LamX.TabB base mg p.1 p.2) → FnD P w K (clK K) mg base 2 (He.fAd K d__law_highs.at_) fd__law_highs ["_law_sides_here", "_law_told"] sem__law_highs := fun base TT => ok__law_highs F__law_highs T ⟨_, fd__law_owner, [], [], (He.glo_ok X G (c.fact 72 (f := .glo "_law_owner") rfl)), (He.keep_ok (c.fact 73 (f := .keep "_law_owner") rfl)), B__law_owner, .nil, fun _ _ => .nil, O__law_owner base TT⟩ ⟨_, fd__law_laid, [], [], (He.glo_ok X G (c.fact 76 (f := .glo "_law_laid") rfl)), (He.keep_ok (c.fact 77 (f := .keep "_law_laid") rfl)), B__law_laid, .nil, fun _ _ => .nil, O__law_laid base TT⟩
  have O__law_alike : ∀ base : Heap, (∀ p ∈ csK K, LamX.TabB base mg p.1 p.2) → FnD P w K (clK K) mg base 6 (He.fAd K d__law_alike.at_) fd__law_alike ["_law_found", "_law_due"] (semr__law_alike 6) := fun base TT => by
    have R : ∀ n, FnD P w K (clK K) mg base n (He.fAd K d__law_alike.at_) fd__law_alike ["_law_found", "_law_due"] (semr__law_alike n) := by
      intro n
      induction n with
      | zero => exact fnD_no
      | succ n ih => exact ok__law_alike F__law_alike T ⟨_, fd__law_alike, [], [], (He.glo_ok X G (c.fact 78 (f := .glo "_law_alike") rfl)), (He.keep_ok (c.fact 79 (f := .keep "_law_alike") rfl)), B__law_alike, .nil, fun _ _ => .nil, ih⟩
    exact R 6
  have O__law_least : ∀ base : Heap, (∀ p ∈ csK K, LamX.TabB base mg p.1 p.2) → FnD P w K (clK K) mg base 1 (He.fAd K d__law_least.at_) fd__law_least ["_law_told"] sem__law_least := fun base TT => ok__law_least F__law_least T 
  have O_law : ∀ base : Heap, (∀ p ∈ csK K, LamX.TabB base mg p.1 p.2) → FnD P w K (clK K) mg base 8 (He.fAd K d_law.at_) fd_law ["_law_script"] sem_law := fun base TT => ok_law F_law T ⟨_, fd__law_row, [], [], (He.glo_ok X G (c.fact 80 (f := .glo "_law_row") rfl)), (He.keep_ok (c.fact 81 (f := .keep "_law_row") rfl)), B__law_row, .nil, fun _ _ => .nil, O__law_row base TT⟩ ⟨_, fd__law_sides, [], [], (He.glo_ok X G (c.fact 82 (f := .glo "_law_sides") rfl)), (He.keep_ok (c.fact 83 (f := .keep "_law_sides") rfl)), B__law_sides, .nil, fun _ _ => .nil, O__law_sides base TT⟩ ⟨_, fd__law_any, [], [], (He.glo_ok X G (c.fact 84 (f := .glo "_law_any") rfl)), (He.keep_ok (c.fact 85 (f := .keep "_law_any") rfl)), B__law_any, .nil, fun _ _ => .nil, O__law_any base TT⟩ ⟨_, fd__law_highs, [], [], (He.glo_ok X G (c.fact 86 (f := .glo "_law_highs") rfl)), (He.keep_ok (c.fact 87 (f := .keep "_law_highs") rfl)), B__law_highs, .nil, fun _ _ => .nil, O__law_highs base TT⟩ ⟨_, fd_floor_of, [], [], (He.glo_ok X G (c.fact 88 (f := .glo "floor_of") rfl)), (He.keep_ok (c.fact 89 (f := .keep "floor_of") rfl)), B_floor_of, .nil, fun _ _ => .nil, O_floor_of base TT⟩ ⟨_, fd__law_least, [], [], (He.glo_ok X G (c.fact 90 (f := .glo "_law_least") rfl)), (He.keep_ok (c.fact 91 (f := .keep "_law_least") rfl)), B__law_least, .nil, fun _ _ => .nil, O__law_least base TT⟩ ⟨_, fd__law_alike, [], [], (He.glo_ok X G (c.fact 78 (f := .glo "_law_alike") rfl)), (He.keep_ok (c.fact 79 (f := .keep "_law_alike") rfl)), B__law_alike, .nil, fun _ _ => .nil, O__law_alike base TT⟩ ⟨_, fd_highs, [], [], (He.glo_ok X G (c.fact 92 (f := .glo "highs") rfl)), (He.keep_ok (c.fact 93 (f := .keep "highs") rfl)), B_highs, .nil, fun _ _ => .nil, O_highs base TT⟩
  have e := hfa.symm.trans (He.glo_ok X G (c.fact 94 (f := .glo "law") rfl))
  cases e
  have b := FunD.bindsA (ps := ["_law_script"]) F_law fun _ _ _ _ _ _ us hl => match us, hl with | [_], _ => rfl
  exact ⟨fd_law, fun s v => b s [v] rfl, O_law⟩
end LZ

set_option maxRecDepth 100000
set_option maxHeartbeats 0
namespace LZ
open PySem PySem.Spec PyProof.Rows L2 RR
/-- the law's promise over an end, the context of exceptions by the world -/
theorem walkWd {l : PySem.W.OpenLaw} {big lev : Nat} {view : Program} {other : List Str} {XP : (Str → Option Value) → Heap → Prop} {YP : World → Heap → Prop} {rec : DefRec} {CW : World → CXT} {par : Str}
    (h1 : l.most = some big) (h2 : big ≤ sizeLine) (h3 : rec.params.defaults = []) (h4 : Room lev callerA)
    (F : ∀ (wd : World) (names : Str → Option Value) (at_ : Addr) (hp : Heap), YP wd hp → hp.Ns mainGlobals names → names rec.name = some (.ref at_) →
      ∃ (K : PySem.W.Frag) (fd : FuncData) (sp : Sp) (cs : List (Addr × Addr)), K.In hp ∧ (∀ p ∈ cs, hp.get? p.2 = some { cls := .none, data := .fields #[] }) ∧ (∀ p ∈ cs, K.lookup p.2 = none) ∧ (∀ p ∈ cs, PySem.W.CodeHd hp p.1 p.2) ∧ (∀ (s : Shared) (u : Value), BindsTo s fd ⟨[u], []⟩ [(par, u)]) ∧
        (∀ (H : Hp) (a : Addr) (ns : List Int), ns.length ≤ big → (∀ p ∈ cs, H p.2 = some (.tbl #[])) → SqL K H a (ns.map V.int) → sp [.ref a] H (fun v _ => v = .bl true) fun _ _ _ => False) ∧
        ∀ base : Heap, K.In base → base.Ns mainGlobals names → (∀ p ∈ cs, LamX.TabB base names p.1 p.2) → FnOk l.prog wd K names base (CW wd) lev at_ fd [par] sp)
    (h5 : ∀ (wd : World) (H : Hp) (s : Shared) (e : Value) (s' : Shared), CW wd [] H s (fun _ _ _ => False) e s' → False) :
    PySem.W.WalkO view other XP YP l.row.toRowW rec [] (fun f vs => PySem.call f vs) := by
  refine Att.attach_call h1 h3 fun wd t0 t1 names mb at_ o pm cd doc a vs ns G Y ho hd hcd hmg hobj hints hlen hg => ?_
  obtain ⟨K, fd, sp, cs, KX, hT, nT, hC, hb, hsp, hF⟩ := F wd names at_ _ Y G.T.g hmg
  exact LamX.law_callTs KX G.T.g G.T.b G.T.builtins G.T.nolimit hg hT nT hC G.T.bmain hobj hints (Nat.le_trans hlen h2) h4 hF hb (fun H hH hS => hsp H a ns hlen hH hS) fun H e s' => h5 wd H t1 e s'
/-- a script's list as data -/
theorem rep_scr {W : Wd} {H : Hp} {a : Addr} {ns : List Int} (h : SqL W.K H a (ns.map V.int)) : Rep W [] H (.ref a) (.scr ns) := .scr (h.imp (fun r => ⟨by simp, r⟩) fun r => .inr r)
theorem sim_nil {W : Wd} {H : Hp} (h : NdefX.TabsN W.cls.tabs H) : Sim W [] H [] := ⟨rfl, List.nodup_nil, fun i a c h => by simp at h, h⟩
theorem tabs_at {K : PySem.W.Frag} {H : Hp} (h : ∀ p ∈ csK K, H p.2 = some (.tbl #[])) : NdefX.TabsN (clK K).tabs H := by
  intro q hq
  refine NdefX.TabN.nil ?_
  have : ∃ p ∈ csK K, p.2 = q.1 := by
    simp only [clK, List.mem_cons, List.not_mem_nil, or_false] at hq
    rcases hq with rfl
    · exact ⟨He.cT K ("least_of", none), csm_0 K, rfl⟩
  obtain ⟨p, hp, e⟩ := this
  rw [← e]
  exact h p hp
theorem end_sp {K : PySem.W.Frag} {H : Hp} {a : Addr} {ns : List Int} (hl : ns.length ≤ 63) (hT : ∀ p ∈ csK K, H p.2 = some (.tbl #[])) (h : SqL K H a (ns.map V.int)) : spF ⟨K, clK K⟩ 1 sem_law [.ref a] H (fun v _ => v = .bl true) fun _ _ _ => False := by
  refine ⟨rfl, [], [], [.scr ns], sim_nil (tabs_at hT), .cons (rep_scr h) .nil, ?_⟩
  obtain ⟨d, s, e, rfl⟩ := eq_law (st := []) (ns := ns) (by omega)
  rw [e]
  intro v f' H' _ _ r
  cases r
  rfl
/-! ### the head's run -/
abbrev rowR : PySem.W.OpenRow := PySem.W.OpenLaw.row PySem.Challenge.rw_lozengefloor_k07_whole_floors_of_what_is
abbrev hookF : PySem.W.Hook := He.hookX 6 fa fn [] tf exB
def looked (t : PySem.W.SharedT) : He.AlX := He.obsX 6 fa fn [] tf exB (HandSHeadRun.getT t)
theorem looked_eq (t : PySem.W.SharedT) : looked t = hookF.obs t.abs := He.obsX_eq (HandSHeadRun.getT_eq t)
def others : List Str := (["_wall", "FloorError", "BadSides", "BadRow", "BadThrees", "Barred", "MOST_SIDES", "MOST_OF_ONE", "MOST_LINES", "UNLIKE", "THEN", "is_number"] : List Str) ++ (["need_sides", "owners", "Outline", "Pass", "passed", "code_of", "is_beneath", "least_of", "opened", "need_threes", "is_three", "highs"] : List Str) ++ (["floor_of", "_law_row", "_law_taken", "_law_pairs", "_law_sides", "_law_owner", "_law_can", "_law_any", "_law_laid", "_law_highs", "_law_alike", "_law_least"] : List Str)
theorem runAll (wd : World) : HandSHeadRun.RunEq rowR (PySem.W.view rowR.prog [41]) hookF looked 3000 others wd := by
  intro os
  kernel_rfl
end LZ
open PySem PySem.W PySem.Calls PyProof.Rows
theorem PySem.Challenge.cw_lozengefloor_k07_whole_floors_of_what_is_holds : PySem.Challenge.rw_lozengefloor_k07_whole_floors_of_what_is.Holds := by
  w_on; o_law
  refine HandSHeadRun.head_any (r := LZ.rowR) (q := view LZ.rowR.prog [41]) (H := LZ.hookF) (ob := LZ.looked) (M := 3000) (loose := LZ.others) (d := HandSHeadRun.topDef LZ.rowR.prog 41) (kwd := []) LZ.looked_eq
    (by kernel_rfl) (fun s => by kernel_rfl) LZ.runAll (by kernel_rfl) (by kernel_rfl) (by kernel_rfl) (by rfl) (by first | assumption | decide +kernel) (by decide +kernel) ⟨rfl, rfl, rfl, rfl, rfl, by decide +kernel⟩ ?hw ?hc
  case hw => w_witness2
  case hc =>
    refine LZ.walkWd (l := PySem.Challenge.rw_lozengefloor_k07_whole_floors_of_what_is) (big := 63) (lev := 8) (par := "_law_script") (CW := fun wd => L2.CX (PySem.Challenge.rw_lozengefloor_k07_whole_floors_of_what_is).prog wd) rfl (by decide) (by kernel_rfl) ⟨rfl, by decide, by decide⟩ ?F (fun _ _ _ _ _ ⟨_, _, _, _, _, _, _, _, _, _, _, _, z⟩ => z)
    intro wd names at_ hp Y G hn0
    obtain ⟨K, KX, c⟩ := Y
    have hn : names ("law" : PySem.Str) = some (.ref at_) := by
      have e : (HandSHeadRun.topDef LZ.rowR.prog 41).name = ("law" : PySem.Str) := by kernel_rfl
      rw [← e]
      exact hn0
    obtain ⟨fd, hb, hF⟩ := LZ.facts (P := (PySem.Challenge.rw_lozengefloor_k07_whole_floors_of_what_is).prog) (w := wd) KX G hn c.t.d c.more
    have mem : ∀ p ∈ LZ.csK K, ∃ d ∈ LZ.tf, p = He.cT K d := fun p hp => by
      obtain ⟨d, hd, e⟩ := List.mem_map.mp (show p ∈ LZ.tf.map (He.cT K) from hp)
      exact ⟨d, hd, e.symm⟩
    refine ⟨K, fd, _, LZ.csK K, KX, fun p hp => ?_, fun p hp => ?_, fun p hp => ?_, hb, fun H a ns hl hT hS => LZ.end_sp hl hT hS, fun base _ _ TT => hF base TT⟩
    · obtain ⟨d, hd, rfl⟩ := mem p hp
      exact c.empty d hd
    · obtain ⟨d, hd, rfl⟩ := mem p hp
      exact c.out d hd
    · obtain ⟨d, hd, rfl⟩ := mem p hp
      exact PySem.W.codeHd_of_K KX (c.hd d hd)

