import PyProof.Rows.All
import Wide.All
import OpenK.AllK
import Wide.FinOn
import HandS.ForMost
import HandS.ForExc
import HandS.Flow
import HandS.IsInst
import HandS.Deep
import HandS.TupAny
import HandS.ExcInit
import HandS.ExcIs
import HandS.Wide
import HandS.WideBits
import HandS.Zip
import HandS.More
import KE.GoesEnum
import KE.GoesMore
import KE.KExcIs
import HandS.ExcField
import HandS.Defaults
import HandS.HeadHook1
import HandS.HeadHook2
import HandS.HeadEnd
import HandS.Head0
import HandS.Head1
import HandS.Head2
import PySem.Challenge.RW_ferryloads_k31_crossings_counted
set_option Elab.async false
set_option linter.all false
set_option maxRecDepth 100000
set_option maxHeartbeats 2000000
/-! FL1: plain data over the hand layer. -/
namespace FL
open PySem PySem.Spec PyProof.Rows L2

/-! ### data as trees -/
inductive D where
  | non
  | bl (b : Bool)
  | int (i : Int)
  | str (x : Str)
  | tup (xs : List D)
  | lst (xs : List D)
  | dic (ks : List Key) (xs : List D)
  | ins (C : Addr) (ns : List Str) (xs : List D)
  | ty (n : String)
  | cls (C : Addr)
  | exn (a d : Addr) (ns : List Str) (xs : List D)
  | well

mutual
/-- the value v stands for the tree d in the heap B -/
inductive Rep (K : PySem.W.Frag) (wa : Addr) (B : Hp) : V → D → Prop
  | non : Rep K wa B .non .non
  | bl (b : Bool) : Rep K wa B (.bl b) (.bl b)
  | int (i : Int) : Rep K wa B (.int i) (.int i)
  | str (x : Str) : x.length ≤ sizeLine → Rep K wa B (.str x) (.str x)
  | tup {a : Addr} {xs : List V} {ds : List D} : SqT K B a xs → ds.length ≤ sizeLine → Reps K wa B xs ds → Rep K wa B (.ref a) (.tup ds)
  | lst {a : Addr} {xs : List V} {ds : List D} : B a = some (.lst xs) → ds.length ≤ sizeLine → Reps K wa B xs ds → Rep K wa B (.ref a) (.lst ds)
  | dic {a : Addr} {ks : List Key} {xs : List V} {ds : List D} : B a = some (.dK (ks.zip xs)) → ks.length = xs.length → Reps K wa B xs ds → Rep K wa B (.ref a) (.dic ks ds)
  | ins {a C dx : Addr} {ns : List Str} {xs : List V} {ds : List D} : B a = some (.ins C dx (ns.zip xs)) → ns.length = xs.length → Reps K wa B xs ds → Rep K wa B (.ref a) (.ins C ns ds)
  | ty (n : String) : Rep K wa B (.ty n) (.ty n)
  | cls (C : Addr) : Rep K wa B (.ref C) (.cls C)
  | exn {a d : Addr} {ns : List Str} {xs : List V} {ds : List D} : B d = some (.xd (ns.zip xs)) → ns.length = xs.length → Reps K wa B xs ds → Rep K wa B (.ref a) (.exn a d ns ds)
  | well : Rep K wa B (.ref wa) .well
inductive Reps (K : PySem.W.Frag) (wa : Addr) (B : Hp) : List V → List D → Prop
  | nil : Reps K wa B [] []
  | cons {v : V} {vs : List V} {d : D} {ds : List D} : Rep K wa B v d → Reps K wa B vs ds → Reps K wa B (v :: vs) (d :: ds)
end

def Bsub (B B' : Hp) : Prop := ∀ a o, B a = some o → B' a = some o
theorem Bsub.refl (B : Hp) : Bsub B B := fun _ _ h => h
theorem Bsub.trans {A B C : Hp} (h : Bsub A B) (k : Bsub B C) : Bsub A C := fun a o e => k a o (h a o e)
theorem Bsub.rd {B B' : Hp} (h : Bsub B B') {a : Addr} {u : HO} (r : Rd B a u) : Rd B' a u := by
  rcases r with r | ⟨o, r⟩
  · exact .inl (h _ _ r)
  · exact .inr ⟨o, h _ _ r⟩
theorem Bsub.sqT {K : PySem.W.Frag} {B B' : Hp} (h : Bsub B B') {a : Addr} {xs : List V} (r : SqT K B a xs) : SqT K B' a xs := by
  rcases r with r | r
  · exact .inl (h.rd r)
  · exact .inr r
mutual
theorem Rep.mono {K : PySem.W.Frag} {wa : Addr} {B B' : Hp} (h : Bsub B B') : ∀ {v : V} {d : D}, Rep K wa B v d → Rep K wa B' v d
  | _, _, .non => .non
  | _, _, .bl b => .bl b
  | _, _, .int i => .int i
  | _, _, .str x l => .str x l
  | _, _, .tup e l r => .tup (h.sqT e) l (Reps.mono h r)
  | _, _, .lst e l r => .lst (h _ _ e) l (Reps.mono h r)
  | _, _, .dic e l r => .dic (h _ _ e) l (Reps.mono h r)
  | _, _, .ins e l r => .ins (h _ _ e) l (Reps.mono h r)
  | _, _, .ty n => .ty n
  | _, _, .cls C => .cls C
  | _, _, .exn e l r => .exn (h _ _ e) l (Reps.mono h r)
  | _, _, .well => .well
theorem Reps.mono {K : PySem.W.Frag} {wa : Addr} {B B' : Hp} (h : Bsub B B') : ∀ {v : List V} {d : List D}, Reps K wa B v d → Reps K wa B' v d
  | _, _, .nil => .nil
  | _, _, .cons a r => .cons (Rep.mono h a) (Reps.mono h r)
end
section
variable {K : PySem.W.Frag} {wa : Addr} {B : Hp}
theorem Reps.length : ∀ {vs : List V} {ds : List D}, Reps K wa B vs ds → vs.length = ds.length
  | _, _, .nil => rfl
  | _, _, .cons _ r => by rw [List.length_cons, List.length_cons, Reps.length r]
theorem Reps.get : ∀ {vs : List V} {ds : List D} {i : Nat} {d : D}, Reps K wa B vs ds → ds[i]? = some d → ∃ v, vs[i]? = some v ∧ Rep K wa B v d
  | _, _, _, _, .nil, e => by simp at e
  | _, _, 0, _, .cons r _, e => by
    simp at e
    subst e
    exact ⟨_, rfl, r⟩
  | _, _, i + 1, d, .cons _ t, e => by
    obtain ⟨u, h1, h2⟩ := Reps.get (i := i) (d := d) t (by simpa using e)
    exact ⟨u, by simpa using h1, h2⟩
theorem Reps.got : ∀ {vs : List V} {ds : List D} {i : Nat} {v : V}, Reps K wa B vs ds → vs[i]? = some v → ∃ d, ds[i]? = some d ∧ Rep K wa B v d
  | _, _, _, _, .nil, e => by simp at e
  | _, _, 0, _, .cons r _, e => by
    simp at e
    subst e
    exact ⟨_, rfl, r⟩
  | _, _, i + 1, d, .cons _ t, e => by
    obtain ⟨u, h1, h2⟩ := Reps.got (i := i) (v := d) t (by simpa using e)
    exact ⟨u, by simpa using h1, h2⟩
theorem Reps.append : ∀ {vs ws : List V} {ds es : List D}, Reps K wa B vs ds → Reps K wa B ws es → Reps K wa B (vs ++ ws) (ds ++ es)
  | _, _, _, _, .nil, s => s
  | _, _, _, _, .cons r t, s => .cons r (Reps.append t s)
theorem Reps.take : ∀ {vs : List V} {ds : List D} (n : Nat), Reps K wa B vs ds → Reps K wa B (vs.take n) (ds.take n)
  | _, _, 0, _ => .nil
  | _, _, _ + 1, .nil => .nil
  | _, _, n + 1, .cons r t => .cons r (Reps.take n t)
theorem Reps.drop : ∀ {vs : List V} {ds : List D} (n : Nat), Reps K wa B vs ds → Reps K wa B (vs.drop n) (ds.drop n)
  | _, _, 0, r => r
  | _, _, _ + 1, .nil => .nil
  | _, _, n + 1, .cons _ t => Reps.drop n t
theorem Reps.set {x : V} {d : D} (r : Rep K wa B x d) : ∀ {vs : List V} {ds : List D} (i : Nat), Reps K wa B vs ds → Reps K wa B (vs.set i x) (ds.set i d)
  | _, _, _, .nil => .nil
  | _, _, 0, .cons _ t => .cons r t
  | _, _, i + 1, .cons q t => .cons q (Reps.set r i t)
theorem Reps.one {vs : List V} {d : D} (r : Reps K wa B vs [d]) : ∃ v, vs = [v] ∧ Rep K wa B v d := by
  cases r with
  | cons a t =>
    cases t
    exact ⟨_, rfl, a⟩
theorem Reps.two {vs : List V} {d e : D} (r : Reps K wa B vs [d, e]) : ∃ v w, vs = [v, w] ∧ Rep K wa B v d ∧ Rep K wa B w e := by
  cases r with
  | cons a t =>
    obtain ⟨w, rfl, b⟩ := t.one
    exact ⟨_, _, rfl, a, b⟩
theorem Reps.three {vs : List V} {d e f : D} (r : Reps K wa B vs [d, e, f]) : ∃ v w x, vs = [v, w, x] ∧ Rep K wa B v d ∧ Rep K wa B w e ∧ Rep K wa B x f := by
  cases r with
  | cons a t =>
    obtain ⟨w, x, rfl, b, c⟩ := t.two
    exact ⟨_, _, _, rfl, a, b, c⟩
end

/-! ### steps of the heap -/
structure OkB (wa : Addr) (B H : Hp) : Prop where
  sub : Bsub B H
  nw : B wa = none
  hw : H wa ≠ none
/-- the heap has grown; what is at wa may be another thing now -/
structure Step (wa : Addr) (B H B' H' : Hp) : Prop where
  ok : OkB wa B' H'
  keep : ∀ a o, H a = some o → a ≠ wa → H' a = some o
  mono : Bsub B B'
  new : ∀ a, H a ≠ none → B a = none → B' a = none
theorem Step.refl {wa : Addr} {B H : Hp} (h : OkB wa B H) : Step wa B H B H := ⟨h, fun _ _ e _ => e, Bsub.refl B, fun _ _ n => n⟩
theorem Step.trans {wa : Addr} {B H B1 H1 B2 H2 : Hp} (a : Step wa B H B1 H1) (b : Step wa B1 H1 B2 H2) : Step wa B H B2 H2 where
  ok := b.ok
  keep := fun c o e n => b.keep c o (a.keep c o e n) n
  mono := a.mono.trans b.mono
  new := fun c e n => by
    by_cases h : c = wa
    · rw [h]
      exact b.ok.nw
    · refine b.new c ?_ (a.new c e n)
      cases q : H c with
      | none => exact absurd q e
      | some o =>
        rw [a.keep c o q h]
        exact fun z => nomatch z
/-- a new thing that is data -/
theorem Step.lay {wa : Addr} {B H : Hp} {p : Addr} {o : HO} (h : OkB wa B H) (n : H p = none) : Step wa B H (upd B p o) (upd H p o) where
  ok := by
    have np : wa ≠ p := fun e => h.hw (by rw [e]; exact n)
    refine ⟨fun a u e => ?_, by rw [upd_ne np]; exact h.nw, by rw [upd_ne np]; exact h.hw⟩
    by_cases q : a = p
    · subst q
      rw [upd_same] at e ⊢
      exact e
    · rw [upd_ne q] at e ⊢
      exact h.sub a u e
  keep := fun a u e _ => by
    rw [upd_ne (ne_of_none e n)]
    exact e
  mono := fun a u e => by
    rw [upd_ne (ne_of_none (h.sub a u e) n)]
    exact e
  new := fun a e k => by
    have q : a ≠ p := fun z => e (by rw [z]; exact n)
    rw [upd_ne q]
    exact k
theorem lay_wa {wa : Addr} {B H : Hp} {p : Addr} {o : HO} (h : OkB wa B H) (n : H p = none) : upd H p o wa = H wa := upd_ne fun e => h.hw (by rw [e]; exact n)
theorem lay_sub {wa : Addr} {B H : Hp} {p : Addr} {o : HO} (h : OkB wa B H) (n : H p = none) : Bsub B (upd B p o) := (Step.lay (o := o) h n).mono

/-! ### a def's names -/
inductive Sl where
  | dat (d : D)
  | own (ds : List D)
abbrev DEnv := List (Option Sl)
/-- what is fixed while a body runs: the entry's heaps, what stands at wa, what is wanted of an exception -/
structure DC where
  K : PySem.W.Frag
  wa : Addr
  wl : Nat → HO → Prop
  B0 : Hp
  H0 : Hp
  bl : Hp
  wd : Addr → List Str → List D → DEnv → Nat → Prop
structure SR (c : DC) (env : DEnv) (u : Nat) (B : Hp) (σ : L2.St) (H : Hp) : Prop where
  len : env.length = σ.length
  bl : Bsub c.bl B
  st : Step c.wa c.B0 c.H0 B H
  wl : ∃ o, H c.wa = some o ∧ c.wl u o
  dat : ∀ (i : Nat) d, env[i]? = some (some (.dat d)) → ∃ v, σ[i]? = some (some v) ∧ Rep c.K c.wa B v d
  own : ∀ (i : Nat) ds, env[i]? = some (some (.own ds)) → ∃ a xs, σ[i]? = some (some (.ref a)) ∧ a ≠ c.wa ∧ B a = none ∧ c.H0 a = none ∧ H a = some (.lst xs) ∧ ds.length ≤ sizeLine ∧ Reps c.K c.wa B xs ds
  apart : ∀ (i j : Nat) ds es a, i ≠ j → env[i]? = some (some (.own ds)) → env[j]? = some (some (.own es)) → σ[i]? = some (some (.ref a)) → σ[j]? ≠ some (some (.ref a))
section
variable {c : DC} {env : DEnv} {u u' : Nat} {B B' H H' : Hp} {σ : L2.St}
theorem SR.ok (s : SR c env u B σ H) : OkB c.wa B H := s.st.ok
theorem SR.step (s : SR c env u B σ H) (t : Step c.wa B H B' H') (w : ∃ o, H' c.wa = some o ∧ c.wl u' o) : SR c env u' B' σ H' where
  len := s.len
  bl := s.bl.trans t.mono
  st := s.st.trans t
  wl := w
  dat := fun i d e => let ⟨v, a, b⟩ := s.dat i d e; ⟨v, a, b.mono t.mono⟩
  own := fun i ds e => by
    obtain ⟨a, xs, h1, h2, h3, h4, h5, h6, h7⟩ := s.own i ds e
    exact ⟨a, xs, h1, h2, t.new a (by rw [h5]; exact fun z => nomatch z) h3, h4, t.keep a _ h5 h2, h6, h7.mono t.mono⟩
  apart := s.apart
theorem SR.same (s : SR c env u B σ H) (t : Step c.wa B H B' H') (w : H' c.wa = H c.wa) : SR c env u B' σ H' :=
  s.step t (let ⟨o, a, b⟩ := s.wl; ⟨o, w.trans a, b⟩)
end

/-! ### readings over data, and what they are over the heap -/
abbrev DE := DEnv → Nat → (D → Nat → Prop) → Prop
abbrev DT := DEnv → Nat → (Bool → Nat → Prop) → Prop
abbrev DA := DEnv → Nat → (List D → Nat → Prop) → Prop
structure DEnds where
  nx : DEnv → Nat → Prop
  rt : D → Nat → Prop
  bk : DEnv → Nat → Prop
  ct : DEnv → Nat → Prop
abbrev DS := DEnds → DEnv → Nat → Prop
def lE (c : DC) (m : DE) : TE := fun σ H Q => ∃ env u B R, SR c env u B σ H ∧ m env u R ∧ ∀ d u' v H' B', SR c env u' B' σ H' → Step c.wa B H B' H' → Rep c.K c.wa B' v d → R d u' → Q v H'
def lT (c : DC) (m : DT) : TT := fun σ H Q => ∃ env u B R, SR c env u B σ H ∧ m env u R ∧ ∀ b u' H' B', SR c env u' B' σ H' → Step c.wa B H B' H' → R b u' → Q b H'
def lA (c : DC) (m : DA) : TA := fun σ H Q => ∃ env u B R, SR c env u B σ H ∧ m env u R ∧ ∀ ds u' vs H' B', SR c env u' B' σ H' → Step c.wa B H B' H' → Reps c.K c.wa B' vs ds → R ds u' → Q vs H'
def lS (c : DC) (m : DS) : TS := fun G σ H => ∃ env u B, ∃ F : DEnds, SR c env u B σ H ∧ m F env u ∧
  (∀ env' u' σ' H' B', SR c env' u' B' σ' H' → Bsub B B' → F.nx env' u' → G.nx σ' H') ∧
  (∀ d u' v H' B', Step c.wa c.B0 c.H0 B' H' → (∃ o, H' c.wa = some o ∧ c.wl u' o) → Rep c.K c.wa B' v d → F.rt d u' → G.rt v H') ∧
  (∀ env' u' σ' H' B', SR c env' u' B' σ' H' → Bsub B B' → F.bk env' u' → G.bk σ' H') ∧
  (∀ env' u' σ' H' B', SR c env' u' B' σ' H' → Bsub B B' → F.ct env' u' → G.ct σ' H')

section
variable {X : Cx}
theorem pe_imp {e : Expr} {t t' : TE} (h : PE X e t) (k : ∀ σ H Q, t' σ H Q → t σ H Q) : PE X e t' := ⟨fun pins s σ H Q I q => h.run pins s σ H Q I (k σ H Q q)⟩
theorem pt_imp {e : Expr} {t t' : TT} (h : PT X e t) (k : ∀ σ H Q, t' σ H Q → t σ H Q) : PT X e t' := ⟨fun pins s σ H Q I q => h.run pins s σ H Q I (k σ H Q q)⟩
theorem pw_imp {e : Expr} {t t' : TT} (h : PW X e t) (k : ∀ σ H Q, t' σ H Q → t σ H Q) : PW X e t' := ⟨fun wh pins s σ H Q I q => h.run wh pins s σ H Q I (k σ H Q q)⟩
theorem pa_imp {es : List Expr} {t t' : TA} (h : PA X es t) (k : ∀ σ H Q, t' σ H Q → t σ H Q) : PA X es t' := ⟨fun pos pins s σ H Q I q => h.run pos pins s σ H Q I (k σ H Q q)⟩
theorem ps_imp {st : Stmt} {t t' : TS} (h : PS X st t) (k : ∀ G σ H, t' G σ H → t G σ H) : PS X st t' := ⟨fun pins s σ H G I q => h.run pins s σ H G I (k G σ H q)⟩
theorem pss_imp {st : List Stmt} {t t' : TS} (h : PSs X st t) (k : ∀ G σ H, t' G σ H → t G σ H) : PSs X st t' := ⟨fun pins s σ H G I q => h.run pins s σ H G I (k G σ H q)⟩
end

/-! ### names and constants -/
def mVar (i : Nat) : DE := fun env u R => ∃ d, env[i]? = some (some (.dat d)) ∧ R d u
def mC (d : D) : DE := fun _ u R => R d u
section
variable {X : Cx} {c : DC}
theorem de_var (i : Nat) {x : Str} {pos : Pos} (hN : X.N[i]? = some x := by rfl) (hv : Vis X.env.scope x := by first | exact Or.inl rfl | exact Or.inr (Or.inl rfl) | exact Or.inr (Or.inr rfl)) (hd : (x == ("__debug__" : Str)) = false := by decide)
    (hcd : (x == ("__classdict__" : Str)) = false := by decide) : PE X (.Name x pos) (lE c (mVar i)) := pe_imp (pe_var hN hv hd hcd) fun σ H Q h => by
  obtain ⟨env, u, B, R, sr, ⟨d, hd, hR⟩, k⟩ := h
  obtain ⟨v, hv, r⟩ := sr.dat i d hd
  exact ⟨v, hv, k d u v H B sr (Step.refl sr.ok) r hR⟩
/-- a value that no heap changes -/
theorem de_const {e : Expr} {v : V} {d : D} (h : PE X e (tC v)) (r : ∀ B, Rep c.K c.wa B v d) : PE X e (lE c (mC d)) := pe_imp h fun σ H Q q => by
  obtain ⟨env, u, B, R, sr, hR, k⟩ := q
  exact k d u v H B sr (Step.refl sr.ok) (r B) hR
theorem de_int {i j pos} : PE X (.Constant (.int i) j pos) (lE c (mC (.int i))) := de_const pe_int fun _ => .int i
theorem de_bl {b j pos} : PE X (.Constant (.bool b) j pos) (lE c (mC (.bl b))) := de_const pe_bl fun _ => .bl b
theorem de_non {j pos} : PE X (.Constant .none j pos) (lE c (mC .non)) := de_const pe_non fun _ => .non
theorem small_str {x : Str} (h : Nat.ble x.length 100000 = true) : x.length ≤ sizeLine := Nat.le_trans (Nat.le_of_ble_eq_true h) (by decide)
theorem de_str {x : Str} {j pos} (h : Nat.ble x.length 100000 = true := by rfl) : PE X (.Constant (.str x) j pos) (lE c (mC (.str x))) := de_const pe_str fun _ => .str x (small_str h)
end
end FL
set_option maxHeartbeats 2000000
namespace FL
open PySem PySem.Spec PyProof.Rows L2

/-! ### operators by values -/
def Fin (c : DC) (B H : Hp) (d : D) (Q : VK) : Prop := ∀ v H' B', Step c.wa B H B' H' → H' c.wa = H c.wa → Rep c.K c.wa B' v d → Q v H'
section
variable {c : DC} {B H : Hp} {d : D} {Q : VK}
theorem Fin.now (h : Fin c B H d Q) (ok : OkB c.wa B H) {v : V} (r : Rep c.K c.wa B v d) : Q v H := h v H B (Step.refl ok) rfl r
theorem Fin.lay (h : Fin c B H d Q) (ok : OkB c.wa B H) {p : Addr} {o : HO} (n : H p = none) (r : Bsub B (upd B p o) → Rep c.K c.wa (upd B p o) (.ref p) d) : Q (.ref p) (upd H p o) :=
  h _ _ _ (Step.lay ok n) (lay_wa ok n) (r (lay_sub ok n))
theorem Fin.tup {ds : List D} {xs : List V} (h : Fin c B H (.tup ds) Q) (ok : OkB c.wa B H) {p : Addr} (n : H p = none) (l : ds.length ≤ sizeLine) (r : Reps c.K c.wa B xs ds) : Q (.ref p) (upd H p (.tup xs)) :=
  h.lay ok n fun s => .tup (.inl (.inl upd_same)) l (r.mono s)
theorem Fin.lst {ds : List D} {xs : List V} (h : Fin c B H (.lst ds) Q) (ok : OkB c.wa B H) {p : Addr} (n : H p = none) (l : ds.length ≤ sizeLine) (r : Reps c.K c.wa B xs ds) : Q (.ref p) (upd H p (.lst xs)) :=
  h.lay ok n fun s => .lst upd_same l (r.mono s)
end
def rD2 (c : DC) (f : D → D → Option D) : R2 := fun x y H Q => ∃ B dx dy dz, OkB c.wa B H ∧ Rep c.K c.wa B x dx ∧ Rep c.K c.wa B y dy ∧ f dx dy = some dz ∧ Fin c B H dz Q
def Op2 (X : Cx) (c : DC) (g : Value → Value → Sem Value) (f : D → D → Option D) : Prop := OpR X g (rD2 c f)
def mOp (f : D → D → Option D) (ma mb : DE) : DE := fun env u R => ma env u fun x u1 => mb env u1 fun y u2 => ∃ z, f x y = some z ∧ R z u2
def mTs (f : D → D → Option Bool) (ma mb : DE) : DT := fun env u R => ma env u fun x u1 => mb env u1 fun y u2 => ∃ z, f x y = some z ∧ R z u2
def cmpD (f : D → D → Option Bool) : D → D → Option D := fun x y => (f x y).map D.bl
/-- two readings, one behind the other -/
theorem two {c : DC} {ma mb : DE} {r : R2} {σ : L2.St} {H : Hp} {Q : VK} {env : DEnv} {u : Nat} {B : Hp} {R : D → D → Nat → Prop} (sr : SR c env u B σ H) (hm : ma env u fun x u1 => mb env u1 fun y u2 => R x y u2)
    (k : ∀ dx dy u2 x y H2 B2, SR c env u2 B2 σ H2 → Step c.wa B H B2 H2 → Rep c.K c.wa B2 x dx → Rep c.K c.wa B2 y dy → R dx dy u2 → r x y H2 Q) : tOp r (lE c ma) (lE c mb) σ H Q :=
  ⟨env, u, B, _, sr, hm, fun dx u1 x H1 B1 sr1 st1 rx h1 => ⟨env, u1, B1, _, sr1, h1, fun dy u2 y H2 B2 sr2 st2 ry h2 => k dx dy u2 x y H2 B2 sr2 (st1.trans st2) (rx.mono st2.mono) ry h2⟩⟩
theorem op2_imp {c : DC} {f : D → D → Option D} {ma mb : DE} {σ : L2.St} {H : Hp} {Q : VK} (h : lE c (mOp f ma mb) σ H Q) : tOp (rD2 c f) (lE c ma) (lE c mb) σ H Q := by
  obtain ⟨env, u, B, R, sr, hm, k⟩ := h
  refine two sr hm fun dx dy u2 x y H2 B2 sr2 st2 rx ry ⟨dz, e, hR⟩ => ?_
  exact ⟨B2, dx, dy, dz, sr2.ok, rx, ry, e, fun v H' B' st w r => k dz u2 v H' B' (sr2.same st w) (st2.trans st) r hR⟩
theorem ts2_imp {c : DC} {f : D → D → Option Bool} {ma mb : DE} {σ : L2.St} {H : Hp} {Q : Bool → Hp → Prop} (h : lT c (mTs f ma mb) σ H Q) : tTest (tOp (rD2 c (cmpD f)) (lE c ma) (lE c mb)) σ H Q := by
  obtain ⟨env, u, B, R, sr, hm, k⟩ := h
  refine two (r := rD2 c (cmpD f)) sr hm fun dx dy u2 x y H2 B2 sr2 st2 rx ry ⟨dz, e, hR⟩ => ?_
  refine ⟨B2, dx, dy, .bl dz, sr2.ok, rx, ry, by unfold cmpD; rw [e]; rfl, fun v H' B' st w r => ?_⟩
  cases r
  exact ⟨dz, rfl, k dz u2 H' B' (sr2.same st w) (st2.trans st) hR⟩
section
variable {X : Cx} {c : DC} {a b : Expr} {ma mb mc : DE} {pos : Pos}
theorem de_op {op : Operator} {f : D → D → Option D} (ho : Op2 X c (binaryOp op) f) (ha : PE X a (lE c ma)) (hb : PE X b (lE c mb)) : PE X (.BinOp a op b pos) (lE c (mOp f ma mb)) := pe_imp (pe_op ho ha hb) fun _ _ _ h => op2_imp h
theorem de_cmp {op : CmpOp} {f : D → D → Option Bool} (ho : Op2 X c (compareOp op) (cmpD f)) (ha : PE X a (lE c ma)) (hb : PE X b (lE c mb)) (hm : behindInMarks op b = false) : PE X (.Compare a [op] [b] pos) (lE c (mOp (cmpD f) ma mb)) := pe_imp (pe_cmpR ho ha hb hm) fun _ _ _ h => op2_imp h
theorem dt_cmp {op : CmpOp} {f : D → D → Option Bool} (ho : Op2 X c (compareOp op) (cmpD f)) (ha : PE X a (lE c ma)) (hb : PE X b (lE c mb)) (hm : behindInMarks op b = false) : PT X (.Compare a [op] [b] pos) (lT c (mTs f ma mb)) := pt_imp (pt_cmpR ho ha hb hm) fun _ _ _ h => ts2_imp h
end

/-! ### the operators -/
theorem ite_some {P : Prop} [Decidable P] {α : Type} {a z : α} (h : (if P then some a else none) = some z) : P ∧ a = z := by
  by_cases p : P
  · rw [if_pos p] at h
    exact ⟨p, Option.some.inj h⟩
  · rw [if_neg p] at h
    cases h
def addD : D → D → Option D
  | .int i, .int j => some (.int (i + j))
  | .str x, .str y => if x.length + y.length ≤ sizeLine then some (.str (x ++ y)) else none
  | .lst xs, .lst ys => if xs.length + ys.length ≤ sizeLine then some (.lst (xs ++ ys)) else none
  | .tup xs, .tup ys => if xs.length + ys.length ≤ sizeLine then some (.tup (xs ++ ys)) else none
  | _, _ => none
def subD : D → D → Option D
  | .int i, .int j => some (.int (i - j))
  | _, _ => none
/-- a product: one factor small -/
def mulOk (i j : Int) : Bool := (decide (-(2 ^ 64) < i) && decide (i < 2 ^ 64)) || (decide (-(2 ^ 64) < j) && decide (j < 2 ^ 64))
def mulD : D → D → Option D
  | .int i, .int j => if mulOk i j = true then some (.int (i * j)) else none
  | .lst xs, .int k => if -(2 ^ 63) ≤ k ∧ k < 2 ^ 63 ∧ xs.length * k.toNat ≤ sizeLine then some (.lst (List.replicate k.toNat xs).flatten) else none
  | _, _ => none
def modD : D → D → Option D
  | .int i, .int j => if 0 < j then some (.int (i % j)) else none
  | _, _ => none
def fdivD : D → D → Option D
  | .int i, .int j => if 0 < j ∧ j < 1073741824 then some (.int (i / j)) else none
  | _, _ => none
def powD : D → D → Option D
  | .int i, .int j => if 0 ≤ j ∧ j ≤ 1000000 ∧ i.natAbs < 2 ^ 64 then some (.int (i ^ j.toNat)) else none
  | _, _ => none
def ordD (p : Int → Int → Bool) : D → D → Option Bool
  | .int i, .int j => some (p i j)
  | _, _ => none
def isNonD : D → Bool
  | .non => true
  | _ => false
section
variable {X : Cx} {c : DC}
theorem opr_imp {g : Value → Value → Sem Value} {r r' : R2} (h : OpR X g r) (k : ∀ x y H Q, r' x y H Q → r x y H Q) : OpR X g r' := fun pins s σ H x y v u Q I rx ry q => h pins s σ H x y v u Q I rx ry (k _ _ _ _ q)
theorem mulOk_ok {i j : Int} (h : mulOk i j = true) : CMul i j := by
  unfold mulOk at h
  rcases Bool.or_eq_true_iff.mp h with q | q
  · obtain ⟨a, b⟩ := Bool.and_eq_true_iff.mp q
    exact .inl ⟨of_decide_eq_true a, of_decide_eq_true b⟩
  · obtain ⟨a, b⟩ := Bool.and_eq_true_iff.mp q
    exact .inr ⟨of_decide_eq_true a, of_decide_eq_true b⟩
theorem ints_of {g : Value → Value → Sem Value} {C : Int → Int → Prop} {k : Int → Int → Int} {f : D → D → Option D} (h : OpR X g (rI C fun i j => .int (k i j)))
    (hf : ∀ x y z, f x y = some z → ∃ i j, x = .int i ∧ y = .int j ∧ C i j ∧ z = .int (k i j)) : Op2 X c g f := opr_imp h fun x y H Q ⟨B, dx, dy, dz, ok, rx, ry, e, q⟩ => by
  obtain ⟨i, j, rfl, rfl, hc, rfl⟩ := hf _ _ _ e
  cases rx
  cases ry
  exact ⟨i, j, rfl, rfl, hc, q.now ok (.int _)⟩
theorem o_sub : Op2 X c (binaryOp .Sub) subD := ints_of (C := fun _ _ => True) (k := fun i j => i - j) (opr_imp op_sub fun _ _ _ _ ⟨i, j, a, b, _, q⟩ => ⟨i, j, a, b, q⟩) fun x y z e => by
  cases x <;> cases y <;> first | (cases e; exact ⟨_, _, rfl, rfl, True.intro, rfl⟩) | cases e
theorem o_add (hK : c.K = X.K := by rfl) : Op2 X c (binaryOp .Add) addD := by
  refine opr_imp (((op_add (X := X)).or op_add_str).or (op_cat.or op_catA)) fun x y H Q ⟨B, dx, dy, dz, ok, rx, ry, e, q⟩ => ?_
  cases rx with
  | int i =>
    cases ry with
    | int j =>
      cases e
      exact .inl (.inl ⟨i, j, rfl, rfl, q.now ok (.int _)⟩)
    | _ => cases e
  | str s hs =>
    cases ry with
    | str t ht =>
      · obtain ⟨hz, rfl⟩ := ite_some (show (if _ then some _ else none) = some dz from e)
        exact .inl (.inr ⟨s, t, rfl, rfl, hz, q.now ok (.str _ (by rw [strLen_append]; exact hz))⟩)
    | _ => cases e
  | lst ha la rs =>
    cases ry with
    | lst hb lb rt =>
      · obtain ⟨hz, rfl⟩ := ite_some (show (if _ then some _ else none) = some dz from e)
        refine .inr (.inl ⟨_, _, _, _, rfl, rfl, ok.sub _ _ ha, ok.sub _ _ hb, by rw [rs.length, rt.length]; exact hz, fun p n => q.lst ok n (by rw [List.length_append]; exact hz) (rs.append rt)⟩)
    | _ => cases e
  | tup ha la rs =>
    cases ry with
    | tup hb lb rt =>
      · obtain ⟨hz, rfl⟩ := ite_some (show (if _ then some _ else none) = some dz from e)
        have ea := ok.sub.sqT ha
        have eb := ok.sub.sqT hb
        rw [hK] at ea eb
        refine .inr (.inr ⟨_, _, _, _, rfl, rfl, ea, eb, by rw [rs.length, rt.length]; exact hz, fun ex => ?_, fun _ ey => ?_, fun _ _ p n => q.tup ok n (by rw [List.length_append]; exact hz) (rs.append rt)⟩)
        · subst ex
          cases rs
          exact q.now ok (.tup hb lb rt)
        · subst ey
          cases rt
          rw [List.append_nil] at q
          exact q.now ok (.tup ha la rs)
    | _ => cases e
  | _ => cases ry <;> cases e
theorem o_mul : Op2 X c (binaryOp .Mult) mulD := by
  refine opr_imp ((op_mul (X := X)).or op_rep) fun x y H Q ⟨B, dx, dy, dz, ok, rx, ry, e, q⟩ => ?_
  cases rx with
  | int i =>
    cases ry with
    | int j =>
      · obtain ⟨hz, rfl⟩ := ite_some (show (if _ then some _ else none) = some dz from e)
        exact .inl ⟨i, j, rfl, rfl, mulOk_ok hz, q.now ok (.int _)⟩
    | _ => cases e
  | lst ha la rs =>
    cases ry with
    | int k =>
      · obtain ⟨hz, rfl⟩ := ite_some (show (if _ then some _ else none) = some dz from e)
        refine .inr ⟨_, k, _, rfl, rfl, ok.sub _ _ ha, hz.1, hz.2.1, by rw [rs.length]; exact hz.2.2, fun p n => q.lst ok n ?_ ?_⟩
        · rw [List.length_flatten, List.map_replicate, List.sum_replicate_nat, Nat.mul_comm]
          exact hz.2.2
        generalize k.toNat = m
        induction m with
        | zero => exact .nil
        | succ m ih =>
          rw [List.replicate_succ, List.replicate_succ, List.flatten_cons, List.flatten_cons]
          exact rs.append ih
    | _ => cases e
  | _ => cases ry <;> cases e
theorem o_mod : Op2 X c (binaryOp .Mod) modD := ints_of op_mod fun x y z e => by
  cases x <;> cases y <;> first | (obtain ⟨hz, rfl⟩ := ite_some (show (if _ then some _ else none) = some z from e); exact ⟨_, _, rfl, rfl, hz, rfl⟩) | cases e
theorem o_fdiv : Op2 X c (binaryOp .FloorDiv) fdivD := ints_of op_fdiv fun x y z e => by
  cases x <;> cases y <;> first | (obtain ⟨hz, rfl⟩ := ite_some (show (if _ then some _ else none) = some z from e); exact ⟨_, _, rfl, rfl, hz, rfl⟩) | cases e
theorem o_pow : Op2 X c (binaryOp .Pow) powD := ints_of op_pow fun x y z e => by
  cases x <;> cases y <;> first | (obtain ⟨hz, rfl⟩ := ite_some (show (if _ then some _ else none) = some z from e); exact ⟨_, _, rfl, rfl, hz, rfl⟩) | cases e
theorem bools_of {g : Value → Value → Sem Value} {p : Int → Int → Bool} (h : OpR X g (rI0 fun i j => .bl (p i j))) : Op2 X c g (cmpD (ordD p)) := opr_imp h fun x y H Q ⟨B, dx, dy, dz, ok, rx, ry, e, q⟩ => by
  cases rx with
  | int i =>
    cases ry with
    | int j =>
      cases e
      exact ⟨i, j, rfl, rfl, q.now ok (.bl _)⟩
    | _ => cases e
  | _ => cases ry <;> cases e
theorem o_lt : Op2 X c (compareOp .Lt) (cmpD (ordD fun i j => decide (i < j))) := bools_of op_lt
theorem o_le : Op2 X c (compareOp .LtE) (cmpD (ordD fun i j => decide (i ≤ j))) := bools_of op_le
theorem o_gt : Op2 X c (compareOp .Gt) (cmpD (ordD fun i j => decide (j < i))) := bools_of op_gt
theorem o_ge : Op2 X c (compareOp .GtE) (cmpD (ordD fun i j => decide (j ≤ i))) := bools_of op_ge
theorem Rep.non_iff {K : PySem.W.Frag} {wa : Addr} {B : Hp} {v : V} {d : D} (r : Rep K wa B v d) : decide (v = .non) = isNonD d := by
  cases r <;> rfl
def isN : D → D → Option Bool
  | x, .non => some (isNonD x)
  | _, _ => none
def notN : D → D → Option Bool
  | x, .non => some (!isNonD x)
  | _, _ => none
theorem o_is : Op2 X c (compareOp .Is) (cmpD isN) := opr_imp op_isN fun x y H Q ⟨B, dx, dy, dz, ok, rx, ry, e, q⟩ => by
  cases ry with
  | non =>
    cases e
    refine ⟨rfl, ?_⟩
    rw [rx.non_iff]
    exact q.now ok (.bl _)
  | _ => cases e
theorem o_isnot : Op2 X c (compareOp .IsNot) (cmpD notN) := opr_imp op_notN fun x y H Q ⟨B, dx, dy, dz, ok, rx, ry, e, q⟩ => by
  cases ry with
  | non =>
    cases e
    refine ⟨rfl, ?_⟩
    rw [rx.non_iff]
    exact q.now ok (.bl _)
  | _ => cases e
end

/-! ### data as the library has it -/
mutual
def toPy : D → Option PyData
  | .non => some .none
  | .bl b => some (.bool b)
  | .int i => some (.int i)
  | .str x => some (.str x)
  | .tup xs => (toPys xs).map .tuple
  | .lst xs => (toPys xs).map .list
  | .dic _ _ => none
  | .ins _ _ _ => none
  | .ty _ => none
  | .cls _ => none
  | .exn _ _ _ _ => none
  | .well => none
def toPys : List D → Option (List PyData)
  | [] => some []
  | x :: xs => match toPy x, toPys xs with
    | some y, some ys => some (y :: ys)
    | _, _ => none
end
mutual
theorem Rep.dp {K : PySem.W.Frag} {wa : Addr} {B H : Hp} (hs : Bsub B H) : ∀ (d : D) (v : V) (p : PyData), Rep K wa B v d → toPy d = some p → Dp K H v p
  | .non, _, _, r, e => by
    cases r
    cases (show some PyData.none = _ by simpa only [toPy] using e)
    exact .non
  | .bl b, _, _, r, e => by
    cases r
    cases (show some (PyData.bool b) = _ by simpa only [toPy] using e)
    exact .bl b
  | .int i, _, _, r, e => by
    cases r
    cases (show some (PyData.int i) = _ by simpa only [toPy] using e)
    exact .int i
  | .str x, _, _, r, e => by
    cases r
    cases (show some (PyData.str x) = _ by simpa only [toPy] using e)
    exact .str x
  | .tup xs, _, _, r, e => by
    simp only [toPy] at e
    obtain ⟨ps, e1, e2⟩ := Option.map_eq_some_iff.mp e
    cases r with
    | tup h l rs =>
      rw [← e2]
      exact .tup (hs.sqT h) (Rep.dps hs xs _ ps rs e1)
  | .lst xs, _, _, r, e => by
    simp only [toPy] at e
    obtain ⟨ps, e1, e2⟩ := Option.map_eq_some_iff.mp e
    cases r with
    | lst h l rs =>
      rw [← e2]
      exact .lst (.inl (.inl (hs _ _ h))) (Rep.dps hs xs _ ps rs e1)
  | .dic _ _, _, _, _, e => by simp only [toPy] at e; cases e
  | .ins _ _ _, _, _, _, e => by simp only [toPy] at e; cases e
  | .ty _, _, _, _, e => by simp only [toPy] at e; cases e
  | .cls _, _, _, _, e => by simp only [toPy] at e; cases e
  | .exn _ _ _ _, _, _, _, e => by simp only [toPy] at e; cases e
  | .well, _, _, _, e => by simp only [toPy] at e; cases e
theorem Rep.dps {K : PySem.W.Frag} {wa : Addr} {B H : Hp} (hs : Bsub B H) : ∀ (ds : List D) (vs : List V) (ps : List PyData), Reps K wa B vs ds → toPys ds = some ps → DpAll K H vs ps
  | [], _, _, r, e => by
    cases r
    cases (show some ([] : List PyData) = _ by simpa only [toPys] using e)
    exact .nil
  | d :: ds, _, _, r, e => by
    cases r with
    | cons a t =>
      simp only [toPys] at e
      cases e1 : toPy d with
      | none => rw [e1] at e; cases e
      | some p =>
        cases e2 : toPys ds with
        | none => rw [e1, e2] at e; cases e
        | some ps =>
          rw [e1, e2] at e
          cases e
          exact .cons (Rep.dp hs d _ p a e1) (Rep.dps hs ds _ ps t e2)
end
/-- == of plain data -/
def eqP (x y : D) : Option Bool := match toPy x, toPy y with
  | some p, some q => if SeqAt.shaped p = true ∧ SeqAt.shaped q = true then some (PyData.eqv p q) else none
  | _, _ => none
def eqD : D → D → Option Bool
  | .str x, .str y => some (decide (x = y))
  | .int x, .int y => some (decide (x = y))
  | x, y => eqP x y
def neD (x y : D) : Option Bool := (eqD x y).map (!·)
section
variable {X : Cx} {c : DC}
theorem eqP_some {x y : D} {b : Bool} (h : eqP x y = some b) : ∃ p q, toPy x = some p ∧ toPy y = some q ∧ SeqAt.shaped p = true ∧ SeqAt.shaped q = true ∧ PyData.eqv p q = b := by
  unfold eqP at h
  cases e1 : toPy x with
  | none => rw [e1] at h; cases h
  | some p =>
    cases e2 : toPy y with
    | none => rw [e1, e2] at h; cases h
    | some q =>
      rw [e1, e2] at h
      dsimp only at h
      split at h
      · rename_i hz
        cases h
        exact ⟨p, q, rfl, rfl, hz.1, hz.2, rfl⟩
      · cases h
theorem eqD_some {x y : D} {b : Bool} (h : eqD x y = some b) : (∃ s t, x = .str s ∧ y = .str t ∧ b = decide (s = t)) ∨ (∃ s t, x = .int s ∧ y = .int t ∧ b = decide (s = t)) ∨ eqP x y = some b := by
  unfold eqD at h
  split at h
  · exact .inl ⟨_, _, rfl, rfl, (Option.some.inj h).symm⟩
  · exact .inr (.inl ⟨_, _, rfl, rfl, (Option.some.inj h).symm⟩)
  · exact .inr (.inr h)
theorem dec_s (s t : Str) : decide (V.str s = V.str t) = decide (s = t) := by
  by_cases h : s = t
  · subst h; simp
  · simp [h]
theorem dec_i (s t : Int) : decide (V.int s = V.int t) = decide (s = t) := by
  by_cases h : s = t
  · subst h; simp
  · simp [h]
theorem o_eq (hu : X.A.units + 64 < cLine) (hK : c.K = X.K := by rfl) : Op2 X c (compareOp .Eq) (cmpD eqD) := opr_imp ((op_eq (X := X)).or (op_eqD hu)) fun x y H Q ⟨B, dx, dy, dz, ok, rx, ry, e, q⟩ => by
  obtain ⟨b, eb, ez⟩ := Option.map_eq_some_iff.mp e
  subst ez
  rcases eqD_some eb with ⟨s, t, rfl, rfl, rfl⟩ | ⟨s, t, rfl, rfl, rfl⟩ | eb
  · cases rx
    cases ry
    exact .inl ⟨rfl, by rw [dec_s]; exact q.now ok (.bl _)⟩
  · cases rx
    cases ry
    exact .inl ⟨rfl, by rw [dec_i]; exact q.now ok (.bl _)⟩
  · obtain ⟨p, p', e1, e2, s1, s2, e3⟩ := eqP_some eb
    have d1 := Rep.dp ok.sub dx x p rx e1
    have d2 := Rep.dp ok.sub dy y p' ry e2
    rw [hK] at d1 d2
    refine .inr ⟨p, p', d1, d2, s1, s2, ?_⟩
    rw [e3]
    exact q.now ok (.bl b)
theorem o_ne (hu : X.A.units + 64 < cLine) (hK : c.K = X.K := by rfl) : Op2 X c (compareOp .NotEq) (cmpD neD) := opr_imp ((op_ne (X := X)).or (op_neD hu)) fun x y H Q ⟨B, dx, dy, dz, ok, rx, ry, e, q⟩ => by
  obtain ⟨b, eb, ez⟩ := Option.map_eq_some_iff.mp e
  obtain ⟨b', eb', ez'⟩ := Option.map_eq_some_iff.mp eb
  subst ez ez'
  rcases eqD_some eb' with ⟨s, t, rfl, rfl, rfl⟩ | ⟨s, t, rfl, rfl, rfl⟩ | eb'
  · cases rx
    cases ry
    exact .inl ⟨rfl, by rw [dec_s]; exact q.now ok (.bl _)⟩
  · cases rx
    cases ry
    exact .inl ⟨rfl, by rw [dec_i]; exact q.now ok (.bl _)⟩
  · obtain ⟨p, p', e1, e2, s1, s2, e3⟩ := eqP_some eb'
    have d1 := Rep.dp ok.sub dx x p rx e1
    have d2 := Rep.dp ok.sub dy y p' ry e2
    rw [hK] at d1 d2
    refine .inr ⟨p, p', d1, d2, s1, s2, ?_⟩
    rw [e3]
    exact q.now ok (.bl _)
end
end FL
set_option maxHeartbeats 2000000
namespace FL
open PySem PySem.Spec PyProof.Rows L2

/-! ### and, or, not, a if t else b, a < b < c -/
def mAnd (ma mb : DE) : DE := fun env u R => ma env u fun x u1 => ∃ b, x = .bl b ∧ if b = true then mb env u1 R else R (.bl false) u1
def mOr (ma mb : DE) : DE := fun env u R => ma env u fun x u1 => ∃ b, x = .bl b ∧ if b = true then R (.bl true) u1 else mb env u1 R
def mNot (ma : DE) : DE := fun env u R => ma env u fun x u1 => ∃ b, x = .bl b ∧ R (.bl (!b)) u1
def mAndT (ta tb : DT) : DT := fun env u R => ta env u fun b u1 => if b = true then tb env u1 R else R false u1
def mOrT (ta tb : DT) : DT := fun env u R => ta env u fun b u1 => if b = true then R true u1 else tb env u1 R
def mNotT (ta : DT) : DT := fun env u R => ta env u fun b u1 => R (!b) u1
def mIf (t : DT) (ma mb : DE) : DE := fun env u R => t env u fun b u1 => if b = true then ma env u1 R else mb env u1 R
def mVal (ma : DE) : DT := fun env u R => ma env u fun x u1 => ∃ b, x = .bl b ∧ R b u1
def mChain (f f' : D → D → Option Bool) (ma mb mc : DE) : DE := fun env u R => ma env u fun x u1 => mb env u1 fun y u2 => ∃ z, f x y = some z ∧
  if z = true then mc env u2 fun w u3 => ∃ z', f' y w = some z' ∧ R (.bl z') u3 else R (.bl false) u2
section
variable {X : Cx} {c : DC} {a b e : Expr} {rest : List Expr} {ma mb mc : DE} {ta tb : DT} {pos : Pos}
theorem de_one {op} (h : PE X a (lE c ma)) : PE X (.BoolOp op [a] pos) (lE c ma) := pe_one h
theorem de_and (ha : PE X a (lE c ma)) (hb : PE X (.BoolOp .And (b :: rest) pos) (lE c mb)) : PE X (.BoolOp .And (a :: b :: rest) pos) (lE c (mAnd ma mb)) := pe_imp (pe_and ha hb) fun σ H Q h => by
  obtain ⟨env, u, B, R, sr, hm, k⟩ := h
  refine ⟨env, u, B, _, sr, hm, fun d u1 v H1 B1 sr1 st1 r ⟨z, e, q⟩ => ?_⟩
  subst e
  cases r
  refine ⟨z, rfl, ?_⟩
  cases z with
  | true => exact iteT ⟨env, u1, B1, R, sr1, q, fun d u' v H' B' s t => k d u' v H' B' s (st1.trans t)⟩
  | false => exact iteF (k _ _ _ _ _ sr1 st1 (.bl false) q)
theorem de_or (ha : PE X a (lE c ma)) (hb : PE X (.BoolOp .Or (b :: rest) pos) (lE c mb)) : PE X (.BoolOp .Or (a :: b :: rest) pos) (lE c (mOr ma mb)) := pe_imp (pe_or ha hb) fun σ H Q h => by
  obtain ⟨env, u, B, R, sr, hm, k⟩ := h
  refine ⟨env, u, B, _, sr, hm, fun d u1 v H1 B1 sr1 st1 r ⟨z, e, q⟩ => ?_⟩
  subst e
  cases r
  refine ⟨z, rfl, ?_⟩
  cases z with
  | true => exact iteT (k _ _ _ _ _ sr1 st1 (.bl true) q)
  | false => exact iteF ⟨env, u1, B1, R, sr1, q, fun d u' v H' B' s t => k d u' v H' B' s (st1.trans t)⟩
theorem de_not (ha : PE X a (lE c ma)) : PE X (.UnaryOp .Not a pos) (lE c (mNot ma)) := pe_imp (pe_not ha) fun σ H Q h => by
  obtain ⟨env, u, B, R, sr, hm, k⟩ := h
  refine ⟨env, u, B, _, sr, hm, fun d u1 v H1 B1 sr1 st1 r ⟨z, e, q⟩ => ?_⟩
  subst e
  cases r
  exact ⟨z, rfl, k _ _ _ _ _ sr1 st1 (.bl _) q⟩
theorem dw_one {op} (h : PT X a (lT c ta)) : op = .And ∨ op = .Or → PW X (.BoolOp op [a] pos) (lT c ta)
  | .inl e => by subst e; exact pw_and1 h
  | .inr e => by subst e; exact pw_or1 h
theorem dw_and1 (h : PT X a (lT c ta)) : PW X (.BoolOp .And [a] pos) (lT c ta) := pw_and1 h
theorem dw_or1 (h : PT X a (lT c ta)) : PW X (.BoolOp .Or [a] pos) (lT c ta) := pw_or1 h
theorem dw_and (ha : PT X a (lT c ta)) (hb : PW X (.BoolOp .And (b :: rest) pos) (lT c tb)) : PW X (.BoolOp .And (a :: b :: rest) pos) (lT c (mAndT ta tb)) := pw_imp (pw_and ha hb) fun σ H Q h => by
  obtain ⟨env, u, B, R, sr, hm, k⟩ := h
  refine ⟨env, u, B, _, sr, hm, fun z u1 H1 B1 sr1 st1 q => ?_⟩
  cases z with
  | true => exact iteT ⟨env, u1, B1, R, sr1, q, fun d u' H' B' s t => k d u' H' B' s (st1.trans t)⟩
  | false => exact iteF (k _ _ _ _ sr1 st1 q)
theorem dw_or (ha : PT X a (lT c ta)) (hb : PW X (.BoolOp .Or (b :: rest) pos) (lT c tb)) : PW X (.BoolOp .Or (a :: b :: rest) pos) (lT c (mOrT ta tb)) := pw_imp (pw_or ha hb) fun σ H Q h => by
  obtain ⟨env, u, B, R, sr, hm, k⟩ := h
  refine ⟨env, u, B, _, sr, hm, fun z u1 H1 B1 sr1 st1 q => ?_⟩
  cases z with
  | true => exact iteT (k _ _ _ _ sr1 st1 q)
  | false => exact iteF ⟨env, u1, B1, R, sr1, q, fun d u' H' B' s t => k d u' H' B' s (st1.trans t)⟩
theorem dt_not (ha : PT X a (lT c ta)) : PT X (.UnaryOp .Not a pos) (lT c (mNotT ta)) := pt_imp (pt_not ha) fun σ H Q h => by
  obtain ⟨env, u, B, R, sr, hm, k⟩ := h
  exact ⟨env, u, B, _, sr, hm, fun z u1 H1 B1 sr1 st1 q => k _ _ _ _ sr1 st1 q⟩
theorem dt_val (h : PE X e (lE c ma)) (he : ∀ whole, isTrue e X.env whole = (do let v ← whole; standAt e.pos; holding [v] (truthy v)) := by intro _; rfl) : PT X e (lT c (mVal ma)) := pt_imp (pt_val h he) fun σ H Q h => by
  obtain ⟨env, u, B, R, sr, hm, k⟩ := h
  refine ⟨env, u, B, _, sr, hm, fun d u1 v H1 B1 sr1 st1 r ⟨z, e, q⟩ => ?_⟩
  subst e
  cases r
  exact ⟨z, rfl, k _ _ _ _ sr1 st1 q⟩
theorem de_if {t : Expr} (hc : PT X t (lT c ta)) (ha : PE X a (lE c ma)) (hb : PE X b (lE c mb)) : PE X (.IfExp t a b pos) (lE c (mIf ta ma mb)) := pe_imp (pe_ifExp hc ha hb) fun σ H Q h => by
  obtain ⟨env, u, B, R, sr, hm, k⟩ := h
  refine ⟨env, u, B, _, sr, hm, fun z u1 H1 B1 sr1 st1 q => ?_⟩
  cases z with
  | true => exact iteT ⟨env, u1, B1, R, sr1, q, fun d u' v H' B' s t => k d u' v H' B' s (st1.trans t)⟩
  | false => exact iteF ⟨env, u1, B1, R, sr1, q, fun d u' v H' B' s t => k d u' v H' B' s (st1.trans t)⟩
theorem chain_imp {f f' : D → D → Option Bool} {σ : L2.St} {H : Hp} {Q : VK} (h : lE c (mChain f f' ma mb mc) σ H Q) : tChain (rD2 c (cmpD f)) (rD2 c (cmpD f')) (lE c ma) (lE c mb) (lE c mc) σ H Q := by
  obtain ⟨env, u, B, R, sr, hm, k⟩ := h
  refine ⟨env, u, B, _, sr, hm, fun dx u1 x H1 B1 sr1 st1 rx h1 => ⟨env, u1, B1, _, sr1, h1, fun dy u2 y H2 B2 sr2 st2 ry h2 => ?_⟩⟩
  obtain ⟨z, e, h3⟩ := h2
  refine ⟨B2, dx, dy, .bl z, sr2.ok, rx.mono st2.mono, ry, by unfold cmpD; rw [e]; rfl, fun v H' B' st w r => ?_⟩
  cases r
  refine ⟨z, rfl, ?_⟩
  have sr3 := sr2.same st w
  cases z with
  | false => exact iteF (k _ _ _ _ _ sr3 ((st1.trans st2).trans st) (.bl false) h3)
  | true =>
    refine iteT ⟨env, u2, B', _, sr3, h3, fun dw u3 w4 H4 B4 sr4 st4 r4 ⟨z', e', hR⟩ => ?_⟩
    exact ⟨B4, dy, dw, .bl z', sr4.ok, (ry.mono st.mono).mono st4.mono, r4, by unfold cmpD; rw [e']; rfl, fun v5 H5 B5 st5 w5 r5 => k _ _ _ _ _ (sr4.same st5 w5) ((((st1.trans st2).trans st).trans st4).trans st5) r5 hR⟩
theorem de_chain {op op' : CmpOp} {f f' : D → D → Option Bool} {cc : Expr} (ho : Op2 X c (compareOp op) (cmpD f)) (ho' : Op2 X c (compareOp op') (cmpD f')) (ha : PE X a (lE c ma)) (hb : PE X b (lE c mb)) (hc : PE X cc (lE c mc))
    (hm : lastMarks [op, op'] [b, cc] = false := by with_unfolding_all rfl) : PE X (.Compare a [op, op'] [b, cc] pos) (lE c (mChain f f' ma mb mc)) := pe_imp (pe_chain ho ho' ha hb hc hm) fun _ _ _ h => chain_imp h
theorem lT_of_lE {m : DE} {t : TE} (k : ∀ σ H Q, lE c m σ H Q → t σ H Q) {σ : L2.St} {H : Hp} {Q : Bool → Hp → Prop} (h : lT c (mVal m) σ H Q) : tTest t σ H Q := by
  obtain ⟨env, u, B, R, sr, hm, q⟩ := h
  refine k σ H _ ⟨env, u, B, _, sr, hm, fun d u1 v H1 B1 sr1 st1 r ⟨z, e, hR⟩ => ?_⟩
  subst e
  cases r
  exact ⟨z, rfl, q _ _ _ _ sr1 st1 hR⟩
theorem dt_chain {op op' : CmpOp} {f f' : D → D → Option Bool} {cc : Expr} (ho : Op2 X c (compareOp op) (cmpD f)) (ho' : Op2 X c (compareOp op') (cmpD f')) (ha : PE X a (lE c ma)) (hb : PE X b (lE c mb)) (hc : PE X cc (lE c mc))
    (hm : lastMarks [op, op'] [b, cc] = false := by with_unfolding_all rfl) : PT X (.Compare a [op, op'] [b, cc] pos) (lT c (mVal (mChain f f' ma mb mc))) := pt_imp (pt_chain ho ho' ha hb hc hm) fun _ _ _ h => lT_of_lE (fun _ _ _ h => chain_imp h) h
end

/-! ### arguments, displays, built-ins -/
def mNil : DA := fun _ u R => R [] u
def mCons (ma : DE) (mr : DA) : DA := fun env u R => ma env u fun x u1 => mr env u1 fun xs u2 => R (x :: xs) u2
def mTup (m : DA) : DE := fun env u R => m env u fun xs u1 => xs.length ≤ sizeLine ∧ R (.tup xs) u1
def mLst (m : DA) : DE := fun env u R => m env u fun xs u1 => xs.length ≤ sizeLine ∧ R (.lst xs) u1
def mB (g : List D → Option D) (m : DA) : DE := fun env u R => m env u fun xs u1 => ∃ z, g xs = some z ∧ R z u1
def rDn (c : DC) (g : List D → Option D) : List V → Hp → VK → Prop := fun vs H Q => ∃ B ds dz, OkB c.wa B H ∧ Reps c.K c.wa B vs ds ∧ g ds = some dz ∧ Fin c B H dz Q
def Bi (X : Cx) (c : DC) (f : Value) (g : List D → Option D) : Prop := CallR X f (rDn c g)
section
variable {X : Cx} {c : DC} {e : Expr} {es : List Expr} {m : DE} {mr ma : DA} {pos p : Pos} {x : Str} {id T : String} {g : List D → Option D}
theorem da_nil : PA X [] (lA c mNil) := pa_imp pa_nil fun σ H Q h => by
  obtain ⟨env, u, B, R, sr, hm, k⟩ := h
  exact k [] u [] H B sr (Step.refl sr.ok) .nil hm
theorem da_cons (ha : PE X e (lE c m)) (hr : PA X es (lA c mr)) (hs : starEach (e :: es) X.env = (false, eval e X.env) :: starEach es X.env := by rfl) : PA X (e :: es) (lA c (mCons m mr)) := pa_imp (pa_cons ha hr hs) fun σ H Q h => by
  obtain ⟨env, u, B, R, sr, hm, k⟩ := h
  exact ⟨env, u, B, _, sr, hm, fun d u1 v H1 B1 sr1 st1 r h1 => ⟨env, u1, B1, _, sr1, h1, fun ds u2 vs H2 B2 sr2 st2 rs h2 => k _ _ _ _ _ sr2 (st1.trans st2) (.cons (r.mono st2.mono) rs) h2⟩⟩
theorem de_tup {x1} (h : PA X es (lA c ma)) : PE X (.Tuple es x1 pos) (lE c (mTup ma)) := pe_imp (pe_tup h) fun σ H Q h => by
  obtain ⟨env, u, B, R, sr, hm, k⟩ := h
  refine ⟨env, u, B, _, sr, hm, fun ds u1 vs H1 B1 sr1 st1 rs ⟨hz, hR⟩ => ⟨by rw [rs.length]; exact hz, fun q n => ?_⟩⟩
  have st := Step.lay (o := .tup vs) sr1.ok n
  exact k _ _ _ _ _ (sr1.same st (lay_wa sr1.ok n)) (st1.trans st) (.tup (.inl (.inl upd_same)) hz (rs.mono st.mono)) hR
theorem de_lst (h : PA X es (lA c ma)) : PE X (.List es pos) (lE c (mLst ma)) := pe_imp (pe_lst h) fun σ H Q h => by
  obtain ⟨env, u, B, R, sr, hm, k⟩ := h
  refine ⟨env, u, B, _, sr, hm, fun ds u1 vs H1 B1 sr1 st1 rs ⟨hz, hR⟩ => ⟨by rw [rs.length]; exact hz, fun q n => ?_⟩⟩
  have st := Step.lay (o := .lst vs) sr1.ok n
  exact k _ _ _ _ _ (sr1.same st (lay_wa sr1.ok n)) (st1.trans st) (.lst upd_same hz (rs.mono st.mono)) hR
theorem bi_imp {σ : L2.St} {H : Hp} {Q : VK} (h : lE c (mB g ma) σ H Q) : tCB (rDn c g) (lA c ma) σ H Q := by
  obtain ⟨env, u, B, R, sr, hm, k⟩ := h
  exact ⟨env, u, B, _, sr, hm, fun ds u1 vs H1 B1 sr1 st1 rs ⟨z, e, hR⟩ => ⟨B1, ds, z, sr1.ok, rs, e, fun v H' B' st w r => k _ _ _ _ _ (sr1.same st w) (st1.trans st) r hR⟩⟩
theorem de_bi (hc : Bi X c (.builtin id) g) (hg : Gl X x) (hm : X.mg x = none) (hv : bootBuiltins x = some (.builtin id)) (ha : PA X (e :: es) (lA c ma)) (hn : x ≠ "__name__" := by decide) (hdb : (x == ("__debug__" : Str)) = false := by decide)
    (he : starEach (e :: es) X.env = (false, eval e X.env) :: starEach es X.env := by rfl) (hpl : (backTo pos (starEach es X.env)).any (·.1) = false := by rfl) : PE X (.Call (.Name x p) (e :: es) [] pos) (lE c (mB g ma)) :=
  pe_imp (pe_callB hc hg hm hv ha hn hdb he hpl) fun _ _ _ h => bi_imp h
theorem de_bt (hc : Bi X c (.type T) g) (hg : Gl X x) (hm : X.mg x = none) (hv : bootBuiltins x = some (.type T)) (ha : PA X (e :: es) (lA c ma)) (hn : x ≠ "__name__" := by decide) (hdb : (x == ("__debug__" : Str)) = false := by decide)
    (he : starEach (e :: es) X.env = (false, eval e X.env) :: starEach es X.env := by rfl) (hpl : (backTo pos (starEach es X.env)).any (·.1) = false := by rfl) : PE X (.Call (.Name x p) (e :: es) [] pos) (lE c (mB g ma)) :=
  pe_imp (pe_callTy hc hg hm hv ha hn hdb he hpl) fun _ _ _ h => bi_imp h
theorem callr_imp {f : Value} {r r' : List V → Hp → VK → Prop} (h : CallR X f r) (k : ∀ vs H Q, r' vs H Q → r vs H Q) : CallR X f r' := fun pins s σ H vs us Q I rv q => h pins s σ H vs us Q I rv (k _ _ _ q)
/-- a name of a built-in class, a module's constant -/
theorem de_ty {n : String} (hg : Gl X x) (hm : X.mg x = none) (hv : bootBuiltins x = some (.type n)) (hn : x ≠ "__name__" := by decide) (hd : (x == ("__debug__" : Str)) = false := by decide) : PE X (.Name x pos) (lE c (mC (.ty n))) := de_const (pe_bltn (v := .ty n) hg hm hv rfl hn hd) fun _ => .ty n
theorem de_gint {i : Int} (hg : Gl X x) (hm : ∃ t, X.mg x = some (.int i t)) (hd : (x == ("__debug__" : Str)) = false := by decide) : PE X (.Name x pos) (lE c (mC (.int i))) := let ⟨_, h⟩ := hm; de_const (pe_glob (v := .int i) hg h ⟨_, rfl⟩ hd) fun _ => .int i
theorem de_gstr {i : Str} (hg : Gl X x) (hm : ∃ t, X.mg x = some (.str i t)) (hl : Nat.ble i.length 100000 = true := by rfl) (hd : (x == ("__debug__" : Str)) = false := by decide) : PE X (.Name x pos) (lE c (mC (.str i))) := let ⟨_, h⟩ := hm; de_const (pe_glob (v := .str i) hg h ⟨_, rfl⟩ hd) fun _ => .str i (small_str hl)
theorem de_cls {C : Addr} (hg : Gl X x) (hm : X.mg x = some (.ref C)) (hd : (x == ("__debug__" : Str)) = false := by decide) : PE X (.Name x pos) (lE c (mC (.cls C))) := de_const (pe_glob (v := .ref C) hg hm rfl hd) fun _ => .cls C
end

/-! ### which built-ins -/
def lenD : List D → Option D
  | [.lst xs] => some (.int xs.length)
  | [.tup xs] => some (.int xs.length)
  | [.str x] => some (.int x.length)
  | _ => none
def tyD : D → Option String
  | .non => some "NoneType"
  | .bl _ => some "bool"
  | .int _ => some "int"
  | .str _ => some "str"
  | .tup _ => some "tuple"
  | .lst _ => some "list"
  | .dic _ _ => some "dict"
  | _ => none
def isiD : List D → Option D
  | [d, .ty n] => match tyD d with
    | some t => (kitB t n).map D.bl
    | none => none
  | _ => none
def tupleD : List D → Option D
  | [.lst xs] => some (.tup xs)
  | [.tup xs] => some (.tup xs)
  | _ => none
def listD : List D → Option D
  | [.lst xs] => some (.lst xs)
  | [.tup xs] => some (.lst xs)
  | _ => none
def blsD : List D → Option (List Bool)
  | [] => some []
  | .bl b :: r => (blsD r).map (b :: ·)
  | _ => none
def intsD : List D → Option (List Int)
  | [] => some []
  | .int b :: r => (intsD r).map (b :: ·)
  | _ => none
def allD : List D → Option D
  | [.lst xs] => (blsD xs).map fun bs => .bl (bs.all id)
  | _ => none
def anyD : List D → Option D
  | [.lst xs] => (blsD xs).map fun bs => .bl (bs.any id)
  | _ => none
def sumD : List D → Option D
  | [.lst xs] => (intsD xs).map fun bs => .int bs.sum
  | _ => none
def strD : List D → Option D
  | [.int i] => if i.natAbs.log2 < 1920 ∧ (toString i : Str).length ≤ sizeLine then some (.str (toString i)) else none
  | _ => none
section
variable {K : PySem.W.Frag} {wa : Addr} {B : Hp}
theorem Reps.bls : ∀ {xs : List V} {ds : List D} {bs : List Bool}, Reps K wa B xs ds → blsD ds = some bs → xs = bs.map V.bl
  | _, _, _, .nil, e => by
    cases (show some ([] : List Bool) = _ from e)
    rfl
  | _, _, _, .cons r t, e => by
    cases r with
    | bl b =>
      obtain ⟨bs', e1, e2⟩ := Option.map_eq_some_iff.mp (show (blsD _).map (b :: ·) = some _ from e)
      subst e2
      rw [List.map_cons, Reps.bls t e1]
    | _ => cases e
theorem Reps.ints : ∀ {xs : List V} {ds : List D} {bs : List Int}, Reps K wa B xs ds → intsD ds = some bs → xs = bs.map V.int
  | _, _, _, .nil, e => by
    cases (show some ([] : List Int) = _ from e)
    rfl
  | _, _, _, .cons r t, e => by
    cases r with
    | int b =>
      obtain ⟨bs', e1, e2⟩ := Option.map_eq_some_iff.mp (show (intsD _).map (b :: ·) = some _ from e)
      subst e2
      rw [List.map_cons, Reps.ints t e1]
    | _ => cases e
end
section
variable {X : Cx} {c : DC}
theorem b_len (hK : c.K = X.K := by rfl) : Bi X c (.builtin "len") lenD := callr_imp call_len fun vs H Q ⟨B, ds, dz, ok, rs, e, q⟩ => by
  match ds, e, rs with
  | [.lst xs], e, rs =>
    obtain ⟨v, rfl, r⟩ := rs.one
    cases e
    cases r with
    | lst h l r =>
      refine ⟨_, _, rfl, .inl ⟨_, .inl (.inl (ok.sub _ _ h)), rfl⟩, ?_⟩
      rw [r.length]
      exact q.now ok (.int _)
  | [.tup xs], e, rs =>
    obtain ⟨v, rfl, r⟩ := rs.one
    cases e
    cases r with
    | tup h l r =>
      have h' := ok.sub.sqT h
      rw [hK] at h'
      refine ⟨_, _, rfl, .inr ⟨_, h', rfl⟩, ?_⟩
      rw [r.length]
      exact q.now ok (.int _)
  | [.str x], e, rs =>
    obtain ⟨v, rfl, r⟩ := rs.one
    cases e
    cases r with
    | str _ hz => exact ⟨_, _, rfl, ⟨hz, rfl⟩, q.now ok (.int _)⟩
theorem Rep.ty_of {K : PySem.W.Frag} {wa : Addr} {B H : Hp} {v : V} {d : D} {t : String} (r : Rep K wa B v d) (hs : Bsub B H) (e : tyD d = some t) : TyX K H v (.type t) := by
  cases r with
  | non => cases e; exact .base .non
  | bl b => cases e; exact .base (.bl b)
  | int b => cases e; exact .base (.int b)
  | str b _ => cases e; exact .base (.str b)
  | tup h _ _ =>
    cases e
    rcases h with (h | ⟨o, h⟩) | ⟨o, its, n, h1, h2, _⟩
    · exact .base (.tup (hs _ _ h))
    · exact .fTuple (hs _ _ h)
    · exact .kTuple h1 h2
  | lst h _ _ => cases e; exact .base (.lst (hs _ _ h))
  | dic h _ _ => cases e; exact .base (.dK (hs _ _ h))
  | _ => cases e
theorem b_isi (hK : c.K = X.K := by rfl) : Bi X c (.builtin "isinstance") isiD := callr_imp call_isi fun vs H Q ⟨B, ds, dz, ok, rs, e, q⟩ => by
  match ds, e, rs with
  | [d, .ty n], e, rs =>
    obtain ⟨v, w, rfl, r1, r2⟩ := rs.two
    cases r2
    have e : (match tyD d with | some t => (kitB t n).map D.bl | none => none) = some dz := e
    cases et : tyD d with
    | none => rw [et] at e; cases e
    | some t =>
      rw [et] at e
      obtain ⟨b, e1, e2⟩ := Option.map_eq_some_iff.mp (show (kitB t n).map D.bl = some dz from e)
      subst e2
      have ty := r1.ty_of ok.sub et
      rw [hK] at ty
      exact ⟨_, _, _, _, b, rfl, .ty n, ty, kit_ty e1, q.now ok (.bl b)⟩
theorem b_tuple (hK : c.K = X.K := by rfl) : Bi X c (.type "tuple") tupleD := callr_imp call_tuple_of fun vs H Q ⟨B, ds, dz, ok, rs, e, q⟩ => by
  match ds, e, rs with
  | [.lst xs], e, rs =>
    obtain ⟨v, rfl, r⟩ := rs.one
    cases e
    cases r with
    | lst h l r => exact ⟨_, _, rfl, .inl ⟨.inl (.inl (ok.sub _ _ h)), fun _ n => q.tup ok n l r⟩⟩
  | [.tup xs], e, rs =>
    obtain ⟨v, rfl, r⟩ := rs.one
    cases e
    cases r with
    | tup h l r =>
      have h' := ok.sub.sqT h
      rw [hK] at h'
      exact ⟨_, _, rfl, .inr ⟨h', q.now ok (.tup h l r)⟩⟩
theorem b_list (hK : c.K = X.K := by rfl) : Bi X c (.type "list") listD := callr_imp call_list_of fun vs H Q ⟨B, ds, dz, ok, rs, e, q⟩ => by
  match ds, e, rs with
  | [.lst xs], e, rs =>
    obtain ⟨v, rfl, r⟩ := rs.one
    cases e
    cases r with
    | lst h l r => exact ⟨_, _, rfl, .inl (.inl (.inl (ok.sub _ _ h))), fun _ n => q.lst ok n l r⟩
  | [.tup xs], e, rs =>
    obtain ⟨v, rfl, r⟩ := rs.one
    cases e
    cases r with
    | tup h l r =>
      have h' := ok.sub.sqT h
      rw [hK] at h'
      exact ⟨_, _, rfl, .inr h', fun _ n => q.lst ok n l r⟩
theorem b_all (hc : X.calm = true) : Bi X c (.builtin "all") allD := callr_imp (cr_all hc) fun vs H Q ⟨B, ds, dz, ok, rs, e, q⟩ => by
  match ds, e, rs with
  | [.lst xs], e, rs =>
    obtain ⟨v, rfl, r⟩ := rs.one
    obtain ⟨bs, e1, e2⟩ := Option.map_eq_some_iff.mp (show (blsD xs).map _ = some dz from e)
    subst e2
    cases r with
    | lst h l r =>
      have ex := r.bls e1
      subst ex
      exact ⟨_, bs, rfl, .inl (.inl (ok.sub _ _ h)), q.now ok (.bl _)⟩
theorem b_any (hc : X.calm = true) : Bi X c (.builtin "any") anyD := callr_imp (cr_any hc) fun vs H Q ⟨B, ds, dz, ok, rs, e, q⟩ => by
  match ds, e, rs with
  | [.lst xs], e, rs =>
    obtain ⟨v, rfl, r⟩ := rs.one
    obtain ⟨bs, e1, e2⟩ := Option.map_eq_some_iff.mp (show (blsD xs).map _ = some dz from e)
    subst e2
    cases r with
    | lst h l r =>
      have ex := r.bls e1
      subst ex
      exact ⟨_, bs, rfl, .inl (.inl (ok.sub _ _ h)), q.now ok (.bl _)⟩
theorem b_sum (hc : X.calm = true) : Bi X c (.builtin "sum") sumD := callr_imp (cr_sum hc) fun vs H Q ⟨B, ds, dz, ok, rs, e, q⟩ => by
  match ds, e, rs with
  | [.lst xs], e, rs =>
    obtain ⟨v, rfl, r⟩ := rs.one
    obtain ⟨bs, e1, e2⟩ := Option.map_eq_some_iff.mp (show (intsD xs).map _ = some dz from e)
    subst e2
    cases r with
    | lst h l r =>
      have ex := r.ints e1
      subst ex
      exact ⟨_, bs, rfl, .inl (.inl (ok.sub _ _ h)), q.now ok (.int _)⟩
theorem b_str : Bi X c (.type "str") strD := callr_imp call_str_int fun vs H Q ⟨B, ds, dz, ok, rs, e, q⟩ => by
  match ds, e, rs with
  | [.int i], e, rs =>
    obtain ⟨v, rfl, r⟩ := rs.one
    obtain ⟨hz, rfl⟩ := ite_some (show (if _ then some _ else none) = some dz from e)
    cases r
    exact ⟨i, rfl, hz.1, q.now ok (.str _ hz.2)⟩
end
end FL
set_option maxHeartbeats 2000000
/-! enumerate of a tuple -/
namespace PySem
open PyProof.Rows
set_option maxHeartbeats 4000000 in
theorem fl_enum_new {v : Value} {o : Obj} {H : Heap → Prop} (B : Begins v o H) : Meets (Builtin.«enumerate.__new__» ⟨[.type "enumerate", v], []⟩)
    (fun _ R s => H s.heap ∧ R (.ok (.ret (.ref (s.heap.push o).objs.size))) { s with heap := (s.heap.push o).push { cls := .type "enumerate", data := .fields #[.none, .bool false, .ref s.heap.objs.size, rawInt 0, .none, .none] } }) :=
  .of_wp fun prog w A R s hh => by
    obtain ⟨hp, g, dr, tk, os⟩ := s
    obtain ⟨h1, hR⟩ := hh
    have hsb := sub_enumerate
    have it1 : ∀ {A' : Around} {E : Value → Shared → Prop} {Q : Value → Shared → Prop}, Q (.ref hp.objs.size) ⟨hp.push o, g, dr, tk, os⟩ → wpAny (model prog w) A' (pyIter v) Q E ⟨hp, g, dr, tk, os⟩ := fun q => B.iter prog w _ _ ⟨hp, g, dr, tk, os⟩ _ h1 q
    wp_walk using it1
    refine wpAny_stack_any fun stk => wpAny_pure ?_
    split
    · rename_i cc _ _ _ _ _
      cases (cc == Value.type "enumerate") <;> (wp_walk using it1; exact ⟨_, rfl, hR⟩)
    · wp_walk using it1
      exact ⟨_, rfl, hR⟩
theorem fl_enum_call {prog : Program} {w : World} {A : Around} {E : Value → Shared → Prop} {s : Shared} {v : Value} {o : Obj} {H : Heap → Prop} {Q : Value → Shared → Prop} (B : Begins v o H) (h1 : H s.heap)
    (h : ∀ h', IsEnum h' (s.heap.objs.size + 1) s.heap.objs.size 0 .none → h'.get? s.heap.objs.size = some o → (∀ b ob, s.heap.get? b = some ob → h'.get? b = some ob) → Q (.ref (s.heap.objs.size + 1)) { s with heap := h' }) :
    wpAny (model prog w) A (call (.type "enumerate") [v]) Q E s := by
  refine callType_new F.called_enumerate (by decide) (F.typeCall_enumerate_1 _) (F.newCall_enumerate_1 _) (fun obj => F.args_object_init_2 obj _) F.entry_enumerate_new (fl_enum_new B) ⟨h1, ?_⟩
  have hz : (s.heap.push o).objs.size = s.heap.objs.size + 1 := Heap.size_push ..
  have he := Heap.get?_push_size (s.heap.push o) (o := { cls := .type "enumerate", data := .fields #[.none, .bool false, .ref s.heap.objs.size, rawInt 0, .none, .none] }) rfl
  show _ ∧ _
  rw [hz]
  rw [hz] at he
  exact ⟨⟨_, he, rfl⟩, h _ he (Heap.get?_push_of_some _ (Heap.get?_push_size _ B.free)) fun b ob x => Heap.get?_push_of_some _ (Heap.get?_push_of_some _ x)⟩
end PySem
namespace FL
open PySem PySem.Spec PyProof.Rows L2
/-- the tuple at a, the items in new pairs with their places -/
def IteT (K : PySem.W.Frag) (a : Addr) : It where
  go := fun i H => ∃ (xs : List V) (x : V), SqT K H a xs ∧ xs[i]? = some x
  yld := fun i H v H' => ∃ T x, v = .ref T ∧ H T = none ∧ H' = upd H T (.tup [.int (i : Nat), x]) ∧ ∀ xs, SqT K H a xs → xs[i]? = some x
  stop := fun i H => ∃ xs : List V, SqT K H a xs ∧ xs.length = i
theorem turn_enumT {P : Program} {w : World} {K : PySem.W.Frag} {elts : List Expr} {kk : Nat} {tpos : Pos} (a e it : Addr) (ea : a ≠ e) (ai : a ≠ it) :
    Turn P w K (.Tuple elts kk tpos) (IteT K a) [e, it] e (fun i h => (∃ old, IsEnum h e it ((i : Nat) : Int) old) ∧ h.IsTupleIter it a i ∧ e ≠ it) where
  mem := by simp
  obj := fun i h st b hb => by
    obtain ⟨⟨old, he⟩, ⟨o, ho, hc, hd⟩, _⟩ := st
    rcases (show b = e ∨ b = it by simpa using hb) with z | z
    · subst z
      exact ⟨_, he, fun v q => nomatch q⟩
    · subst z
      exact ⟨o, ho, fun v q => by rw [hd] at q; cases q⟩
  keep := fun i h h' st k => by
    obtain ⟨⟨old, he⟩, hi, hne⟩ := st
    exact ⟨⟨old, k e (by simp) _ he⟩, hi.at fun o q => k it (by simp) o q, hne⟩
  item := by
    intro X hP hw hK hc i pins s σ H E I hf st hg
    subst hP hw hK
    obtain ⟨⟨old, he⟩, hit, hne⟩ := st
    obtain ⟨xs, x, hq, hx⟩ := hg
    obtain ⟨its, rv, p, hz⟩ := I.tuple hq
    obtain ⟨u, hu, ru⟩ := rv.get hx
    have hel : e < s.heap.objs.size := Heap.lt_size he
    have hil : it < s.heap.objs.size := by
      obtain ⟨_, q, _⟩ := hit
      exact Heap.lt_size q
    have DD := Draws.tuple (prog := X.prog) (w := X.w) (A := X.A.in1) (I.ok.hd hc) it a ai its.toArray
    have hlt : i < its.toArray.size := by
      rw [List.size_toArray]
      exact (List.getElem?_eq_some_iff.mp hu).1
    refine wpAny_pyNext_enum_itemC (i := i) DD he ⟨hit, p⟩ hlt hne (by simp [hne, Ne.symm ea]) fun y h' tk hy ho hit' hT hsz hk => ?_
    have ey : y = u := by
      have hy2 : its.toArray[i]? = some y := hy
      rw [List.getElem?_toArray, hu] at hy2
      exact (Option.some.inj hy2).symm
    subst ey
    refine ⟨_, rfl, wpAny_letOwnedTupleGo_enum (s := { s with heap := h', toks := tk + 1 }) ho fun h'' he' sb => ?_⟩
    have hT2 := (sb.2 _ (Nat.ne_of_gt hel)).trans hT
    have new : ObjOk X.prog X.w (upd H s.heap.objs.size (.tup [.int (i : Nat), x])) h'' s.heap.objs.size (.tup [.int (i : Nat), x]) := ⟨by show 2 ≤ sizeLine; decide, [.int i tk, y], .cons ⟨_, rfl⟩ (.cons ru .nil), ⟨_, hT2, rfl, _, rfl⟩⟩
    have I1 : Inv X pins σ (upd H s.heap.objs.size (.tup [.int (i : Nat), x])) { s with heap := h'', toks := tk + 1 } :=
      I.turnedNew (ch := [e, it]) (fun b ob hb q => (sb.2 b (fun z => hb (by simp [z]))).trans (hk b ob (fun z => hb (by simp [z])) (fun z => hb (by simp [z])) q)) hf (Nat.le_refl _) new
    refine ⟨.ref s.heap.objs.size, _, I1, rfl, ⟨_, x, rfl, I.hok.fresh (Nat.le_refl _), rfl, fun ys hy => ?_⟩, ⟨⟨y, ?_⟩, hit'.1.at fun o q => (sb.2 it (Ne.symm hne)).trans q, hne⟩, fun b hb => ?_⟩
    · rw [I.tuple_inj hy hq]
      exact hx
    · have e1 : ((i + 1 : Nat) : Int) = (i : Int) + 1 := by omega
      rw [e1]
      exact he'
    · have hb' : b < s.heap.objs.size := by
        rcases (show b = e ∨ b = it by simpa using hb) with z | z <;> (rw [z]; assumption)
      rw [upd_ne (Nat.ne_of_lt hb')]
      exact (hf b hb).1
  done := by
    intro X hP hw hK hc i pins s σ H E I hf st hg
    subst hP hw hK
    obtain ⟨⟨old, he⟩, hit, hne⟩ := st
    obtain ⟨xs, hq, hx⟩ := hg
    obtain ⟨its, rv, p, hz⟩ := I.tuple hq
    obtain ⟨f0, f1, f2, f3, f4, f5⟩ := hf it (by simp)
    have hl := rv.length
    have DD := Draws.tuple (prog := X.prog) (w := X.w) (A := X.A.in1) (I.ok.hd hc) it a ai its.toArray
    have ei : i = its.toArray.size := by
      rw [List.size_toArray]
      omega
    rw [ei] at hit
    exact wpAny_pyNext_enum_endD DD he ⟨hit, p⟩ fun h' eb => ⟨rfl, I.turned (t' := s.toks) (fun b o hb q => eb b o hb q) f0 f1 f3 f4 f5⟩
  self := fun A i s Q E st h => by
    obtain ⟨⟨_, he⟩, _⟩ := st
    exact wpAny_pyIter_enum he h
def iEnumT (K : PySem.W.Frag) (ta : TA) : TI := fun σ H R => ta σ H fun vs H1 => ∃ a xs, vs = [.ref a] ∧ SqT K H1 a xs ∧ R (IteT K a) H1
theorem pi_enumT {X : Cx} {e : Expr} {ta : TA} {p pos tpos : Pos} {elts : List Expr} {kk : Nat} (hg : Gl X "enumerate") (hm : X.mg "enumerate" = none) (ha : PA X [e] ta) (hs : starEach [e] X.env = [(false, eval e X.env)] := by rfl) :
    PI X (.Tuple elts kk tpos) (.Call (.Name "enumerate" p) [e] [] pos) (iEnumT X.K ta) := by
  constructor
  intro pins s σ H R I h
  refine Call_ (ld_blt I hg hm boot_enumerate (PyProof.Rows.callWith_type1 (thn (ha.run pos pins s σ H _ I h) fun us s1 hh => ?_) hs rfl))
  obtain ⟨vs, H1, I1, r1, a, xs, ex, hq, q⟩ := hh
  subst ex
  cases r1 with
  | cons r rr =>
    cases rr
    cases r
    obtain ⟨its, rv, p', hz⟩ := I1.tuple hq
    have hal : a < s1.heap.objs.size := p'.lt
    refine fl_enum_call (begins_tuple a its.toArray) p' fun h' he hit hk => wpAny_pyIter_enum he ?_
    have I2 : Inv X pins σ H1 { s1 with heap := h' } := I1.kept (t' := s1.toks) hk
    refine ⟨s1.heap.objs.size + 1, [s1.heap.objs.size + 1, s1.heap.objs.size], _, _, H1, rfl, I2, turn_enumT a (s1.heap.objs.size + 1) s1.heap.objs.size (Nat.ne_of_lt (Nat.lt_succ_of_lt hal)) (Nat.ne_of_lt hal), ⟨⟨.none, he⟩, ⟨_, hit, rfl, rfl⟩, Nat.succ_ne_self _⟩, fun b hb => ?_, q⟩
    have hle : s1.heap.objs.size ≤ b := by
      rcases (show b = s1.heap.objs.size + 1 ∨ b = s1.heap.objs.size by simpa using hb) with z | z
      · exact Nat.le_trans (Nat.le_succ _) (Nat.le_of_eq z.symm)
      · exact Nat.le_of_eq z.symm
    exact I1.fpOk hle (I1.hok.fresh hle)
end FL
set_option maxHeartbeats 2000000
namespace FL
open PySem PySem.Spec PyProof.Rows L2

/-! ### a[i], a[i:j] -/
def ixD : D → D → Option D
  | .lst xs, .int i => atI xs i
  | .tup xs, .int i => atI xs i
  | .str z, .int i => (atI z.cps.toList i).map fun q => .str ⟨#[q]⟩
  | _, _ => none
def cutL {α : Type} (xs : List α) (lo hi : Option Int) : List α := (xs.drop (HT.sIx xs.length 0 lo)).take (HT.sIx xs.length xs.length hi - HT.sIx xs.length 0 lo)
def slD : D → Option Int → Option Int → Option D
  | .lst xs, lo, hi => some (.lst (cutL xs lo hi))
  | .tup xs, lo, hi => some (.tup (cutL xs lo hi))
  | .str z, lo, hi => some (.str (cutS z lo hi))
  | _, _, _ => none
section
variable {K : PySem.W.Frag} {wa : Addr} {B : Hp}
theorem Reps.at {xs : List V} {ds : List D} {i : Int} {d : D} (r : Reps K wa B xs ds) (h : atI ds i = some d) : ∃ v, atI xs i = some v ∧ Rep K wa B v d := by
  unfold atI at h ⊢
  rw [r.length]
  cases e : ixN ds.length i with
  | none =>
    rw [e] at h
    cases h
  | some j =>
    rw [e] at h
    exact r.get h
theorem Reps.cut {xs : List V} {ds : List D} (r : Reps K wa B xs ds) (lo hi : Option Int) : Reps K wa B (cutV xs lo hi) (cutL ds lo hi) := by
  unfold cutV cutL
  rw [r.length]
  exact (r.drop _).take _
end
abbrev DO := DEnv → Nat → (Option Int → Nat → Prop) → Prop
def lO (c : DC) (m : DO) : TO := fun σ H Q => ∃ env u B R, SR c env u B σ H ∧ m env u R ∧ ∀ o u' H' B', SR c env u' B' σ H' → Step c.wa B H B' H' → R o u' → Q o H'
def mNoPart : DO := fun _ u R => R none u
def mPart (m : DE) : DO := fun env u R => m env u fun x u1 => ∃ i, x = .int i ∧ R (some i) u1
def mSl (m : DE) (ml mh : DO) : DE := fun env u R => m env u fun x u1 => ml env u1 fun l u2 => mh env u2 fun h u3 => ∃ z, slD x l h = some z ∧ R z u3
section
variable {X : Cx} {c : DC} {a b e : Expr} {ma mb m : DE} {ml mh : DO} {pos p2 : Pos} {lo hi : Option Expr}
theorem ixr_imp {r r' : R2} (h : IxR X r) (k : ∀ x y H Q, r' x y H Q → r x y H Q) : IxR X r' := fun va sl pins s σ H x y v u Q I rx ry q e => h va sl pins s σ H x y v u Q I rx ry (k _ _ _ _ q) e
theorem ixr_or {r r' : R2} (h : IxR X r) (h' : IxR X r') : IxR X (fun x y H Q => r x y H Q ∨ r' x y H Q) := fun va sl pins s σ H x y v u Q I rx ry q e => by
  rcases q with q | q
  · exact h va sl pins s σ H x y v u Q I rx ry q e
  · exact h' va sl pins s σ H x y v u Q I rx ry q e
theorem ix_D (hK : c.K = X.K := by rfl) : IxR X (rD2 c ixD) := ixr_imp (ixr_or ix_list (ixr_or ix_tup ix_str)) fun x y H Q ⟨B, dx, dy, dz, ok, rx, ry, e, q⟩ => by
  cases rx with
  | lst h l r =>
    cases ry with
    | int i =>
      obtain ⟨v, ev, rv⟩ := r.at (show atI _ i = some dz from e)
      exact .inl ⟨_, _, i, v, rfl, rfl, .inl (.inl (ok.sub _ _ h)), ev, q.now ok rv⟩
    | _ => cases e
  | tup h l r =>
    cases ry with
    | int i =>
      obtain ⟨v, ev, rv⟩ := r.at (show atI _ i = some dz from e)
      have h' := ok.sub.sqT h
      rw [hK] at h'
      exact .inr (.inl ⟨_, _, i, v, rfl, rfl, h', ev, q.now ok rv⟩)
    | _ => cases e
  | str z hz =>
    cases ry with
    | int i =>
      obtain ⟨cc, e1, e2⟩ := Option.map_eq_some_iff.mp (show (atI z.cps.toList i).map _ = some dz from e)
      subst e2
      exact .inr (.inr ⟨z, i, cc, rfl, rfl, hz, e1, q.now ok (.str _ (small_str rfl))⟩)
    | _ => cases e
  | _ => cases ry <;> cases e
theorem de_ix (ha : PE X a (lE c ma)) (hb : PE X b (lE c mb)) (hs : PlainIx b := by intro _ _; rfl) (hK : c.K = X.K := by rfl) : PE X (.Subscript a b pos) (lE c (mOp ixD ma mb)) := pe_imp (pe_ix (ix_D hK) ha hb hs) fun _ _ _ h => op2_imp h
theorem do_none : PO X none (lO c mNoPart) := ⟨fun pins s σ H Q I h => by
  obtain ⟨env, u, B, R, sr, hm, k⟩ := h
  exact po_none.run pins s σ H Q I (k none u H B sr (Step.refl sr.ok) hm)⟩
theorem do_some (he : PE X e (lE c m)) : PO X (some e) (lO c (mPart m)) := ⟨fun pins s σ H Q I h => by
  obtain ⟨env, u, B, R, sr, hm, k⟩ := h
  refine (po_some he).run pins s σ H Q I ⟨env, u, B, _, sr, hm, fun d u1 v H1 B1 sr1 st1 r ⟨i, e, hR⟩ => ?_⟩
  subst e
  cases r
  exact ⟨i, rfl, k _ _ _ _ sr1 st1 hR⟩⟩
def rSlD (c : DC) : V → Option Int → Option Int → Hp → VK → Prop := fun x l h H Q => ∃ B dx dz, OkB c.wa B H ∧ Rep c.K c.wa B x dx ∧ slD dx l h = some dz ∧ Fin c B H dz Q
theorem slr_imp {r r' : V → Option Int → Option Int → Hp → VK → Prop} (h : SlR X r) (k : ∀ x l y H Q, r' x l y H Q → r x l y H Q) : SlR X r' := fun pins s σ H x v vl vu lo hi sl Q I rx hs pl pu q => h pins s σ H x v vl vu lo hi sl Q I rx hs pl pu (k _ _ _ _ _ q)
theorem cutL_len {α : Type} (xs : List α) (lo hi : Option Int) : (cutL xs lo hi).length ≤ xs.length := by
  unfold cutL
  rw [List.length_take, List.length_drop]
  omega
theorem cutS_len (z : Str) (lo hi : Option Int) : (cutS z lo hi).length ≤ z.length := by
  have e : (cutS z lo hi).cps.toList.length ≤ z.cps.toList.length := by
    unfold cutS
    simp
    omega
  have e2 : (cutS z lo hi).cps.size ≤ z.cps.size := by simpa using e
  exact e2
theorem sl_D (hK : c.K = X.K := by rfl) : SlR X (rSlD c) := slr_imp (sl_list.or (sl_tupA.or sl_str)) fun x l y H Q ⟨B, dx, dz, ok, rx, e, q⟩ => by
  cases rx with
  | lst h ll r =>
    cases e
    exact .inl ⟨_, _, rfl, .inl (.inl (ok.sub _ _ h)), fun p n => q.lst ok n (Nat.le_trans (cutL_len _ _ _) ll) (r.cut l y)⟩
  | tup h ll r =>
    cases e
    have h' := ok.sub.sqT h
    rw [hK] at h'
    refine .inr (.inl ⟨_, _, rfl, h', fun hw => ?_, fun _ p n => q.tup ok n (Nat.le_trans (cutL_len _ _ _) ll) (r.cut l y)⟩)
    rw [r.length] at hw
    have ec : ∀ zs : List D, HT.sIx zs.length 0 l = 0 ∧ HT.sIx zs.length zs.length y = zs.length → cutL zs l y = zs := fun zs hz => by
      unfold cutL
      rw [hz.1, hz.2]
      simp
    rw [ec _ hw] at q
    exact q.now ok (.tup h ll r)
  | str z hz =>
    cases e
    exact .inr (.inr ⟨z, rfl, hz, q.now ok (.str _ (Nat.le_trans (cutS_len _ _ _) hz))⟩)
  | _ => cases e
theorem de_sl (he : PE X e (lE c m)) (hl : PO X lo (lO c ml)) (hh : PO X hi (lO c mh)) (hK : c.K = X.K := by rfl) : PE X (.Subscript e (.Slice lo hi none p2) pos) (lE c (mSl m ml mh)) := pe_imp (pe_slice (sl_D hK) he hl hh) fun σ H Q h => by
  obtain ⟨env, u, B, R, sr, hm, k⟩ := h
  refine ⟨env, u, B, _, sr, hm, fun dx u1 x H1 B1 sr1 st1 rx h1 => ⟨env, u1, B1, _, sr1, h1, fun l u2 H2 B2 sr2 st2 h2 => ⟨env, u2, B2, _, sr2, h2, fun y u3 H3 B3 sr3 st3 ⟨z, e, hR⟩ => ?_⟩⟩⟩
  exact ⟨B3, dx, z, sr3.ok, (rx.mono st2.mono).mono st3.mono, e, fun v H' B' st w r => k _ _ _ _ _ (sr3.same st w) (((st1.trans st2).trans st3).trans st) r hR⟩
end

/-! ### targets -/
abbrev DG := D → DEnv → (DEnv → Prop) → Prop
def lG (c : DC) (vs : List Nat) (m : DG) : TG := fun v σ H Q => ∃ env u B d k, SR c env u B σ H ∧ Rep c.K c.wa B v d ∧ m d env k ∧ ∀ env' σ', SR c env' u B σ' H → wipe σ' vs = wipe σ vs → k env' → Q σ' H
def gN (i : Nat) : DG := fun d env k => k (env.set i (some (.dat d)))
abbrev DGs := List D → DEnv → (DEnv → Prop) → Prop
def lGs (c : DC) (ws : List Nat) (m : DGs) : TGs := fun vs σ H Q => ∃ env u B ds k, SR c env u B σ H ∧ Reps c.K c.wa B vs ds ∧ m ds env k ∧ ∀ env' σ', SR c env' u B σ' H → wipe σ' ws = wipe σ ws → k env' → Q σ' H
def gZ : DGs := fun ds env k => ds = [] ∧ k env
def gC (t : DG) (r : DGs) : DGs := fun ds env k => ∃ d ds', ds = d :: ds' ∧ t d env fun env' => r ds' env' k
def gT (n : Nat) (r : DGs) : DG := fun d env k => ∃ ds, d = .tup ds ∧ ds.length = n ∧ r ds env k
section
variable {c : DC} {env : DEnv} {u : Nat} {B H : Hp} {σ : L2.St}
theorem set_look {α : Type} {l : List α} {i j : Nat} {x y : α} (h : (l.set i x)[j]? = some y) : (j = i ∧ x = y ∧ i < l.length) ∨ (j ≠ i ∧ l[j]? = some y) := by
  by_cases e : j = i
  · subst e
    by_cases hl : j < l.length
    · rw [List.getElem?_set_self hl] at h
      exact .inl ⟨rfl, Option.some.inj h, hl⟩
    · rw [List.set_eq_of_length_le (by omega)] at h
      have := (List.getElem?_eq_some_iff.mp h).1
      omega
  · rw [List.getElem?_set_ne (Ne.symm e)] at h
    exact .inr ⟨e, h⟩
theorem SR.set (s : SR c env u B σ H) {i : Nat} {v : V} {d : D} (r : Rep c.K c.wa B v d) : SR c (env.set i (some (.dat d))) u B (σ.set i (some v)) H where
  len := by rw [List.length_set, List.length_set]; exact s.len
  bl := s.bl
  st := s.st
  wl := s.wl
  dat := fun j e h => by
    rcases set_look h with ⟨rfl, e1, hl⟩ | ⟨ne, h⟩
    · cases e1
      exact ⟨v, by rw [List.getElem?_set_self (by rw [← s.len]; exact hl)], r⟩
    · rw [List.getElem?_set_ne (Ne.symm ne)]
      exact s.dat j e h
  own := fun j e h => by
    rcases set_look h with ⟨rfl, e1, hl⟩ | ⟨ne, h⟩
    · cases e1
    · rw [List.getElem?_set_ne (Ne.symm ne)]
      exact s.own j e h
  apart := fun j k ds es a hjk h1 h2 => by
    rcases set_look h1 with ⟨rfl, e1, _⟩ | ⟨n1, h1⟩
    · cases e1
    · rcases set_look h2 with ⟨rfl, e2, _⟩ | ⟨n2, h2⟩
      · cases e2
      · rw [List.getElem?_set_ne (Ne.symm n1), List.getElem?_set_ne (Ne.symm n2)]
        exact s.apart j k ds es a hjk h1 h2
end
section
variable {X : Cx} {c : DC} {pos : Pos}
theorem pg_imp {e : Expr} {t t' : TG} (h : PG X e t) (k : ∀ v σ H Q, t' v σ H Q → t v σ H Q) : PG X e t' := ⟨fun pins s σ H v u Q I r q => h.run pins s σ H v u Q I r (k _ _ _ _ q)⟩
theorem pgs_imp {e : List Expr} {t t' : TGs} (h : PGs X e t) (k : ∀ v σ H Q, t' v σ H Q → t v σ H Q) : PGs X e t' := ⟨fun pins s σ H v u Q I r q => h.run pins s σ H v u Q I r (k _ _ _ _ q)⟩
theorem wipe_get (σ : L2.St) (j : Nat) : ∀ vs : List Nat, (wipe σ vs)[j]? = if j ∈ vs then (if j < σ.length then some none else none) else σ[j]?
  | [] => by simp [wipe]
  | v :: vs => by
    unfold wipe
    rw [List.getElem?_set, wipe_length, wipe_get σ j vs]
    by_cases e : v = j
    · subst e
      simp
    · have e2 : j ≠ v := fun z => e z.symm
      simp [e, e2]
theorem wipe_set {σ : L2.St} {i : Nat} {x : Option V} {vs : List Nat} (h : i ∈ vs) : wipe (σ.set i x) vs = wipe σ vs := by
  apply List.ext_getElem?
  intro j
  rw [wipe_get, wipe_get, List.length_set]
  by_cases hj : j ∈ vs
  · rw [if_pos hj, if_pos hj]
  · rw [if_neg hj, if_neg hj, List.getElem?_set_ne]
    intro e
    subst e
    exact hj h
theorem wipe_twice (σ : L2.St) (vs : List Nat) : wipe (wipe σ vs) vs = wipe σ vs := by
  apply List.ext_getElem?
  intro j
  rw [wipe_get, wipe_length, wipe_get]
  by_cases hj : j ∈ vs
  · rw [if_pos hj]
    simp [hj]
  · rw [if_neg hj]
theorem dg_name {ws : List Nat} {i : Nat} {x : Str} (hN : X.N.Nodup) (hi : X.N[i]? = some x) (hx : Loc X.env.scope x) (hw : i ∈ ws := by decide) (hf : X.fn x = true ∨ X.env.scope.names.lookup x = some .local := by first | exact .inl rfl | exact .inr rfl | assumption) : PG X (.Name x pos) (lG c ws (gN i)) := pg_imp (pg_name hN hi hx hf) fun v σ H Q h => by
  obtain ⟨env, u, B, d, k, sr, r, hm, q⟩ := h
  exact q _ _ (sr.set r) (wipe_set hw) hm
theorem dgs_nil {ws : List Nat} : PGs X [] (lGs c ws gZ) := pgs_imp pgs_nil fun v σ H Q h => by
  obtain ⟨env, u, B, d, k, sr, r, ⟨e, hm⟩, q⟩ := h
  subst e
  cases r
  exact ⟨rfl, q _ _ sr rfl hm⟩
theorem dgs_cons {ws : List Nat} {e : Expr} {es : List Expr} {t : DG} {r : DGs} (h1 : PG X e (lG c ws t)) (h2 : PGs X es (lGs c ws r)) (hs : (assignEach (e :: es) X.env).map (·.2) = assign e X.env :: (assignEach es X.env).map (·.2) := by rfl) : PGs X (e :: es) (lGs c ws (gC t r)) := pgs_imp (pgs_cons h1 h2 hs) fun v σ H Q h => by
  obtain ⟨env, u, B, d, k, sr, rr, ⟨d1, ds, e, hm⟩, q⟩ := h
  subst e
  cases rr with
  | cons r1 r2 => exact ⟨_, _, rfl, env, u, B, d1, _, sr, r1, hm, fun env' σ' sr' ew hk => ⟨env', u, B, ds, k, sr', r2, hk, fun env2 σ2 s2 e2 => q env2 σ2 s2 (e2.trans ew)⟩⟩
theorem dg_tup {ws : List Nat} {es : List Expr} {k : Nat} {t : DGs} {n : Nat} (hc : X.calm = true) (h : PGs X es (lGs c ws t)) (hn : (assignEach es X.env).length = n := by rfl) (hst : (assignEach es X.env).findIdx? (·.1) = none := by rfl) (hK : c.K = X.K := by rfl) : PG X (.Tuple es k pos) (lG c ws (gT n t)) := pg_imp (pg_tup hc h hn hst) fun v σ H Q h => by
  obtain ⟨env, u, B, d, kk, sr, rr, ⟨ds, e, hl, hm⟩, q⟩ := h
  subst e
  cases rr with
  | tup hs l r =>
    have h' := sr.ok.sub.sqT hs
    rw [hK] at h'
    exact ⟨_, _, rfl, h', by rw [r.length]; exact hl, env, u, B, ds, kk, sr, r, hm, q⟩
end

/-! ### what is walked -/
structure ItD (c : DC) (J : It) (B1 : Hp) (ds : List D) : Prop where
  len : ds.length ≤ sizeLine
  go : ∀ i B H d, OkB c.wa B H → Bsub B1 B → ds[i]? = some d → J.go i H
  yld : ∀ i B H d x H', OkB c.wa B H → Bsub B1 B → ds[i]? = some d → J.yld i H x H' → ∃ B', Step c.wa B H B' H' ∧ H' c.wa = H c.wa ∧ Rep c.K c.wa B' x d
  stop : ∀ B H, OkB c.wa B H → Bsub B1 B → J.stop ds.length H
abbrev DI := DEnv → Nat → (List D → Nat → Prop) → Prop
def lI (c : DC) (m : DI) : TI := fun σ H R => ∃ env u B W, SR c env u B σ H ∧ m env u W ∧ ∀ ds u' J H' B', SR c env u' B' σ H' → Step c.wa B H B' H' → ItD c J B' ds → W ds u' → R J H'
def mSq (m : DE) : DI := fun env u W => m env u fun x u1 => ∃ ds, (x = .lst ds ∨ x = .tup ds) ∧ W ds u1
def mL (m : DE) : DI := fun env u W => m env u fun x u1 => ∃ ds, x = .lst ds ∧ W ds u1
def mT (m : DE) : DI := fun env u W => m env u fun x u1 => ∃ ds, x = .tup ds ∧ W ds u1
def signs (z : Str) : List D := z.cps.toList.map fun q => .str ⟨#[q]⟩
def mTx (m : DE) : DI := fun env u W => m env u fun x u1 => ∃ z, x = .str z ∧ W (signs z) u1
def rng (lo : Int) (n : Nat) : List D := (List.range n).map fun i => .int (lo + (i : Nat))
def mR1 (m : DA) : DI := fun env u W => m env u fun xs u1 => ∃ j : Int, xs = [.int j] ∧ -1000000 ≤ j ∧ j ≤ 1000000 ∧ W (rng 0 j.toNat) u1
def mR2 (m : DA) : DI := fun env u W => m env u fun xs u1 => ∃ i j : Int, xs = [.int i, .int j] ∧ (-1000000 ≤ i ∧ i ≤ 1000000 ∧ -1000000 ≤ j ∧ j ≤ 1000000) ∧ W (rng i (j - i).toNat) u1
def enumD (ds : List D) : List D := ds.zipIdx.map fun p => .tup [.int (p.2 : Nat), p.1]
def mEn (m : DA) : DI := fun env u W => m env u fun xs u1 => ∃ ds, xs = [.tup ds] ∧ W (enumD ds) u1
def mEnL (m : DA) : DI := fun env u W => m env u fun xs u1 => ∃ ds, xs = [.lst ds] ∧ W (enumD ds) u1
theorem enumD_get {ds : List D} {i : Nat} {d : D} (h : (enumD ds)[i]? = some d) : ∃ x, ds[i]? = some x ∧ d = .tup [.int (i : Nat), x] := by
  unfold enumD at h
  rw [List.getElem?_map, List.getElem?_zipIdx] at h
  cases e : ds[i]? with
  | none => rw [e] at h; cases h
  | some x =>
    rw [e] at h
    refine ⟨x, rfl, ?_⟩
    have h2 : some (D.tup [.int ((0 + i : Nat) : Nat), x]) = some d := h
    rw [← Option.some.inj h2, Nat.zero_add]
theorem enumD_len (ds : List D) : (enumD ds).length = ds.length := by
  unfold enumD
  rw [List.length_map, List.length_zipIdx]
section
variable {X : Cx} {c : DC} {tg e : Expr} {m : DE} {ma : DA}
theorem pi_imp {t t' : TI} {iter : Expr} (h : PI X tg iter t) (k : ∀ σ H R, t' σ H R → t σ H R) : PI X tg iter t' := ⟨fun pins s σ H R I q => h.run pins s σ H R I (k _ _ _ q)⟩
theorem it_lst {B1 : Hp} {a : Addr} {xs : List V} {ds : List D} {K : PySem.W.Frag} (h : B1 a = some (.lst xs)) (l : ds.length ≤ sizeLine) (r : Reps c.K c.wa B1 xs ds) : ItD c (Itl K a) B1 ds where
  len := l
  go := fun i B H d ok hs hd => by
    obtain ⟨v, hv, _⟩ := r.get hd
    exact ⟨xs, v, .inl (.inl (ok.sub _ _ (hs _ _ h))), hv⟩
  yld := fun i B H d x H' ok hs hd hy => by
    obtain ⟨v, hv, rv⟩ := r.get hd
    obtain ⟨e, hx⟩ := hy
    have ex := hx xs (.inl (.inl (ok.sub _ _ (hs _ _ h))))
    rw [hv] at ex
    cases ex
    subst e
    exact ⟨B, Step.refl ok, rfl, rv.mono hs⟩
  stop := fun B H ok hs => ⟨xs, .inl (.inl (ok.sub _ _ (hs _ _ h))), by rw [r.length]; exact Nat.le_refl _⟩
theorem it_tup {B1 : Hp} {a : Addr} {xs : List V} {ds : List D} (h : SqT c.K B1 a xs) (l : ds.length ≤ sizeLine) (r : Reps c.K c.wa B1 xs ds) : ItD c (Itt c.K a) B1 ds where
  len := l
  go := fun i B H d ok hs hd => by
    obtain ⟨v, hv, _⟩ := r.get hd
    exact ⟨xs, v, ok.sub.sqT (hs.sqT h), hv⟩
  yld := fun i B H d x H' ok hs hd hy => by
    obtain ⟨v, hv, rv⟩ := r.get hd
    obtain ⟨e, hx⟩ := hy
    have ex := hx xs (ok.sub.sqT (hs.sqT h))
    rw [hv] at ex
    cases ex
    subst e
    exact ⟨B, Step.refl ok, rfl, rv.mono hs⟩
  stop := fun B H ok hs => ⟨xs, ok.sub.sqT (hs.sqT h), by rw [r.length]; exact Nat.le_refl _⟩
theorem di_l (he : PE X e (lE c m)) (hK : c.K = X.K := by rfl) : PI X tg e (lI c (mL m)) := pi_imp (pi_list he) fun σ H R h => by
  obtain ⟨env, u, B, W, sr, hm, k⟩ := h
  refine ⟨env, u, B, _, sr, hm, fun d u1 v H1 B1 sr1 st1 r ⟨ds, e, hW⟩ => ?_⟩
  subst e
  cases r with
  | lst h l r => exact ⟨_, rfl, ⟨_, .inl (.inl (sr1.ok.sub _ _ h))⟩, k _ _ _ _ _ sr1 st1 (it_lst h l r) hW⟩
theorem di_t (he : PE X e (lE c m)) (hK : c.K = X.K := by rfl) : PI X tg e (lI c (mT m)) := pi_imp (pi_tup he) fun σ H R h => by
  obtain ⟨env, u, B, W, sr, hm, k⟩ := h
  refine ⟨env, u, B, _, sr, hm, fun d u1 v H1 B1 sr1 st1 r ⟨ds, e, hW⟩ => ?_⟩
  subst e
  cases r with
  | tup h l r =>
    have h' := sr1.ok.sub.sqT h
    rw [hK] at h'
    refine ⟨_, rfl, ⟨_, h'⟩, ?_⟩
    rw [← hK]
    exact k _ _ _ _ _ sr1 st1 (it_tup h l r) hW
theorem rng_len (lo : Int) (n : Nat) : (rng lo n).length = n := by
  unfold rng
  rw [List.length_map, List.length_range]
theorem it_rng {lo : Int} {n : Nat} {B1 : Hp} (l : n ≤ sizeLine) : ItD c (Itr lo n) B1 (rng lo n) where
  len := by rw [rng_len]; exact l
  go := fun i B H d ok hs hd => by
    have h := (List.getElem?_eq_some_iff.mp hd).1
    unfold rng at h
    rw [List.length_map, List.length_range] at h
    exact h
  yld := fun i B H d x H' ok hs hd hy => by
    obtain ⟨e1, e2⟩ := hy
    subst e1 e2
    have h := (List.getElem?_eq_some_iff.mp hd).1
    unfold rng at h hd
    rw [List.length_map, List.length_range] at h
    rw [List.getElem?_map, List.getElem?_range h] at hd
    have e : D.int (lo + (i : Nat)) = d := Option.some.inj hd
    rw [← e]
    exact ⟨B, Step.refl ok, rfl, .int _⟩
  stop := fun B H ok hs => by
    show n ≤ (rng lo n).length
    unfold rng
    rw [List.length_map, List.length_range]
    exact Nat.le_refl _
theorem di_r1 {p pos : Pos} (hg : Gl X "range") (hm : X.mg "range" = none) (ha : PA X [e] (lA c ma)) (hs : starEach [e] X.env = [(false, eval e X.env)] := by rfl) : PI X tg (.Call (.Name "range" p) [e] [] pos) (lI c (mR1 ma)) := pi_imp (pi_range1 hg hm ha hs) fun σ H R h => by
  obtain ⟨env, u, B, W, sr, hm, k⟩ := h
  refine ⟨env, u, B, _, sr, hm, fun ds u1 vs H1 B1 sr1 st1 r ⟨j, e, h1, h2, hW⟩ => ?_⟩
  subst e
  obtain ⟨v, rfl, r1⟩ := r.one
  cases r1
  exact ⟨j, rfl, by omega, by omega, k _ _ _ _ _ sr1 st1 (it_rng (Nat.le_trans (show j.toNat ≤ 1000000 by omega) (by decide))) hW⟩
theorem di_r2 {e2 : Expr} {p pos : Pos} (hg : Gl X "range") (hm : X.mg "range" = none) (ha : PA X [e, e2] (lA c ma)) (hs : starEach [e, e2] X.env = [(false, eval e X.env), (false, eval e2 X.env)] := by rfl) (hs2 : starEach [e2] X.env = [(false, eval e2 X.env)] := by rfl) : PI X tg (.Call (.Name "range" p) [e, e2] [] pos) (lI c (mR2 ma)) := pi_imp (pi_range2 hg hm ha hs hs2) fun σ H R h => by
  obtain ⟨env, u, B, W, sr, hm, k⟩ := h
  refine ⟨env, u, B, _, sr, hm, fun ds u1 vs H1 B1 sr1 st1 r ⟨i, j, e, hb, hW⟩ => ?_⟩
  subst e
  obtain ⟨v, w, rfl, r1, r2⟩ := r.two
  cases r1
  cases r2
  exact ⟨i, j, rfl, by omega, k _ _ _ _ _ sr1 st1 (it_rng (Nat.le_trans (show (j - i).toNat ≤ 2000000 by omega) (by decide))) hW⟩
theorem pair_rep {B H : Hp} {T : Addr} {x y : V} {dx dy : D} (ok : OkB c.wa B H) (n : H T = none) (rx : Rep c.K c.wa B x dx) (ry : Rep c.K c.wa B y dy) : ∃ B', Step c.wa B H B' (upd H T (.tup [x, y])) ∧ upd H T (.tup [x, y]) c.wa = H c.wa ∧ Rep c.K c.wa B' (.ref T) (.tup [dx, dy]) := by
  have st := Step.lay (o := .tup [x, y]) ok n
  exact ⟨_, st, lay_wa ok n, .tup (.inl (.inl upd_same)) (by show 2 ≤ sizeLine; decide) (.cons (rx.mono st.mono) (.cons (ry.mono st.mono) .nil))⟩
theorem it_enT {B1 : Hp} {a : Addr} {xs : List V} {ds : List D} (h : SqT c.K B1 a xs) (l : ds.length ≤ sizeLine) (r : Reps c.K c.wa B1 xs ds) : ItD c (IteT c.K a) B1 (enumD ds) where
  len := by rw [enumD_len]; exact l
  go := fun i B H d ok hs hd => by
    obtain ⟨x, hx, _⟩ := enumD_get hd
    obtain ⟨v, hv, _⟩ := r.get hx
    exact ⟨xs, v, ok.sub.sqT (hs.sqT h), hv⟩
  yld := fun i B H d x H' ok hs hd hy => by
    obtain ⟨z, hz, rfl⟩ := enumD_get hd
    obtain ⟨v, hv, rv⟩ := r.get hz
    obtain ⟨T, y, rfl, n, rfl, hx⟩ := hy
    have ex := hx xs (ok.sub.sqT (hs.sqT h))
    rw [hv] at ex
    cases ex
    exact pair_rep ok n (.int _) (rv.mono hs)
  stop := fun B H ok hs => ⟨xs, ok.sub.sqT (hs.sqT h), by rw [enumD_len, r.length]⟩
theorem it_enL {B1 : Hp} {a : Addr} {xs : List V} {ds : List D} {K : PySem.W.Frag} (h : B1 a = some (.lst xs)) (l : ds.length ≤ sizeLine) (r : Reps c.K c.wa B1 xs ds) : ItD c (Ite K a) B1 (enumD ds) where
  len := by rw [enumD_len]; exact l
  go := fun i B H d ok hs hd => by
    obtain ⟨x, hx, _⟩ := enumD_get hd
    obtain ⟨v, hv, _⟩ := r.get hx
    exact ⟨xs, v, .inl (.inl (ok.sub _ _ (hs _ _ h))), hv⟩
  yld := fun i B H d x H' ok hs hd hy => by
    obtain ⟨z, hz, rfl⟩ := enumD_get hd
    obtain ⟨v, hv, rv⟩ := r.get hz
    obtain ⟨T, y, rfl, n, rfl, hx⟩ := hy
    have ex := hx xs (.inl (.inl (ok.sub _ _ (hs _ _ h))))
    rw [hv] at ex
    cases ex
    exact pair_rep ok n (.int _) (rv.mono hs)
  stop := fun B H ok hs => ⟨xs, .inl (.inl (ok.sub _ _ (hs _ _ h))), by rw [enumD_len, r.length]; exact Nat.le_refl _⟩
theorem di_enT {p pos tpos : Pos} {elts : List Expr} {kk : Nat} (hg : Gl X "enumerate") (hm : X.mg "enumerate" = none) (ha : PA X [e] (lA c ma)) (hs : starEach [e] X.env = [(false, eval e X.env)] := by rfl) (hK : c.K = X.K := by rfl) : PI X (.Tuple elts kk tpos) (.Call (.Name "enumerate" p) [e] [] pos) (lI c (mEn ma)) := pi_imp (pi_enumT hg hm ha hs) fun σ H R h => by
  obtain ⟨env, u, B, W, sr, hm, k⟩ := h
  refine ⟨env, u, B, _, sr, hm, fun ds u1 vs H1 B1 sr1 st1 r ⟨es, e, hW⟩ => ?_⟩
  subst e
  obtain ⟨v, rfl, r1⟩ := r.one
  cases r1 with
  | tup h l r =>
    have h' := sr1.ok.sub.sqT h
    rw [hK] at h'
    refine ⟨_, _, rfl, h', ?_⟩
    rw [← hK]
    exact k _ _ _ _ _ sr1 st1 (it_enT h l r) hW
theorem di_enL {p pos tpos : Pos} {elts : List Expr} {kk : Nat} (hg : Gl X "enumerate") (hm : X.mg "enumerate" = none) (ha : PA X [e] (lA c ma)) (hs : starEach [e] X.env = [(false, eval e X.env)] := by rfl) : PI X (.Tuple elts kk tpos) (.Call (.Name "enumerate" p) [e] [] pos) (lI c (mEnL ma)) := pi_imp (pi_enum hg hm ha hs) fun σ H R h => by
  obtain ⟨env, u, B, W, sr, hm, k⟩ := h
  refine ⟨env, u, B, _, sr, hm, fun ds u1 vs H1 B1 sr1 st1 r ⟨es, e, hW⟩ => ?_⟩
  subst e
  obtain ⟨v, rfl, r1⟩ := r.one
  cases r1 with
  | lst h l r => exact ⟨_, _, rfl, .inl (.inl (sr1.ok.sub _ _ h)), k _ _ _ _ _ sr1 st1 (it_enL h l r) hW⟩
end
end FL
set_option maxHeartbeats 2000000
namespace FL
open PySem PySem.Spec PyProof.Rows L2

/-! ### what is forgotten, poked, published -/
def wipeD (env : DEnv) : List Nat → DEnv
  | [] => env
  | v :: vs => (wipeD env vs).set v none
section
variable {c : DC} {env : DEnv} {u : Nat} {B H : Hp} {σ : L2.St}
theorem SR.unset (s : SR c env u B σ H) (i : Nat) : SR c (env.set i none) u B (σ.set i none) H where
  len := by rw [List.length_set, List.length_set]; exact s.len
  bl := s.bl
  st := s.st
  wl := s.wl
  dat := fun j e h => by
    rcases set_look h with ⟨rfl, e1, hl⟩ | ⟨ne, h⟩
    · cases e1
    · rw [List.getElem?_set_ne (Ne.symm ne)]
      exact s.dat j e h
  own := fun j e h => by
    rcases set_look h with ⟨rfl, e1, hl⟩ | ⟨ne, h⟩
    · cases e1
    · rw [List.getElem?_set_ne (Ne.symm ne)]
      exact s.own j e h
  apart := fun j k ds es a hjk h1 h2 => by
    rcases set_look h1 with ⟨rfl, e1, _⟩ | ⟨n1, h1⟩
    · cases e1
    · rcases set_look h2 with ⟨rfl, e2, _⟩ | ⟨n2, h2⟩
      · cases e2
      · rw [List.getElem?_set_ne (Ne.symm n1), List.getElem?_set_ne (Ne.symm n2)]
        exact s.apart j k ds es a hjk h1 h2
theorem SR.wipe (s : SR c env u B σ H) : ∀ vs : List Nat, SR c (wipeD env vs) u B (L2.wipe σ vs) H
  | [] => s
  | v :: vs => (SR.wipe s vs).unset v
/-- a thing of ours that no name holds and that is no data changes -/
theorem SR.poke (s : SR c env u B σ H) {l : Addr} {o : HO} (h0 : c.H0 l = none) (hb : B l = none) (hw : l ≠ c.wa) (ho : ∀ (i : Nat) ds, env[i]? = some (some (.own ds)) → σ[i]? ≠ some (some (.ref l))) : SR c env u B σ (upd H l o) where
  len := s.len
  bl := s.bl
  st := by
    refine ⟨⟨fun a q e => ?_, s.ok.nw, ?_⟩, fun a q e n => ?_, s.st.mono, s.st.new⟩
    · rw [upd_ne (fun z => by rw [z, hb] at e; cases e)]
      exact s.ok.sub a q e
    · rw [upd_ne (Ne.symm hw)]
      exact s.ok.hw
    · rw [upd_ne (fun z => by rw [z, h0] at e; cases e)]
      exact s.st.keep a q e n
  wl := by
    rw [upd_ne (Ne.symm hw)]
    exact s.wl
  dat := s.dat
  own := fun i ds e => by
    obtain ⟨a, xs, h1, h2, h3, h4, h5, h6, h7⟩ := s.own i ds e
    refine ⟨a, xs, h1, h2, h3, h4, ?_, h6, h7⟩
    rw [upd_ne (fun z => ho i ds e (by rw [← z]; exact h1))]
    exact h5
  apart := s.apart
/-- a thing that no name holds becomes data -/
theorem SR.grow (s : SR c env u B σ H) {l : Addr} {o : HO} (h0 : c.H0 l = none) (hH : H l = some o) (hw : l ≠ c.wa) (ho : ∀ (i : Nat) ds, env[i]? = some (some (.own ds)) → σ[i]? ≠ some (some (.ref l))) : SR c env u (upd B l o) σ H ∧ OkB c.wa (upd B l o) H ∧ Bsub B (upd B l o) := by
  have hsub : Bsub B (upd B l o) := fun a q e => by
    by_cases z : a = l
    · subst z
      have h1 := s.ok.sub _ _ e
      rw [hH] at h1
      cases h1
      exact upd_same
    · rw [upd_ne z]
      exact e
  have ok : OkB c.wa (upd B l o) H := ⟨fun a q e => by
    by_cases z : a = l
    · subst z
      rw [upd_same] at e
      rw [hH, e]
    · rw [upd_ne z] at e
      exact s.ok.sub a q e, by rw [upd_ne (Ne.symm hw)]; exact s.ok.nw, s.ok.hw⟩
  refine ⟨⟨s.len, s.bl.trans hsub, ⟨ok, s.st.keep, s.st.mono.trans hsub, fun a e n => ?_⟩, s.wl, fun i d e => ?_, fun i ds e => ?_, s.apart⟩, ok, hsub⟩
  · rw [upd_ne (fun z => e (by rw [z]; exact h0))]
    exact s.st.new a e n
  · obtain ⟨v, h1, h2⟩ := s.dat i d e
    exact ⟨v, h1, h2.mono hsub⟩
  · obtain ⟨a, xs, h1, h2, h3, h4, h5, h6, h7⟩ := s.own i ds e
    refine ⟨a, xs, h1, h2, ?_, h4, h5, h6, h7.mono hsub⟩
    rw [upd_ne (fun z => ho i ds e (by rw [← z]; exact h1))]
    exact h3
theorem SR.fresh0 (s : SR c env u B σ H) {l : Addr} (n : H l = none) : c.H0 l = none ∧ B l = none ∧ l ≠ c.wa ∧ ∀ (i : Nat) ds, env[i]? = some (some (.own ds)) → σ[i]? ≠ some (some (.ref l)) := by
  have hw : l ≠ c.wa := fun z => s.ok.hw (by rw [← z]; exact n)
  refine ⟨?_, ?_, hw, fun i ds e z => ?_⟩
  · cases q : c.H0 l with
    | none => rfl
    | some o =>
      rw [s.st.keep l o q hw] at n
      cases n
  · cases q : B l with
    | none => rfl
    | some o =>
      rw [s.ok.sub l o q] at n
      cases n
  · obtain ⟨a, xs, h1, h2, h3, h4, h5, h6, h7⟩ := s.own i ds e
    rw [h1] at z
    have z2 : a = l := by
      injection z with z
      injection z with z
      injection z with z
    rw [z2, n] at h5
    cases h5
end

/-! ### comprehensions -/
def mYes : DT := fun _ u R => R true u
def mLc (mi : DI) (g : DG) (tt : DT) (me : DE) (vs : List Nat) : DE := fun env u R => mi env u fun ds u1 => ∃ Pv : Nat → List D → Nat → Prop, Pv 0 [] u1 ∧
  (∀ i d acc u', ds[i]? = some d → Pv i acc u' → g d (wipeD env vs) fun env2 => tt env2 u' fun b u2 => if b = true then me env2 u2 fun y u3 => Pv (i + 1) (acc ++ [y]) u3 else Pv (i + 1) acc u2) ∧
  ∀ acc u', Pv ds.length acc u' → R (.lst acc) u'
section
variable {X : Cx} {c : DC}
theorem pts_imp {ifs : List Expr} {t t' : TT} (h : PTs X ifs t) (k : ∀ σ H Q, t' σ H Q → t σ H Q) : PTs X ifs t' := ⟨fun pins s σ H Q I q => h.run pins s σ H Q I (k _ _ _ q)⟩
theorem dts_nil : PTs X [] (lT c mYes) := pts_imp pts_nil fun σ H Q h => by
  obtain ⟨env, u, B, R, sr, hm, k⟩ := h
  exact k true u H B sr (Step.refl sr.ok) hm
theorem dts_one {e : Expr} {t : DT} (h : PT X e (lT c t)) : PTs X [e] (lT c t) := pts_one h
/-- the new list at l as it stands behind the last turn: no data as yet -/
structure NewL (c : DC) (env : DEnv) (u : Nat) (B : Hp) (σ : L2.St) (H : Hp) (B' H' : Hp) (l : Addr) (acc : List D) (xs : List V) : Prop where
  sr : SR c env u B' σ H'
  st : Step c.wa B H B' H'
  h0 : c.H0 l = none
  hH : H' l = some (.lst xs)
  hB : B' l = none
  hw : l ≠ c.wa
  nl : H l = none
  ho : ∀ (i : Nat) ds, env[i]? = some (some (.own ds)) → σ[i]? ≠ some (some (.ref l))
  rs : Reps c.K c.wa B' xs acc
  len : acc.length ≤ sizeLine
theorem lc_raw {mi : DI} {g : DG} {tt : DT} {me : DE} {vs : List Nat} {σ : L2.St} {H : Hp} {Q : VK} {env : DEnv} {u : Nat} {B : Hp} {R : D → Nat → Prop} (sr : SR c env u B σ H) (hm : mLc mi g tt me vs env u R)
    (k : ∀ acc xs u' H' B' l, NewL c env u' B σ H B' H' l acc xs → R (.lst acc) u' → Q (.ref l) H') : tLc (lI c mi) (lG c vs g) (lT c tt) (lE c me) vs σ H Q := by
  refine ⟨env, u, B, _, sr, hm, fun ds u1 J H1 B1 sr1 st1 itd hh l nl => ?_⟩
  obtain ⟨Pv, p0, ps, pd⟩ := hh
  obtain ⟨h0, hb1, hw, ho⟩ := sr1.fresh0 nl
  refine ⟨fun i m H2 => m = ds.length - i ∧ i ≤ ds.length ∧ ∃ B2 u2 acc xs, SR c env u2 B2 σ H2 ∧ (∀ a o, H1 a = some o → a ≠ c.wa → H2 a = some o) ∧ Bsub B1 B2 ∧ (∀ a, H1 a ≠ none → B1 a = none → B2 a = none) ∧ H2 l = some (.lst xs) ∧ B2 l = none ∧ Reps c.K c.wa B2 xs acc ∧ acc.length ≤ i ∧ Pv i acc u2, ?_, ?_⟩
  · refine ⟨ds.length, rfl, Nat.zero_le _, B1, u1, [], [], sr1.poke h0 hb1 hw ho, fun a o e n => ?_, Bsub.refl _, fun _ _ n => n, upd_same, hb1, .nil, Nat.le_refl _, p0⟩
    rw [upd_ne (ne_of_none e nl)]
    exact e
  · rintro i m H2 ⟨rfl, hi, B2, u2, acc, xs, sr2, kp, sb, nw, hl, hbl, rs, la, pv⟩
    by_cases hlt : i < ds.length
    · obtain ⟨d, hd⟩ : ∃ d, ds[i]? = some d := ⟨ds[i], List.getElem?_eq_getElem hlt⟩
      refine .inr ⟨itd.go i B2 H2 d sr2.ok sb hd, fun H3 => i + 1 ≤ ds.length ∧ ∃ B2 u2 acc xs, SR c env u2 B2 σ H3 ∧ (∀ a o, H1 a = some o → a ≠ c.wa → H3 a = some o) ∧ Bsub B1 B2 ∧ (∀ a, H1 a ≠ none → B1 a = none → B2 a = none) ∧ H3 l = some (.lst xs) ∧ B2 l = none ∧ Reps c.K c.wa B2 xs acc ∧ acc.length ≤ i + 1 ∧ Pv (i + 1) acc u2, fun H3 q => ⟨ds.length - (i + 1), by omega, rfl, q⟩, fun x H3 hy => ?_⟩
      obtain ⟨B3, st3, w3, rx⟩ := itd.yld i B2 H2 d x H3 sr2.ok sb hd hy
      have sr3 := sr2.same st3 w3
      refine ⟨wipeD env vs, u2, B3, d, _, sr3.wipe vs, rx, ps i d acc u2 hd pv, fun env2 σ2 sr4 ew htt => ⟨by rw [ew, wipe_twice], ?_⟩⟩
      -- from any state behind the target: what is true of the list
      have key : ∀ (u5 : Nat) (H5 B5 : Hp), SR c env2 u5 B5 σ2 H5 → Step c.wa B3 H3 B5 H5 → SR c env u5 B5 σ H5 ∧ (∀ a o, H1 a = some o → a ≠ c.wa → H5 a = some o) ∧ Bsub B1 B5 ∧ (∀ a, H1 a ≠ none → B1 a = none → B5 a = none) ∧ H5 l = some (.lst xs) ∧ B5 l = none ∧ Reps c.K c.wa B5 xs acc := fun u5 H5 B5 s5 t5 => by
        have hl3 := st3.keep l _ hl hw
        refine ⟨sr3.step t5 s5.wl, fun a o e n => t5.keep a o (st3.keep a o (kp a o e n) n) n, sb.trans (st3.mono.trans t5.mono), fun a e n => ?_, t5.keep l _ hl3 hw, t5.new l (by rw [hl3]; exact fun z => nomatch z) (st3.new l (by rw [hl]; exact fun z => nomatch z) hbl), (rs.mono st3.mono).mono t5.mono⟩
        by_cases hz : a = c.wa
        · rw [hz]
          exact s5.ok.nw
        · have e2 : H2 a ≠ none := by
            cases q : H1 a with
            | none => exact absurd q e
            | some o =>
              rw [kp a o q hz]
              exact fun z => nomatch z
          have e3 : H3 a ≠ none := by
            cases q : H2 a with
            | none => exact absurd q e2
            | some o =>
              rw [st3.keep a o q hz]
              exact fun z => nomatch z
          exact t5.new a e3 (st3.new a e2 (nw a e n))
      refine ⟨env2, u2, B3, _, sr4, htt, fun b u5 H5 B5 sr5 st5 hb => ?_⟩
      cases b with
      | true =>
        refine iteT ⟨env2, u5, B5, _, sr5, hb, fun y u6 v H6 B6 sr6 st6 rv hpv => ?_⟩
        obtain ⟨a1, a2, a3, a4, a5, a6, a7⟩ := key u6 H6 B6 sr6 (st5.trans st6)
        have hln : xs.length = acc.length := rs.length
        refine ⟨xs, a5, by rw [hln]; exact Nat.lt_of_le_of_lt la (Nat.lt_of_lt_of_le hlt itd.len), hlt, B6, u6, acc ++ [y], xs ++ [v], a1.poke h0 a6 hw ho, fun a o e n => ?_, a3, a4, upd_same, a6, a7.append (.cons rv .nil), by rw [List.length_append]; exact Nat.succ_le_succ la, hpv⟩
        rw [upd_ne (ne_of_none e nl)]
        exact a2 a o e n
      | false =>
        obtain ⟨a1, a2, a3, a4, a5, a6, a7⟩ := key u5 H5 B5 sr5 st5
        exact iteF ⟨hlt, B5, u5, acc, xs, a1, a2, a3, a4, a5, a6, a7, by omega, hb⟩
    · have ei : i = ds.length := by omega
      subst ei
      refine .inl ⟨itd.stop B2 H2 sr2.ok sb, ?_⟩
      have hnl : H l = none := by
        cases q : H l with
        | none => rfl
        | some o =>
          rw [st1.keep l o q hw] at nl
          cases nl
      exact k acc xs u2 H2 B2 l ⟨sr2, st1.trans ⟨sr2.ok, kp, sb, nw⟩, h0, hl, hbl, hw, hnl, ho, rs, Nat.le_trans la itd.len⟩ (pd acc u2 pv)
theorem lc_imp {mi : DI} {g : DG} {tt : DT} {me : DE} {vs : List Nat} {σ : L2.St} {H : Hp} {Q : VK} (h : lE c (mLc mi g tt me vs) σ H Q) : tLc (lI c mi) (lG c vs g) (lT c tt) (lE c me) vs σ H Q := by
  obtain ⟨env, u, B, R, sr, hm, k⟩ := h
  refine lc_raw sr hm fun acc xs u' H' B' l n hR => ?_
  obtain ⟨g1, g2, g3⟩ := n.sr.grow n.h0 n.hH n.hw n.ho
  refine k (.lst acc) u' (.ref l) H' _ g1 ⟨g2, n.st.keep, n.st.mono.trans g3, fun a e m => ?_⟩ (.lst upd_same n.len (n.rs.mono g3)) hR
  rw [upd_ne (fun z => e (by rw [z]; exact n.nl))]
  exact n.st.new a e m
variable {elt tg iter : Expr} {ifs : List Expr} {scope : Scope} {own : List (Str × Nat)} {pos : Pos} {mi : DI} {g : DG} {tt : DT} {me : DE}
theorem de_lc (hc : X.calm = true) (hN : X.N.Nodup) (hi : PI X tg iter (lI c mi)) (ok : BlkOk X.N X.env.scope scope own)
    (hg : ∀ (s : Shared) (H : Hp) (C : Addr) (cl : List (Str × Addr)) (fp : List Addr), PG (X.blk s H scope (compEnvC scope cl C X.env) fp) tg (lG c (own.map (·.2)) g))
    (ht : ∀ (s : Shared) (H : Hp) (C : Addr) (cl : List (Str × Addr)) (fp : List Addr), PTs (X.blk s H scope (compEnvC scope cl C X.env) fp) ifs (lT c tt))
    (he : ∀ (s : Shared) (H : Hp) (C : Addr) (cl : List (Str × Addr)) (fp : List Addr), PE (X.blk s H scope (compEnvC scope cl C X.env) fp) elt (lE c me)) (hs : ∀ x, foldedSetIterable iter X.env x = pure x := by intro _; rfl) :
    PE X (.ListComp elt [⟨tg, iter, ifs, 0⟩] scope pos) (lE c (mLc mi g tt me (own.map (·.2)))) := pe_imp (pe_lc hc hN hi ok hg ht he hs) fun _ _ _ h => lc_imp h
end

/-! ### statements -/
def mNext : DS := fun F env u => F.nx env u
def mSeq (m n : DS) : DS := fun F env u => m { F with nx := fun env' u' => n F env' u' } env u
def mRet (m : DE) : DS := fun F env u => m env u F.rt
def mRetN : DS := fun F _ u => F.rt .non u
def mIfS (t : DT) (m n : DS) : DS := fun F env u => t env u fun b u1 => if b = true then m F env u1 else n F env u1
def mSet (m : DE) (g : DG) : DS := fun F env u => m env u fun d u1 => g d env fun env' => F.nx env' u1
def mDrop (m : DE) : DS := fun F env u => m env u fun _ u1 => F.nx env u1
def mFor (mi : DI) (g : DG) (m : DS) : DS := fun F env u => mi env u fun ds u1 => ∃ Pv : Nat → DEnv → Nat → Prop, Pv 0 env u1 ∧
  (∀ i d env' u', ds[i]? = some d → Pv i env' u' → g d env' fun env2 => m { F with nx := Pv (i + 1), ct := Pv (i + 1), bk := F.nx } env2 u') ∧ ∀ env' u', Pv ds.length env' u' → F.nx env' u'
/-- x = [a, b, ..], a list that will change -/
def mOwn (i : Nat) (m : DA) : DS := fun F env u => m env u fun ds u1 => ds.length ≤ sizeLine ∧ F.nx (env.set i (some (.own ds))) u1
def mApp (i : Nat) (m : DE) : DS := fun F env u => ∃ ds, env[i]? = some (some (.own ds)) ∧ ds.length < sizeLine ∧ m env u fun d u1 => F.nx (env.set i (some (.own (ds ++ [d])))) u1
/-- the list at i changes no more -/
def mPub (i : Nat) (m : DS) : DS := fun F env u => ∃ ds, env[i]? = some (some (.own ds)) ∧ m F (env.set i (some (.dat (.lst ds)))) u
section
variable {X : Cx} {c : DC} {st : Stmt} {rest : List Stmt} {m n : DS} {e tg iter : Expr} {me : DE} {g : DG} {pos : Pos}
theorem ds_nil : PSs X [] (lS c mNext) := pss_imp pss_nil fun G σ H h => by
  obtain ⟨env, u, B, F, sr, hm, k1, k2, k3, k4⟩ := h
  exact k1 env u σ H B sr (Bsub.refl B) hm
theorem seq_imp {G : Ends} {σ : L2.St} {H : Hp} (h : lS c (mSeq m n) G σ H) : tSeq (lS c m) (lS c n) G σ H := by
  obtain ⟨env, u, B, F, sr, hm, k1, k2, k3, k4⟩ := h
  exact ⟨env, u, B, _, sr, hm, fun env' u' σ' H' B' s' b' q => ⟨env', u', B', F, s', q, fun e2 u2 σ2 H2 B2 s2 b2 => k1 e2 u2 σ2 H2 B2 s2 (b'.trans b2), k2, fun e2 u2 σ2 H2 B2 s2 b2 => k3 e2 u2 σ2 H2 B2 s2 (b'.trans b2), fun e2 u2 σ2 H2 B2 s2 b2 => k4 e2 u2 σ2 H2 B2 s2 (b'.trans b2)⟩, k2, k3, k4⟩
theorem ds_cons (h1 : PS X st (lS c m)) (h2 : PSs X rest (lS c n)) : PSs X (st :: rest) (lS c (mSeq m n)) := pss_imp (pss_cons h1 h2) fun _ _ _ h => seq_imp h
theorem ds_one (h1 : PS X st (lS c m)) : PSs X [st] (lS c m) := pss_one h1
theorem ds_ret (he : PE X e (lE c me)) : PS X (.Return (some e) pos) (lS c (mRet me)) := ps_imp (ps_ret he) fun G σ H h => by
  obtain ⟨env, u, B, F, sr, hm, k1, k2, k3, k4⟩ := h
  exact ⟨env, u, B, _, sr, hm, fun d u' v H' B' s' st' r q => k2 d u' v H' B' s'.st s'.wl r q⟩
theorem ds_retN : PS X (.Return none pos) (lS c mRetN) := ps_imp ps_retN fun G σ H h => by
  obtain ⟨env, u, B, F, sr, hm, k1, k2, k3, k4⟩ := h
  exact k2 .non u .non H B sr.st sr.wl .non hm
theorem ds_if {t : Expr} {a b : List Stmt} {tt : DT} (ht : PT X t (lT c tt)) (ha : PSs X a (lS c m)) (hb : PSs X b (lS c n)) : PS X (.If t a b pos) (lS c (mIfS tt m n)) := ps_imp (ps_if ht ha hb) fun G σ H h => by
  obtain ⟨env, u, B, F, sr, hm, k1, k2, k3, k4⟩ := h
  refine ⟨env, u, B, _, sr, hm, fun z u1 H1 B1 sr1 st1 q => ?_⟩
  have on : ∀ m : DS, m F env u1 → lS c m G σ H1 := fun m q => ⟨env, u1, B1, F, sr1, q, fun e2 u2 σ2 H2 B2 s2 b2 => k1 e2 u2 σ2 H2 B2 s2 (st1.mono.trans b2), k2, fun e2 u2 σ2 H2 B2 s2 b2 => k3 e2 u2 σ2 H2 B2 s2 (st1.mono.trans b2), fun e2 u2 σ2 H2 B2 s2 b2 => k4 e2 u2 σ2 H2 B2 s2 (st1.mono.trans b2)⟩
  cases z with
  | true => exact iteT (on m q)
  | false => exact iteF (on n q)
theorem asg_imp {ws : List Nat} {G : Ends} {σ : L2.St} {H : Hp} (h : lS c (mSet me g) G σ H) : tAsg (lE c me) (lG c ws g) G σ H := by
  obtain ⟨env, u, B, F, sr, hm, k1, k2, k3, k4⟩ := h
  exact ⟨env, u, B, _, sr, hm, fun d u1 v H1 B1 sr1 st1 r q => ⟨env, u1, B1, d, _, sr1, r, q, fun env' σ' s' _ hk => k1 env' u1 σ' H1 B1 s' st1.mono hk⟩⟩
theorem ds_asg {ws : List Nat} (he : PE X e (lE c me)) (hg : PG X tg (lG c ws g)) (hs : swapsWithSole [tg] e pos.line X.env = pure false := by rfl) (hw : swappedStores [tg] e X.env = pure none := by rfl) (h1 : (assignEach [tg] X.env).map (·.2) = [assign tg X.env] := by rfl) :
    PS X (.Assign [tg] e pos) (lS c (mSet me g)) := ps_imp (ps_asg he hg hs hw h1) fun _ _ _ h => asg_imp h
theorem ds_set {i : Nat} {x : Str} {pos' : Pos} (hN : X.N.Nodup) (hi : X.N[i]? = some x) (hx : Loc X.env.scope x) (he : PE X e (lE c me)) (hs : swapsWith e (some (.Name x pos')) pos.line X.env = pure false := by rfl)
    (hf : X.fn x = true ∨ X.env.scope.names.lookup x = some .local := by first | exact .inl rfl | exact .inr rfl | assumption) : PS X (.Assign [.Name x pos'] e pos) (lS c (mSet me (gN i))) := ps_imp (ps_set hN hi hx he hs hf) fun G σ H h => by
  obtain ⟨env, u, B, F, sr, hm, k1, k2, k3, k4⟩ := h
  exact ⟨env, u, B, _, sr, hm, fun d u1 v H1 B1 sr1 st1 r q => k1 _ u1 _ H1 B1 (sr1.set r) st1.mono q⟩
theorem ds_setLc {i : Nat} {y : Str} {py : Pos} {elt tg iter : Expr} {ifs : List Expr} {scope : Scope} {own : List (Str × Nat)} {pos spos : Pos} {mi : DI} {g : DG} {tt : DT} {me : DE} (hc : X.calm = true) (hN : X.N.Nodup) (hy : X.N[i]? = some y) (hyl : X.env.scope.names.lookup y = some .local)
    (hsw : swapsWith (.ListComp elt [⟨tg, iter, ifs, 0⟩] scope pos) (some (.Name y py)) spos.line X.env = pure true) (hi : PI X tg iter (lI c mi)) (ok : BlkOk X.N X.env.scope scope own)
    (hg : ∀ (s : Shared) (H : Hp) (C : Addr) (cl : List (Str × Addr)) (fp : List Addr), PG (X.blk s H scope (compEnvC scope cl C X.env) fp) tg (lG c (own.map (·.2)) g))
    (ht : ∀ (s : Shared) (H : Hp) (C : Addr) (cl : List (Str × Addr)) (fp : List Addr), PTs (X.blk s H scope (compEnvC scope cl C X.env) fp) ifs (lT c tt))
    (he : ∀ (s : Shared) (H : Hp) (C : Addr) (cl : List (Str × Addr)) (fp : List Addr), PE (X.blk s H scope (compEnvC scope cl C X.env) fp) elt (lE c me)) (hs : ∀ x, foldedSetIterable iter X.env x = pure x := by intro _; rfl) :
    PS X (.Assign [.Name y py] (.ListComp elt [⟨tg, iter, ifs, 0⟩] scope pos) spos) (lS c (mSet (mLc mi g tt me (own.map (·.2))) (gN i))) := ps_imp (ps_setLc hc hN hy hyl hsw hi ok hg ht he hs) fun G σ H h => by
  obtain ⟨env, u, B, F, sr, hm, k1, k2, k3, k4⟩ := h
  exact lc_imp (Q := fun x H1 => gName i x σ H1 G.nx) ⟨env, u, B, _, sr, hm, fun d u1 v H1 B1 sr1 st1 r q => k1 _ u1 _ H1 B1 (sr1.set r) st1.mono q⟩
theorem ds_expr (he : PE X e (lE c me)) (hs : swapsWith e none pos.line X.env = pure false := by rfl) : PS X (.Expr e pos) (lS c (mDrop me)) := ps_imp (ps_expr he hs) fun G σ H h => by
  obtain ⟨env, u, B, F, sr, hm, k1, k2, k3, k4⟩ := h
  exact ⟨env, u, B, _, sr, hm, fun d u1 v H1 B1 sr1 st1 r q => k1 _ u1 _ H1 B1 sr1 st1.mono q⟩
theorem ds_for {ws : List Nat} {body : List Stmt} {mi : DI} (hp : PassesOwn (model X.prog X.w) X.A X.env X.xe) (hc : X.calm = true) (hi : PI X tg iter (lI c mi)) (hg : PG X tg (lG c ws g)) (hb : PSs X body (lS c m)) (hs : ∀ x, foldedSetIterable iter X.env x = pure x := by intro _; rfl) :
    PS X (.For tg iter body [] pos) (lS c (mFor mi g m)) := ps_imp (ps_for hp hc hi hg hb hs) fun G σ H h => by
  obtain ⟨env, u, B, F, sr, hm, k1, k2, k3, k4⟩ := h
  refine ⟨env, u, B, _, sr, hm, fun ds u1 J H1 B1 sr1 st1 itd hh => ?_⟩
  obtain ⟨Pv, p0, ps, pd⟩ := hh
  refine ⟨fun i n σ2 H2 => n = ds.length - i ∧ i ≤ ds.length ∧ ∃ env2 u2 B2, SR c env2 u2 B2 σ2 H2 ∧ Bsub B1 B2 ∧ Pv i env2 u2, ⟨ds.length, rfl, Nat.zero_le _, env, u1, B1, sr1, Bsub.refl _, p0⟩, ?_⟩
  rintro i n σ2 H2 ⟨rfl, hi', env2, u2, B2, sr2, sb, pv⟩
  by_cases hlt : i < ds.length
  · obtain ⟨d, hd⟩ : ∃ d, ds[i]? = some d := ⟨ds[i], List.getElem?_eq_getElem hlt⟩
    refine .inr ⟨itd.go i B2 H2 d sr2.ok sb hd, fun σ3 H3 => i + 1 ≤ ds.length ∧ ∃ env2 u2 B2, SR c env2 u2 B2 σ3 H3 ∧ Bsub B1 B2 ∧ Pv (i + 1) env2 u2, fun σ3 H3 q => ⟨ds.length - (i + 1), by omega, rfl, q⟩, fun x H3 hy => ?_⟩
    obtain ⟨B3, st3, w3, rx⟩ := itd.yld i B2 H2 d x H3 sr2.ok sb hd hy
    have sr3 := sr2.same st3 w3
    refine ⟨env2, u2, B3, d, _, sr3, rx, ps i d env2 u2 hd pv, fun env4 σ4 sr4 _ q => ⟨env4, u2, B3, _, sr4, q, ?_, k2, ?_, ?_⟩⟩
    · exact fun e5 u5 σ5 H5 B5 s5 b5 q5 => ⟨hlt, e5, u5, B5, s5, sb.trans (st3.mono.trans b5), q5⟩
    · exact fun e5 u5 σ5 H5 B5 s5 b5 q5 => k1 e5 u5 σ5 H5 B5 s5 (st1.mono.trans (sb.trans (st3.mono.trans b5))) q5
    · exact fun e5 u5 σ5 H5 B5 s5 b5 q5 => ⟨hlt, e5, u5, B5, s5, sb.trans (st3.mono.trans b5), q5⟩
  · have ei : i = ds.length := by omega
    subst ei
    exact .inl ⟨itd.stop B2 H2 sr2.ok sb, k1 env2 u2 σ2 H2 B2 sr2 (st1.mono.trans sb) (pd env2 u2 pv)⟩
/-- a fresh list held by the name i alone -/
theorem SR.setOwn {c : DC} {env : DEnv} {u : Nat} {B H : Hp} {σ : L2.St} (s : SR c env u B σ H) {i : Nat} {l : Addr} {xs : List V} {ds : List D} (n : H l = none) (hz : ds.length ≤ sizeLine) (r : Reps c.K c.wa B xs ds) : SR c (env.set i (some (.own ds))) u B (σ.set i (some (.ref l))) (upd H l (.lst xs)) := by
  obtain ⟨h0, hb, hw, ho⟩ := s.fresh0 n
  have s1 := s.poke (o := .lst xs) h0 hb hw ho
  refine ⟨by rw [List.length_set, List.length_set]; exact s.len, s1.bl, s1.st, s1.wl, fun j d h => ?_, fun j es h => ?_, fun j k es fs a hjk h1 h2 h3 => ?_⟩
  · rcases set_look h with ⟨rfl, e1, hl⟩ | ⟨ne, h⟩
    · cases e1
    · rw [List.getElem?_set_ne (Ne.symm ne)]
      exact s1.dat j d h
  · rcases set_look h with ⟨rfl, e1, hl⟩ | ⟨ne, h⟩
    · cases e1
      exact ⟨l, xs, by rw [List.getElem?_set_self (by rw [← s.len]; exact hl)], hw, hb, h0, upd_same, hz, r⟩
    · rw [List.getElem?_set_ne (Ne.symm ne)]
      exact s1.own j es h
  · rcases set_look h1 with ⟨rfl, e1, hl⟩ | ⟨n1, h1⟩
    · rcases set_look h2 with ⟨rfl, e2, _⟩ | ⟨n2, h2⟩
      · exact absurd rfl hjk
      · rw [List.getElem?_set_self (by rw [← s.len]; exact hl)] at h3
        injection h3 with h3
        injection h3 with h3
        injection h3 with h3
        rw [List.getElem?_set_ne (Ne.symm n2), ← h3]
        exact ho k fs h2
    · rw [List.getElem?_set_ne (Ne.symm n1)] at h3
      rcases set_look h2 with ⟨ek, e2, hl⟩ | ⟨n2, h2⟩
      · rw [ek, List.getElem?_set_self (by rw [← s.len]; exact hl)]
        intro z
        injection z with z
        injection z with z
        injection z with z
        rw [← z] at h3
        exact ho j es h1 h3
      · rw [List.getElem?_set_ne (Ne.symm n2)]
        exact s.apart j k es fs a hjk h1 h2 h3
theorem ds_own {i : Nat} {x : Str} {es : List Expr} {pos pos' lp : Pos} {ma : DA} (hN : X.N.Nodup) (hi : X.N[i]? = some x) (hx : Loc X.env.scope x) (ha : PA X es (lA c ma)) (hs : swapsWith (.List es lp) (some (.Name x pos')) pos.line X.env = pure false := by rfl)
    (hf : X.fn x = true ∨ X.env.scope.names.lookup x = some .local := by first | exact .inl rfl | exact .inr rfl | assumption) : PS X (.Assign [.Name x pos'] (.List es lp) pos) (lS c (mOwn i ma)) := ps_imp (ps_set hN hi hx (pe_lst ha) hs hf) fun G σ H h => by
  obtain ⟨env, u, B, F, sr, hm, k1, k2, k3, k4⟩ := h
  exact ⟨env, u, B, _, sr, hm, fun ds u1 vs H1 B1 sr1 st1 r ⟨hz, q⟩ => ⟨by rw [r.length]; exact hz, fun l n => k1 _ u1 _ _ B1 (sr1.setOwn n hz r) st1.mono q⟩⟩
/-- the list that the name i holds is changed -/
theorem SR.turn {c : DC} {env : DEnv} {u : Nat} {B H : Hp} {σ : L2.St} (s : SR c env u B σ H) {i : Nat} {ds es : List D} (h : env[i]? = some (some (.own ds))) : ∃ a xs, σ[i]? = some (some (.ref a)) ∧ H a = some (.lst xs) ∧ Reps c.K c.wa B xs ds ∧
    ∀ ys, es.length ≤ sizeLine → Reps c.K c.wa B ys es → SR c (env.set i (some (.own es))) u B σ (upd H a (.lst ys)) := by
  obtain ⟨a, xs, h1, h2, h3, h4, h5, h6, h7⟩ := s.own i ds h
  refine ⟨a, xs, h1, h5, h7, fun ys hz r => ?_⟩
  have hil : i < env.length := (List.getElem?_eq_some_iff.mp h).1
  refine ⟨by rw [List.length_set]; exact s.len, s.bl, ⟨⟨fun b q e => ?_, s.ok.nw, ?_⟩, fun b q e n => ?_, s.st.mono, s.st.new⟩, ?_, fun j d q => ?_, fun j fs q => ?_, fun j k fs gs b hjk q1 q2 q3 => ?_⟩
  · rw [upd_ne (fun z => by rw [z, h3] at e; cases e)]
    exact s.ok.sub b q e
  · rw [upd_ne (Ne.symm h2)]
    exact s.ok.hw
  · rw [upd_ne (fun z => by rw [z, h4] at e; cases e)]
    exact s.st.keep b q e n
  · rw [upd_ne (Ne.symm h2)]
    exact s.wl
  · rcases set_look q with ⟨rfl, e1, _⟩ | ⟨ne, q⟩
    · cases e1
    · exact s.dat j d q
  · rcases set_look q with ⟨rfl, e1, _⟩ | ⟨ne, q⟩
    · cases e1
      exact ⟨a, ys, h1, h2, h3, h4, upd_same, hz, r⟩
    · obtain ⟨b, zs, g1, g2, g3, g4, g5, g6, g7⟩ := s.own j fs q
      refine ⟨b, zs, g1, g2, g3, g4, ?_, g6, g7⟩
      rw [upd_ne (fun z => s.apart i j ds fs a (Ne.symm ne) h q h1 (by rw [← z]; exact g1))]
      exact g5
  · have back : ∀ (j : Nat) fs, (env.set i (some (.own es)))[j]? = some (some (.own fs)) → ∃ gs, env[j]? = some (some (.own gs)) := fun j fs q => by
      rcases set_look q with ⟨rfl, e1, _⟩ | ⟨ne, q⟩
      · exact ⟨ds, h⟩
      · exact ⟨fs, q⟩
    obtain ⟨f1, q1⟩ := back j fs q1
    obtain ⟨f2, q2⟩ := back k gs q2
    exact s.apart j k f1 f2 b hjk q1 q2 q3
theorem ds_app {i : Nat} {x : Str} {p ap cp pos : Pos} {me : DE} (ho : PE X (.Name x p) (tVar i)) (he : PE X e (lE c me)) (hbase : attributeBase (.Name x p) "append" X.env (eval (.Name x p) X.env) = eval (.Name x p) X.env := by rfl)
    (hfew : ((backTo cp (starEach [e] X.env)).all (fun x => !x.1) && (backToKw cp (keywordEach [] X.env)).all (fun x => x.1.isSome) && decide ([e].length + ([] : List Keyword).length + (if ([] : List Keyword).isEmpty then 0 else 1) < 30)) = true := by rfl)
    (hline : (ap.endLine == cp.line) = true := by rfl) (hs : starEach [e] X.env = (false, eval e X.env) :: starEach [] X.env := by rfl) (hplain : (backTo cp (starEach [] X.env)).any (·.1) = false := by rfl) (hsw : swapsWith (.Call (.Attribute (.Name x p) "append" ap) [e] [] cp) none pos.line X.env = pure false := by rfl) :
    PS X (.Expr (.Call (.Attribute (.Name x p) "append" ap) [e] [] cp) pos) (lS c (mApp i me)) :=
  ps_imp (ps_expr (pe_bm PySem.F.plainAttrs_list PySem.F.slot_list_append PySem.F.type_list_append mt_append ho (pa_cons he pa_nil hs) hbase hfew hline hs hplain) hsw) fun G σ H h => by
    obtain ⟨env, u, B, F, sr, hm, k1, k2, k3, k4⟩ := h
    obtain ⟨ds, hds, hz, hm⟩ := hm
    obtain ⟨a, xs, h1, h5, h7, _⟩ := sr.turn (es := ds) hds
    refine ⟨.ref a, h1, .inl ⟨rfl, _, .inl (.inl h5)⟩, env, u, B, _, sr, hm, fun d u1 v H1 B1 sr1 st1 r q => ?_⟩
    obtain ⟨b, ys, g1, g5, g7, gq⟩ := sr1.turn (es := ds ++ [d]) hds
    rw [h1] at g1
    injection g1 with g1
    injection g1 with g1
    injection g1 with g1
    subst g1
    exact ⟨a, ys, v, rfl, rfl, g5, by rw [g7.length]; exact hz, k1 _ u1 σ _ B1 (gq _ (by rw [List.length_append]; exact hz) (g7.append (.cons r .nil))) st1.mono q⟩
/-- from here on the list at i is data -/
theorem ds_pub {i : Nat} {sts : List Stmt} (h : PSs X sts (lS c m)) : PSs X sts (lS c (mPub i m)) := pss_imp h fun G σ H q => by
  obtain ⟨env, u, B, F, sr, ⟨ds, hds, hm⟩, k1, k2, k3, k4⟩ := q
  obtain ⟨a, xs, h1, h2, h3, h4, h5, h6, h7⟩ := sr.own i ds hds
  have hil : i < env.length := (List.getElem?_eq_some_iff.mp hds).1
  have s0 := sr.unset i
  have sub : Bsub B (upd B a (.lst xs)) := fun b o e => by
    rw [upd_ne (fun z => by rw [z, h3] at e; cases e)]
    exact e
  have e1 : (env.set i (some (.dat (.lst ds)))) = (env.set i none).set i (some (.dat (.lst ds))) := by rw [List.set_set]
  have e2 : σ = (σ.set i none).set i (some (.ref a)) := by
    rw [List.set_set]
    apply List.ext_getElem?
    intro j
    by_cases hj : j = i
    · subst hj
      rw [List.getElem?_set_self (by rw [← sr.len]; exact hil), h1]
    · rw [List.getElem?_set_ne (Ne.symm hj)]
  have hno : ∀ (j : Nat) es, (env.set i none)[j]? = some (some (.own es)) → (σ.set i none)[j]? ≠ some (some (.ref a)) := fun j es q => by
    rcases set_look q with ⟨_, e1, _⟩ | ⟨ne, q⟩
    · cases e1
    · rw [List.getElem?_set_ne (Ne.symm ne)]
      exact sr.apart i j ds es a (Ne.symm ne) hds q h1
  obtain ⟨g1, g2, g3⟩ := s0.grow h4 h5 h2 hno
  have g4 := g1.set (i := i) (Rep.lst upd_same h6 (h7.mono g3))
  rw [← e1, ← e2] at g4
  exact ⟨_, u, _, F, g4, hm, fun e2 u2 σ2 H2 B2 s2 b2 => k1 e2 u2 σ2 H2 B2 s2 (g3.trans b2), k2, fun e2 u2 σ2 H2 B2 s2 b2 => k3 e2 u2 σ2 H2 B2 s2 (g3.trans b2), fun e2 u2 σ2 H2 B2 s2 b2 => k4 e2 u2 σ2 H2 B2 s2 (g3.trans b2)⟩
end
end FL
set_option maxHeartbeats 2000000
namespace FL
open PySem PySem.Spec PyProof.Rows L2

/-! ### what a def promises, over data -/
abbrev Ct := List D → Nat → (D → Nat → Prop) → Prop
abbrev XD := Addr → List Str → List D → Nat → Prop
abbrev CtX := List D → Nat → (D → Nat → Prop) → XD → Prop
def WlAt (wl : Nat → HO → Prop) (wa : Addr) (H : Hp) (u : Nat) : Prop := ∃ o, H wa = some o ∧ wl u o
def spD (K : PySem.W.Frag) (wl : Nat → HO → Prop) (φ : Ct) : Sp := fun vs H Q _ => ∃ wa B ds u R, OkB wa B H ∧ WlAt wl wa H u ∧ Reps K wa B vs ds ∧ φ ds u R ∧
  ∀ d u' v H' B', Step wa B H B' H' → WlAt wl wa H' u' → Rep K wa B' v d → R d u' → Q v H'
/-- an exception as it flies: its class, its dict -/
def ExcAt (K : PySem.W.Frag) (wa : Addr) (B H : Hp) (cls : Value) (d : Option Addr) (C : Addr) (ns : List Str) (ds : List D) : Prop :=
  cls = .ref C ∧ ((ns = [] ∧ ds = [] ∧ d = none) ∨ ∃ dd xs, d = some dd ∧ B dd = some (.xd (ns.zip xs)) ∧ ns.length = xs.length ∧ Reps K wa B xs ds)
def spX (K : PySem.W.Frag) (wl : Nat → HO → Prop) (ψ : CtX) : Sp := fun vs H Q E => ∃ wa B ds u R XR, OkB wa B H ∧ WlAt wl wa H u ∧ Reps K wa B vs ds ∧ ψ ds u R XR ∧
  (∀ d u' v H' B', Step wa B H B' H' → WlAt wl wa H' u' → Rep K wa B' v d → R d u' → Q v H') ∧
  ∀ C ns es u' cls d H' B', Step wa B H B' H' → WlAt wl wa H' u' → ExcAt K wa B' H' cls d C ns es → XR C ns es u' → E cls d H'
/-! ### defs that need to know that no repr is under way -/
structure FnG (P : Program) (w : World) (K : PySem.W.Frag) (mg : Str → Option Value) (base : Heap) (CX : CXT) (k : Nat) (f : Addr) (fd : FuncData) (ps : List Str) (sp : Sp) : Prop where
  len : ∀ vs H Q E, sp vs H Q E → vs.length = ps.length
  run : ∀ (A : Around) (outer : List Env) (s : Shared) (H : Hp) (args : Args) (us : List Value) (vs : List V) (Q : VK) (E : XK), Room k A → A.guards = some [] → Env0 P w K mg base A outer s H → BindsTo s fd args (ps.zip us) → Vals vs us → sp vs H Q E →
    codeAny (model P w) A (.call (.ref f) args) (CR CX outer P w H s Q E) s
section
variable {P : Program} {w : World} {K : PySem.W.Frag} {mg : Str → Option Value} {base : Heap} {CX : CXT} {k j : Nat} {f : Addr} {fd : FuncData} {ps : List Str} {sp : Sp}
theorem FnG.of (F : FnOk P w K mg base CX k f fd ps sp) : FnG P w K mg base CX k f fd ps sp := ⟨F.len, fun A outer s H args us vs Q E hr _ => F.run A outer s H args us vs Q E hr⟩
theorem FnG.mono (F : FnG P w K mg base CX j f fd ps sp) (h : j ≤ k) : FnG P w K mg base CX k f fd ps sp := ⟨F.len, fun A outer s H args us vs Q E hr => F.run A outer s H args us vs Q E (hr.mono h)⟩
theorem fn_ofG {name qual : Str} {params : Arguments} {body : List Stmt} {scope : Scope} {dV kV doc pm cdv ct oc : Value} {an od : Option Addr} {osl : Array (Option Value)} {N ps : List Str} {sp : Sp}
    (lk : K.lookup f = some ⟨oc, od, .func (PySem.W.fnOf name qual params body scope dV kV doc pm an cdv ct), osl⟩) (hcd : PySem.W.codeIn K cdv qual = true) (S : FnScope N ps scope) (len : ∀ vs H Q E, sp vs H Q E → vs.length = ps.length)
    (hbody : ∀ (A : Around) (outer : List Env) (s : Shared) (H : Hp) (vs : List V) (Q : VK) (E : XK), Room k (A.deeper (envOfC qual scope s.heap.objs.size f cdv)) → (A.deeper (envOfC qual scope s.heap.objs.size f cdv)).guards = some [] → sp vs H Q E →
      ∃ t, PSs (cxOf CX P w K mg base N qual scope f cdv A outer s H E) body t ∧ t { nx := fun _ H' => Q .non H', rt := Q } (start N vs) H) :
    FnG P w K mg base CX (k + 1) f (PySem.W.fnOf name qual params body scope dV kV doc pm an cdv ct) ps sp := by
  constructor
  · exact len
  intro A outer s H args us vs Q E hr hgd e0 hb r hsp
  have hl := len _ _ _ _ hsp
  have kin : K.In s.heap := e0.mod.kin.keeps fun b o e => (e0.bs b o e).1
  have lim : s.heap.NoLimit := e0.mod.nolimit.keeps fun b o e => (e0.bs b o e).1
  refine codeAny_call_function hr.depth (kin _ _ lk) rfl S.co S.gen rfl (PySem.W.codeRec_of kin hcd) (hb _ _ _ _ ?_)
  refine wpAny_newFunctionEnv_cells S.kind (fun y hy => ?_) fun env he s1 x => ?_
  · obtain ⟨n, v⟩ := y
    rcases S.par n (List.of_mem_zip hy).1 with q | q
    · exact .inl q
    · exact .inr ⟨q, PySem.W.cellsFrom_some _ _ _ (.inl q)⟩
  subst he
  refine ⟨lim.keeps x.toInCall.keep, codeAny_func ?_⟩
  obtain ⟨t, ht, hq⟩ := hbody A outer s H vs Q E (hr.deeper _) hgd hsp
  have I : Inv (cxOf CX P w K mg base N qual scope f cdv A outer s H E) [] (start N vs) H s1 := inv_start S hr.hd e0 hl r x
  refine wpAny_mono (ht.run [] s1 (start N vs) H _ I hq) (fun fl s' hs => ?_) fun e s' hs => hs
  cases fl with
  | ret u =>
    obtain ⟨v, σ', H', J, rv, q⟩ := hs
    exact ⟨v, H', J.os, J.bare, J.base, J.hok, rv, q⟩
  | next =>
    obtain ⟨σ', H', J, q⟩ := hs
    exact ⟨.non, H', J.os, J.bare, J.base, J.hok, rfl, q⟩
  | brk =>
    obtain ⟨_, _, _, q⟩ := hs
    exact False.elim q
  | cont =>
    obtain ⟨_, _, _, q⟩ := hs
    exact False.elim q
end

/-! ### a def by its body -/
def startD (N : List Str) (ds : List D) : DEnv := ds.map (fun d => some (Sl.dat d)) ++ List.replicate (N.length - ds.length) none
def noEnds (R : D → Nat → Prop) : DEnds := ⟨fun _ u => R .non u, R, fun _ _ => False, fun _ _ => False⟩
theorem start_look {K : PySem.W.Frag} {wa : Addr} {B : Hp} {N : List Str} {vs : List V} {ds : List D} (r : Reps K wa B vs ds) {i : Nat} {x : Sl} (h : (startD N ds)[i]? = some (some x)) : ∃ d v, x = .dat d ∧ (start N vs)[i]? = some (some v) ∧ Rep K wa B v d := by
  unfold startD at h
  by_cases hi : i < ds.length
  · rw [List.getElem?_append_left (by rw [List.length_map]; exact hi), List.getElem?_map, List.getElem?_eq_getElem hi] at h
    obtain ⟨v, hv, rv⟩ := r.get (List.getElem?_eq_getElem hi)
    refine ⟨ds[i], v, ?_, ?_, rv⟩
    · have h2 : some (some (Sl.dat ds[i])) = some (some x) := h
      exact (Option.some.inj (Option.some.inj h2)).symm
    · unfold L2.start
      rw [List.getElem?_append_left (by rw [List.length_map, r.length]; exact hi), List.getElem?_map, hv]
      rfl
  · rw [List.getElem?_append_right (by rw [List.length_map]; omega), List.getElem?_replicate] at h
    split at h <;> cases h
theorem start_sr {K : PySem.W.Frag} {wa : Addr} {wl : Nat → HO → Prop} {wd : Addr → List Str → List D → DEnv → Nat → Prop} {B H : Hp} {N : List Str} {vs : List V} {ds : List D} {u : Nat} (ok : OkB wa B H) (w : WlAt wl wa H u) (r : Reps K wa B vs ds) : SR ⟨K, wa, wl, B, H, B, wd⟩ (startD N ds) u B (start N vs) H where
  len := by
    unfold startD L2.start
    rw [List.length_append, List.length_append, List.length_map, List.length_map, List.length_replicate, List.length_replicate, r.length]
  bl := Bsub.refl B
  st := Step.refl ok
  wl := w
  dat := fun i d h => by
    obtain ⟨d', v, e, hv, rv⟩ := start_look r h
    cases e
    exact ⟨v, hv, rv⟩
  own := fun i ds h => by
    obtain ⟨d', v, e, hv, rv⟩ := start_look r h
    cases e
  apart := fun i j ds es a _ h => by
    obtain ⟨d', v, e, hv, rv⟩ := start_look r h
    cases e
section
variable {P : Program} {w : World} {K : PySem.W.Frag} {mg : Str → Option Value} {base : Heap} {x qual : Str} {params : Arguments} {body : List Stmt} {scope : Scope} {dvs : List V} {kws : List (Str × V)} {f : Addr} {fd : FuncData} {N ps : List Str} {k : Nat} {wl : Nat → HO → Prop}
theorem spD_len {φ : Ct} (hlen : ∀ ds u R, φ ds u R → ds.length = ps.length) (vs : List V) (H : Hp) (Q : VK) (E : XK) (h : spD K wl φ vs H Q E) : vs.length = ps.length := by
  obtain ⟨wa, B, ds, u, R, ok, w, r, p, q⟩ := h
  rw [r.length]
  exact hlen _ _ _ p
theorem body_run {wa : Addr} {B H : Hp} {wd : Addr → List Str → List D → DEnv → Nat → Prop} {m : DS} {vs : List V} {ds : List D} {u : Nat} {R : D → Nat → Prop} {Q : VK} (ok : OkB wa B H) (w : WlAt wl wa H u) (r : Reps K wa B vs ds) (hm : m (noEnds R) (startD N ds) u)
    (q : ∀ d u' v H' B', Step wa B H B' H' → WlAt wl wa H' u' → Rep K wa B' v d → R d u' → Q v H') : lS ⟨K, wa, wl, B, H, B, wd⟩ m { nx := fun _ H' => Q .non H', rt := Q } (start N vs) H :=
  ⟨_, u, B, noEnds R, start_sr ok w r, hm, fun env' u' σ' H' B' s' _ h => q .non u' .non H' B' s'.st s'.wl .non h, q, fun _ _ _ _ _ _ _ h => h.elim, fun _ _ _ _ _ _ _ h => h.elim⟩
/-- nothing leaves the def -/
theorem fn_ok {φ : Ct} (F : FunD K x qual params body scope dvs kws f fd) (S : FnScope N ps scope) (hlen : ∀ ds u R, φ ds u R → ds.length = ps.length)
    (hb : ∀ (cdv : Value) (A : Around) (outer : List Env) (s : Shared) (H : Hp) (E : XK) (wa : Addr) (B : Hp), Room k (A.deeper (envOfC qual scope s.heap.objs.size f cdv)) →
      ∃ m, PSs (cxOf CX0 P w K mg base N qual scope f cdv A outer s H E).nox body (lS ⟨K, wa, wl, B, H, B, fun _ _ _ _ _ => False⟩ m) ∧ ∀ ds u R, φ ds u R → m (noEnds R) (startD N ds) u) : FnOk P w K mg base CX0 (k + 1) f fd ps (spD K wl φ) := by
  refine F.ok S (spD_len hlen) fun cdv A outer s H vs Q E hr h => ?_
  obtain ⟨wa, B, ds, u, R, ok, w, r, p, q⟩ := h
  obtain ⟨m, hm, hp⟩ := hb cdv A outer s H E wa B hr
  exact ⟨_, hm.nox, body_run ok w r (hp ds u R p) q⟩
theorem fn_gok {φ : Ct} (F : FunD K x qual params body scope dvs kws f fd) (S : FnScope N ps scope) (hlen : ∀ ds u R, φ ds u R → ds.length = ps.length)
    (hb : ∀ (cdv : Value) (A : Around) (outer : List Env) (s : Shared) (H : Hp) (E : XK) (wa : Addr) (B : Hp), Room k (A.deeper (envOfC qual scope s.heap.objs.size f cdv)) → (A.deeper (envOfC qual scope s.heap.objs.size f cdv)).guards = some [] →
      ∃ m, PSs (cxOf CX0 P w K mg base N qual scope f cdv A outer s H E).nox body (lS ⟨K, wa, wl, B, H, B, fun _ _ _ _ _ => False⟩ m) ∧ ∀ ds u R, φ ds u R → m (noEnds R) (startD N ds) u) : FnG P w K mg base CX0 (k + 1) f fd ps (spD K wl φ) := by
  obtain ⟨oc, od, dV, kV, doc, pm, an, cdv, ct, osl, rfl, lk, hcd, _, _⟩ := F.ex
  refine fn_ofG lk hcd S (spD_len hlen) fun A outer s H vs Q E hr hg h => ?_
  obtain ⟨wa, B, ds, u, R, ok, w, r, p, q⟩ := h
  obtain ⟨m, hm, hp⟩ := hb cdv A outer s H E wa B hr hg
  exact ⟨_, hm.nox, body_run ok w r (hp ds u R p) q⟩
/-- what a body wants of exceptions -/
structure TkD (c : DC) (X : Cx) (W : WX) : Prop where
  tk : Takes X W
  hw : ∀ env u B σ H cls d C ns ds, SR c env u B σ H → ExcAt c.K c.wa B H cls d C ns ds → c.wd C ns ds env u → W cls d σ H
theorem fn_okX {ψ : CtX} (F : FunD K x qual params body scope dvs kws f fd) (S : FnScope N ps scope) (hlen : ∀ ds u R XR, ψ ds u R XR → ds.length = ps.length)
    (hb : ∀ (cdv : Value) (A : Around) (outer : List Env) (s : Shared) (H : Hp) (E : XK) (wa : Addr) (B : Hp) (XR : XD), Room k (A.deeper (envOfC qual scope s.heap.objs.size f cdv)) →
      TkD ⟨K, wa, wl, B, H, B, fun C ns ds _ u => XR C ns ds u⟩ (cxOf (L2.CX P w) P w K mg base N qual scope f cdv A outer s H E) (fun cls d _ H' => E cls d H') →
      ∃ m, PSs (cxOf (L2.CX P w) P w K mg base N qual scope f cdv A outer s H E) body (lS ⟨K, wa, wl, B, H, B, fun C ns ds _ u => XR C ns ds u⟩ m) ∧ ∀ ds u R, ψ ds u R XR → m (noEnds R) (startD N ds) u) :
    FnOk P w K mg base (L2.CX P w) (k + 1) f fd ps (spX K wl ψ) := by
  refine F.ok S (fun vs H Q E h => ?_) fun cdv A outer s H vs Q E hr h => ?_
  · obtain ⟨wa, B, ds, u, R, XR, ok, w, r, p, q⟩ := h
    rw [r.length]
    exact hlen _ _ _ _ p
  · obtain ⟨wa, B, ds, u, R, XR, ok, w, r, p, q, qx⟩ := h
    obtain ⟨m, hm, hp⟩ := hb cdv A outer s H E wa B XR hr ⟨takes_of rfl rfl rfl rfl, fun env u B' σ H' cls d C ns es sr hx hw => qx C ns es u cls d H' B' sr.st sr.wl hx hw⟩
    exact ⟨_, hm, body_run ok w r (hp ds u R p) q⟩
end

/-! ### calls -/
def mCall (φ : Ct) (m : DA) : DE := fun env u R => m env u fun ds u1 => φ ds u1 R
def mCallX (ψ : CtX) (wd : Addr → List Str → List D → DEnv → Nat → Prop) (m : DA) : DE := fun env u R => m env u fun ds u1 => ψ ds u1 R fun C ns es u' => wd C ns es env u'
section
variable {X : Cx} {c : DC} {k : Nat} {f : Addr} {fd : FuncData} {ps : List Str} {φ : Ct} {x : Str} {p pos : Pos} {e : Expr} {es : List Expr} {ma : DA} {dvs : List V} {dfs : List Value} {dds : List D}
theorem call_imp {E : XK} {σ : L2.St} {H : Hp} {Q : VK} (h : lE c (mCall φ ma) σ H Q) : lA c ma σ H fun vs H1 => spD c.K c.wl φ vs H1 Q E := by
  obtain ⟨env, u, B, R, sr, hm, q⟩ := h
  exact ⟨env, u, B, _, sr, hm, fun ds u1 vs H1 B1 sr1 st1 rs h1 => ⟨c.wa, B1, ds, u1, R, sr1.ok, sr1.wl, rs, h1, fun d u' v H' B' st w r hR => q d u' v H' B' (sr1.step st w) (st1.trans st) r hR⟩⟩
theorem de_callO (F : FnOk X.prog X.w X.K X.mg X.base CX0 k f fd ps (spD c.K c.wl φ)) (hr : Room k X.A) (hg : Gl X x) (hm : X.mg x = some (.ref f)) (hk : PySem.W.keepIn X.K (.ref f) = true) (hb : Binds X.K fd ps []) (ha : PA X (e :: es) (lA c ma)) (hdb : (x == ("__debug__" : Str)) = false := by decide)
    (he : starEach (e :: es) X.env = (false, eval e X.env) :: starEach es X.env := by rfl) (hpl : (backTo pos (starEach es X.env)).any (·.1) = false := by rfl) : PE X (.Call (.Name x p) (e :: es) [] pos) (lE c (mCall φ ma)) :=
  pe_imp (pe_call F hr hg hm hk hb .nil pass0 ha hdb he hpl) fun σ H Q h => by
    obtain ⟨env, u, B, R, sr, hm, q⟩ := call_imp (E := E0) h
    refine ⟨env, u, B, R, sr, hm, fun ds u1 vs H1 B1 sr1 st1 rs h1 => ?_⟩
    show spD c.K c.wl φ (vs ++ []) H1 Q E0
    rw [List.append_nil]
    exact q ds u1 vs H1 B1 sr1 st1 rs h1
theorem run_g {CX : CXT} {sp : Sp} {E : L2.St → XK} {pins : List (Addr × Obj)} {σ : L2.St} {H : Hp} {s : Shared} {Q : VK} {us : List Value} {vs : List V} (F : FnG X.prog X.w X.K X.mg X.base CX k f fd ps sp) (hr : Room k X.A) (hgd : X.A.guards = some []) (hb : Binds X.K fd ps []) (hx : PassesAt CX X σ (E σ))
    (I : Inv X pins σ H s) (r : Vals vs us) (h : sp vs H Q (E σ)) : wpAny (model X.prog X.w) X.A (call (.ref f) us) (EP X pins σ Q) X.xe s := by
  have hl : us.length = ps.length := r.length.symm.trans (F.len _ _ _ _ h)
  have b := hb s us I.kIn (by rw [List.append_nil]; exact hl)
  rw [List.append_nil] at b
  refine wpAny_call (codeAny_mono (F.run X.A X.stack s H ⟨us, []⟩ us vs Q (E σ) hr hgd I.env0 b r h) fun z s' hq => ?_)
  match z, hq with
  | .error e, hq => exact hx pins H s e s' I hq
  | .ok (.ret u), hq => exact I.after hq
  | .ok .next, hq => exact False.elim hq
  | .ok .brk, hq => exact False.elim hq
  | .ok .cont, hq => exact False.elim hq
theorem de_callG (F : FnG X.prog X.w X.K X.mg X.base CX0 k f fd ps (spD c.K c.wl φ)) (hr : Room k X.A) (hgd : X.A.guards = some []) (hg : Gl X x) (hm : X.mg x = some (.ref f)) (hk : PySem.W.keepIn X.K (.ref f) = true) (hb : Binds X.K fd ps []) (ha : PA X (e :: es) (lA c ma)) (hdb : (x == ("__debug__" : Str)) = false := by decide)
    (he : starEach (e :: es) X.env = (false, eval e X.env) :: starEach es X.env := by rfl) (hpl : (backTo pos (starEach es X.env)).any (·.1) = false := by rfl) : PE X (.Call (.Name x p) (e :: es) [] pos) (lE c (mCall φ ma)) := by
  constructor
  intro pins s σ H Q I h
  refine wpAny_Call_Name_kw (ld_glob I hg hm ?_ hdb)
  refine PySem.W.callWith_K (h₀ := X.base) I.ok.mod.kin hk (thn (ha.run pos pins s σ H _ I (call_imp (E := E0) h)) fun us s1 hh => ?_) he hpl
  obtain ⟨vs, H1, I1, r, q⟩ := hh
  exact ⟨I1.kIn, run_g (E := fun _ => E0) F hr hgd hb (fun _ _ _ _ _ _ z => z.elim) I1 r q⟩
/-- a def that may raise, called where what is raised is wished for -/
theorem de_callX {ψ : CtX} {W : WX} (F : FnOk X.prog X.w X.K X.mg X.base (L2.CX X.prog X.w) k f fd ps (spX c.K c.wl ψ)) (T : TkD c X W) (hr : Room k X.A) (hg : Gl X x) (hm : X.mg x = some (.ref f)) (hk : PySem.W.keepIn X.K (.ref f) = true) (hb : Binds X.K fd ps []) (ha : PA X (e :: es) (lA c ma)) (hdb : (x == ("__debug__" : Str)) = false := by decide)
    (he : starEach (e :: es) X.env = (false, eval e X.env) :: starEach es X.env := by rfl) (hpl : (backTo pos (starEach es X.env)).any (·.1) = false := by rfl) : PE X (.Call (.Name x p) (e :: es) [] pos) (lE c (mCallX ψ c.wd ma)) :=
  pe_imp (pe_callS (E := WE W) F hr hg hm hk hb (fun σ => passAt T.tk σ) ha hdb he hpl) fun σ H Q h => by
    obtain ⟨env, u, B, R, sr, hm, q⟩ := h
    exact ⟨env, u, B, _, sr, hm, fun ds u1 vs H1 B1 sr1 st1 rs h1 => ⟨c.wa, B1, ds, u1, R, _, sr1.ok, sr1.wl, rs, h1, fun d u' v H' B' st w r hR => q d u' v H' B' (sr1.step st w) (st1.trans st) r hR, fun C ns es u' cls d H' B' st w hx hR => T.hw env u' B' σ H' cls d C ns es (sr1.step st w) hx hR⟩⟩
end
end FL
set_option maxHeartbeats 2000000
namespace FL
open PySem PySem.Spec PyProof.Rows L2

/-! ### errors of the program's own: class X(..): def __init__(self, f): self.f = f -/
def spIni (C : Addr) (f : Str) : Sp := fun vs H Q _ => ∃ a v, vs = [.ref a, v] ∧ H a = some (exo a C none) ∧ ∀ dx, H dx = none → dx ≠ a → Q .non (upd (upd H dx (exd dx [(f, v)])) a (exo a C (some dx)))
structure ErrC (K : PySem.W.Frag) (C : Addr) (f : Str) : Prop where
  oex : OexC K C
  nof : PySem.W.findIn K (.ref C) f = some none
theorem ini_ok {P : Program} {w : World} {K : PySem.W.Frag} {mg : Str → Option Value} {base : Heap} {qual : Str} {params : Arguments} {scope : Scope} {fI C : Addr} {fd : FuncData} {k : Nat} {f : Str} {p1 p2 p3 p4 : Pos} (T : ErrC K C f)
    (F : FunD K "__init__" qual params [.Assign [.Attribute (.Name "self" p1) f p2] (.Name f p3) p4] scope [] [] fI fd) (S : FnScope ["self", f] ["self", f] scope) (v1 : Vis scope "self") (v2 : Vis scope f) (d2 : (f == ("__debug__" : Str)) = false) (c2 : (f == ("__classdict__" : Str)) = false) : FnOk P w K mg base CX0 (k + 1) fI fd ["self", f] (spIni C f) := by
  refine F.ok S (fun vs H Q E h => ?_) fun cdv A outer s H vs Q E hr h => ?_
  · obtain ⟨a, v, rfl, _⟩ := h
    rfl
  · obtain ⟨a, v, rfl, ha, q⟩ := h
    refine ⟨_, (pss_one (ps_ost (pe_var (i := 0) rfl v1) (pe_var (i := 1) rfl v2 d2 c2))), ?_⟩
    exact ⟨v, rfl, .ref a, rfl, a, C, rfl, T.oex, T.nof, .inl ⟨ha, q⟩⟩
theorem ini_heap {H : Hp} {a d : Addr} {o1 o2 o3 o4 : HO} (n : H a = none) (nd : d ≠ a) : upd (del (upd (upd (upd H a o1) d o2) a o3) a) d o4 = upd H d o4 := by
  funext b
  by_cases hb : b = d
  · rw [hb, upd_same, upd_same]
  · rw [upd_ne hb, upd_ne hb]
    by_cases ha : b = a
    · rw [ha, del_same, n]
    · rw [del_ne ha, upd_ne ha, upd_ne hb, upd_ne ha]
def mRaise (C : Addr) (f : Str) (wd : Addr → List Str → List D → DEnv → Nat → Prop) (me : DE) : DS := fun _ env u => me env u fun d u1 => wd C [f] [d] env u1
section
variable {X : Cx} {c : DC} {e : Expr} {me : DE} {x f : Str} {C fI : Addr} {fd : FuncData} {k : Nat} {W : WX} {p pos pos2 : Pos}
/-- the dict of a new error joins the data -/
theorem SR.errs {env : DEnv} {u : Nat} {B H : Hp} {σ : L2.St} (s : SR c env u B σ H) {dd : Addr} {v : V} {d : D} (n : H dd = none) (r : Rep c.K c.wa B v d) : SR c env u (upd B dd (.xd [(f, v)])) σ (upd H dd (.xd [(f, v)])) ∧ ExcAt c.K c.wa (upd B dd (.xd [(f, v)])) (upd H dd (.xd [(f, v)])) (.ref C) (some dd) C [f] [d] := by
  have st := Step.lay (o := .xd [(f, v)]) s.ok n
  exact ⟨s.same st (lay_wa s.ok n), rfl, .inr ⟨dd, [v], rfl, upd_same, rfl, .cons (r.mono st.mono) .nil⟩⟩
theorem ds_raise (T : ErrC X.K C f) (iC : PySem.W.findIn X.K (.ref C) "__init__" = some (some (.ref fI))) (tI : PySem.W.typeIn X.K (.ref fI) = some (.type "function")) (F1 : FnOk X.prog X.w X.K X.mg X.base CX0 k fI fd ["self", f] (spIni C f)) (hb : Binds X.K fd ["self", f] [])
    (tk : TkD c X W) (hr : Room (k + 1) X.A) (hc : X.calm = true) (hg : Gl X x) (hm : X.mg x = some (.ref C)) (he : PE X e (lE c me)) (hdb : (x == ("__debug__" : Str)) = false := by decide) (hs : starEach [e] X.env = (false, eval e X.env) :: starEach [] X.env := by rfl) (hpl : (backTo pos (starEach [] X.env)).any (·.1) = false := by rfl) :
    PS X (.Raise (some (.Call (.Name x p) [e] [] pos)) none pos2) (lS c (mRaise C f c.wd me)) :=
  ps_imp (ps_raise hc tk.tk (pmk_oex T.oex iC tI F1 hr hb .nil pass0 hg hm (pa_cons he pa_nil hs) hdb hs hpl)) fun G σ H h => by
    obtain ⟨env, u, B, F, sr, hm, k1, k2, k3, k4⟩ := h
    refine ⟨env, u, B, _, sr, hm, fun d u1 v H1 B1 sr1 st1 r q => ⟨by show 1 ≤ 1000; decide, fun a na => ⟨a, v, rfl, upd_same, fun dx ndx nda => ⟨rfl, dx, [(f, v)], upd_same, ?_, ?_, ?_⟩⟩⟩⟩
    · rw [upd_ne nda, upd_same]
    · rw [upd_ne nda] at ndx
      exact ndx
    · rw [ini_heap na nda]
      rw [upd_ne nda] at ndx
      obtain ⟨g1, g2⟩ := sr1.errs (C := C) (f := f) ndx r
      exact tk.hw env u1 _ σ _ _ _ C [f] [d] g1 g2 q
/-! ### try .. except X as n -/
def hEnds (F : DEnds) (i : Nat) : DEnds := ⟨fun env u => F.nx (env.set i none) u, F.rt, fun env u => F.bk (env.set i none) u, fun env u => F.ct (env.set i none) u⟩
def mTry (i : Nat) (C : Addr) (mb : (Addr → List Str → List D → DEnv → Nat → Prop) → DS) (ms : Addr → Addr → DS) : DS := fun F env u =>
  mb (fun C' ns es env' u' => C' = C ∧ ns ≠ [] ∧ ∀ a dd, ms a dd (hEnds F i) (env'.set i (some (.dat (.exn a dd ns es)))) u') F env u
theorem SR.down {c : DC} {wd' : Addr → List Str → List D → DEnv → Nat → Prop} {bl' : Hp} {env : DEnv} {u : Nat} {B H : Hp} {σ : L2.St} (s : SR { c with wd := wd', bl := bl' } env u B σ H) (h : Bsub c.bl bl') : SR c env u B σ H := ⟨s.len, h.trans s.bl, s.st, s.wl, s.dat, s.own, s.apart⟩
theorem SR.up {c : DC} {wd' : Addr → List Str → List D → DEnv → Nat → Prop} {env : DEnv} {u : Nat} {B H : Hp} {σ : L2.St} (s : SR c env u B σ H) : SR { c with wd := wd', bl := B } env u B σ H := ⟨s.len, Bsub.refl B, s.st, s.wl, s.dat, s.own, s.apart⟩
theorem ds_try {i : Nat} {n : Str} {body suite : List Stmt} {b0 : Stmt} {np pos pos' : Pos} {Wout : WX} {mb : (Addr → List Str → List D → DEnv → Nat → Prop) → DS} {ms : Addr → Addr → DS} (hs : X.stack = X.env :: X.outer) (hf : X.env.frame = some X.env.locals) (hN : X.N.Nodup) (hi : X.N[i]? = some n) (hln : X.env.kindOf n = some .local)
    (hc : Names X x (.ref C)) (tk : Takes X Wout) (hex : PySem.W.exmOne X.K (.ref C) (.ref C) = some true)
    (hb : ∀ (wd' : Addr → List Str → List D → DEnv → Nat → Prop) (bl' : Hp) (W : WX) (pn : List (Addr × Obj)) (xe : Value → Shared → Prop), TkD { c with wd := wd', bl := bl' } (X.tr pn xe) W → PassesOwn (model X.prog X.w) X.A X.env xe → PSs (X.tr pn xe) body (lS { c with wd := wd', bl := bl' } (mb wd')))
    (hsu : ∀ (a : Addr) (oe : Obj) (dd : Addr) (pn : List (Addr × Obj)), Zc (.ref C) (some dd) oe → (∃ vs, oe.data = .fields vs) → PSs (X.suite a ((a, oe) :: pn)) (b0 :: suite) (lS c (ms a dd))) :
    PS X (.Try body [.ExceptHandler (some (.Name x np)) (some n) (b0 :: suite) pos'] [] [] pos) (lS c (mTry i C mb ms)) := by
  refine ps_imp (ps_try_as (i := i) (tb := fun W G σ H => ∃ wd' bl', Bsub c.bl bl' ∧ (∀ env u B σ H cls d C ns ds, SR { c with wd := wd', bl := bl' } env u B σ H → ExcAt c.K c.wa B H cls d C ns ds → wd' C ns ds env u → W cls d σ H) ∧ lS { c with wd := wd', bl := bl' } (mb wd') G σ H)
    (ts := fun a cls d G σ H => ∃ dd, cls = .ref C ∧ d = some dd ∧ lS c (ms a dd) G σ H) hs hf hN hi hln hc tk (fun W pn xe tkW pass => ?_) (fun a oe cls d pn hz hv => ?_)) fun G σ H h => ?_
  · constructor
    intro pins s σ H G I h
    obtain ⟨wd', bl', hbl, link, hl⟩ := h
    exact (hb wd' bl' W pn xe ⟨tkW, link⟩ pass).run pins s σ H G I hl
  · constructor
    intro pins s σ H G I h
    obtain ⟨dd, ec, ed, hl⟩ := h
    subst ec ed
    exact (hsu a oe dd pn hz hv).run pins s σ H G I hl
  · obtain ⟨env, u, B, F, sr, hm, k1, k2, k3, k4⟩ := h
    refine ⟨_, B, sr.bl, fun env' u' B' σ' H' cls d C' ns es sr' hx hw => ?_, env, u, B, F, sr.up, hm, fun e2 u2 σ2 H2 B2 s2 => k1 e2 u2 σ2 H2 B2 (s2.down sr.bl), k2, fun e2 u2 σ2 H2 B2 s2 => k3 e2 u2 σ2 H2 B2 (s2.down sr.bl), fun e2 u2 σ2 H2 B2 s2 => k4 e2 u2 σ2 H2 B2 (s2.down sr.bl)⟩
    obtain ⟨eC, hns, hms⟩ := hw
    subst eC
    obtain ⟨ec, hx⟩ := hx
    subst ec
    refine ⟨true, hex, fun _ a na => ?_, fun z => Bool.noConfusion z⟩
    rcases hx with ⟨e1, _⟩ | ⟨dd, xs, ed, hB, hl, rs⟩
    · exact absurd e1 hns
    · subst ed
      have sr2 := (sr'.down sr.bl).set (i := i) (Rep.exn (a := a) hB hl rs)
      exact ⟨dd, rfl, rfl, _, u', B', hEnds F i, sr2, hms a dd, fun e2 u2 σ2 H2 B2 s2 b2 q => k1 _ u2 _ H2 B2 (s2.unset i) (sr'.bl.trans b2) q, k2, fun e2 u2 σ2 H2 B2 s2 b2 q => k3 _ u2 _ H2 B2 (s2.unset i) (sr'.bl.trans b2) q, fun e2 u2 σ2 H2 B2 s2 b2 q => k4 _ u2 _ H2 B2 (s2.unset i) (sr'.bl.trans b2) q⟩
/-! ### the caught error: isinstance, its field -/
structure ErrX (K : PySem.W.Frag) (C : Addr) : Prop where
  xf : XfC K C
  ex : ExcC K C
def mFld (a : Addr) (f : Str) (me : DE) : DE := fun env u R => me env u fun d u1 => ∃ dd ns es z, d = .exn a dd ns es ∧ (ns.zip es).lookup f = some z ∧ R z u1
theorem zip_look {K : PySem.W.Frag} {wa : Addr} {B : Hp} {f : Str} {z : D} : ∀ {ns : List Str} {xs : List V} {es : List D}, Reps K wa B xs es → (ns.zip es).lookup f = some z → ∃ v, (ns.zip xs).lookup f = some v ∧ Rep K wa B v z
  | [], _, _, _, h => by cases h
  | n :: ns, _, _, .nil, h => by cases h
  | n :: ns, _, _, .cons (v := v) (d := d) r t, h => by
    rw [List.zip_cons_cons, List.lookup_cons] at h ⊢
    cases e : f == n with
    | true =>
      rw [e] at h
      cases h
      exact ⟨v, rfl, r⟩
    | false =>
      rw [e] at h
      exact zip_look t h
theorem de_xf {a dd : Addr} {oe : Obj} {pn : List (Addr × Obj)} (T : XfC X.K C) (hno : PySem.W.findIn X.K (.ref C) f = some none) (hz : Zc (.ref C) (some dd) oe) (hf : ∃ vs, oe.data = .fields vs) (he : PE (X.suite a ((a, oe) :: pn)) e (lE c me)) (hb : attributeBase e f X.env (eval e X.env) = eval e X.env := by rfl) :
    PE (X.suite a ((a, oe) :: pn)) (.Attribute e f pos) (lE c (fun env u R => me env u fun d u1 => ∃ ns es z, d = .exn a dd ns es ∧ (ns.zip es).lookup f = some z ∧ R z u1)) := pe_imp (pe_xf T hno hz hf he hb) fun σ H Q h => by
  obtain ⟨env, u, B, R, sr, hm, k⟩ := h
  refine ⟨env, u, B, _, sr, hm, fun d u1 v H1 B1 sr1 st1 r hh => ?_⟩
  obtain ⟨ns, es, z, e1, e2, hR⟩ := hh
  subst e1
  cases r with
  | exn hB hl rs =>
    obtain ⟨y, hy, ry⟩ := zip_look rs e2
    exact ⟨rfl, rfl, dd, _, y, rfl, sr1.ok.sub _ _ hB, hy, k _ _ _ _ _ sr1 st1 ry hR⟩
/-- isinstance(e, c) of the caught error -/
def isE (K : PySem.W.Frag) (C a dd : Addr) : List D → Option D
  | [.exn a' d' _ _, .ty n] => if a' = a ∧ d' = dd then (PySem.W.kitOne K (.ref C) (.type n)).map D.bl else none
  | [.exn a' d' _ _, .cls c] => if a' = a ∧ d' = dd then (PySem.W.kitOne K (.ref C) (.ref c)).map D.bl else none
  | _ => none
def rIsX (K : PySem.W.Frag) (C a dd : Addr) : List V → Hp → VK → Prop := fun xs H Q => ∃ (q : V) (cv : Value) (b : Bool) (fs : List (Str × V)), xs = [.ref a, q] ∧ H dd = some (.xd fs) ∧ ClsV q cv ∧ PySem.W.kitOne K (.ref C) cv = some b ∧ Q (.bl b) H
theorem call_isX {a dd : Addr} {oe : Obj} {pn : List (Addr × Obj)} (T : ExcC X.K C) (hz : Zc (.ref C) (some dd) oe) (hf : ∃ vs, oe.data = .fields vs) : CallR (X.suite a ((a, oe) :: pn)) (.builtin "isinstance") (rIsX X.K C a dd) := by
  intro pins s σ H xs us Q I r h
  obtain ⟨q, cv, b, fs, rfl, hd, kq, ek, hQ⟩ := h
  obtain ⟨u1, u2, rfl, r1, r2⟩ := vals2 r
  have e2 := kq.eq r2
  subst e2
  cases (show u1 = Value.ref a from r1)
  obtain ⟨hget, _⟩ := I.pin (a, oe) (List.mem_append_left _ List.mem_cons_self)
  obtain ⟨vs, hv⟩ := hf
  obtain ⟨mA, hns, _⟩ := (show ObjOk X.prog X.w H s.heap dd (.xd fs) from I.hok dd _ hd)
  obtain ⟨od, ho, _⟩ := lookIn_ns hns
  have J : PySem.W.InstAt s.heap a oe C (some od) := ⟨hget, hz.1, by unfold PySem.W.notCls; rw [hv] <;> rfl, by rw [hz.2]; exact ho⟩
  obtain ⟨cd, hc, _⟩ := PySem.W.any_some T.hd
  exact PySem.W.kia_one (PySem.W.kitx_exc (by rw [hc]; rfl) T.hg T.hk T.hs T.ha T.hn T.ht T.hm) I.kIn J ek (fun z => nomatch z) fun tk => ⟨.bl b, H, I.tok tk, rfl, hQ⟩
theorem b_isE {a dd : Addr} {oe : Obj} {pn : List (Addr × Obj)} (T : ExcC X.K C) (hz : Zc (.ref C) (some dd) oe) (hf : ∃ vs, oe.data = .fields vs) : Bi (X.suite a ((a, oe) :: pn)) c (.builtin "isinstance") (isE X.K C a dd) := callr_imp (call_isX T hz hf) fun vs H Q hh => by
  obtain ⟨B, ds, dz, ok, rs, e, q⟩ := hh
  match ds, e, rs with
  | [.exn a' d' ns es, .ty n], e, rs =>
    obtain ⟨v, w, rfl, r1, r2⟩ := rs.two
    have e : (if a' = a ∧ d' = dd then (PySem.W.kitOne X.K (.ref C) (.type n)).map D.bl else none) = some dz := e
    by_cases ha : a' = a ∧ d' = dd
    · rw [if_pos ha] at e
      obtain ⟨b, e1, e2⟩ := Option.map_eq_some_iff.mp e
      obtain ⟨ha1, ha2⟩ := ha
      subst e2 ha1 ha2
      cases r2
      cases r1 with
      | exn hB hl rr => exact ⟨_, _, b, _, rfl, ok.sub _ _ hB, .ty n, e1, q.now ok (.bl b)⟩
    · rw [if_neg ha] at e
      cases e
  | [.exn a' d' ns es, .cls n], e, rs =>
    obtain ⟨v, w, rfl, r1, r2⟩ := rs.two
    have e : (if a' = a ∧ d' = dd then (PySem.W.kitOne X.K (.ref C) (.ref n)).map D.bl else none) = some dz := e
    by_cases ha : a' = a ∧ d' = dd
    · rw [if_pos ha] at e
      obtain ⟨b, e1, e2⟩ := Option.map_eq_some_iff.mp e
      obtain ⟨ha1, ha2⟩ := ha
      subst e2 ha1 ha2
      cases r2
      cases r1 with
      | exn hB hl rr => exact ⟨_, _, b, _, rfl, ok.sub _ _ hB, .own n, e1, q.now ok (.bl b)⟩
    · rw [if_neg ha] at e
      cases e
end

/-! ### repr of plain data -/
def showD (d : D) : Option Str := match toPy d with
  | some p => if p.showable = true ∧ p.shown.length ≤ sizeLine ∧ p.depth ≤ 60 then some p.shown else none
  | none => none
def reprD : List D → Option D
  | [d] => (showD d).map D.str
  | _ => none
theorem showD_some {d : D} {x : Str} (h : showD d = some x) : ∃ p, toPy d = some p ∧ p.showable = true ∧ p.shown.length ≤ sizeLine ∧ p.depth ≤ 60 ∧ x = p.shown := by
  unfold showD at h
  cases e : toPy d with
  | none => rw [e] at h; cases h
  | some p =>
    rw [e] at h
    obtain ⟨⟨h1, h2, h3⟩, h4⟩ := ite_some (show (if _ then some _ else none) = some x from h)
    exact ⟨p, rfl, h1, h2, h3, h4.symm⟩
theorem toPy_noDict : ∀ d : D, ∀ p, toPy d = some p → p.hasDict = false := by
  intro d
  refine D.rec (motive_1 := fun d => ∀ p, toPy d = some p → p.hasDict = false) (motive_2 := fun ds => ∀ ps, toPys ds = some ps → PyData.hasDictAll ps = false) ?_ ?_ ?_ ?_ ?_ ?_ ?_ ?_ ?_ ?_ ?_ ?_ ?_ ?_ d
  · intro p e; simp only [toPy] at e; cases e; simp only [PyData.hasDict]
  · intro b p e; simp only [toPy] at e; cases e; simp only [PyData.hasDict]
  · intro b p e; simp only [toPy] at e; cases e; simp only [PyData.hasDict]
  · intro b p e; simp only [toPy] at e; cases e; simp only [PyData.hasDict]
  · intro xs ih p e
    simp only [toPy] at e
    obtain ⟨ps, e1, e2⟩ := Option.map_eq_some_iff.mp e
    subst e2
    simp only [PyData.hasDict]
    exact ih ps e1
  · intro xs ih p e
    simp only [toPy] at e
    obtain ⟨ps, e1, e2⟩ := Option.map_eq_some_iff.mp e
    subst e2
    simp only [PyData.hasDict]
    exact ih ps e1
  · intro ks xs ih p e; simp only [toPy] at e; cases e
  · intro ks k xs ih p e; simp only [toPy] at e; cases e
  · intro k p e; simp only [toPy] at e; cases e
  · intro k p e; simp only [toPy] at e; cases e
  · intro a b k xs ih p e; simp only [toPy] at e; cases e
  · intro p e; simp only [toPy] at e; cases e
  · intro ps e; simp only [toPys] at e; cases e; simp only [PyData.hasDictAll]
  · intro x xs h1 h2 ps e
    simp only [toPys] at e
    cases e1 : toPy x with
    | none => rw [e1] at e; cases e
    | some y =>
      cases e2 : toPys xs with
      | none => rw [e1, e2] at e; cases e
      | some ys =>
        rw [e1, e2] at e
        cases e
        simp only [PyData.hasDictAll, h1 y e1, h2 ys e2, Bool.or_self]
section
variable {X : Cx} {c : DC}
theorem b_repr (hgd : X.A.guards = some []) (hu : X.A.units + 64 < cLine) (hK : c.K = X.K := by rfl) : Bi X c (.builtin "repr") reprD := by
  intro pins s σ H vs us Q I rv hh
  obtain ⟨B, ds, dz, ok, rs, e, q⟩ := hh
  match ds, e, rs with
  | [d], e, rs =>
    obtain ⟨v, rfl, r⟩ := rs.one
    obtain ⟨x, e1, e2⟩ := Option.map_eq_some_iff.mp (show (showD d).map D.str = some dz from e)
    subst e2
    obtain ⟨p, ep, hs, hl, hd, ex⟩ := showD_some e1
    subst ex
    obtain ⟨u, rfl, ru⟩ := vals1 rv
    have dp := Rep.dp ok.sub d v p r ep
    rw [hK] at dp
    have fin : ∀ (t : Tok) (h' : Heap) (tk : Nat), (∀ b o, s.heap.get? b = some o → h'.get? b = some o) → EP X pins σ Q (.str p.shown t) { s with heap := h', toks := tk } := fun t h' tk hk => ⟨.str p.shown, H, I.kept hk, ⟨_, rfl⟩, q.now ok (.str _ hl)⟩
    obtain ⟨as, rd⟩ := Dp.reads I p v u dp ru
    have nd := toPy_noDict d p ep
    cases dp with
    | non =>
      cases (show u = Value.none from ru)
      exact P.repr_of_none (fin _ s.heap _ fun _ _ z => z)
    | bl b =>
      cases (show u = Value.bool b from ru)
      exact P.repr_of_bool (fin _ s.heap _ fun _ _ z => z)
    | int i =>
      obtain ⟨t, rfl⟩ := ru
      exact P.repr_of_int (of_decide_eq_true (by simpa only [PyData.showable] using hs)) (fin _ s.heap _ fun _ _ z => z)
    | str x =>
      obtain ⟨t, rfl⟩ := ru
      exact P.repr_of_str (fin _ s.heap _ fun _ _ z => z) hl
    | lst h1 h2 =>
      cases ru
      exact repr_of_reads' rd hs (fun z => by rw [nd] at z; cases z) hgd (by omega) (fun _ _ z => z) (fun h' t tk hk => fin t h' tk hk) hl
    | tup h1 h2 =>
      cases ru
      exact repr_of_reads' rd hs (fun z => by rw [nd] at z; cases z) hgd (by omega) (fun _ _ z => z) (fun h' t tk hk => fin t h' tk hk) hl
end
end FL
set_option maxHeartbeats 2000000
namespace FL
open PySem PySem.Spec PyProof.Rows L2

/-! ### -i -/
def mNeg (m : DE) : DE := fun env u R => m env u fun d u1 => ∃ i, d = .int i ∧ R (.int (-i)) u1
theorem de_neg {X : Cx} {c : DC} {a : Expr} {m : DE} {pos : Pos} (ha : PE X a (lE c m)) : PE X (.UnaryOp .USub a pos) (lE c (mNeg m)) := pe_imp (pe_un un_neg ha) fun σ H Q h => by
  obtain ⟨env, u, B, R, sr, hm, k⟩ := h
  refine ⟨env, u, B, _, sr, hm, fun d u1 v H1 B1 sr1 st1 r hh => ?_⟩
  obtain ⟨i, e, hR⟩ := hh
  subst e
  cases r
  exact ⟨i, rfl, k _ _ _ _ _ sr1 st1 (.int _) hR⟩

/-! ### defs by name -/
structure Lk (K : PySem.W.Frag) (mg : Str → Option Value) (x : Str) (st : Stmt) : Prop where
  ex : ∃ fd, FunD K x x (defArgs st) (defBody st) (defScope st) [] [] (He.ga K x) fd
  g : mg x = some (.ref (He.ga K x))
def Bnd (x : Str) (st : Stmt) (ps : List Str) : Prop := ∀ (kV doc pm : Value) (an : Option Addr) (cdv ct : Value) (us : List Value), us.length = ps.length → bindArgs (PySem.W.fnOf x x (defArgs st) (defBody st) (defScope st) .none kV doc pm an cdv ct) ⟨us, []⟩ = pure (ps.zip us)
section
variable {P : Program} {w : World} {K : PySem.W.Frag} {mg : Str → Option Value} {base : Heap} {wl : Nat → HO → Prop} {k j : Nat} {x : Str} {st : Stmt} {N ps : List Str}
structure Has (P : Program) (w : World) (K : PySem.W.Frag) (mg : Str → Option Value) (base : Heap) (wl : Nat → HO → Prop) (k : Nat) (x : Str) (ps : List Str) (φ : Ct) : Prop where
  ex : ∃ fd, FnOk P w K mg base CX0 k (He.ga K x) fd ps (spD K wl φ) ∧ Binds K fd ps []
  g : mg x = some (.ref (He.ga K x))
  kp : PySem.W.keepIn K (.ref (He.ga K x)) = true
structure HasG (P : Program) (w : World) (K : PySem.W.Frag) (mg : Str → Option Value) (base : Heap) (wl : Nat → HO → Prop) (k : Nat) (x : Str) (ps : List Str) (φ : Ct) : Prop where
  ex : ∃ fd, FnG P w K mg base CX0 k (He.ga K x) fd ps (spD K wl φ) ∧ Binds K fd ps []
  g : mg x = some (.ref (He.ga K x))
  kp : PySem.W.keepIn K (.ref (He.ga K x)) = true
structure HasX (P : Program) (w : World) (K : PySem.W.Frag) (mg : Str → Option Value) (base : Heap) (wl : Nat → HO → Prop) (k : Nat) (x : Str) (ps : List Str) (ψ : CtX) : Prop where
  ex : ∃ fd, FnOk P w K mg base (L2.CX P w) k (He.ga K x) fd ps (spX K wl ψ) ∧ Binds K fd ps []
  g : mg x = some (.ref (He.ga K x))
  kp : PySem.W.keepIn K (.ref (He.ga K x)) = true
theorem has_of {φ : Ct} (L : Lk K mg x st) (S : FnScope N ps (defScope st)) (hb : Bnd x st ps) (hlen : ∀ ds u R, φ ds u R → ds.length = ps.length)
    (h : ∀ (cdv : Value) (A : Around) (outer : List Env) (s : Shared) (H : Hp) (E : XK) (wa : Addr) (B : Hp), Room k (A.deeper (envOfC x (defScope st) s.heap.objs.size (He.ga K x) cdv)) →
      ∃ m, PSs (cxOf CX0 P w K mg base N x (defScope st) (He.ga K x) cdv A outer s H E).nox (defBody st) (lS ⟨K, wa, wl, B, H, B, fun _ _ _ _ _ => False⟩ m) ∧ ∀ ds u R, φ ds u R → m (noEnds R) (startD N ds) u) : Has P w K mg base wl (k + 1) x ps φ := by
  obtain ⟨fd, F⟩ := L.ex
  exact ⟨⟨fd, fn_ok F S hlen h, F.bindsN hb⟩, L.g, F.kp⟩
theorem hasG_of {φ : Ct} (L : Lk K mg x st) (S : FnScope N ps (defScope st)) (hb : Bnd x st ps) (hlen : ∀ ds u R, φ ds u R → ds.length = ps.length)
    (h : ∀ (cdv : Value) (A : Around) (outer : List Env) (s : Shared) (H : Hp) (E : XK) (wa : Addr) (B : Hp), Room k (A.deeper (envOfC x (defScope st) s.heap.objs.size (He.ga K x) cdv)) → (A.deeper (envOfC x (defScope st) s.heap.objs.size (He.ga K x) cdv)).guards = some [] →
      ∃ m, PSs (cxOf CX0 P w K mg base N x (defScope st) (He.ga K x) cdv A outer s H E).nox (defBody st) (lS ⟨K, wa, wl, B, H, B, fun _ _ _ _ _ => False⟩ m) ∧ ∀ ds u R, φ ds u R → m (noEnds R) (startD N ds) u) : HasG P w K mg base wl (k + 1) x ps φ := by
  obtain ⟨fd, F⟩ := L.ex
  exact ⟨⟨fd, fn_gok F S hlen h, F.bindsN hb⟩, L.g, F.kp⟩
theorem hasX_of {ψ : CtX} (L : Lk K mg x st) (S : FnScope N ps (defScope st)) (hb : Bnd x st ps) (hlen : ∀ ds u R XR, ψ ds u R XR → ds.length = ps.length)
    (h : ∀ (cdv : Value) (A : Around) (outer : List Env) (s : Shared) (H : Hp) (E : XK) (wa : Addr) (B : Hp) (XR : XD), Room k (A.deeper (envOfC x (defScope st) s.heap.objs.size (He.ga K x) cdv)) →
      TkD ⟨K, wa, wl, B, H, B, fun C ns ds _ u => XR C ns ds u⟩ (cxOf (L2.CX P w) P w K mg base N x (defScope st) (He.ga K x) cdv A outer s H E) (fun cls d _ H' => E cls d H') →
      ∃ m, PSs (cxOf (L2.CX P w) P w K mg base N x (defScope st) (He.ga K x) cdv A outer s H E) (defBody st) (lS ⟨K, wa, wl, B, H, B, fun C ns ds _ u => XR C ns ds u⟩ m) ∧ ∀ ds u R, ψ ds u R XR → m (noEnds R) (startD N ds) u) : HasX P w K mg base wl (k + 1) x ps ψ := by
  obtain ⟨fd, F⟩ := L.ex
  exact ⟨⟨fd, fn_okX F S hlen h, F.bindsN hb⟩, L.g, F.kp⟩
end
section
variable {X : Cx} {c : DC} {k j : Nat} {φ : Ct} {x : Str} {ps : List Str} {p pos : Pos} {e : Expr} {es : List Expr} {ma : DA}
theorem de_c (h : Has X.prog X.w c.K X.mg X.base c.wl j x ps φ) (hr : Room k X.A) (ha : PA X (e :: es) (lA c ma)) (hg : Gl X x := by rfl) (hj : j ≤ k := by decide) (hK : c.K = X.K := by rfl) (hdb : (x == ("__debug__" : Str)) = false := by decide)
    (he : starEach (e :: es) X.env = (false, eval e X.env) :: starEach es X.env := by rfl) (hpl : (backTo pos (starEach es X.env)).any (·.1) = false := by rfl) : PE X (.Call (.Name x p) (e :: es) [] pos) (lE c (mCall φ ma)) := by
  obtain ⟨⟨fd, F, b⟩, g, kp⟩ := h
  rw [hK] at F b g kp
  refine de_callO ?_ (hr.mono hj) hg g kp b ha hdb he hpl
  rw [hK]
  exact F
theorem de_g (h : HasG X.prog X.w c.K X.mg X.base c.wl j x ps φ) (hr : Room k X.A) (hgd : X.A.guards = some []) (ha : PA X (e :: es) (lA c ma)) (hg : Gl X x := by rfl) (hj : j ≤ k := by decide) (hK : c.K = X.K := by rfl) (hdb : (x == ("__debug__" : Str)) = false := by decide)
    (he : starEach (e :: es) X.env = (false, eval e X.env) :: starEach es X.env := by rfl) (hpl : (backTo pos (starEach es X.env)).any (·.1) = false := by rfl) : PE X (.Call (.Name x p) (e :: es) [] pos) (lE c (mCall φ ma)) := by
  obtain ⟨⟨fd, F, b⟩, g, kp⟩ := h
  rw [hK] at F b g kp
  refine de_callG ?_ (hr.mono hj) hgd hg g kp b ha hdb he hpl
  rw [hK]
  exact F
theorem de_x {ψ : CtX} {W : WX} (h : HasX X.prog X.w c.K X.mg X.base c.wl j x ps ψ) (T : TkD c X W) (hr : Room k X.A) (ha : PA X (e :: es) (lA c ma)) (hg : Gl X x := by rfl) (hj : j ≤ k := by decide) (hK : c.K = X.K := by rfl) (hdb : (x == ("__debug__" : Str)) = false := by decide)
    (he : starEach (e :: es) X.env = (false, eval e X.env) :: starEach es X.env := by rfl) (hpl : (backTo pos (starEach es X.env)).any (·.1) = false := by rfl) : PE X (.Call (.Name x p) (e :: es) [] pos) (lE c (mCallX ψ c.wd ma)) := by
  obtain ⟨⟨fd, F, b⟩, g, kp⟩ := h
  rw [hK] at F b g kp
  refine de_callX ?_ T (hr.mono hj) hg g kp b ha hdb he hpl
  rw [hK]
  exact F
end
end FL
set_option maxHeartbeats 2000000
namespace FL
open PySem PySem.Spec PyProof.Rows L2
theorem bo_len : bootBuiltins "len" = some (.builtin "len") := by decide +kernel
theorem bo_isinstance : bootBuiltins "isinstance" = some (.builtin "isinstance") := by decide +kernel
theorem bo_all : bootBuiltins "all" = some (.builtin "all") := by decide +kernel
theorem bo_any : bootBuiltins "any" = some (.builtin "any") := by decide +kernel
theorem bo_sum : bootBuiltins "sum" = some (.builtin "sum") := by decide +kernel
theorem bo_repr : bootBuiltins "repr" = some (.builtin "repr") := by decide +kernel
theorem bo_abs : bootBuiltins "abs" = some (.builtin "abs") := by decide +kernel
theorem bo_max : bootBuiltins "max" = some (.builtin "max") := by decide +kernel
theorem bo_min : bootBuiltins "min" = some (.builtin "min") := by decide +kernel
theorem bo_sorted : bootBuiltins "sorted" = some (.builtin "sorted") := by decide +kernel
theorem bo_tuple : bootBuiltins "tuple" = some (.type "tuple") := by decide +kernel
theorem bo_list : bootBuiltins "list" = some (.type "list") := by decide +kernel
theorem bo_str : bootBuiltins "str" = some (.type "str") := by decide +kernel
theorem bo_int : bootBuiltins "int" = some (.type "int") := by decide +kernel
theorem bo_bool : bootBuiltins "bool" = some (.type "bool") := by decide +kernel
theorem bo_dict : bootBuiltins "dict" = some (.type "dict") := by decide +kernel
theorem bo_set : bootBuiltins "set" = some (.type "set") := by decide +kernel
theorem bo_ValueError : bootBuiltins "ValueError" = some (.type "ValueError") := by decide +kernel
theorem bo_LookupError : bootBuiltins "LookupError" = some (.type "LookupError") := by decide +kernel
theorem bo_ArithmeticError : bootBuiltins "ArithmeticError" = some (.type "ArithmeticError") := by decide +kernel

/-! ### readings computed -/
section
variable {env : DEnv} {u : Nat} {R : D → Nat → Prop} {S : Bool → Nat → Prop}
theorem isi_eq {d : D} {t n : String} {b : Bool} (h : tyD d = some t) (k : kitB t n = some b) : isiD [d, .ty n] = some (.bl b) := by
  show (match tyD d with | some t => (kitB t n).map D.bl | none => none) = _
  rw [h]
  show (kitB t n).map D.bl = _
  rw [k]
  rfl
end
/-- is it a tuple, an int .. -/
def isInt : D → Bool
  | .int _ => true
  | .bl _ => true
  | _ => false
def isBool : D → Bool
  | .bl _ => true
  | _ => false
def isTup : D → Bool
  | .tup _ => true
  | _ => false
def isStr : D → Bool
  | .str _ => true
  | _ => false
/-- none of ours: no class, no well .. -/
def plainTy (d : D) : Prop := tyD d ≠ none
theorem kits : (kitB "NoneType" "int" = some false ∧ kitB "bool" "int" = some true ∧ kitB "int" "int" = some true ∧ kitB "str" "int" = some false ∧ kitB "tuple" "int" = some false ∧ kitB "list" "int" = some false ∧ kitB "dict" "int" = some false) ∧
    (kitB "NoneType" "bool" = some false ∧ kitB "bool" "bool" = some true ∧ kitB "int" "bool" = some false ∧ kitB "str" "bool" = some false ∧ kitB "tuple" "bool" = some false ∧ kitB "list" "bool" = some false ∧ kitB "dict" "bool" = some false) ∧
    (kitB "NoneType" "tuple" = some false ∧ kitB "bool" "tuple" = some false ∧ kitB "int" "tuple" = some false ∧ kitB "str" "tuple" = some false ∧ kitB "tuple" "tuple" = some true ∧ kitB "list" "tuple" = some false ∧ kitB "dict" "tuple" = some false) ∧
    (kitB "NoneType" "str" = some false ∧ kitB "bool" "str" = some false ∧ kitB "int" "str" = some false ∧ kitB "str" "str" = some true ∧ kitB "tuple" "str" = some false ∧ kitB "list" "str" = some false ∧ kitB "dict" "str" = some false) := by decide +kernel
theorem isi_int {d : D} (h : plainTy d) : isiD [d, .ty "int"] = some (.bl (isInt d)) := by
  obtain ⟨⟨a1, a2, a3, a4, a5, a6, a7⟩, _⟩ := kits
  cases d <;> first | exact isi_eq rfl a1 | exact isi_eq rfl a2 | exact isi_eq rfl a3 | exact isi_eq rfl a4 | exact isi_eq rfl a5 | exact isi_eq rfl a6 | exact isi_eq rfl a7 | exact absurd rfl h
theorem isi_bool {d : D} (h : plainTy d) : isiD [d, .ty "bool"] = some (.bl (isBool d)) := by
  obtain ⟨_, ⟨a1, a2, a3, a4, a5, a6, a7⟩, _⟩ := kits
  cases d <;> first | exact isi_eq rfl a1 | exact isi_eq rfl a2 | exact isi_eq rfl a3 | exact isi_eq rfl a4 | exact isi_eq rfl a5 | exact isi_eq rfl a6 | exact isi_eq rfl a7 | exact absurd rfl h
theorem isi_tup {d : D} (h : plainTy d) : isiD [d, .ty "tuple"] = some (.bl (isTup d)) := by
  obtain ⟨_, _, ⟨a1, a2, a3, a4, a5, a6, a7⟩, _⟩ := kits
  cases d <;> first | exact isi_eq rfl a1 | exact isi_eq rfl a2 | exact isi_eq rfl a3 | exact isi_eq rfl a4 | exact isi_eq rfl a5 | exact isi_eq rfl a6 | exact isi_eq rfl a7 | exact absurd rfl h
theorem isi_str {d : D} (h : plainTy d) : isiD [d, .ty "str"] = some (.bl (isStr d)) := by
  obtain ⟨_, _, _, ⟨a1, a2, a3, a4, a5, a6, a7⟩⟩ := kits
  cases d <;> first | exact isi_eq rfl a1 | exact isi_eq rfl a2 | exact isi_eq rfl a3 | exact isi_eq rfl a4 | exact isi_eq rfl a5 | exact isi_eq rfl a6 | exact isi_eq rfl a7 | exact absurd rfl h
theorem eq_ints (i j : Int) : eqD (.int i) (.int j) = some (decide (i = j)) := rfl
theorem eq_strs (i j : Str) : eqD (.str i) (.str j) = some (decide (i = j)) := rfl
theorem ne_strs (i j : Str) : neD (.str i) (.str j) = some (!decide (i = j)) := rfl
theorem ne_ints (i j : Int) : neD (.int i) (.int j) = some (!decide (i = j)) := rfl
end FL
set_option maxHeartbeats 2000000
namespace FL
open PySem PySem.Spec PyProof.Rows L2

/-! ### lists that a name holds alone -/
def mOwnE (i : Nat) (me : DE) : DS := fun F env u => me env u fun d u1 => ∃ ds, d = .lst ds ∧ F.nx (env.set i (some (.own ds))) u1
section
variable {X : Cx} {c : DC}
theorem ds_setLcO {i : Nat} {y : Str} {py : Pos} {elt tg iter : Expr} {ifs : List Expr} {scope : Scope} {own : List (Str × Nat)} {pos spos : Pos} {mi : DI} {g : DG} {tt : DT} {me : DE} (hc : X.calm = true) (hN : X.N.Nodup) (hy : X.N[i]? = some y) (hyl : X.env.scope.names.lookup y = some .local)
    (hsw : swapsWith (.ListComp elt [⟨tg, iter, ifs, 0⟩] scope pos) (some (.Name y py)) spos.line X.env = pure true) (hi : PI X tg iter (lI c mi)) (ok : BlkOk X.N X.env.scope scope own)
    (hg : ∀ (s : Shared) (H : Hp) (C : Addr) (cl : List (Str × Addr)) (fp : List Addr), PG (X.blk s H scope (compEnvC scope cl C X.env) fp) tg (lG c (own.map (·.2)) g))
    (ht : ∀ (s : Shared) (H : Hp) (C : Addr) (cl : List (Str × Addr)) (fp : List Addr), PTs (X.blk s H scope (compEnvC scope cl C X.env) fp) ifs (lT c tt))
    (he : ∀ (s : Shared) (H : Hp) (C : Addr) (cl : List (Str × Addr)) (fp : List Addr), PE (X.blk s H scope (compEnvC scope cl C X.env) fp) elt (lE c me)) (hs : ∀ x, foldedSetIterable iter X.env x = pure x := by intro _; rfl) :
    PS X (.Assign [.Name y py] (.ListComp elt [⟨tg, iter, ifs, 0⟩] scope pos) spos) (lS c (mOwnE i (mLc mi g tt me (own.map (·.2))))) := ps_imp (ps_setLc hc hN hy hyl hsw hi ok hg ht he hs) fun G σ H h => by
  obtain ⟨env, u, B, F, sr, hm, k1, k2, k3, k4⟩ := h
  refine lc_raw (Q := fun x H1 => gName i x σ H1 G.nx) sr hm fun acc xs u' H' B' l n hR => ?_
  obtain ⟨ds, e, q⟩ := hR
  cases e
  refine k1 _ u' _ H' B' ?_ n.st.mono q
  have s := n.sr
  refine ⟨by rw [List.length_set, List.length_set]; exact s.len, s.bl, s.st, s.wl, fun j d h => ?_, fun j es h => ?_, fun j k es fs a hjk h1 h2 h3 => ?_⟩
  · rcases set_look h with ⟨_, e1, hl⟩ | ⟨ne, h⟩
    · cases e1
    · rw [List.getElem?_set_ne (Ne.symm ne)]
      exact s.dat j d h
  · rcases set_look h with ⟨ej, e1, hl⟩ | ⟨ne, h⟩
    · cases e1
      exact ⟨l, xs, by rw [ej, List.getElem?_set_self (by rw [← s.len]; exact hl)], n.hw, n.hB, n.h0, n.hH, n.len, n.rs⟩
    · rw [List.getElem?_set_ne (Ne.symm ne)]
      exact s.own j es h
  · rcases set_look h1 with ⟨ej, e1, hl⟩ | ⟨n1, h1⟩
    · rcases set_look h2 with ⟨ek, e2, _⟩ | ⟨n2, h2⟩
      · exact absurd (ej.trans ek.symm) hjk
      · rw [ej, List.getElem?_set_self (by rw [← s.len]; exact hl)] at h3
        injection h3 with h3
        injection h3 with h3
        injection h3 with h3
        rw [List.getElem?_set_ne (Ne.symm n2), ← h3]
        exact n.ho k fs h2
    · rw [List.getElem?_set_ne (Ne.symm n1)] at h3
      rcases set_look h2 with ⟨ek, e2, hl⟩ | ⟨n2, h2⟩
      · rw [ek, List.getElem?_set_self (by rw [← s.len]; exact hl)]
        intro z
        injection z with z
        injection z with z
        injection z with z
        rw [← z] at h3
        exact n.ho j es h1 h3
      · rw [List.getElem?_set_ne (Ne.symm n2)]
        exact s.apart j k es fs a hjk h1 h2 h3
/-- x[k] = e -/
def mPut (i : Nat) (mk me : DE) : DS := fun F env u => ∃ ds, env[i]? = some (some (.own ds)) ∧ me env u fun d u1 => mk env u1 fun q u2 => ∃ k j, q = .int k ∧ ixN ds.length k = some j ∧ F.nx (env.set i (some (.own (ds.set j d)))) u2
theorem ds_put {i : Nat} {o e k : Expr} {mk me : DE} {sp pos : Pos} (ho : PE X o (tVar i)) (hk : PE X k (lE c mk)) (he : PE X e (lE c me)) (hs : swapsWithSole [.Subscript o k sp] e pos.line X.env = pure false := by rfl) (hw : swappedStores [.Subscript o k sp] e X.env = pure none := by rfl)
    (h1 : (assignEach [.Subscript o k sp] X.env).map (·.2) = [assign (.Subscript o k sp) X.env] := by rfl) (ha : ∀ v, assign (.Subscript o k sp) X.env v = (do
      let ov ← holding [v] (eval o X.env)
      let iv ← holding [v, ov] (eval k X.env)
      standAt sp
      holding [v, ov, iv] (setItem ov iv v)
      release [v, ov, iv] []) := by intro _; rfl) : PS X (.Assign [.Subscript o k sp] e pos) (lS c (mPut i mk me)) := ps_imp (ps_asg he (pg_sub ho hk set_list ha) hs hw h1) fun G σ H h => by
  obtain ⟨env, u, B, F, sr, ⟨ds, hds, hm⟩, k1, k2, k3, k4⟩ := h
  refine ⟨env, u, B, _, sr, hm, fun d u1 v H1 B1 sr1 st1 r hh => ?_⟩
  obtain ⟨a, xs, g1, g5, g7, _⟩ := sr1.turn (es := ds) hds
  refine ⟨.ref a, g1, env, u1, B1, _, sr1, hh, fun q u2 w H2 B2 sr2 st2 rq hk => ?_⟩
  obtain ⟨kk, j, eq, hj, hF⟩ := hk
  subst eq
  cases rq
  obtain ⟨b, ys, e1, e5, e7, eq⟩ := sr2.turn (es := ds.set j d) hds
  rw [g1] at e1
  injection e1 with e1
  injection e1 with e1
  injection e1 with e1
  subst e1
  refine ⟨a, ys, kk, j, rfl, rfl, e5, by rw [e7.length]; exact hj, k1 _ u2 σ _ B2 (eq _ ?_ (e7.set (r.mono st2.mono) j)) (st1.mono.trans st2.mono) hF⟩
  rw [List.length_set]
  obtain ⟨_, _, _, _, _, _, _, hz, _⟩ := sr2.own i ds hds
  exact hz
/-- x[k], len(x), tuple(x) of such a list -/
def mIxO (i : Nat) (mk : DE) : DE := fun env u R => ∃ ds, env[i]? = some (some (.own ds)) ∧ mk env u fun q u1 => ∃ k z, q = .int k ∧ atI ds k = some z ∧ R z u1
theorem de_ixO {i : Nat} {o k : Expr} {mk : DE} {pos : Pos} (ho : PE X o (tVar i)) (hk : PE X k (lE c mk)) (hs : PlainIx k := by intro _ _; rfl) : PE X (.Subscript o k pos) (lE c (mIxO i mk)) := pe_imp (pe_ix ix_list ho hk hs) fun σ H Q h => by
  obtain ⟨env, u, B, R, sr, ⟨ds, hds, hm⟩, q⟩ := h
  obtain ⟨a, xs, g1, g5, g7, _⟩ := sr.turn (es := ds) hds
  refine ⟨.ref a, g1, env, u, B, _, sr, hm, fun d u1 v H1 B1 sr1 st1 r hh => ?_⟩
  obtain ⟨kk, z, e, ez, hR⟩ := hh
  subst e
  cases r
  obtain ⟨b, ys, e1, e5, e7, _⟩ := sr1.turn (es := ds) hds
  rw [g1] at e1
  injection e1 with e1
  injection e1 with e1
  injection e1 with e1
  subst e1
  obtain ⟨y, hy, ry⟩ := e7.at ez
  exact ⟨a, ys, kk, y, rfl, rfl, .inl (.inl e5), hy, q z u1 y H1 B1 sr1 st1 ry hR⟩
def mLenO (i : Nat) : DE := fun env u R => ∃ ds, env[i]? = some (some (.own ds)) ∧ R (.int ds.length) u
theorem de_lenO {i : Nat} {o : Expr} {p pos : Pos} (ho : PE X o (tVar i)) (hg : Gl X "len") (hm : X.mg "len" = none) (he : starEach [o] X.env = (false, eval o X.env) :: starEach [] X.env := by rfl) (hpl : (backTo pos (starEach [] X.env)).any (·.1) = false := by rfl) :
    PE X (.Call (.Name "len" p) [o] [] pos) (lE c (mLenO i)) := pe_imp (pe_callB call_len_seq hg hm bo_len (pa_cons ho pa_nil he) (by decide) (by decide) he hpl) fun σ H Q h => by
  obtain ⟨env, u, B, R, sr, ⟨ds, hds, hm⟩, q⟩ := h
  obtain ⟨a, xs, g1, g5, g7, _⟩ := sr.turn (es := ds) hds
  refine ⟨.ref a, g1, a, xs, rfl, .inl (.inl (.inl g5)), ?_⟩
  rw [g7.length]
  exact q _ u _ H B sr (Step.refl sr.ok) (.int _) hm
def mTupO (i : Nat) : DE := fun env u R => ∃ ds, env[i]? = some (some (.own ds)) ∧ R (.tup ds) u
theorem de_tupO {i : Nat} {o : Expr} {p pos : Pos} (ho : PE X o (tVar i)) (hg : Gl X "tuple") (hm : X.mg "tuple" = none) (he : starEach [o] X.env = (false, eval o X.env) :: starEach [] X.env := by rfl) (hpl : (backTo pos (starEach [] X.env)).any (·.1) = false := by rfl) :
    PE X (.Call (.Name "tuple" p) [o] [] pos) (lE c (mTupO i)) := pe_imp (pe_callTy call_tuple_of hg hm bo_tuple (pa_cons ho pa_nil he) (by decide) (by decide) he hpl) fun σ H Q h => by
  obtain ⟨env, u, B, R, sr, ⟨ds, hds, hm⟩, q⟩ := h
  obtain ⟨a, xs, g1, g2, g3, g4, g5, g6, g7⟩ := sr.own i ds hds
  refine ⟨.ref a, g1, a, xs, rfl, .inl ⟨.inl (.inl g5), fun l n => ?_⟩⟩
  have st := Step.lay (o := .tup xs) sr.ok n
  exact q _ u _ _ _ (sr.same st (lay_wa sr.ok n)) st (.tup (.inl (.inl upd_same)) g6 (g7.mono st.mono)) hm
/-- a test that reads such a list as data -/
def mBor (i : Nat) (t : DT) : DT := fun env u R => ∃ ds, env[i]? = some (some (.own ds)) ∧ t (env.set i (some (.dat (.lst ds)))) u R
theorem SR.lend {env : DEnv} {u : Nat} {B H : Hp} {σ : L2.St} (sr : SR c env u B σ H) {i : Nat} {ds : List D} (hds : env[i]? = some (some (.own ds))) : ∃ B', SR c (env.set i (some (.dat (.lst ds)))) u B' σ H ∧ Bsub B B' := by
  obtain ⟨a, xs, h1, h2, h3, h4, h5, h6, h7⟩ := sr.own i ds hds
  have hil : i < env.length := (List.getElem?_eq_some_iff.mp hds).1
  have e1 : (env.set i (some (.dat (.lst ds)))) = (env.set i none).set i (some (.dat (.lst ds))) := by rw [List.set_set]
  have e2 : σ = (σ.set i none).set i (some (.ref a)) := by
    rw [List.set_set]
    apply List.ext_getElem?
    intro j
    by_cases hj : j = i
    · subst hj
      rw [List.getElem?_set_self (by rw [← sr.len]; exact hil), h1]
    · rw [List.getElem?_set_ne (Ne.symm hj)]
  have hno : ∀ (j : Nat) es, (env.set i none)[j]? = some (some (.own es)) → (σ.set i none)[j]? ≠ some (some (.ref a)) := fun j es q => by
    rcases set_look q with ⟨_, e1, _⟩ | ⟨ne, q⟩
    · cases e1
    · rw [List.getElem?_set_ne (Ne.symm ne)]
      exact sr.apart i j ds es a (Ne.symm ne) hds q h1
  obtain ⟨g1, g2, g3⟩ := (sr.unset i).grow h4 h5 h2 hno
  have g4 := g1.set (i := i) (Rep.lst upd_same h6 (h7.mono g3))
  rw [← e1, ← e2] at g4
  exact ⟨_, g4, g3⟩
theorem SR.back {env : DEnv} {u u' : Nat} {B H H' : Hp} {σ : L2.St} (s : SR c env u B σ H) (kp : ∀ a o, H a = some o → a ≠ c.wa → H' a = some o) (w : ∃ o, H' c.wa = some o ∧ c.wl u' o) : SR c env u' B σ H' where
  len := s.len
  bl := s.bl
  st := by
    refine ⟨⟨fun a o e => kp a o (s.ok.sub a o e) (fun z => by rw [z, s.ok.nw] at e; cases e), s.ok.nw, ?_⟩, fun a o e n => kp a o (s.st.keep a o e n) n, s.st.mono, s.st.new⟩
    obtain ⟨o, e, _⟩ := w
    rw [e]
    exact fun z => nomatch z
  wl := w
  dat := s.dat
  own := fun i ds e => by
    obtain ⟨a, xs, h1, h2, h3, h4, h5, h6⟩ := s.own i ds e
    exact ⟨a, xs, h1, h2, h3, h4, kp a _ h5 h2, h6⟩
  apart := s.apart
theorem dt_bor {i : Nat} {e : Expr} {t : DT} (h : PT X e (lT c t)) : PT X e (lT c (mBor i t)) := pt_imp h fun σ H Q q => by
  obtain ⟨env, u, B, R, sr, ⟨ds, hds, hm⟩, k⟩ := q
  obtain ⟨B', s', hb⟩ := sr.lend hds
  refine ⟨_, u, B', R, s', hm, fun b u1 H1 B1 sr1 st1 hR => k b u1 H1 B (sr.back st1.keep sr1.wl) ⟨(sr.back st1.keep sr1.wl).ok, st1.keep, Bsub.refl B, fun _ _ n => n⟩ hR⟩
/-- {} -/
theorem de_dic0 {pos : Pos} : PE X (.Dict [] [] pos) (lE c (mC (.dic [] []))) := pe_imp pe_dnewK fun σ H Q h => by
  obtain ⟨env, u, B, R, sr, hm, k⟩ := h
  intro p n
  have st := Step.lay (o := .dK []) sr.ok n
  exact k _ u _ _ _ (sr.same st (lay_wa sr.ok n)) st (.dic (ks := []) (xs := []) upd_same rfl .nil) hm
end

/-! ### own classes, own errors, by their facts -/
structure ClsG (K : PySem.W.Frag) (mg : Str → Option Value) (x : Str) (C : Addr) : Prop where
  g : mg x = some (.ref C)
structure ErrT (P : Program) (w : World) (K : PySem.W.Frag) (mg : Str → Option Value) (base : Heap) (x : Str) (C fI : Addr) (f : Str) : Prop where
  g : mg x = some (.ref C)
  e : ErrC K C f
  i : PySem.W.findIn K (.ref C) "__init__" = some (some (.ref fI))
  t : PySem.W.typeIn K (.ref fI) = some (.type "function")
  fn : ∃ fd, FnOk P w K mg base CX0 1 fI fd ["self", f] (spIni C f) ∧ Binds K fd ["self", f] []
  x : ErrX K C
  m : PySem.W.exmOne K (.ref C) (.ref C) = some true
section
variable {X : Cx} {c : DC} {x f : Str} {C fI : Addr} {k j : Nat} {W : WX} {e : Expr} {me : DE} {p pos pos2 : Pos} {ps : List Str}
theorem ds_rz (T : ErrT X.prog X.w X.K X.mg X.base x C fI f) (tk : TkD c X W) (hr : Room k X.A) (hc : X.calm = true) (hg : Gl X x) (he : PE X e (lE c me)) (hk : 2 ≤ k := by decide) (hdb : (x == ("__debug__" : Str)) = false := by decide) (hs : starEach [e] X.env = (false, eval e X.env) :: starEach [] X.env := by rfl) (hpl : (backTo pos (starEach [] X.env)).any (·.1) = false := by rfl) :
    PS X (.Raise (some (.Call (.Name x p) [e] [] pos)) none pos2) (lS c (mRaise C f c.wd me)) := by
  obtain ⟨fd, F, b⟩ := T.fn
  exact ds_raise T.e T.i T.t F b tk (hr.mono hk) hc hg T.g he hdb hs hpl
/-- f(a = e, ..), every parameter by its name, in the def's order -/
structure KwX (P : Program) (w : World) (K : PySem.W.Frag) (mg : Str → Option Value) (base : Heap) (wl : Nat → HO → Prop) (k : Nat) (x : Str) (ps : List Str) (ψ : CtX) : Prop where
  ex : ∃ fd, FnOk P w K mg base (L2.CX P w) k (He.ga K x) fd ps (spX K wl ψ) ∧ ∀ (s : Shared) (us : List Value), us.length = ps.length → BindsTo s fd ⟨[], ps.zip us⟩ (ps.zip us)
  g : mg x = some (.ref (He.ga K x))
  kp : PySem.W.keepIn K (.ref (He.ga K x)) = true
theorem dk_nil : PK X [] (lA c mNil) := ⟨fun pos pins s σ H Q I h => by
  obtain ⟨env, u, B, R, sr, hm, k⟩ := h
  exact pk_nil.run pos pins s σ H Q I (k [] u [] H B sr (Step.refl sr.ok) .nil hm)⟩
theorem dk_cons {kws : List Keyword} {mr : DA} {nm : Option Str} {kpos : Pos} (ha : PE X e (lE c me)) (hr : PK X kws (lA c mr)) : PK X (⟨nm, e, kpos⟩ :: kws) (lA c (mCons me mr)) := ⟨fun pos pins s σ H Q I h => by
  obtain ⟨env, u, B, R, sr, hm, k⟩ := h
  exact (pk_cons ha hr).run pos pins s σ H Q I ⟨env, u, B, _, sr, hm, fun d u1 v H1 B1 sr1 st1 r h1 => ⟨env, u1, B1, _, sr1, h1, fun ds u2 vs H2 B2 sr2 st2 rs h2 => k _ _ _ _ _ sr2 (st1.trans st2) (.cons (r.mono st2.mono) rs) h2⟩⟩⟩
theorem de_xk {ψ : CtX} {kws : List Keyword} {ma : DA} (h : KwX X.prog X.w c.K X.mg X.base c.wl j x ps ψ) (T : TkD c X W) (hr : Room k X.A) (hkw : PK X kws (lA c ma)) (hg : Gl X x := by rfl) (hj : j ≤ k := by decide) (hK : c.K = X.K := by rfl) (hdb : (x == ("__debug__" : Str)) = false := by decide)
    (hall : (backToKw pos (keywordEach kws X.env)).all (·.1.isSome) = true := by rfl) (hks : (backToKw pos (keywordEach kws X.env)).filterMap (·.1) = ps := by rfl)
    (hpl : ((backTo pos (starEach [] X.env)).any (·.1) || (backToKw pos (keywordEach kws X.env)).any (·.1.isNone)) = false := by rfl) : PE X (.Call (.Name x p) [] kws pos) (lE c (mCallX ψ c.wd ma)) := by
  obtain ⟨⟨fd, F, b⟩, g, kp⟩ := h
  rw [hK] at F g kp
  constructor
  intro pins s σ H Q I h
  obtain ⟨env, u, B, R, sr, hm, q⟩ := h
  refine wpAny_Call_Name_kw (ld_glob I hg g ?_ hdb)
  refine PySem.W.callWith_KW0 (h₀ := X.base) I.ok.mod.kin kp hall ?_ hpl
  refine thn (hkw.run pos pins s σ H (fun vs H1 => spX c.K c.wl ψ vs H1 Q (WE W σ)) I ⟨env, u, B, _, sr, hm, fun ds u1 vs H1 B1 sr1 st1 rs h1 => ⟨c.wa, B1, ds, u1, R, _, sr1.ok, sr1.wl, rs, h1, fun d u' v H' B' st w r hR => q d u' v H' B' (sr1.step st w) (st1.trans st) r hR, fun C ns es u' cls d H' B' st w hx hR => T.hw env u' B' σ H' cls d C ns es (sr1.step st w) hx hR⟩⟩) fun us s1 hh => ?_
  obtain ⟨vs, H1, I1, r, q⟩ := hh
  refine ⟨I1.kIn, ?_⟩
  rw [hks]
  rw [hK] at q
  have hl : us.length = ps.length := r.length.symm.trans (F.len _ _ _ _ q)
  refine wpAny_call (codeAny_mono (F.run X.A X.stack s1 H1 ⟨[], ps.zip us⟩ us vs Q (WE W σ) (hr.mono hj) I1.env0 (b s1 us hl) r q) fun z s' hq => ?_)
  match z, hq with
  | .error er, hq => exact passAt T.tk σ pins H1 s1 er s' I1 hq
  | .ok (.ret v), hq => exact I1.after hq
  | .ok .next, hq => exact False.elim hq
  | .ok .brk, hq => exact False.elim hq
  | .ok .cont, hq => exact False.elim hq
end
end FL
set_option maxHeartbeats 2000000
namespace FL
open PySem PySem.Spec PyProof.Rows L2

/-! ### the law's own call, from defs that know that no repr is under way -/
section
variable {P : Program} {w : World} {K : PySem.W.Frag} {mg mb : Str → Option Value} {k : Nat} {fa a : Addr} {fd : FuncData} {x : Str} {sp : Sp} {s1 : Shared} {vs : List Value} {ns : List Int}
/-- nothing is tracked but a, which is the script -/
structure Start (K : PySem.W.Frag) (P : Program) (w : World) (a : Addr) (ns : List Int) (h : Heap) (H : Hp) : Prop where
  only : Only H
  seq : SqL K H a (ns.map V.int)
  ok : HOk P w H h
  at_ : ∀ b, H b ≠ none → b = a
  kl : H a ≠ none → K.lookup a = none
theorem Start.ex (KX : K.In s1.heap) (ha : s1.heap.get? a = some { cls := .type "list", data := .seq vs.toArray }) (hi : IntsAre vs ns) (hl : ns.length ≤ sizeLine) : ∃ H, Start K P w a ns s1.heap H := by
  have rv := vals_ints hi
  cases hk : K.lookup a with
  | some o =>
    have e := KX a o hk
    rw [ha] at e
    cases e
    have hz : vs.toArray.size ≤ sizeLine := by
      rw [List.size_toArray, hi.length]
      exact hl
    exact ⟨fun _ => none, fun _ => .inl rfl, .inr ⟨_, vs.toArray, _, hk, rfl, rfl, rfl, hz, by simpa using rv⟩, fun b u z => (by cases (show (none : Option HO) = some u from z)), fun b z => absurd rfl z, fun z => absurd rfl z⟩
  | none =>
    have at_a : ∀ b u, (if b = a then some (HO.frz { cls := .type "list", data := .seq vs.toArray } (.lst (ns.map V.int))) else none) = some u → b = a ∧ u = .frz { cls := .type "list", data := .seq vs.toArray } (.lst (ns.map V.int)) := fun b u z => by
      by_cases hb : b = a
      · rw [if_pos hb] at z
        exact ⟨hb, (Option.some.inj z).symm⟩
      · rw [if_neg hb] at z
        cases z
    refine ⟨fun b => if b = a then some (.frz { cls := .type "list", data := .seq vs.toArray } (.lst (ns.map V.int))) else none, fun b => ?_, .inl (.inr ⟨_, if_pos rfl⟩), fun b u z => ?_, fun b z => ?_, fun _ => hk⟩
    · by_cases hba : b = a
      · exact .inr ⟨_, _, if_pos hba⟩
      · exact .inl (if_neg hba)
    · obtain ⟨e1, e2⟩ := at_a b u z
      subst e1 e2
      exact ⟨ha, by rw [List.length_map]; exact hl, vs, _, rv, ha⟩
    · cases q : (if b = a then some (HO.frz { cls := .type "list", data := .seq vs.toArray } (.lst (ns.map V.int))) else none) with
      | none => exact absurd q z
      | some u => exact (at_a b u q).1
theorem law_g (KX : K.In s1.heap) (hns : s1.heap.Ns mainGlobals mg) (hb : s1.heap.Ns builtinsNs mb) (hbb : ∀ x : Str, x ≠ "__name__" → mb x = bootBuiltins x) (hlim : s1.heap.NoLimit) (hg : s1.gens = #[])
    (ha : s1.heap.get? a = some { cls := .type "list", data := .seq vs.toArray }) (hi : IntsAre vs ns) (hl : ns.length ≤ sizeLine) (hr : Room k callerA)
    (F : ∀ base : Heap, K.In base → base.Ns mainGlobals mg → FnG P w K mg base CX0 k fa fd [x] sp) (hbind : ∀ (s : Shared) (u : Value), BindsTo s fd ⟨[u], []⟩ [(x, u)])
    (hsp : ∀ H : Hp, SqL K H a (ns.map V.int) → sp [.ref a] H (fun v _ => v = .bl true) fun _ _ _ => False) :
    codeAny (model P w) callerA (.call (.ref fa) ⟨[.ref a], []⟩) (fun r s' => r = .ok (.ret (.bool true)) ∧ OldK s1.heap s'.heap ∧ s'.os = s1.os ∧ AllBare s'.gens) s1 := by
  obtain ⟨H, S⟩ := Start.ex (P := P) (w := w) KX ha hi hl
  have free : ∀ {b : Addr} {o : Obj}, s1.heap.get? b = some o → (∀ n, o.data ≠ .seq vs.toArray n) → H b = none := fun {b o} e d => by
    cases q : H b with
    | none => rfl
    | some u =>
      have eb := S.at_ b (by rw [q]; exact fun z => nomatch z)
      rw [eb, ha] at e
      cases e
      exact absurd rfl (d _)
  have nsK : ∀ {b : Addr} {m : Str → Option Value}, s1.heap.Ns b m → (hidT s1.heap H).Ns b m := fun {b m} hh => by
    obtain ⟨o, es, ep, e, d, r⟩ := hh
    exact ⟨o, es, ep, hidT_get e (free e fun n z => by rw [d] at z; cases z), d, r⟩
  have kin : K.In (hidT s1.heap H) := fun b o e => hidT_get (KX b o e) (by
    cases q : H b with
    | none => rfl
    | some u =>
      have eb := S.at_ b (by rw [q]; exact fun z => nomatch z)
      rw [eb] at e q
      rw [S.kl (by rw [q]; exact fun z => nomatch z)] at e
      cases e)
  have lim : (hidT s1.heap H).NoLimit := by
    obtain ⟨mc, h1, h2⟩ := hlim
    exact ⟨mc, nsK h1, h2⟩
  have e0 : Env0 P w K mg (hidT s1.heap H) callerA [] s1 H := ⟨rfl, ⟨kin, nsK hns, ⟨mb, nsK hb, hbb⟩, lim⟩, fun b o e => of_hidT e, Nat.le_of_eq (hidT_size _ _), trivial, fun b hb => (by cases (show b ∈ ([] : List Addr) from hb)), S.ok, .of_eq hg⟩
  refine codeAny_mono ((F _ kin (nsK hns)).run callerA [] s1 H ⟨[.ref a], []⟩ [.ref a] [.ref a] _ _ hr rfl e0 (hbind s1 (.ref a)) (.cons rfl .nil) (hsp H S.seq)) fun r s' h => ?_
  match r, h with
  | .error e, h => exact False.elim h
  | .ok .next, h => exact False.elim h
  | .ok .brk, h => exact False.elim h
  | .ok .cont, h => exact False.elim h
  | .ok (.ret u), h =>
    obtain ⟨v, H', os, bare, un, hok', r', q⟩ := h
    cases (show v = .bl true from q)
    cases (show u = Value.bool true from r')
    refine ⟨rfl, OldK.of_keep fun b o e => ?_, os, bare⟩
    cases q : H b with
    | none => exact un.keep b o e q (fun z => by cases (show b ∈ ([] : List Addr) from z)) (fun z => by cases (show b ∈ ([] : List Addr) from z))
    | some u =>
      rcases S.only b with z | ⟨ob, xs, z⟩
      · rw [q] at z
        cases z
      · obtain ⟨e1, _⟩ := S.ok b _ z
        obtain ⟨e2, _⟩ := hok' b _ (un.frzs b ob _ z)
        rw [e] at e1
        cases e1
        exact e2
theorem walk_g {l : PySem.W.OpenLaw} {n k : Nat} {q : Program} {loose : List Str} {XP : (Str → Option Value) → Heap → Prop} {YP : World → Heap → Prop} {d : DefRec} {x : Str} (hn : l.most = some n) (hn2 : n ≤ sizeLine) (hdf : d.params.defaults = []) (hr : Room k callerA)
    (F : ∀ (w : World) (mg : Str → Option Value) (fa : Addr) (h : Heap), YP w h → h.Ns mainGlobals mg → mg d.name = some (.ref fa) →
      ∃ (K : PySem.W.Frag) (fd : FuncData) (sp : Sp), K.In h ∧ (∀ (s : Shared) (u : Value), BindsTo s fd ⟨[u], []⟩ [(x, u)]) ∧
        (∀ (H : Hp) (a : Addr) (ns : List Int), ns.length ≤ n → SqL K H a (ns.map V.int) → sp [.ref a] H (fun v _ => v = .bl true) fun _ _ _ => False) ∧
        ∀ base : Heap, K.In base → base.Ns mainGlobals mg → FnG l.prog w K mg base CX0 k fa fd [x] sp) :
    PySem.W.WalkO q loose XP YP l.row.toRowW d [] (fun f vs => PySem.call f vs) := by
  refine Att.attach_call hn hdf fun w s0 s1 mg mb fa o pm cd doc a vs ns G Y ho hd hcd hmg hobj hints hlen hg => ?_
  obtain ⟨K, fd, sp, KX, hb, hsp, hF⟩ := F w mg fa _ Y G.T.g hmg
  exact law_g KX G.T.g G.T.b G.T.builtins G.T.nolimit hg hobj hints (Nat.le_trans hlen hn2) hr hF hb fun H hS => hsp H a ns hlen hS
end

theorem pe_callGH {X : Cx} {k : Nat} {f : Addr} {fd : FuncData} {ps : List Str} {sp : Sp} {x : Str} {p pos : Pos} {e : Expr} {es : List Expr} {t : TA} (F : FnG X.prog X.w X.K X.mg X.base CX0 k f fd ps sp) (hr : Room k X.A) (hgd : X.A.guards = some []) (hg : Gl X x) (hm : X.mg x = some (.ref f)) (hk : PySem.W.keepIn X.K (.ref f) = true) (hb : Binds X.K fd ps []) (ha : PA X (e :: es) t) (hdb : (x == ("__debug__" : Str)) = false := by decide)
    (he : starEach (e :: es) X.env = (false, eval e X.env) :: starEach es X.env := by rfl) (hpl : (backTo pos (starEach es X.env)).any (·.1) = false := by rfl) : PE X (.Call (.Name x p) (e :: es) [] pos) (fun σ H Q => t σ H fun vs H1 => sp vs H1 Q E0) := by
  constructor
  intro pins s σ H Q I h
  refine wpAny_Call_Name_kw (ld_glob I hg hm ?_ hdb)
  refine PySem.W.callWith_K (h₀ := X.base) I.ok.mod.kin hk (thn (ha.run pos pins s σ H _ I h) fun us s1 hh => ?_) he hpl
  obtain ⟨vs, H1, I1, r, q⟩ := hh
  exact ⟨I1.kIn, run_g (E := fun _ => E0) F hr hgd hb (fun _ _ _ _ _ _ z => z.elim) I1 r q⟩
/-! ### wells -/
def spWell (K : PySem.W.Frag) : Sp := fun vs H Q _ => ∃ (a : Addr) (ns : List Int) (k : Int), vs = [.ref a, .int k] ∧ SqL K H a (ns.map V.int) ∧ ns.length ≤ 63 ∧ 0 ≤ k ∧ k ≤ 100 ∧
  ∀ H' p m q, Same H H' → H p = none → H' p = some (.lst [.int m, .int q, .int 0]) → 0 ≤ m → m < 2147483629 → 0 ≤ q → Q (.ref p) H'
theorem same_new {H : Hp} {p : Addr} {o : HO} (h : H p = none) : Same H (upd H p o) := fun b x e => by
  rw [upd_ne (ne_of_none e h)]
  exact e
def spLaw (K : PySem.W.Frag) : Sp := fun vs H Q _ => ∃ (a : Addr) (ns : List Int), vs = [.ref a] ∧ SqL K H a (ns.map V.int) ∧ ns.length ≤ 63 ∧ ∀ H', Q (.bl true) H'
def ctRight : Ct := fun ds u R => ds = [.well] ∧ u = 0 ∧ ∀ u', R (.bl true) u'
def wlW (u : Nat) (o : HO) : Prop := ∃ m q n : Int, o = .lst [.int m, .int q, .int n] ∧ 0 ≤ m ∧ m < 2147483629 ∧ 0 ≤ q ∧ 0 ≤ n ∧ n ≤ u
def ct__law_dip : Ct := fun ds u R => ∃ many : Int, ds = [.well, .int many] ∧ 0 < many ∧ many < 2 ^ 200 ∧ u < 1000000 ∧ ∀ k : Int, 0 ≤ k → k < many → R (.int k) (u + 1)
theorem bo_divmod : bootBuiltins "divmod" = some (.builtin "divmod") := by decide +kernel
theorem log2_200 {j : Int} (h0 : 0 < j) (h : j < 2 ^ 200) : j.natAbs.log2 < 9000 := by
  have h1 : j.natAbs < 2 ^ 200 := by
    have : (j.natAbs : Int) < 2 ^ 200 := by omega
    exact_mod_cast this
  have h2 : j.natAbs ≠ 0 := by omega
  have h3 := (Nat.log2_lt h2).mpr h1
  omega
/-- the well changes -/
theorem Step.well {wa : Addr} {B H : Hp} {o : HO} (h : OkB wa B H) : Step wa B H B (upd H wa o) where
  ok := ⟨fun a q e => by
    rw [upd_ne (fun z => by rw [z, h.nw] at e; cases e)]
    exact h.sub a q e, h.nw, by rw [upd_same]; exact fun z => nomatch z⟩
  keep := fun a q e n => by
    rw [upd_ne n]
    exact e
  mono := Bsub.refl B
  new := fun _ _ n => n
end FL
set_option maxHeartbeats 2000000
namespace FL
open PySem PySem.Spec PyProof.Rows L2

/-! ### comprehensions and loops over data -/
/-- each item gives one, by g; nothing is drawn -/
theorem lc_map {ds : List D} {u : Nat} (g : D → D) {S : (Nat → List D → Nat → Prop) → Nat → D → List D → Nat → Prop} {R : List D → Nat → Prop}
    (hs : ∀ (Pv : Nat → List D → Nat → Prop) i d acc, ds[i]? = some d → Pv (i + 1) (acc ++ [g d]) u → S Pv i d acc u) (hR : R (ds.map g) u) :
    ∃ Pv : Nat → List D → Nat → Prop, Pv 0 [] u ∧ (∀ i d acc u', ds[i]? = some d → Pv i acc u' → S Pv i d acc u') ∧ ∀ acc u', Pv ds.length acc u' → R acc u' := by
  refine ⟨fun i acc u' => acc = (ds.take i).map g ∧ u' = u, ⟨rfl, rfl⟩, fun i d acc u' hd hp => ?_, fun acc u' hp => ?_⟩
  · obtain ⟨e1, e2⟩ := hp
    subst e1 e2
    refine hs _ i d _ hd ⟨?_, rfl⟩
    rw [List.take_add_one, hd, List.map_append]
    rfl
  · obtain ⟨e1, e2⟩ := hp
    subst e1 e2
    rw [List.take_length]
    exact hR
/-- some items give one -/
theorem lc_filter {ds : List D} {u : Nat} (p : D → Bool) (g : D → D) {S : (Nat → List D → Nat → Prop) → Nat → D → List D → Nat → Prop} {R : List D → Nat → Prop}
    (hs : ∀ (Pv : Nat → List D → Nat → Prop) i d acc, ds[i]? = some d → Pv (i + 1) (if p d = true then acc ++ [g d] else acc) u → S Pv i d acc u) (hR : R ((ds.filter p).map g) u) :
    ∃ Pv : Nat → List D → Nat → Prop, Pv 0 [] u ∧ (∀ i d acc u', ds[i]? = some d → Pv i acc u' → S Pv i d acc u') ∧ ∀ acc u', Pv ds.length acc u' → R acc u' := by
  refine ⟨fun i acc u' => acc = ((ds.take i).filter p).map g ∧ u' = u, ⟨rfl, rfl⟩, fun i d acc u' hd hp => ?_, fun acc u' hp => ?_⟩
  · obtain ⟨e1, e2⟩ := hp
    subst e1 e2
    refine hs _ i d _ hd ⟨?_, rfl⟩
    rw [List.take_add_one, hd, List.filter_append, List.map_append]
    by_cases h : p d = true
    · rw [if_pos h]
      simp [h]
    · rw [if_neg h]
      simp [h]
  · obtain ⟨e1, e2⟩ := hp
    subst e1 e2
    rw [List.take_length]
    exact hR
/-- items that are drawn: each costs at most k -/
theorem lc_draw {ds : List D} {u : Nat} (p : D → Prop) (k : Nat) {S : (Nat → List D → Nat → Prop) → Nat → D → List D → Nat → Prop} {R : List D → Nat → Prop}
    (hs : ∀ (Pv : Nat → List D → Nat → Prop) i d acc u', ds[i]? = some d → u ≤ u' → u' ≤ u + i * k → (∀ y u'', p y → u' ≤ u'' → u'' ≤ u' + k → Pv (i + 1) (acc ++ [y]) u'') → S Pv i d acc u')
    (hR : ∀ acc u', acc.length = ds.length → (∀ y ∈ acc, p y) → u ≤ u' → u' ≤ u + ds.length * k → R acc u') :
    ∃ Pv : Nat → List D → Nat → Prop, Pv 0 [] u ∧ (∀ i d acc u', ds[i]? = some d → Pv i acc u' → S Pv i d acc u') ∧ ∀ acc u', Pv ds.length acc u' → R acc u' := by
  refine ⟨fun i acc u' => acc.length = i ∧ (∀ y ∈ acc, p y) ∧ u ≤ u' ∧ u' ≤ u + i * k, ⟨rfl, fun y hy => absurd hy List.not_mem_nil, Nat.le_refl _, Nat.le_add_right _ _⟩, fun i d acc u' hd hp => ?_, fun acc u' hp => hR acc u' hp.1 hp.2.1 hp.2.2.1 hp.2.2.2⟩
  obtain ⟨h1, h2, h3, h4⟩ := hp
  refine hs _ i d acc u' hd h3 h4 fun y u'' hy h5 h6 => ⟨by rw [List.length_append, h1]; rfl, fun z hz => ?_, Nat.le_trans h3 h5, ?_⟩
  · rcases List.mem_append.mp hz with q | q
    · exact h2 z q
    · rw [List.mem_singleton.mp q]
      exact hy
  · rw [Nat.add_mul, Nat.one_mul]
    omega

/-! ### plain data of small depth -/
def Pl (k : Nat) (d : D) : Prop := ∃ p, toPy d = some p ∧ p.canLay0 = true ∧ p.depth ≤ k
def Pls (k : Nat) (ds : List D) : Prop := ∃ ps, toPys ds = some ps ∧ PyData.canLayAll0 ps = true ∧ PyData.depthAll ps ≤ k
theorem Pl.ty {k : Nat} {d : D} (h : Pl k d) : plainTy d := by
  obtain ⟨p, e, _⟩ := h
  cases d <;> first | (simp only [toPy] at e; cases e; done) | exact (fun z => by cases z)
theorem Pl.mono {k j : Nat} {d : D} (h : Pl k d) (hj : k ≤ j) : Pl j d := by
  obtain ⟨p, e, l, dp⟩ := h
  exact ⟨p, e, l, Nat.le_trans dp hj⟩
theorem Pl.non {k : Nat} : Pl k .non := ⟨.none, by simp only [toPy], rfl, Nat.zero_le _⟩
theorem Pl.bl {k : Nat} {b : Bool} : Pl k (.bl b) := ⟨.bool b, by simp only [toPy], rfl, Nat.zero_le _⟩
theorem Pl.int {k : Nat} {i : Int} : Pl k (.int i) := ⟨.int i, by simp only [toPy], rfl, Nat.zero_le _⟩
theorem Pl.str {k : Nat} {x : Str} (h : PyData.strOk x = true) : Pl k (.str x) := ⟨.str x, by simp only [toPy], h, Nat.zero_le _⟩
theorem Pls.nil {k : Nat} : Pls k [] := ⟨[], by simp only [toPys], rfl, Nat.zero_le _⟩
theorem Pls.cons {k : Nat} {d : D} {ds : List D} (h : Pl k d) (hs : Pls k ds) : Pls k (d :: ds) := by
  obtain ⟨p, e, l, dp⟩ := h
  obtain ⟨ps, es, ls, dps⟩ := hs
  refine ⟨p :: ps, by simp only [toPys, e, es], ?_, Nat.max_le.mpr ⟨dp, dps⟩⟩
  show (PyData.canLay0 p && PyData.canLayAll0 ps) = true
  rw [l, ls]
  rfl
theorem Pls.inv {k : Nat} {d : D} {ds : List D} (h : Pls k (d :: ds)) : Pl k d ∧ Pls k ds := by
  obtain ⟨qs, e, l, dp⟩ := h
  simp only [toPys] at e
  cases e1 : toPy d with
  | none => rw [e1] at e; cases e
  | some p =>
    cases e2 : toPys ds with
    | none => rw [e1, e2] at e; cases e
    | some ps =>
      rw [e1, e2] at e
      cases e
      obtain ⟨l1, l2⟩ := Bool.and_eq_true_iff.mp (show (PyData.canLay0 p && PyData.canLayAll0 ps) = true from l)
      obtain ⟨d1, d2⟩ := Nat.max_le.mp (show max p.depth (PyData.depthAll ps) ≤ k from dp)
      exact ⟨⟨p, e1, l1, d1⟩, ps, e2, l2, d2⟩
theorem Pls.all {k : Nat} : ∀ {ds : List D}, (∀ d ∈ ds, Pl k d) → Pls k ds
  | [], _ => .nil
  | d :: ds, h => .cons (h d List.mem_cons_self) (Pls.all fun x hx => h x (List.mem_cons_of_mem _ hx))
theorem Pls.mem {k : Nat} : ∀ {ds : List D}, Pls k ds → ∀ d ∈ ds, Pl k d
  | [], _, _, h => nomatch h
  | d :: ds, hs, x, h => by
    obtain ⟨h1, h2⟩ := hs.inv
    rcases List.mem_cons.mp h with e | e
    · rw [e]
      exact h1
    · exact Pls.mem h2 x e
theorem Pl.tup {k : Nat} {ds : List D} (h : Pls k ds) : Pl (k + 1) (.tup ds) := by
  obtain ⟨ps, e, l, dp⟩ := h
  exact ⟨.tuple ps, by simp only [toPy, e, Option.map_some], l, Nat.succ_le_succ dp⟩
theorem Pl.lst {k : Nat} {ds : List D} (h : Pls k ds) : Pl (k + 1) (.lst ds) := by
  obtain ⟨ps, e, l, dp⟩ := h
  exact ⟨.list ps, by simp only [toPy, e, Option.map_some], l, Nat.succ_le_succ dp⟩
theorem Pl.tup_inv {k : Nat} {ds : List D} (h : Pl k (.tup ds)) : Pls k ds := by
  obtain ⟨p, e, l, dp⟩ := h
  simp only [toPy] at e
  obtain ⟨ps, e1, e2⟩ := Option.map_eq_some_iff.mp e
  subst e2
  exact ⟨ps, e1, l, Nat.le_of_succ_le dp⟩
theorem Pl.lst_inv {k : Nat} {ds : List D} (h : Pl k (.lst ds)) : Pls k ds := by
  obtain ⟨p, e, l, dp⟩ := h
  simp only [toPy] at e
  obtain ⟨ps, e1, e2⟩ := Option.map_eq_some_iff.mp e
  subst e2
  exact ⟨ps, e1, l, Nat.le_of_succ_le dp⟩
/-- a tuple against the empty one -/
theorem eq_tup0 {k : Nat} {ds : List D} (h : Pl k (.tup ds)) (hk : k ≤ 64) : eqD (.tup ds) (.tup []) = some ds.isEmpty := by
  obtain ⟨p, e, l, dp⟩ := h
  have e0 := e
  simp only [toPy] at e
  obtain ⟨ps, e1, e2⟩ := Option.map_eq_some_iff.mp e
  subst e2
  have s1 : SeqAt.shaped (.tuple ps) = true := by
    unfold SeqAt.shaped
    rw [l, decide_eq_true (Nat.le_trans dp hk)]
    rfl
  have s2 : SeqAt.shaped (.tuple []) = true := by decide
  have e3 : toPy (.tup []) = some (.tuple []) := by simp only [toPy, toPys, Option.map_some]
  show eqP (.tup ds) (.tup []) = _
  unfold eqP
  rw [e0, e3]
  show (if SeqAt.shaped (.tuple ps) = true ∧ SeqAt.shaped (.tuple []) = true then some (PyData.eqv (.tuple ps) (.tuple [])) else none) = _
  rw [if_pos ⟨s1, s2⟩]
  cases ds with
  | nil =>
    simp only [toPys] at e1
    cases e1
    rfl
  | cons d ds =>
    cases ps with
    | nil =>
      simp only [toPys] at e1
      split at e1 <;> cases e1
    | cons q qs => rfl
end FL
set_option maxHeartbeats 2000000
namespace FL
open PySem PySem.Spec PyProof.Rows L2

/-! ### numbers in words -/
theorem log2_of {n k : Nat} (hk : 0 < k) (h : n < 2 ^ k) : n.log2 < k := by
  by_cases e : n = 0
  · rw [e]
    exact hk
  · exact (Nat.log2_lt e).mpr h
theorem show_ok {i : Int} (h0 : 0 ≤ i) (h1 : i < 10 ^ 60) : i.natAbs.log2 < 1920 ∧ (toString i : Str).length ≤ sizeLine := by
  refine ⟨Nat.lt_of_lt_of_le (log2_of (k := 200) (by decide) ?_) (by decide), Nat.le_trans (toString_length_le h0 (k := 60) (by decide) h1) (by decide)⟩
  have : (10 : Int) ^ 60 < 2 ^ 200 := by decide
  omega
theorem str_int {i : Int} (h0 : 0 ≤ i) (h1 : i < 10 ^ 60) : strD [.int i] = some (.str (toString i)) := by
  show (if _ then some _ else none) = _
  rw [if_pos (show_ok h0 h1)]
theorem repr_int {i : Int} (h0 : 0 ≤ i) (h1 : i < 10 ^ 60) : reprD [.int i] = some (.str (toString i)) := by
  have e : toPy (.int i) = some (.int i) := by simp only [toPy]
  have s : PyData.shown (.int i) = toString i := by simp only [PyData.shown]
  obtain ⟨a, b⟩ := show_ok h0 h1
  show (showD (.int i)).map D.str = _
  unfold showD
  rw [e]
  show (if PyData.showable (.int i) = true ∧ (PyData.shown (.int i)).length ≤ sizeLine ∧ PyData.depth (.int i) ≤ 60 then some (PyData.shown (.int i)) else none).map D.str = _
  rw [s, if_pos ⟨by simp only [PyData.showable]; exact decide_eq_true a, b, Nat.zero_le _⟩]
  rfl
theorem repr_non : reprD [.non] = some (.str "None") := by
  have e : toPy .non = some .none := by simp only [toPy]
  have s : PyData.shown .none = "None" := by simp only [PyData.shown]
  show (showD .non).map D.str = _
  unfold showD
  rw [e]
  show (if PyData.showable .none = true ∧ (PyData.shown .none).length ≤ sizeLine ∧ PyData.depth .none ≤ 60 then some (PyData.shown .none) else none).map D.str = _
  rw [s, if_pos ⟨by simp only [PyData.showable], by decide, Nat.zero_le _⟩]
  rfl

/-! ### loops -/
def badAt (f : Nat → D → Bool) : Nat → List D → Option Nat
  | _, [] => none
  | i, d :: ds => if f i d = true then badAt f (i + 1) ds else some i
theorem badAt_none {f : Nat → D → Bool} : ∀ {ds : List D} {i : Nat}, badAt f i ds = none → ∀ j d, ds[j]? = some d → f (i + j) d = true
  | [], _, _, _, _, h => nomatch h
  | x :: xs, i, h, j, d, hd => by
    unfold badAt at h
    by_cases e : f i x = true
    · rw [if_pos e] at h
      cases j with
      | zero =>
        cases hd
        exact e
      | succ j =>
        have := badAt_none h j d hd
        rw [show i + (j + 1) = i + 1 + j by omega]
        exact this
    · rw [if_neg e] at h
      cases h
theorem badAt_lt {f : Nat → D → Bool} : ∀ {ds : List D} {i j : Nat}, badAt f i ds = some j → j < i + ds.length
  | [], _, _, h => nomatch h
  | x :: xs, i, j, h => by
    unfold badAt at h
    by_cases e : f i x = true
    · rw [if_pos e] at h
      have := badAt_lt h
      rw [List.length_cons]
      omega
    · rw [if_neg e] at h
      cases h
      rw [List.length_cons]
      omega
theorem badAt_congr {f g : Nat → D → Bool} : ∀ {ds : List D} {i : Nat}, (∀ j d, ds[j]? = some d → f (i + j) d = g (i + j) d) → badAt f i ds = badAt g i ds
  | [], _, _ => rfl
  | x :: xs, i, h => by
    unfold badAt
    have h0 := h 0 x rfl
    rw [Nat.add_zero] at h0
    have h1 : badAt f (i + 1) xs = badAt g (i + 1) xs := badAt_congr fun j d hd => by
      have := h (j + 1) d hd
      rw [show i + (j + 1) = i + 1 + j by omega] at this
      exact this
    rw [h0, h1]
theorem drop_at {α : Type} {ds : List α} {i : Nat} {d : α} (h : ds[i]? = some d) : ds.drop i = d :: ds.drop (i + 1) := by
  obtain ⟨hi, e⟩ := List.getElem?_eq_some_iff.mp h
  rw [← e]
  exact (List.getElem_cons_drop hi).symm
/-- a loop that draws nothing and leaves at the first item that fails -/
theorem for_find {ds : List D} {env : DEnv} {u : Nat} (E : DEnv → Prop) (f : Nat → D → Bool) {S : (Nat → DEnv → Nat → Prop) → Nat → D → DEnv → Nat → Prop} {N : DEnv → Nat → Prop} (h0 : E env)
    (hs : ∀ (Pv : Nat → DEnv → Nat → Prop) i d env', ds[i]? = some d → E env' → (f i d = true → ∀ env2, E env2 → Pv (i + 1) env2 u) → (f i d = false → badAt f 0 ds = some i) → S Pv i d env' u)
    (hN : badAt f 0 ds = none → ∀ env', E env' → N env' u) :
    ∃ Pv : Nat → DEnv → Nat → Prop, Pv 0 env u ∧ (∀ i d env' u', ds[i]? = some d → Pv i env' u' → S Pv i d env' u') ∧ ∀ env' u', Pv ds.length env' u' → N env' u' := by
  refine ⟨fun i env' u' => u' = u ∧ E env' ∧ badAt f 0 ds = badAt f i (ds.drop i), ⟨rfl, h0, by rw [List.drop_zero]⟩, fun i d env' u' hd hp => ?_, fun env' u' hp => ?_⟩
  · obtain ⟨rfl, he, hb⟩ := hp
    rw [drop_at hd, show badAt f i (d :: ds.drop (i + 1)) = (if f i d = true then badAt f (i + 1) (ds.drop (i + 1)) else some i) from rfl] at hb
    refine hs _ i d env' hd he (fun hf env2 he2 => ⟨rfl, he2, ?_⟩) fun hf => ?_
    · rw [if_pos hf] at hb
      exact hb
    · rw [if_neg (by rw [hf]; exact Bool.false_ne_true)] at hb
      exact hb
  · obtain ⟨rfl, he, hb⟩ := hp
    rw [List.drop_length] at hb
    exact hN hb env' he
/-- a loop that draws: each turn at most k -/
theorem for_draw {ds : List D} {env : DEnv} {u : Nat} (E : DEnv → Prop) (k : Nat) {S : (Nat → DEnv → Nat → Prop) → Nat → D → DEnv → Nat → Prop} {N : DEnv → Nat → Prop} (h0 : E env)
    (hs : ∀ (Pv : Nat → DEnv → Nat → Prop) i d env' u', ds[i]? = some d → E env' → u ≤ u' → u' ≤ u + i * k → (∀ env2 u2, E env2 → u' ≤ u2 → u2 ≤ u' + k → Pv (i + 1) env2 u2) → S Pv i d env' u')
    (hN : ∀ env' u', E env' → u ≤ u' → u' ≤ u + ds.length * k → N env' u') :
    ∃ Pv : Nat → DEnv → Nat → Prop, Pv 0 env u ∧ (∀ i d env' u', ds[i]? = some d → Pv i env' u' → S Pv i d env' u') ∧ ∀ env' u', Pv ds.length env' u' → N env' u' := by
  refine ⟨fun i env' u' => E env' ∧ u ≤ u' ∧ u' ≤ u + i * k, ⟨h0, Nat.le_refl _, Nat.le_add_right _ _⟩, fun i d env' u' hd hp => ?_, fun env' u' hp => hN env' u' hp.1 hp.2.1 hp.2.2⟩
  obtain ⟨he, h1, h2⟩ := hp
  refine hs _ i d env' u' hd he h1 h2 fun env2 u2 he2 h3 h4 => ⟨he2, Nat.le_trans h1 h3, ?_⟩
  rw [Nat.add_mul, Nat.one_mul]
  omega
theorem rng_get {lo : Int} {n i : Nat} {d : D} (h : (rng lo n)[i]? = some d) : i < n ∧ d = .int (lo + (i : Nat)) := by
  unfold rng at h
  rw [List.getElem?_map] at h
  obtain ⟨j, e1, e2⟩ := Option.map_eq_some_iff.mp h
  obtain ⟨hl, e⟩ := List.getElem?_eq_some_iff.mp e1
  rw [List.length_range] at hl
  rw [List.getElem_range] at e
  subst e
  exact ⟨hl, e2.symm⟩
theorem bls_map {α : Type} (f : α → Bool) : ∀ ds : List α, blsD (ds.map fun d => .bl (f d)) = some (ds.map f)
  | [] => rfl
  | d :: ds => by
    show (blsD (ds.map fun d => .bl (f d))).map (f d :: ·) = _
    rw [bls_map f ds]
    rfl
theorem ints_map {α : Type} (f : α → Int) : ∀ ds : List α, intsD (ds.map fun d => .int (f d)) = some (ds.map f)
  | [] => rfl
  | d :: ds => by
    show (intsD (ds.map fun d => .int (f d))).map (f d :: ·) = _
    rw [ints_map f ds]
    rfl
theorem all_map {α : Type} (f : α → Bool) (ds : List α) : allD [.lst (ds.map fun d => .bl (f d))] = some (.bl (ds.all f)) := by
  show (blsD (ds.map fun d => .bl (f d))).map (fun bs => D.bl (bs.all id)) = _
  rw [bls_map f ds, Option.map_some, List.all_map]
  rfl
theorem sum_map {α : Type} (f : α → Int) (ds : List α) : sumD [.lst (ds.map fun d => .int (f d))] = some (.int (ds.map f).sum) := by
  show (intsD (ds.map fun d => .int (f d))).map (fun bs => D.int bs.sum) = _
  rw [ints_map f ds, Option.map_some]
theorem at0 {α : Type} {x : α} {xs : List α} : atI (x :: xs) 0 = some x := by
  have h := atI_nat (xs := x :: xs) (j := 0) (v := x) rfl
  exact h
theorem atN {α : Type} {xs : List α} {j : Nat} {x : α} (h : xs[j]? = some x) : atI xs ((j : Nat) : Int) = some x := atI_nat h
theorem eqN (i j : Nat) : decide ((i : Int) = (j : Int)) = decide (i = j) := by
  by_cases e : i = j
  · rw [decide_eq_true e, e]; exact decide_eq_true rfl
  · rw [decide_eq_false e]; exact decide_eq_false (fun h => e (Int.ofNat.inj h))
theorem itT {c : Bool} {p q : Prop} (h : c = true) (hp : p) : if c = true then p else q := by rw [if_pos h]; exact hp
theorem itF {c : Bool} {p q : Prop} (h : c = false) (hq : q) : if c = true then p else q := by rw [if_neg (by rw [h]; exact Bool.false_ne_true)]; exact hq
theorem it2 {c : Bool} {p q : Prop} (hp : c = true → p) (hq : c = false → q) : if c = true then p else q := by
  cases e : c with
  | false => exact itF rfl (hq e)
  | true => exact itT rfl (hp e)
theorem badAt_enum_go (f : Nat → D → Bool) (g : Nat → D → Bool) (h : ∀ i x, g i (.tup [.int (i : Nat), x]) = f i x) : ∀ (xs : List D) (i : Nat), badAt g i ((xs.zipIdx i).map fun p => .tup [.int (p.2 : Nat), p.1]) = badAt f i xs
  | [], _ => rfl
  | x :: xs, i => by
    rw [List.zipIdx_cons, List.map_cons]
    show (if g i (.tup [.int (i : Nat), x]) = true then badAt g (i + 1) _ else some i) = (if f i x = true then badAt f (i + 1) xs else some i)
    rw [h, badAt_enum_go f g h xs (i + 1)]
theorem badAt_enum (f : Nat → D → Bool) (g : Nat → D → Bool) (h : ∀ i x, g i (.tup [.int (i : Nat), x]) = f i x) {xs : List D} : badAt g 0 (enumD xs) = badAt f 0 xs := badAt_enum_go f g h xs 0
theorem seq_cut {m n : DS} {F : DEnds} {env : DEnv} {u : Nat} (h : ∀ N : DEnv → Nat → Prop, (∀ env' u', n F env' u' → N env' u') → m { F with nx := N } env u) : mSeq m n F env u := h _ (fun _ _ x => x)
theorem not_t {b : Bool} (h : (!b) = true) : b = false := by cases b with | false => rfl | true => cases h
theorem not_f {b : Bool} (h : (!b) = false) : b = true := by cases b with | true => rfl | false => cases h
theorem badAt_pt {f g : Nat → D → Bool} : ∀ {xs ys : List D} {i : Nat}, xs.length = ys.length → (∀ j x y, xs[j]? = some x → ys[j]? = some y → f (i + j) x = g (i + j) y) → badAt f i xs = badAt g i ys
  | [], [], _, _, _ => rfl
  | x :: xs, y :: ys, i, hl, h => by
    unfold badAt
    have h0 := h 0 x y rfl rfl
    rw [Nat.add_zero] at h0
    have h1 : badAt f (i + 1) xs = badAt g (i + 1) ys := badAt_pt (Nat.succ.inj hl) fun j d e hd he => by
      have := h (j + 1) d e hd he
      rw [show i + (j + 1) = i + 1 + j by omega] at this
      exact this
    rw [h0, h1]
  | [], _ :: _, _, hl, _ => nomatch hl
  | _ :: _, [], _, hl, _ => nomatch hl
theorem sum_le {f : D → Int} {M : Int} : ∀ {xs : List D}, (∀ d ∈ xs, 0 ≤ f d ∧ f d ≤ M) → 0 ≤ (xs.map f).sum ∧ (xs.map f).sum ≤ xs.length * M
  | [], _ => ⟨Int.le_refl 0, by simp⟩
  | d :: xs, h => by
    obtain ⟨a, b⟩ := sum_le (xs := xs) fun x hx => h x (List.mem_cons_of_mem _ hx)
    obtain ⟨c, e⟩ := h d List.mem_cons_self
    rw [List.map_cons, List.sum_cons, List.length_cons]
    refine ⟨by omega, ?_⟩
    have : ((xs.length + 1 : Nat) : Int) * M = xs.length * M + M := by
      rw [Int.natCast_add, Int.add_mul]
      simp
    omega
theorem mul2 (t : Int) : mulD (.int 2) (.int t) = some (.int (2 * t)) := by
  have h : mulOk 2 t = true := Bool.or_eq_true_iff.mpr (.inl (by decide))
  exact if_pos (e := none) h
theorem pow_10_30 : powD (.int 10) (.int 30) = some (.int 1000000000000000000000000000000) := by
  have h : (0 : Int) ≤ 30 ∧ (30 : Int) ≤ 1000000 ∧ (10 : Int).natAbs < 2 ^ 64 := by decide
  exact (if_pos (e := none) h).trans rfl
theorem str_add {x y : Str} (h : x.length + y.length ≤ sizeLine) : addD (.str x) (.str y) = some (.str (x ++ y)) := if_pos h
theorem wrong_add {i : Int} (h0 : 0 ≤ i) (h1 : i < 10 ^ 60) : addD (.str "wrong ") (.str (toString i)) = some (.str ("wrong " ++ toString i)) := str_add (by
  have a := toString_length_le h0 (k := 60) (by decide) h1
  have b : (PySem.Str.ofString "wrong ").length = 6 := by decide
  have c : sizeLine = 16777216 := by decide
  omega)
theorem wrong_non : addD (.str "wrong ") (.str "None") = some (.str ("wrong " ++ "None")) := str_add (by decide)
section
variable {X : Cx} {c : DC} {k j : Nat} {x f : Str} {C fI : Addr} {ps : List Str} {p pos pos2 : Pos} {e : Expr} {es : List Expr} {ma : DA} {me : DE} {ψ : CtX} {W : WX} {kws : List Keyword}
theorem de_xw (wd : Addr → List Str → List D → DEnv → Nat → Prop) (h : HasX X.prog X.w c.K X.mg X.base c.wl j x ps ψ) (T : TkD c X W) (hr : Room k X.A) (ha : PA X (e :: es) (lA c ma)) (hw : c.wd = wd := by rfl) (hg : Gl X x := by rfl) (hj : j ≤ k := by decide) (hK : c.K = X.K := by rfl) (hdb : (x == ("__debug__" : Str)) = false := by decide)
    (he : starEach (e :: es) X.env = (false, eval e X.env) :: starEach es X.env := by rfl) (hpl : (backTo pos (starEach es X.env)).any (·.1) = false := by rfl) : PE X (.Call (.Name x p) (e :: es) [] pos) (lE c (mCallX ψ wd ma)) := by
  subst hw
  exact de_x h T hr ha hg hj hK hdb he hpl
theorem de_xkw (wd : Addr → List Str → List D → DEnv → Nat → Prop) (h : KwX X.prog X.w c.K X.mg X.base c.wl j x ps ψ) (T : TkD c X W) (hr : Room k X.A) (hkw : PK X kws (lA c ma)) (hw : c.wd = wd := by rfl) (hg : Gl X x := by rfl) (hj : j ≤ k := by decide) (hK : c.K = X.K := by rfl) (hdb : (x == ("__debug__" : Str)) = false := by decide)
    (hall : (backToKw pos (keywordEach kws X.env)).all (·.1.isSome) = true := by rfl) (hks : (backToKw pos (keywordEach kws X.env)).filterMap (·.1) = ps := by rfl)
    (hpl : ((backTo pos (starEach [] X.env)).any (·.1) || (backToKw pos (keywordEach kws X.env)).any (·.1.isNone)) = false := by rfl) : PE X (.Call (.Name x p) [] kws pos) (lE c (mCallX ψ wd ma)) := by
  subst hw
  exact de_xk h T hr hkw hg hj hK hdb hall hks hpl
end
end FL
set_option maxHeartbeats 2000000
namespace FL
open PySem PySem.Spec PyProof.Rows L2
/-- for x in range(n), drawing at most k in each turn -/
theorem forR_draw {n : Nat} {g : DG} {body : DS} {F : DEnds} {env : DEnv} {u : Nat} (E : DEnv → Prop) (k : Nat) (hn : n ≤ 1000000) (h0 : E env)
    (hs : ∀ (N : DEnv → Nat → Prop) (i : Nat) env' u', i < n → E env' → u ≤ u' → u' ≤ u + i * k → (∀ env2 u2, E env2 → u' ≤ u2 → u2 ≤ u' + k → N env2 u2) → g (.int (i : Nat)) env' fun env2 => body { F with nx := N, ct := N, bk := F.nx } env2 u')
    (hN : ∀ env' u', E env' → u ≤ u' → u' ≤ u + n * k → F.nx env' u') : mFor (mR1 (mCons (mC (.int (n : Nat))) mNil)) g body F env u := by
  refine ⟨(n : Nat), rfl, by omega, by omega, ?_⟩
  rw [Int.toNat_natCast]
  refine for_draw E k h0 (fun Pv i d env' u' hd he h1 h2 hP => ?_) (fun env' u' he h1 h2 => hN env' u' he h1 (by rw [rng_len] at h2; exact h2))
  obtain ⟨hi, rfl⟩ := rng_get hd
  rw [Int.zero_add]
  exact hs _ i env' u' hi he h1 h2 hP
theorem ixN_nat {n j : Nat} (h : j < n) : ixN n (j : Int) = some j := by
  unfold ixN
  rw [if_pos (by omega), if_pos (by omega), Int.toNat_natCast]
theorem ixN_last {n : Nat} (h : 1 ≤ n) : ixN n (-1) = some (n - 1) := by
  unfold ixN
  rw [if_neg (by omega), if_pos (by omega)]
  congr 1
  omega
theorem at_last {α : Type} {xs : List α} {x : α} (h : xs[xs.length - 1]? = some x) : atI xs (-1) = some x := by
  have : 1 ≤ xs.length := by
    have := (List.getElem?_eq_some_iff.mp h).1
    omega
  unfold atI
  rw [ixN_last this]
  exact h
/-- a list against the empty one -/
theorem ne_lst0 {k : Nat} {ds : List D} (h : Pls k ds) (hk : k ≤ 60) : neD (.lst ds) (.lst []) = some (!ds.isEmpty) := by
  obtain ⟨ps, e1, l, dp⟩ := h
  have e0 : toPy (.lst ds) = some (.list ps) := by simp only [toPy, e1, Option.map_some]
  have e3 : toPy (.lst []) = some (.list []) := by simp only [toPy, toPys, Option.map_some]
  have s1 : SeqAt.shaped (.list ps) = true := by
    unfold SeqAt.shaped
    rw [show PyData.canLay0 (.list ps) = true from l, decide_eq_true (show PyData.depth (.list ps) ≤ 64 from Nat.le_trans (Nat.succ_le_succ dp) (by omega))]
    rfl
  have s2 : SeqAt.shaped (.list []) = true := by decide
  have h : eqD (.lst ds) (.lst []) = eqP (.lst ds) (.lst []) := by simp only [eqD]
  show (eqD (.lst ds) (.lst [])).map _ = _
  rw [h]
  unfold eqP
  rw [e0, e3]
  show (if SeqAt.shaped (.list ps) = true ∧ SeqAt.shaped (.list []) = true then some (PyData.eqv (.list ps) (.list [])) else none).map _ = _
  rw [if_pos ⟨s1, s2⟩]
  cases ds with
  | nil =>
    simp only [toPys] at e1
    cases e1
    rfl
  | cons d ds =>
    cases ps with
    | nil =>
      simp only [toPys] at e1
      split at e1 <;> cases e1
    | cons q qs => rfl
end FL
set_option maxHeartbeats 2000000
namespace FL
open PySem PySem.Spec PyProof.Rows L2

/-! ### the head's facts, one Bool more -/
def obsF (n : Nat) (fa : List He.Fa) (fn : List He.DefD) (ex : PySem.W.Frag → Bool) (g : Addr → Option Obj) : He.AlD × Bool := (He.obsDG n fa fn g, ex (He.frG g (He.asD g n)))
def hookF (n : Nat) (fa : List He.Fa) (fn : List He.DefD) (ex : PySem.W.Frag → Bool) : PySem.W.Hook where
  α := He.AlD × Bool
  obs := fun s => obsF n fa fn ex s.heap.get?
  val := fun _ => (He.valD fn, true)
  says := fun _ h => ∃ K : PySem.W.Frag, K.In h ∧ He.SaysD fa fn K ∧ ex K = true
  of := fun _ _ e => ⟨_, He.frG_in, congrArg Prod.fst e, congrArg Prod.snd e⟩
  keeps := fun _ _ _ ⟨K, hK, c⟩ k => ⟨K, PySem.W.Frag.In.keeps hK k, c⟩
theorem obsF_eq {n : Nat} {fa : List He.Fa} {fn : List He.DefD} {ex : PySem.W.Frag → Bool} {g : Addr → Option Obj} {s : Shared} (h : ∀ a, g a = s.heap.get? a) : obsF n fa fn ex g = (hookF n fa fn ex).obs s := by
  have e : g = s.heap.get? := funext h
  rw [e] <;> rfl

/-! ### an own error's facts -/
def oexB (K : PySem.W.Frag) (C : Addr) : Bool := match K.lookup C with
  | some ⟨.type "type", _, .cls cd, sl⟩ => (match cd.mro, sl.toList with
    | .ref C' :: bm, [_, _, _, _, some (.builtin n), _] => C' == C && (n == "ValueError.__new__" && (!cd.hasDel && (cd.hasDict && PySem.HandSPX.refsVE bm)))
    | _, _ => false)
  | _ => false
theorem oexB_ok {K : PySem.W.Frag} {C : Addr} (q : oexB K C = true) : ∃ nm q N bs bm sn sub ab col dd k0 k1 k2 k3 k5, K.lookup C = some (excClassObj nm q C N bs bm true sn sub ab col dd k0 k1 k2 k3 k5 "ValueError.__new__") ∧ PySem.HandSPX.refsVE bm = true := by
  unfold oexB at q
  split at q
  · rename_i dd cd sl ho
    split at q
    · rename_i C' bm k0 k1 k2 k3 n k5 hm hs
      simp only [Bool.and_eq_true, beq_iff_eq, Bool.not_eq_true'] at q
      obtain ⟨rfl, rfl, hdel, hd, ht⟩ := q
      obtain ⟨nm, bs, mro, ns, qn, hd', sn, sub, ab, col, del⟩ := cd
      dsimp only at hm hdel hd
      subst hm hdel hd
      have hsl : sl = #[k0, k1, k2, k3, some (.builtin "ValueError.__new__"), k5] := by
        obtain ⟨l⟩ := sl
        simp only at hs
        rw [hs]
      subst hsl
      exact ⟨nm, qn, ns, bs, bm, sn, sub, ab, col, dd, k0, k1, k2, k3, k5, ho, ht⟩
    · cases q
  · cases q
def errB (K : PySem.W.Frag) (x f : Str) : Bool := oexB K (He.ga K x) && (He.eqO (PySem.W.findIn K (.ref (He.ga K x)) "__setattr__") (some (some (.builtin "object.__setattr__"))) && (decide (PySem.W.subIn K (.ref (He.ga K x)) (.type "BaseException") = some true) && (decide (PySem.W.typeIn K (.ref (He.ga K x)) = some (.type "type")) && (PySem.W.keepIn K (.ref (He.ga K x)) &&
  (He.eqO (PySem.W.findIn K (.ref (He.ga K x)) f) (some none) && (He.eqO (PySem.W.findIn K (.ref (He.ga K x)) "__init__") (some (some (.ref (He.ma K (He.ga K x) "__init__")))) && (decide (PySem.W.typeIn K (.ref (He.ma K (He.ga K x) "__init__")) = some (.type "function")) &&
  (He.eqO (PySem.W.findIn K (.ref (He.ga K x)) "__getattribute__") (some (some (.builtin "BaseException.__getattribute__"))) && (He.eqO (PySem.W.findIn K (.ref (He.ga K x)) "__getattr__") (some none) && (PySem.W.hasDictIn K (He.ga K x) && (He.eqO (PySem.W.findIn K (.ref (He.ga K x)) "__class__") (some (some (.builtin "object.__class__"))) &&
  (He.eqO (PySem.W.specialIn K (.builtin "object.__class__") "__get__") (some (some (.builtin "getset_descriptor.__get__"))) && (decide (PySem.W.takesIn K (.builtin "object.__class__") = some true) && (decide (PySem.W.mroIn K (He.ga K x) (.type "object") = some true) && decide (PySem.W.exmOne K (.ref (He.ga K x)) (.ref (He.ga K x)) = some true)))))))))))))))
theorem errT_of {P : Program} {w : World} {K : PySem.W.Frag} {mg : Str → Option Value} {base : Heap} {x f : Str} (g : mg x = some (.ref (He.ga K x))) (h : errB K x f = true) (fn : ErrC K (He.ga K x) f → ∃ fd, FnOk P w K mg base CX0 1 (He.ma K (He.ga K x) "__init__") fd ["self", f] (spIni (He.ga K x) f) ∧ Binds K fd ["self", f] []) :
    ErrT P w K mg base x (He.ga K x) (He.ma K (He.ga K x) "__init__") f := by
  obtain ⟨a1, h⟩ := He.ba h
  obtain ⟨a2, h⟩ := He.ba h
  obtain ⟨a3, h⟩ := He.ba h
  obtain ⟨a4, h⟩ := He.ba h
  obtain ⟨a5, h⟩ := He.ba h
  obtain ⟨a6, h⟩ := He.ba h
  obtain ⟨a7, h⟩ := He.ba h
  obtain ⟨a8, h⟩ := He.ba h
  obtain ⟨a9, h⟩ := He.ba h
  obtain ⟨a10, h⟩ := He.ba h
  obtain ⟨a11, h⟩ := He.ba h
  obtain ⟨a12, h⟩ := He.ba h
  obtain ⟨a13, h⟩ := He.ba h
  obtain ⟨a14, h⟩ := He.ba h
  obtain ⟨a15, a16⟩ := He.ba h
  have ec : ErrC K (He.ga K x) f := ⟨⟨oexB_ok a1, He.eqO_ok a2, of_decide_eq_true a3, of_decide_eq_true a4, a5⟩, He.eqO_ok a6⟩
  exact ⟨g, ec, He.eqO_ok a7, of_decide_eq_true a8, fn ec, ⟨⟨He.eqO_ok a9, He.eqO_ok a10, of_decide_eq_true a3, a11⟩, ⟨He.eqO_ok a9, He.eqO_ok a10, of_decide_eq_true a3, a11, He.eqO_ok a12, He.eqO_ok a13, of_decide_eq_true a14, of_decide_eq_true a15⟩⟩, of_decide_eq_true a16⟩
def kitB2 (K : PySem.W.Frag) (x y : Str) (b : Bool) : Bool := decide (PySem.W.kitOne K (.ref (He.ga K x)) (.ref (He.ga K y)) = some b)
def kitT (K : PySem.W.Frag) (x : Str) (y : String) (b : Bool) : Bool := decide (PySem.W.kitOne K (.ref (He.ga K x)) (.type y) = some b)
def clsAt (s : Stmt) (j : Nat) : Stmt := match s with
  | .ClassDef _ _ _ b _ _ _ _ _ _ _ => b.getD j (.Pass ⟨0, 0, 0, 0⟩)
  | _ => .Pass ⟨0, 0, 0, 0⟩
/-- a raising def by keywords -/
theorem kwX_of {P : Program} {w : World} {K : PySem.W.Frag} {mg : Str → Option Value} {base : Heap} {wl : Nat → HO → Prop} {k : Nat} {x : Str} {st : Stmt} {N ps : List Str} {ψ : CtX} (L : Lk K mg x st) (S : FnScope N ps (defScope st))
    (hb : ∀ (kV doc pm : Value) (an : Option Addr) (cdv ct : Value) (us : List Value), us.length = ps.length → bindArgs (PySem.W.fnOf x x (defArgs st) (defBody st) (defScope st) .none kV doc pm an cdv ct) ⟨[], ps.zip us⟩ = pure (ps.zip us)) (hlen : ∀ ds u R XR, ψ ds u R XR → ds.length = ps.length)
    (h : ∀ (cdv : Value) (A : Around) (outer : List Env) (s : Shared) (H : Hp) (E : XK) (wa : Addr) (B : Hp) (XR : XD), Room k (A.deeper (envOfC x (defScope st) s.heap.objs.size (He.ga K x) cdv)) →
      TkD ⟨K, wa, wl, B, H, B, fun C ns ds _ u => XR C ns ds u⟩ (cxOf (L2.CX P w) P w K mg base N x (defScope st) (He.ga K x) cdv A outer s H E) (fun cls d _ H' => E cls d H') →
      ∃ m, PSs (cxOf (L2.CX P w) P w K mg base N x (defScope st) (He.ga K x) cdv A outer s H E) (defBody st) (lS ⟨K, wa, wl, B, H, B, fun C ns ds _ u => XR C ns ds u⟩ m) ∧ ∀ ds u R, ψ ds u R XR → m (noEnds R) (startD N ds) u) : KwX P w K mg base wl (k + 1) x ps ψ := by
  obtain ⟨fd, F⟩ := L.ex
  refine ⟨⟨fd, fn_okX F S hlen h, fun s us hl => ?_⟩, L.g, F.kp⟩
  obtain ⟨oc, od, dV, kV, doc, pm, an, cdv, ct, osl, rfl, lk, hcd, hD, hK⟩ := F.ex
  rcases hD with ⟨_, rfl⟩ | ⟨e, _⟩
  · exact .of_eq (hb kV doc pm an cdv ct us hl)
  · exact absurd rfl e
theorem lk_of {fa : List He.Fa} {fn : List He.DefD} {K : PySem.W.Frag} {h : Heap} {mg : Str → Option Value} (X : K.In h) (G : h.Ns mainGlobals mg) (c : He.SaysD fa fn K) {x : Str} {st : Stmt} (i j : Nat) (hf : fa[i]? = some (.glo x)) (hd : fn[j]? = some ⟨(x, none), x, x, defArgs st, defBody st, defScope st, [], []⟩) : Lk K mg x st :=
  ⟨c.def_ j hd, He.glo_ok X G (c.fact i hf)⟩
end FL
set_option maxHeartbeats 4000000

namespace FL
open PySem PySem.Spec PyProof.Rows L2
def top (i : Nat) : Stmt := PySem.Challenge.pw_ferryloads_k31_crossings_counted.main.body.getD i (.Pass ⟨0, 0, 0, 0⟩)
local macro_rules | `(tactic| walk_at "fl") => `(tactic| simp only [mRet, mRetN, mNext, mSeq, mIfS, mSet, mDrop, mFor, mOwn, mApp, mPub, mAnd, mOr, mNot, mAndT, mOrT, mNotT, mIf, mVal, mChain, mOp, mTs, mNil, mCons, mTup, mLst, mB, mC, mVar, mNeg, mYes, mLc, mCall, mCallX, mL, mT, mTx, mR1, mR2, mEn, mEnL, mSl, mNoPart, mPart, gN, gT, gC, gZ, mRaise, mTry, hEnds, mOwnE, mPut, mIxO, mLenO, mTupO, mBor, cmpD, noEnds, wipeD, List.getElem?_cons_zero, List.getElem?_cons_succ, Option.some.injEq, Sl.dat.injEq, Sl.own.injEq, D.bl.injEq, D.int.injEq, D.str.injEq, D.tup.injEq, D.lst.injEq, exists_eq_left, exists_eq_left', exists_eq_right, exists_eq_right', exists_and_left, List.set_cons_zero, List.set_cons_succ, Option.map_some, Option.map_none, if_true, Bool.false_eq_true, if_false, List.map_cons, List.map_nil, List.cons_append, List.nil_append, List.cons.injEq, and_true, true_and, List.replicate_succ, List.replicate_zero, List.length_cons, List.length_nil, reduceCtorEq, false_and, and_false, exists_false, not_false_eq_true, Int.toNat_natCast])
section
variable {P : Program} {w : World} {K : PySem.W.Frag} {mg : Str → Option Value} {base : Heap} {wl : Nat → HO → Prop} {C_InvalidPlan f_InvalidPlan C_WrongValue C_WrongName C_NoAnswer : Addr}
abbrev s_is_integer : Stmt := top 8
theorem sc_is_integer : FnScope ["value"] ["value"] (defScope s_is_integer) := ⟨rfl, rfl, rfl, by decide +kernel, rfl, by decide +kernel, by decide +kernel⟩
def intD : D → Bool
  | .int _ => true
  | _ => false
def ct_is_integer : Ct := fun ds u R => ∃ d, ds = [d] ∧ plainTy d ∧ R (.bl (intD d)) u
theorem ok_is_integer (n_bool : mg "bool" = none) (n_int : mg "int" = none) (n_isinstance : mg "isinstance" = none) (L : Lk K mg "is_integer" s_is_integer) : Has P w K mg base wl 1 "is_integer" ["value"] ct_is_integer := by
  have sc := sc_is_integer
  refine has_of L sc (fun _ _ _ _ _ _ us hl => match us, hl with | [_], _ => rfl) (fun ds u R h => ?_) fun cdv A outer s H E wa B hr => ?_
  · obtain ⟨d, rfl, _⟩ := h; rfl
  have hu := hr.units
  refine ⟨_, (ds_one (ds_ret (de_and (de_bi b_isi rfl n_isinstance bo_isinstance (da_cons (de_var 0) (da_cons (de_ty rfl n_int bo_int) da_nil))) (de_one (de_not (de_bi b_isi rfl n_isinstance bo_isinstance (da_cons (de_var 0) (da_cons (de_ty rfl n_bool bo_bool) da_nil)))))))), fun ds u R h => ?_⟩
  obtain ⟨d, rfl, hp, hR⟩ := h
  show mRet _ (noEnds R) [some (.dat d)] u
  walk_at "fl"
  rw [isi_int hp, isi_bool hp]
  walk_at "fl"
  cases d <;> first | exact hR | exact absurd rfl hp
abbrev s_is_within_range : Stmt := top 9
theorem sc_is_within_range : FnScope ["value", "least", "most"] ["value", "least", "most"] (defScope s_is_within_range) := ⟨rfl, rfl, rfl, by decide +kernel, rfl, by decide +kernel, by decide +kernel⟩
def within : D → Int → Int → Bool
  | .int i, lo, hi => decide (lo ≤ i) && decide (i ≤ hi)
  | _, _, _ => false
def ct_is_within_range : Ct := fun ds u R => ∃ d lo hi, ds = [d, .int lo, .int hi] ∧ plainTy d ∧ R (.bl (within d lo hi)) u
theorem ok_is_within_range (h_is_integer : Has P w K mg base wl 1 "is_integer" ["value"] ct_is_integer) (L : Lk K mg "is_within_range" s_is_within_range) : Has P w K mg base wl 2 "is_within_range" ["value", "least", "most"] ct_is_within_range := by
  have sc := sc_is_within_range
  refine has_of L sc (fun _ _ _ _ _ _ us hl => match us, hl with | [_, _, _], _ => rfl) (fun ds u R h => ?_) fun cdv A outer s H E wa B hr => ?_
  · obtain ⟨d, lo, hi, rfl, _⟩ := h; rfl
  have hu := hr.units
  refine ⟨_, (ds_one (ds_ret (de_and (de_c h_is_integer hr (da_cons (de_var 0) da_nil)) (de_one (de_chain o_le o_le (de_var 1) (de_var 0) (de_var 2)))))), fun ds u R h => ?_⟩
  obtain ⟨d, lo, hi, rfl, hp, hR⟩ := h
  show mRet _ (noEnds R) [some (.dat d), some (.dat (.int lo)), some (.dat (.int hi))] u
  walk_at "fl"
  refine ⟨d, rfl, hp, ?_⟩
  cases d <;> first | exact absurd rfl hp | skip
  all_goals first | exact ⟨_, rfl, hR⟩ | skip
  rename_i i
  refine ⟨_, rfl, ?_⟩
  refine itT rfl ?_
  refine ⟨_, rfl, ?_⟩
  by_cases e : lo ≤ i
  · refine itT (decide_eq_true e) ?_
    refine ⟨_, rfl, ?_⟩
    have : within (.int i) lo hi = decide (i ≤ hi) := by
      show (decide (lo ≤ i) && decide (i ≤ hi)) = _
      rw [decide_eq_true e, Bool.true_and]
    rw [this] at hR
    exact hR
  · refine itF (decide_eq_false e) ?_
    have : within (.int i) lo hi = false := by
      show (decide (lo ≤ i) && decide (i ≤ hi)) = _
      rw [decide_eq_false e, Bool.false_and]
    rw [this] at hR
    exact hR
abbrev s_is_load : Stmt := top 11
theorem sc_is_load : FnScope ["value", "many", "number"] ["value", "many"] (defScope s_is_load) := ⟨rfl, rfl, rfl, by decide +kernel, rfl, by decide +kernel, by decide +kernel⟩
def isLoad : D → Int → Bool
  | .tup xs, many => decide ((xs.length : Int) = many) && xs.all fun d => within d 0 (1000000000000000000000000000000)
  | _, _ => false
def ct_is_load : Ct := fun ds u R => ∃ d many, ds = [d, .int many] ∧ Pl 8 d ∧ R (.bl (isLoad d many)) u
theorem ok_is_load (n_all : mg "all" = none) (n_isinstance : mg "isinstance" = none) (n_len : mg "len" = none) (n_tuple : mg "tuple" = none) (k_MOST_THINGS : ∃ t, mg "MOST_THINGS" = some (.int 1000000000000000000000000000000 t)) (h_is_within_range : Has P w K mg base wl 2 "is_within_range" ["value", "least", "most"] ct_is_within_range) (L : Lk K mg "is_load" s_is_load) : Has P w K mg base wl 3 "is_load" ["value", "many"] ct_is_load := by
  have sc := sc_is_load
  refine has_of L sc (fun _ _ _ _ _ _ us hl => match us, hl with | [_, _], _ => rfl) (fun ds u R h => ?_) fun cdv A outer s H E wa B hr => ?_
  · obtain ⟨d, many, rfl, _⟩ := h; rfl
  have hu := hr.units
  refine ⟨_, (ds_one (ds_ret (de_and (de_bi b_isi rfl n_isinstance bo_isinstance (da_cons (de_var 0) (da_cons (de_ty rfl n_tuple bo_tuple) da_nil))) (de_and (de_cmp (o_eq hu) (de_bi b_len rfl n_len bo_len (da_cons (de_var 0) da_nil)) (de_var 1) (nomark _)) (de_one (de_bi (b_all rfl) rfl n_all bo_all (da_cons (de_lc (own := [("number", 2)]) rfl sc.nd (di_t (de_var 0)) (blkOk_by (N := ["value", "many", "number"]) (sc := defScope s_is_load) (by decide +kernel)) (fun _ _ _ _ _ => (dg_name (ws := [2]) (i := 2) sc.nd rfl (by first | exact Or.inl rfl | exact Or.inr rfl))) (fun _ _ _ _ _ => dts_nil) (fun _ _ _ _ _ => (de_c h_is_within_range hr (da_cons (de_var 2) (da_cons de_int (da_cons (de_gint rfl k_MOST_THINGS) da_nil)))))) da_nil))))))), fun ds u R h => ?_⟩
  obtain ⟨d, many, rfl, hp, hR⟩ := h
  show mRet _ (noEnds R) [some (.dat d), some (.dat (.int many)), none] u
  walk_at "fl"
  rw [isi_tup hp.ty]
  walk_at "fl"
  cases d <;> first | exact hR | skip
  rename_i xs
  refine itT rfl ?_
  refine ⟨_, rfl, _, rfl, ?_⟩
  by_cases e : (xs.length : Int) = many
  · refine ⟨_, rfl, ?_⟩
    refine itT (decide_eq_true e) ?_
    refine ⟨xs, rfl, lc_map (fun d => .bl (within d 0 (1000000000000000000000000000000))) (fun Pv i d acc hd hP => ?_) ?_⟩
    · exact ⟨d, 0, 1000000000000000000000000000000, rfl, (hp.tup_inv.mem d (List.mem_of_getElem? hd)).ty, hP⟩
    · refine ⟨_, all_map _ _, ?_⟩
      have : isLoad (.tup xs) many = xs.all fun d => within d 0 (1000000000000000000000000000000) := by
        show (decide ((xs.length : Int) = many) && _) = _
        rw [decide_eq_true e, Bool.true_and]
      rw [this] at hR
      exact hR
  · refine ⟨_, rfl, ?_⟩
    refine itF (decide_eq_false e) ?_
    have : isLoad (.tup xs) many = false := by
      show (decide ((xs.length : Int) = many) && _) = _
      rw [decide_eq_false e, Bool.false_and]
    rw [this] at hR
    exact hR
abbrev s_is_block : Stmt := top 12
theorem sc_is_block : FnScope ["value", "many", "is_last"] ["value", "many", "is_last"] (defScope s_is_block) := ⟨rfl, rfl, rfl, by decide +kernel, rfl, by decide +kernel, by decide +kernel⟩
def isBlk (a b c : D) (many : Int) (last : Bool) : Bool := isLoad a many && (if isNonD b = true then last && within c 1 1 else isLoad b many && within c 1 (1000000000000000000000000000000))
def isBlock : D → Int → Bool → Bool
  | .tup [a, b, c], many, last => isBlk a b c many last
  | _, _, _ => false
def ct_is_block : Ct := fun ds u R => ∃ d many last, ds = [d, .int many, .bl last] ∧ Pl 8 d ∧ R (.bl (isBlock d many last)) u
theorem is_non (d : D) : isN d .non = some (isNonD d) := by cases d <;> rfl
theorem not_non (d : D) : notN d .non = some (!isNonD d) := by cases d <;> rfl
theorem three {xs : List D} (h : xs.length = 3) : ∃ a b c, xs = [a, b, c] := match xs, h with
  | [a, b, c], _ => ⟨a, b, c, rfl⟩
theorem ok_is_block (n_isinstance : mg "isinstance" = none) (n_len : mg "len" = none) (n_tuple : mg "tuple" = none) (k_MOST_THINGS : ∃ t, mg "MOST_THINGS" = some (.int 1000000000000000000000000000000 t)) (h_is_load : Has P w K mg base wl 3 "is_load" ["value", "many"] ct_is_load) (h_is_within_range : Has P w K mg base wl 2 "is_within_range" ["value", "least", "most"] ct_is_within_range) (L : Lk K mg "is_block" s_is_block) : Has P w K mg base wl 4 "is_block" ["value", "many", "is_last"] ct_is_block := by
  have sc := sc_is_block
  refine has_of L sc (fun _ _ _ _ _ _ us hl => match us, hl with | [_, _, _], _ => rfl) (fun ds u R h => ?_) fun cdv A outer s H E wa B hr => ?_
  · obtain ⟨d, many, last, rfl, _⟩ := h; rfl
  have hu := hr.units
  refine ⟨_, (ds_cons (ds_if (PW.pt (dw_or (dt_not (dt_val (de_bi b_isi rfl n_isinstance bo_isinstance (da_cons (de_var 0) (da_cons (de_ty rfl n_tuple bo_tuple) da_nil))))) (dw_or (dt_cmp (o_ne hu) (de_bi b_len rfl n_len bo_len (da_cons (de_var 0) da_nil)) de_int (nomark _)) (dw_or1 (dt_not (dt_val (de_c h_is_load hr (da_cons (de_ix (de_var 0) de_int) (da_cons (de_var 1) da_nil)))))))))
      (ds_one (ds_ret de_bl))
      ds_nil)
      (ds_cons (ds_if (dt_cmp o_is (de_ix (de_var 0) de_int) de_non (nomark _))
      (ds_one (ds_ret (de_and (de_var 2) (de_one (de_c h_is_within_range hr (da_cons (de_ix (de_var 0) de_int) (da_cons de_int (da_cons de_int da_nil))))))))
      ds_nil)
      (ds_one (ds_ret (de_and (de_c h_is_load hr (da_cons (de_ix (de_var 0) de_int) (da_cons (de_var 1) da_nil))) (de_one (de_c h_is_within_range hr (da_cons (de_ix (de_var 0) de_int) (da_cons de_int (da_cons (de_gint rfl k_MOST_THINGS) da_nil)))))))))), fun ds u R h => ?_⟩
  obtain ⟨d, many, last, rfl, hp, hR⟩ := h
  show mSeq _ _ (noEnds R) [some (.dat d), some (.dat (.int many)), some (.dat (.bl last))] u
  walk_at "fl"
  rw [isi_tup hp.ty]
  walk_at "fl"
  cases d <;> first | exact hR | skip
  rename_i xs
  refine itF rfl ?_
  refine ⟨_, rfl, _, rfl, ?_⟩
  by_cases e : xs.length = 3
  · obtain ⟨a, b, c, rfl⟩ := three e
    refine itF rfl ?_
    have hq := hp.tup_inv
    have ha : Pl 8 a := hq.mem a (by simp)
    have hb : Pl 8 b := hq.mem b (by simp)
    have hc : Pl 8 c := hq.mem c (by simp)
    refine ⟨a, rfl, a, many, rfl, ha, _, rfl, ?_⟩
    have hR : R (.bl (isBlk a b c many last)) u := hR
    unfold isBlk at hR
    cases ea : isLoad a many with
    | false =>
      rw [ea] at hR
      exact hR
    | true =>
      rw [ea, Bool.true_and] at hR
      refine itF rfl ?_
      refine ⟨b, rfl, _, is_non b, ?_⟩
      by_cases eb : isNonD b = true
      · rw [if_pos eb] at hR ⊢
        cases last with
        | false => exact hR
        | true =>
          refine itT rfl ?_
          exact ⟨c, rfl, c, 1, 1, rfl, hc.ty, hR⟩
      · rw [if_neg eb] at hR ⊢
        refine ⟨b, rfl, b, many, rfl, hb, _, rfl, ?_⟩
        cases eb2 : isLoad b many with
        | false =>
          rw [eb2] at hR
          exact hR
        | true =>
          rw [eb2, Bool.true_and] at hR
          refine itT rfl ?_
          exact ⟨c, rfl, c, 1, 1000000000000000000000000000000, rfl, hc.ty, hR⟩
  · refine itT (show (!decide ((xs.length : Int) = 3)) = true by rw [decide_eq_false (by omega)]; rfl) ?_
    have : isBlock (.tup xs) many last = false := by
      unfold isBlock
      split
      · rename_i h
        cases h
        exact absurd rfl e
      · rfl
    rw [this] at hR
    exact hR
end
end FL
set_option maxHeartbeats 4000000

namespace FL
open PySem PySem.Spec PyProof.Rows L2
local macro_rules | `(tactic| walk_at "fl") => `(tactic| simp only [mRet, mRetN, mNext, mSeq, mIfS, mSet, mDrop, mFor, mOwn, mApp, mPub, mAnd, mOr, mNot, mAndT, mOrT, mNotT, mIf, mVal, mChain, mOp, mTs, mNil, mCons, mTup, mLst, mB, mC, mVar, mNeg, mYes, mLc, mCall, mCallX, mL, mT, mTx, mR1, mR2, mEn, mEnL, mSl, mNoPart, mPart, gN, gT, gC, gZ, mRaise, mTry, hEnds, mOwnE, mPut, mIxO, mLenO, mTupO, mBor, cmpD, noEnds, wipeD, List.getElem?_cons_zero, List.getElem?_cons_succ, Option.some.injEq, Sl.dat.injEq, Sl.own.injEq, D.bl.injEq, D.int.injEq, D.str.injEq, D.tup.injEq, D.lst.injEq, exists_eq_left, exists_eq_left', exists_eq_right, exists_eq_right', exists_and_left, List.set_cons_zero, List.set_cons_succ, Option.map_some, Option.map_none, if_true, Bool.false_eq_true, if_false, List.map_cons, List.map_nil, List.cons_append, List.nil_append, List.cons.injEq, and_true, true_and, List.replicate_succ, List.replicate_zero, List.length_cons, List.length_nil, reduceCtorEq, false_and, and_false, exists_false, not_false_eq_true, Int.toNat_natCast])
section
variable {P : Program} {w : World} {K : PySem.W.Frag} {mg : Str → Option Value} {base : Heap} {wl : Nat → HO → Prop} {C_InvalidPlan f_InvalidPlan C_WrongValue C_WrongName C_NoAnswer : Addr}
abbrev s_wrong_block : Stmt := top 13
theorem sc_wrong_block : FnScope ["blocks", "many", "at", "block"] ["blocks", "many"] (defScope s_wrong_block) := ⟨rfl, rfl, rfl, by decide +kernel, rfl, by decide +kernel, by decide +kernel⟩
def blkAt (n : Nat) (many : Int) (i : Nat) (d : D) : Bool := isBlock d many (decide (i + 1 = n))
def wrongBlock (ds : List D) (many : Int) : Option Nat := badAt (blkAt ds.length many) 0 ds
def natD : Option Nat → D
  | some i => .int (i : Nat)
  | none => .non
def ct_wrong_block : Ct := fun ds u R => ∃ xs many, ds = [.tup xs, .int many] ∧ Pls 8 xs ∧ R (natD (wrongBlock xs many)) u
theorem ok_wrong_block (n_enumerate : mg "enumerate" = none) (n_len : mg "len" = none) (h_is_block : Has P w K mg base wl 4 "is_block" ["value", "many", "is_last"] ct_is_block) (L : Lk K mg "wrong_block" s_wrong_block) : Has P w K mg base wl 5 "wrong_block" ["blocks", "many"] ct_wrong_block := by
  have sc := sc_wrong_block
  refine has_of L sc (fun _ _ _ _ _ _ us hl => match us, hl with | [_, _], _ => rfl) (fun ds u R h => ?_) fun cdv A outer s H E wa B hr => ?_
  · obtain ⟨xs, many, rfl, _⟩ := h; rfl
  have hu := hr.units
  refine ⟨_, (ds_cons (ds_for PassesOwn.never rfl (di_enT rfl n_enumerate (da_cons (de_var 0) da_nil)) (dg_tup (ws := [2, 3]) (n := 2) rfl (dgs_cons (dg_name (ws := [2, 3]) (i := 2) sc.nd rfl (by first | exact Or.inl rfl | exact Or.inr rfl)) (dgs_cons (dg_name (ws := [2, 3]) (i := 3) sc.nd rfl (by first | exact Or.inl rfl | exact Or.inr rfl)) dgs_nil)))
      (ds_one (ds_if (dt_not (dt_val (de_c h_is_block hr (da_cons (de_var 3) (da_cons (de_var 1) (da_cons (de_cmp (o_eq hu) (de_var 2) (de_op o_sub (de_bi b_len rfl n_len bo_len (da_cons (de_var 0) da_nil)) de_int) (nomark _)) da_nil))))))
      (ds_one (ds_ret (de_var 2)))
      ds_nil)))
      (ds_one (ds_ret de_non))), fun ds u R h => ?_⟩
  obtain ⟨xs, many, rfl, hp, hR⟩ := h
  show mSeq _ _ (noEnds R) [some (.dat (.tup xs)), some (.dat (.int many)), none, none] u
  walk_at "fl"
  have hb : badAt (fun i d => blkAt xs.length many i ((match d with | .tup [_, x] => x | _ => d))) 0 (enumD xs) = wrongBlock xs many := by
    exact badAt_enum _ _ (fun i x => rfl)
  refine for_find (fun e => ∃ a b, e = [some (.dat (.tup xs)), some (.dat (.int many)), a, b]) (fun i d => blkAt xs.length many i ((match d with | .tup [_, x] => x | _ => d))) ⟨_, _, rfl⟩ (fun Pv i d env' hd he h1 h2 => ?_) (fun hn env' he => ?_)
  · obtain ⟨x, hx, rfl⟩ := enumD_get hd
    obtain ⟨a, b, rfl⟩ := he
    refine ⟨_, rfl, rfl, _, _, rfl, _, _, rfl, rfl, ?_⟩
    walk_at "fl"
    have e1 : decide ((i : Int) = (xs.length : Int) - 1) = decide (i + 1 = xs.length) := decide_eq_decide.mpr (by omega)
    refine ⟨_, rfl, _, rfl, _, rfl, x, many, decide (i + 1 = xs.length), by rw [← e1], hp.mem x (List.mem_of_getElem? hx), _, rfl, it2 (fun e => ?_) (fun e => ?_)⟩
    · have := h2 (not_t e)
      rw [hb] at this
      rw [this] at hR
      exact hR
    · exact h1 (not_f e) _ ⟨_, _, rfl⟩
  · obtain ⟨a, b, rfl⟩ := he
    rw [hb] at hn
    rw [hn] at hR
    exact hR
abbrev s_kinds_in : Stmt := top 14
theorem sc_kinds_in : FnScope ["blocks", "first", "load"] ["blocks"] (defScope s_kinds_in) := ⟨rfl, rfl, rfl, by decide +kernel, rfl, by decide +kernel, by decide +kernel⟩
def loadOf : D → D
  | .tup [a, _, _] => a
  | _ => .tup []
def kindsOf : D → Int
  | .tup ls => if (ls.length : Int) ≤ 4 then (ls.length : Int) else 0
  | _ => 0
def kindsIn : List D → Int
  | d :: _ => kindsOf (loadOf d)
  | [] => 0
def ct_kinds_in : Ct := fun ds u R => ∃ xs, ds = [.tup xs] ∧ Pls 8 xs ∧ R (.int (kindsIn xs)) u
theorem loadOf_not {xs : List D} (h : xs.length ≠ 3) : loadOf (.tup xs) = .tup [] := by
  unfold loadOf
  split
  · rename_i e
    cases e
    exact absurd rfl h
  · rfl
theorem ok_kinds_in (n_isinstance : mg "isinstance" = none) (n_len : mg "len" = none) (n_tuple : mg "tuple" = none) (k_MOST_KINDS : ∃ t, mg "MOST_KINDS" = some (.int 4 t)) (L : Lk K mg "kinds_in" s_kinds_in) : Has P w K mg base wl 1 "kinds_in" ["blocks"] ct_kinds_in := by
  have sc := sc_kinds_in
  refine has_of L sc (fun _ _ _ _ _ _ us hl => match us, hl with | [_], _ => rfl) (fun ds u R h => ?_) fun cdv A outer s H E wa B hr => ?_
  · obtain ⟨xs, rfl, _⟩ := h; rfl
  have hu := hr.units
  refine ⟨_, (ds_cons (ds_set (i := 1) sc.nd rfl (by first | exact Or.inl rfl | exact Or.inr rfl) (de_if (dt_cmp o_gt (de_bi b_len rfl n_len bo_len (da_cons (de_var 0) da_nil)) de_int (nomark _)) (de_ix (de_var 0) de_int) (de_tup da_nil)))
      (ds_cons (ds_set (i := 2) sc.nd rfl (by first | exact Or.inl rfl | exact Or.inr rfl) (de_if (PW.pt (dw_and (dt_val (de_bi b_isi rfl n_isinstance bo_isinstance (da_cons (de_var 1) (da_cons (de_ty rfl n_tuple bo_tuple) da_nil)))) (dw_and1 (dt_cmp (o_eq hu) (de_bi b_len rfl n_len bo_len (da_cons (de_var 1) da_nil)) de_int (nomark _))))) (de_ix (de_var 1) de_int) (de_tup da_nil)))
      (ds_one (ds_ret (de_if (PW.pt (dw_and (dt_val (de_bi b_isi rfl n_isinstance bo_isinstance (da_cons (de_var 2) (da_cons (de_ty rfl n_tuple bo_tuple) da_nil)))) (dw_and1 (dt_cmp o_le (de_bi b_len rfl n_len bo_len (da_cons (de_var 2) da_nil)) (de_gint rfl k_MOST_KINDS) (nomark _))))) (de_bi b_len rfl n_len bo_len (da_cons (de_var 2) da_nil)) de_int))))), fun ds u R h => ?_⟩
  obtain ⟨xs, rfl, hp, hR⟩ := h
  refine seq_cut fun N1 h1 => ?_
  have k1 : ∀ d, Pl 8 d → kindsOf (loadOf d) = kindsIn xs → N1 [some (.dat (.tup xs)), some (.dat d), none] u := by
    intro d hd ed
    refine h1 _ _ (seq_cut fun N2 h2 => ?_)
    have k2 : ∀ z, Pl 8 z → kindsOf z = kindsIn xs → N2 [some (.dat (.tup xs)), some (.dat d), some (.dat z)] u := by
      intro z hz ez
      refine h2 _ _ ?_
      walk_at "fl"
      rw [isi_tup hz.ty]
      walk_at "fl"
      rw [← ez] at hR
      cases z <;> first | exact hR | skip
      rename_i ls
      refine itT rfl ⟨_, rfl, _, rfl, ?_⟩
      by_cases e : (ls.length : Int) ≤ 4
      · refine itT (decide_eq_true e) ⟨_, rfl, ?_⟩
        have : kindsOf (.tup ls) = ls.length := if_pos e
        rw [this] at hR
        exact hR
      · refine itF (decide_eq_false e) ?_
        have : kindsOf (.tup ls) = 0 := if_neg e
        rw [this] at hR
        exact hR
    walk_at "fl"
    rw [isi_tup hd.ty]
    walk_at "fl"
    cases d <;> first | exact ⟨by decide, k2 (.tup []) (.tup .nil) ed⟩ | skip
    rename_i ys
    refine itT rfl ⟨_, rfl, _, rfl, ?_⟩
    by_cases e : ys.length = 3
    · obtain ⟨a, b, c, rfl⟩ := three e
      exact itT rfl ⟨a, rfl, k2 a (hd.tup_inv.mem a (by simp)) ed⟩
    · refine itF (decide_eq_false (by omega)) ⟨by decide, k2 (.tup []) (.tup .nil) ?_⟩
      rw [loadOf_not e] at ed
      exact ed
  show mSet _ _ _ [some (.dat (.tup xs)), none, none] u
  walk_at "fl"
  cases xs with
  | nil => exact ⟨_, rfl, _, rfl, itF rfl ⟨by decide, k1 (.tup []) (.tup .nil) rfl⟩⟩
  | cons d xs => exact ⟨_, rfl, _, rfl, itT (decide_eq_true (by rw [List.length_cons]; omega)) ⟨d, at0, k1 d (hp.mem d (by simp)) rfl⟩⟩
end
end FL
set_option maxHeartbeats 4000000

namespace FL
open PySem PySem.Spec PyProof.Rows L2
local macro_rules | `(tactic| walk_at "fl") => `(tactic| simp only [mRet, mRetN, mNext, mSeq, mIfS, mSet, mDrop, mFor, mOwn, mApp, mPub, mAnd, mOr, mNot, mAndT, mOrT, mNotT, mIf, mVal, mChain, mOp, mTs, mNil, mCons, mTup, mLst, mB, mC, mVar, mNeg, mYes, mLc, mCall, mCallX, mL, mT, mTx, mR1, mR2, mEn, mEnL, mSl, mNoPart, mPart, gN, gT, gC, gZ, mRaise, mTry, hEnds, mOwnE, mPut, mIxO, mLenO, mTupO, mBor, cmpD, noEnds, wipeD, List.getElem?_cons_zero, List.getElem?_cons_succ, Option.some.injEq, Sl.dat.injEq, Sl.own.injEq, D.bl.injEq, D.int.injEq, D.str.injEq, D.tup.injEq, D.lst.injEq, exists_eq_left, exists_eq_left', exists_eq_right, exists_eq_right', exists_and_left, List.set_cons_zero, List.set_cons_succ, Option.map_some, Option.map_none, if_true, Bool.false_eq_true, if_false, List.map_cons, List.map_nil, List.cons_append, List.nil_append, List.cons.injEq, and_true, true_and, List.replicate_succ, List.replicate_zero, List.length_cons, List.length_nil, reduceCtorEq, false_and, and_false, exists_false, not_false_eq_true, Int.toNat_natCast])
section
variable {P : Program} {w : World} {K : PySem.W.Frag} {mg : Str → Option Value} {base : Heap} {wl : Nat → HO → Prop} {C_InvalidPlan f_InvalidPlan C_WrongValue C_WrongName C_NoAnswer : Addr}
abbrev s_check_blocks : Stmt := top 15
theorem sc_check_blocks : FnScope ["blocks", "many", "wrong"] ["blocks"] (defScope s_check_blocks) := ⟨rfl, rfl, rfl, by decide +kernel, rfl, by decide +kernel, by decide +kernel⟩
def wrongOf (xs : List D) : Option Nat := if 0 < kindsIn xs ∨ xs = [] then wrongBlock xs (kindsIn xs) else some 0
def planErr : D → Option D
  | .tup xs => (wrongOf xs).map fun i => .int (i : Nat)
  | _ => some .non
def OkV (d : D) : Prop := plainTy d ∧ ∀ xs, d = .tup xs → Pls 8 xs
def ct_check_blocks (C : Addr) : CtX := fun ds u R XR => ∃ d, ds = [d] ∧ OkV d ∧ (planErr d = none → R .non u) ∧ ∀ e, planErr d = some e → XR C ["index"] [e] u
theorem natD_non (o : Option Nat) : isNonD (natD o) = o.isNone := by cases o <;> rfl
theorem ok_check_blocks (n_isinstance : mg "isinstance" = none) (n_tuple : mg "tuple" = none) (h_kinds_in : Has P w K mg base wl 1 "kinds_in" ["blocks"] ct_kinds_in) (h_wrong_block : Has P w K mg base wl 5 "wrong_block" ["blocks", "many"] ct_wrong_block) (x_InvalidPlan : ErrT P w K mg base "InvalidPlan" C_InvalidPlan f_InvalidPlan "index") (L : Lk K mg "check_blocks" s_check_blocks) : HasX P w K mg base wl 6 "check_blocks" ["blocks"] (ct_check_blocks C_InvalidPlan) := by
  have sc := sc_check_blocks
  refine hasX_of L sc (fun _ _ _ _ _ _ us hl => match us, hl with | [_], _ => rfl) (fun ds u R XR h => ?_) fun cdv A outer s H E wa B XR hr tk => ?_
  · obtain ⟨d, rfl, _⟩ := h; rfl
  have hu := hr.units
  refine ⟨_, (ds_cons (ds_if (dt_not (dt_val (de_bi b_isi rfl n_isinstance bo_isinstance (da_cons (de_var 0) (da_cons (de_ty rfl n_tuple bo_tuple) da_nil)))))
      (ds_one (ds_rz x_InvalidPlan tk hr rfl rfl de_non))
      ds_nil)
      (ds_cons (ds_set (i := 1) sc.nd rfl (by first | exact Or.inl rfl | exact Or.inr rfl) (de_c h_kinds_in hr (da_cons (de_var 0) da_nil)))
      (ds_cons (ds_set (i := 2) sc.nd rfl (by first | exact Or.inl rfl | exact Or.inr rfl) (de_if (PW.pt (dw_or (dt_cmp o_gt (de_var 1) de_int (nomark _)) (dw_or1 (dt_cmp (o_eq hu) (de_var 0) (de_tup da_nil) (nomark _))))) (de_c h_wrong_block hr (da_cons (de_var 0) (da_cons (de_var 1) da_nil))) de_int))
      (ds_one (ds_if (dt_cmp o_isnot (de_var 2) de_non (nomark _))
      (ds_one (ds_rz x_InvalidPlan tk hr rfl rfl (de_var 2)))
      ds_nil))))), fun ds u R h => ?_⟩
  obtain ⟨d, rfl, hp, hR, hX⟩ := h
  show mSeq _ _ (noEnds R) [some (.dat d), none, none] u
  walk_at "fl"
  rw [isi_tup hp.1]
  walk_at "fl"
  cases d <;> first | exact hX _ rfl | skip
  rename_i xs
  have hq := hp.2 xs rfl
  refine itF rfl ⟨xs, rfl, hq, ?_⟩
  have fin : ∀ R' : Bool → Prop, (wrongOf xs = none → R .non u) → (∀ i, wrongOf xs = some i → XR C_InvalidPlan ["index"] [.int (i : Nat)] u) → (∃ z, notN (natD (wrongOf xs)) .non = some z ∧ if z = true then XR C_InvalidPlan ["index"] [natD (wrongOf xs)] u else R .non u) := by
    intro _ a b
    refine ⟨_, not_non _, ?_⟩
    rw [natD_non]
    cases e : wrongOf xs with
    | none => exact itF rfl (a e)
    | some i => exact itT rfl (b i e)
  have fin := fin (fun _ => True) (fun e => hR (by show (wrongOf xs).map _ = none; rw [e]; rfl)) (fun i e => hX _ (by show (wrongOf xs).map _ = some _; rw [e]; rfl))
  refine ⟨_, rfl, it2 (fun e => ?_) (fun e => ⟨by decide, _, eq_tup0 (Pl.tup hq) (by decide), it2 (fun e2 => ?_) (fun e2 => ?_)⟩)⟩
  · have e := of_decide_eq_true e
    have ew : wrongOf xs = wrongBlock xs (kindsIn xs) := if_pos (.inl e)
    rw [ew] at fin
    exact ⟨xs, _, rfl, hq, fin⟩
  · have e2 := List.isEmpty_iff.mp e2
    have ew : wrongOf xs = wrongBlock xs (kindsIn xs) := if_pos (.inr e2)
    rw [ew] at fin
    exact ⟨xs, _, rfl, hq, fin⟩
  · have e := of_decide_eq_false e
    have ew : wrongOf xs = some 0 := if_neg (fun h => h.elim e fun z => by rw [z] at e2; cases e2)
    rw [ew] at fin
    exact fin
abbrev s_crossings : Stmt := top 16
theorem sc_crossings : FnScope ["blocks", "out", "back", "times"] ["blocks"] (defScope s_crossings) := ⟨rfl, rfl, rfl, by decide +kernel, rfl, by decide +kernel, by decide +kernel⟩
def timesD : D → Int
  | .tup [_, b, c] => if isNonD b = true then 1 else match c with | .int t => 2 * t | _ => 0
  | _ => 0
def sumOf (xs : List D) : Int := (xs.map timesD).sum
def crossD : D → Int
  | .tup xs => sumOf xs
  | _ => 0
def ct_crossings (C : Addr) : CtX := fun ds u R XR => ∃ d, ds = [d] ∧ OkV d ∧ (planErr d = none → R (.int (crossD d)) u) ∧ ∀ e, planErr d = some e → XR C ["index"] [e] u
theorem within_int {d : D} {lo hi : Int} (h : within d lo hi = true) : ∃ i, d = .int i ∧ lo ≤ i ∧ i ≤ hi := by
  cases d <;> first | cases h | skip
  rename_i i
  obtain ⟨a, b⟩ := Bool.and_eq_true_iff.mp h
  exact ⟨i, rfl, of_decide_eq_true a, of_decide_eq_true b⟩
theorem isBlock_form {d : D} {many : Int} {last : Bool} (h : isBlock d many last = true) : ∃ a b t, d = .tup [a, b, .int t] ∧ 1 ≤ t ∧ t ≤ 1000000000000000000000000000000 := by
  unfold isBlock at h
  split at h
  · rename_i a b c
    unfold isBlk at h
    obtain ⟨_, h⟩ := Bool.and_eq_true_iff.mp h
    by_cases e : isNonD b = true
    · rw [if_pos e] at h
      obtain ⟨_, h⟩ := Bool.and_eq_true_iff.mp h
      obtain ⟨i, rfl, h1, h2⟩ := within_int h
      exact ⟨a, b, i, rfl, h1, by omega⟩
    · rw [if_neg e] at h
      obtain ⟨_, h⟩ := Bool.and_eq_true_iff.mp h
      obtain ⟨i, rfl, h1, h2⟩ := within_int h
      exact ⟨a, b, i, rfl, h1, h2⟩
  · cases h
theorem plan_good {xs : List D} (h : wrongOf xs = none) : ∀ d ∈ xs, ∃ a b t, d = .tup [a, b, .int t] ∧ 1 ≤ t ∧ t ≤ 1000000000000000000000000000000 := by
  intro d hd
  unfold wrongOf at h
  by_cases e : 0 < kindsIn xs ∨ xs = []
  · rw [if_pos e] at h
    obtain ⟨i, hi⟩ := List.getElem?_of_mem hd
    exact isBlock_form (badAt_none h i d hi)
  · rw [if_neg e] at h
    cases h
theorem ok_crossings (n_sum : mg "sum" = none) (h_check_blocks : HasX P w K mg base wl 6 "check_blocks" ["blocks"] (ct_check_blocks C_InvalidPlan)) (L : Lk K mg "crossings" s_crossings) : HasX P w K mg base wl 7 "crossings" ["blocks"] (ct_crossings C_InvalidPlan) := by
  have sc := sc_crossings
  refine hasX_of L sc (fun _ _ _ _ _ _ us hl => match us, hl with | [_], _ => rfl) (fun ds u R XR h => ?_) fun cdv A outer s H E wa B XR hr tk => ?_
  · obtain ⟨d, rfl, _⟩ := h; rfl
  have hu := hr.units
  refine ⟨_, (ds_cons (ds_expr (de_x h_check_blocks tk hr (da_cons (de_var 0) da_nil)))
      (ds_one (ds_ret (de_bi (b_sum rfl) rfl n_sum bo_sum (da_cons (de_lc (own := [("out", 1), ("back", 2), ("times", 3)]) rfl sc.nd (di_t (de_var 0)) (blkOk_by (N := ["blocks", "out", "back", "times"]) (sc := defScope s_crossings) (by decide +kernel)) (fun _ _ _ _ _ => (dg_tup (ws := [1, 2, 3]) (n := 3) rfl (dgs_cons (dg_name (ws := [1, 2, 3]) (i := 1) sc.nd rfl (by first | exact Or.inl rfl | exact Or.inr rfl)) (dgs_cons (dg_name (ws := [1, 2, 3]) (i := 2) sc.nd rfl (by first | exact Or.inl rfl | exact Or.inr rfl)) (dgs_cons (dg_name (ws := [1, 2, 3]) (i := 3) sc.nd rfl (by first | exact Or.inl rfl | exact Or.inr rfl)) dgs_nil))))) (fun _ _ _ _ _ => dts_nil) (fun _ _ _ _ _ => (de_if (dt_cmp o_is (de_var 2) de_non (nomark _)) de_int (de_op o_mul de_int (de_var 3))))) da_nil))))), fun ds u R h => ?_⟩
  obtain ⟨d, rfl, hp, hR, hX⟩ := h
  show mSeq _ _ (noEnds R) [some (.dat d), none, none, none] u
  walk_at "fl"
  refine ⟨d, rfl, hp, fun e => ?_, fun e he => hX e he⟩
  replace hR := hR e
  cases d <;> first | cases e | skip
  rename_i xs
  have hg := plan_good (Option.map_eq_none_iff.mp e)
  refine ⟨xs, rfl, lc_map (fun d => .int (timesD d)) (fun Pv i d acc hd hP => ?_) ⟨_, sum_map _ _, hR⟩⟩
  obtain ⟨a, b, t, rfl, _, _⟩ := hg d (List.mem_of_getElem? hd)
  refine ⟨[a, b, .int t], rfl, rfl, ?_⟩
  walk_at "fl"
  refine ⟨_, _, ⟨rfl, rfl⟩, _, _, rfl, _, _, rfl, rfl, _, is_non b, it2 (fun e => ?_) (fun e => ⟨_, mul2 t, ?_⟩)⟩
  · have : timesD (.tup [a, b, .int t]) = 1 := if_pos e
    rw [this] at hP
    exact hP
  · have : timesD (.tup [a, b, .int t]) = 2 * t := if_neg (by rw [e]; exact Bool.false_ne_true)
    rw [this] at hP
    exact hP
theorem okk_crossings (n_sum : mg "sum" = none) (h_check_blocks : HasX P w K mg base wl 6 "check_blocks" ["blocks"] (ct_check_blocks C_InvalidPlan)) (L : Lk K mg "crossings" s_crossings) : KwX P w K mg base wl 7 "crossings" ["blocks"] (ct_crossings C_InvalidPlan) := by
  have sc := sc_crossings
  refine kwX_of L sc (fun _ _ _ _ _ _ us hl => match us, hl with | [_], _ => rfl) (fun ds u R XR h => ?_) fun cdv A outer s H E wa B XR hr tk => ?_
  · obtain ⟨d, rfl, _⟩ := h; rfl
  have hu := hr.units
  refine ⟨_, (ds_cons (ds_expr (de_x h_check_blocks tk hr (da_cons (de_var 0) da_nil)))
      (ds_one (ds_ret (de_bi (b_sum rfl) rfl n_sum bo_sum (da_cons (de_lc (own := [("out", 1), ("back", 2), ("times", 3)]) rfl sc.nd (di_t (de_var 0)) (blkOk_by (N := ["blocks", "out", "back", "times"]) (sc := defScope s_crossings) (by decide +kernel)) (fun _ _ _ _ _ => (dg_tup (ws := [1, 2, 3]) (n := 3) rfl (dgs_cons (dg_name (ws := [1, 2, 3]) (i := 1) sc.nd rfl (by first | exact Or.inl rfl | exact Or.inr rfl)) (dgs_cons (dg_name (ws := [1, 2, 3]) (i := 2) sc.nd rfl (by first | exact Or.inl rfl | exact Or.inr rfl)) (dgs_cons (dg_name (ws := [1, 2, 3]) (i := 3) sc.nd rfl (by first | exact Or.inl rfl | exact Or.inr rfl)) dgs_nil))))) (fun _ _ _ _ _ => dts_nil) (fun _ _ _ _ _ => (de_if (dt_cmp o_is (de_var 2) de_non (nomark _)) de_int (de_op o_mul de_int (de_var 3))))) da_nil))))), fun ds u R h => ?_⟩
  obtain ⟨d, rfl, hp, hR, hX⟩ := h
  show mSeq _ _ (noEnds R) [some (.dat d), none, none, none] u
  walk_at "fl"
  refine ⟨d, rfl, hp, fun e => ?_, fun e he => hX e he⟩
  replace hR := hR e
  cases d <;> first | cases e | skip
  rename_i xs
  have hg := plan_good (Option.map_eq_none_iff.mp e)
  refine ⟨xs, rfl, lc_map (fun d => .int (timesD d)) (fun Pv i d acc hd hP => ?_) ⟨_, sum_map _ _, hR⟩⟩
  obtain ⟨a, b, t, rfl, _, _⟩ := hg d (List.mem_of_getElem? hd)
  refine ⟨[a, b, .int t], rfl, rfl, ?_⟩
  walk_at "fl"
  refine ⟨_, _, ⟨rfl, rfl⟩, _, _, rfl, _, _, rfl, rfl, _, is_non b, it2 (fun e => ?_) (fun e => ⟨_, mul2 t, ?_⟩)⟩
  · have : timesD (.tup [a, b, .int t]) = 1 := if_pos e
    rw [this] at hP
    exact hP
  · have : timesD (.tup [a, b, .int t]) = 2 * t := if_neg (by rw [e]; exact Bool.false_ne_true)
    rw [this] at hP
    exact hP
end
end FL
set_option maxHeartbeats 4000000

namespace FL
open PySem PySem.Spec PyProof.Rows L2
local macro_rules | `(tactic| walk_at "fl") => `(tactic| simp only [mRet, mRetN, mNext, mSeq, mIfS, mSet, mDrop, mFor, mOwn, mApp, mPub, mAnd, mOr, mNot, mAndT, mOrT, mNotT, mIf, mVal, mChain, mOp, mTs, mNil, mCons, mTup, mLst, mB, mC, mVar, mNeg, mYes, mLc, mCall, mCallX, mL, mT, mTx, mR1, mR2, mEn, mEnL, mSl, mNoPart, mPart, gN, gT, gC, gZ, mRaise, mTry, hEnds, mOwnE, mPut, mIxO, mLenO, mTupO, mBor, cmpD, noEnds, wipeD, List.getElem?_cons_zero, List.getElem?_cons_succ, Option.some.injEq, Sl.dat.injEq, Sl.own.injEq, D.bl.injEq, D.int.injEq, D.str.injEq, D.tup.injEq, D.lst.injEq, exists_eq_left, exists_eq_left', exists_eq_right, exists_eq_right', exists_and_left, List.set_cons_zero, List.set_cons_succ, Option.map_some, Option.map_none, if_true, Bool.false_eq_true, if_false, List.map_cons, List.map_nil, List.cons_append, List.nil_append, List.cons.injEq, and_true, true_and, List.replicate_succ, List.replicate_zero, List.length_cons, List.length_nil, reduceCtorEq, false_and, and_false, exists_false, not_false_eq_true, Int.toNat_natCast])
section
variable {P : Program} {w : World} {K : PySem.W.Frag} {mg : Str → Option Value} {base : Heap} {wl : Nat → HO → Prop} {C_InvalidPlan f_InvalidPlan C_WrongValue C_WrongName C_NoAnswer : Addr}
abbrev s__law_count_ok : Stmt := top 20
theorem sc__law_count_ok : FnScope ["_law_value", "_law_least"] ["_law_value", "_law_least"] (defScope s__law_count_ok) := ⟨rfl, rfl, rfl, by decide +kernel, rfl, by decide +kernel, by decide +kernel⟩
def ct__law_count_ok : Ct := fun ds u R => ∃ d lo, ds = [d, .int lo] ∧ plainTy d ∧ R (.bl (within d lo 1000000000000000000000000000000)) u
theorem ok__law_count_ok (n_bool : mg "bool" = none) (n_int : mg "int" = none) (n_isinstance : mg "isinstance" = none) (L : Lk K mg "_law_count_ok" s__law_count_ok) : Has P w K mg base wl 1 "_law_count_ok" ["_law_value", "_law_least"] ct__law_count_ok := by
  have sc := sc__law_count_ok
  refine has_of L sc (fun _ _ _ _ _ _ us hl => match us, hl with | [_, _], _ => rfl) (fun ds u R h => ?_) fun cdv A outer s H E wa B hr => ?_
  · obtain ⟨d, lo, rfl, _⟩ := h; rfl
  have hu := hr.units
  refine ⟨_, (ds_one (ds_ret (de_and (de_bi b_isi rfl n_isinstance bo_isinstance (da_cons (de_var 0) (da_cons (de_ty rfl n_int bo_int) da_nil))) (de_and (de_not (de_bi b_isi rfl n_isinstance bo_isinstance (da_cons (de_var 0) (da_cons (de_ty rfl n_bool bo_bool) da_nil)))) (de_one (de_chain o_le o_le (de_var 1) (de_var 0) (de_op o_pow de_int de_int))))))), fun ds u R h => ?_⟩
  obtain ⟨d, lo, rfl, hp, hR⟩ := h
  show mRet _ (noEnds R) [some (.dat d), some (.dat (.int lo))] u
  walk_at "fl"
  rw [isi_int hp, isi_bool hp]
  walk_at "fl"
  cases d <;> first | exact hR | exact absurd rfl hp | skip
  rename_i i
  refine itT rfl (itT rfl ⟨_, rfl, it2 (fun e => ⟨_, pow_10_30, _, rfl, ?_⟩) (fun e => ?_)⟩)
  · replace e : decide (lo ≤ i) = true := e
    have : within (.int i) lo 1000000000000000000000000000000 = decide (i ≤ 1000000000000000000000000000000) := by
      show (decide (lo ≤ i) && decide (i ≤ 1000000000000000000000000000000)) = _
      rw [e, Bool.true_and]
    rw [this] at hR
    exact hR
  · replace e : decide (lo ≤ i) = false := e
    have : within (.int i) lo 1000000000000000000000000000000 = false := by
      show (decide (lo ≤ i) && decide (i ≤ 1000000000000000000000000000000)) = _
      rw [e, Bool.false_and]
    rw [this] at hR
    exact hR
abbrev s__law_is_block : Stmt := top 21
theorem sc__law_is_block : FnScope ["_law_value", "_law_total", "_law_last", "_law_load", "_law_k"] ["_law_value", "_law_total", "_law_last"] (defScope s__law_is_block) := ⟨rfl, rfl, rfl, by decide +kernel, rfl, by decide +kernel, by decide +kernel⟩
def ct__law_is_block : Ct := fun ds u R => ∃ d many last, ds = [d, .int many, .bl last] ∧ Pl 8 d ∧ R (.bl (isBlock d many last)) u
def isOne : D → Bool
  | .int i => decide (i = 1)
  | _ => false
theorem isBlk_law (a b c : D) (many : Int) (last : Bool) : isBlk a b c many last = (isLoad a many && isLoad (if isNonD b = true then a else b) many && (within c 1 1000000000000000000000000000000 && (!isNonD b || (last && isOne c)))) := by
  unfold isBlk
  cases e : isNonD b with
  | false =>
    rw [if_neg Bool.false_ne_true, if_neg Bool.false_ne_true]
    cases isLoad a many <;> cases isLoad b many <;> cases within c 1 1000000000000000000000000000000 <;> rfl
  | true =>
    rw [if_pos rfl, if_pos rfl]
    have : within c 1 1 = (within c 1 1000000000000000000000000000000 && isOne c) := by
      cases c <;> first | rfl | skip
      rename_i i
      show (decide (1 ≤ i) && decide (i ≤ 1)) = (decide (1 ≤ i) && decide (i ≤ 1000000000000000000000000000000) && decide (i = 1))
      by_cases h : i = 1
      · rw [h]
        rfl
      · rw [decide_eq_false h, Bool.and_false]
        by_cases h1 : 1 ≤ i
        · rw [decide_eq_false (show ¬ i ≤ 1 by omega), Bool.and_false]
        · rw [decide_eq_false h1, Bool.false_and]
    rw [this]
    cases isLoad a many <;> cases within c 1 1000000000000000000000000000000 <;> cases last <;> rfl
theorem bad2 {a l : D} {many : Int} {i : Nat} (h : badAt (fun _ l => isLoad l many) 0 [a, l] = some i) : (isLoad a many && isLoad l many) = false := by
  cases e1 : isLoad a many with
  | false => rfl
  | true =>
    cases e2 : isLoad l many with
    | false => rfl
    | true =>
      replace h : (if isLoad a many = true then (if isLoad l many = true then none else some 1) else some 0) = some i := h
      rw [e1, e2] at h
      cases h
theorem bad2n {a l : D} {many : Int} (h : badAt (fun _ l => isLoad l many) 0 [a, l] = none) : (isLoad a many && isLoad l many) = true := by
  replace h : (if isLoad a many = true then (if isLoad l many = true then none else some 1) else some 0) = none := h
  cases e1 : isLoad a many with
  | false =>
    rw [e1] at h
    cases h
  | true =>
    cases e2 : isLoad l many with
    | false =>
      rw [e1, e2] at h
      cases h
    | true => rfl
theorem ok__law_is_block (n_all : mg "all" = none) (n_isinstance : mg "isinstance" = none) (n_len : mg "len" = none) (n_tuple : mg "tuple" = none) (h__law_count_ok : Has P w K mg base wl 1 "_law_count_ok" ["_law_value", "_law_least"] ct__law_count_ok) (L : Lk K mg "_law_is_block" s__law_is_block) : Has P w K mg base wl 2 "_law_is_block" ["_law_value", "_law_total", "_law_last"] ct__law_is_block := by
  have sc := sc__law_is_block
  refine has_of L sc (fun _ _ _ _ _ _ us hl => match us, hl with | [_, _, _], _ => rfl) (fun ds u R h => ?_) fun cdv A outer s H E wa B hr => ?_
  · obtain ⟨d, many, last, rfl, _⟩ := h; rfl
  have hu := hr.units
  refine ⟨_, (ds_cons (ds_if (PW.pt (dw_or (dt_not (dt_val (de_bi b_isi rfl n_isinstance bo_isinstance (da_cons (de_var 0) (da_cons (de_ty rfl n_tuple bo_tuple) da_nil))))) (dw_or1 (dt_cmp (o_ne hu) (de_bi b_len rfl n_len bo_len (da_cons (de_var 0) da_nil)) de_int (nomark _)))))
      (ds_one (ds_ret de_bl))
      ds_nil)
      (ds_cons (ds_for PassesOwn.never rfl (di_l (de_lst (da_cons (de_ix (de_var 0) de_int) (da_cons (de_if (dt_cmp o_is (de_ix (de_var 0) de_int) de_non (nomark _)) (de_ix (de_var 0) de_int) (de_ix (de_var 0) de_int)) da_nil)))) (dg_name (ws := [3]) (i := 3) sc.nd rfl (by first | exact Or.inl rfl | exact Or.inr rfl))
      (ds_one (ds_if (PW.pt (dw_or (dt_not (dt_val (de_bi b_isi rfl n_isinstance bo_isinstance (da_cons (de_var 3) (da_cons (de_ty rfl n_tuple bo_tuple) da_nil))))) (dw_or (dt_cmp (o_ne hu) (de_bi b_len rfl n_len bo_len (da_cons (de_var 3) da_nil)) (de_var 1) (nomark _)) (dw_or1 (dt_not (dt_val (de_bi (b_all rfl) rfl n_all bo_all (da_cons (de_lc (own := [("_law_k", 4)]) rfl sc.nd (di_t (de_var 3)) (blkOk_by (N := ["_law_value", "_law_total", "_law_last", "_law_load", "_law_k"]) (sc := defScope s__law_is_block) (by decide +kernel)) (fun _ _ _ _ _ => (dg_name (ws := [4]) (i := 4) sc.nd rfl (by first | exact Or.inl rfl | exact Or.inr rfl))) (fun _ _ _ _ _ => dts_nil) (fun _ _ _ _ _ => (de_c h__law_count_ok hr (da_cons (de_var 4) (da_cons de_int da_nil))))) da_nil))))))))
      (ds_one (ds_ret de_bl))
      ds_nil)))
      (ds_one (ds_ret (de_and (de_c h__law_count_ok hr (da_cons (de_ix (de_var 0) de_int) (da_cons de_int da_nil))) (de_one (de_or (de_cmp o_isnot (de_ix (de_var 0) de_int) de_non (nomark _)) (de_one (de_and (de_var 2) (de_one (de_cmp (o_eq hu) (de_ix (de_var 0) de_int) de_int (nomark _)))))))))))), fun ds u R h => ?_⟩
  obtain ⟨d, many, last, rfl, hp, hR⟩ := h
  show mSeq _ _ (noEnds R) [some (.dat d), some (.dat (.int many)), some (.dat (.bl last)), none, none] u
  walk_at "fl"
  rw [isi_tup hp.ty]
  walk_at "fl"
  cases d <;> first | exact hR | skip
  rename_i xs
  refine itF rfl ⟨_, rfl, _, rfl, ?_⟩
  by_cases e : xs.length = 3
  · obtain ⟨a, b, c, rfl⟩ := three e
    clear e
    have hq := hp.tup_inv
    have ha : Pl 8 a := hq.mem a (by simp)
    have hb : Pl 8 b := hq.mem b (by simp)
    have hc : Pl 8 c := hq.mem c (by simp)
    replace hR : R (.bl (isBlk a b c many last)) u := hR
    refine itF rfl ⟨a, rfl, b, rfl, _, is_non b, it2 (fun e => ⟨a, rfl, by decide, ?_⟩) (fun e => ⟨b, rfl, by decide, ?_⟩)⟩
    · have hl : Pl 8 a := ha
      have hk : isBlk a b c many last = (isLoad a many && isLoad a many && (within c 1 1000000000000000000000000000000 && (!isNonD b || (last && isOne c)))) := by
        rw [isBlk_law, if_pos e]
      rw [hk] at hR
      refine for_find (fun e => ∃ x, e = [some (.dat (.tup [a, b, c])), some (.dat (.int many)), some (.dat (.bl last)), x, none]) (fun _ l => isLoad l many) ⟨_, rfl⟩ (fun Pv i l env' hd he h1 h2 => ?_) (fun hn env' he => ?_)
      · obtain ⟨x, rfl⟩ := he
        have hl : Pl 8 l := by
          have := List.mem_of_getElem? hd
          simp only [List.mem_cons, List.not_mem_nil, or_false] at this
          rcases this with rfl | rfl <;> assumption
        have hF : isLoad l many = false → R (.bl false) u := fun z => by
          have := bad2 (h2 z)
          rw [this, Bool.false_and] at hR
          exact hR
        walk_at "fl"
        rw [isi_tup hl.ty]
        walk_at "fl"
        cases l <;> first | exact hF rfl | skip
        rename_i ls
        refine itF rfl ⟨_, rfl, _, rfl, it2 (fun e1 => ?_) (fun e1 => ?_)⟩
        · replace e1 : (!decide ((ls.length : Int) = many)) = true := e1
          refine hF ?_
          show (decide ((ls.length : Int) = many) && _) = _
          rw [not_t e1, Bool.false_and]
        · replace e1 : (!decide ((ls.length : Int) = many)) = false := e1
          refine ⟨ls, rfl, lc_map (fun d => .bl (within d 0 1000000000000000000000000000000)) (fun Pv i d acc hd hP => ?_) ?_⟩
          · exact ⟨d, 0, rfl, (hl.tup_inv.mem d (List.mem_of_getElem? hd)).ty, hP⟩
          · refine ⟨_, all_map _ _, _, rfl, ?_⟩
            have e2 : isLoad (.tup ls) many = ls.all fun d => within d 0 1000000000000000000000000000000 := by
              show (decide ((ls.length : Int) = many) && _) = _
              rw [not_f e1, Bool.true_and]
            refine it2 (fun z => hF (by rw [e2]; exact not_t z)) (fun z => h1 (by rw [e2]; exact not_f z) _ ⟨_, rfl⟩)
      · obtain ⟨x, rfl⟩ := he
        rw [bad2n hn, Bool.true_and] at hR
        walk_at "fl"
        refine ⟨c, rfl, c, 1, rfl, hc.ty, ?_⟩
        cases ec : within c 1 1000000000000000000000000000000 with
        | false =>
          rw [ec, Bool.false_and] at hR
          exact ⟨_, rfl, hR⟩
        | true =>
          rw [ec, Bool.true_and] at hR
          refine ⟨_, rfl, itT rfl ⟨b, rfl, _, by rw [not_non b]; rfl, _, rfl, ?_⟩⟩
          rw [e] at hR ⊢
          refine itF rfl ?_
          replace hR : R (.bl (last && isOne c)) u := hR
          cases last with
          | false => exact hR
          | true =>
            obtain ⟨t, rfl, _, _⟩ := within_int ec
            exact itT rfl ⟨_, rfl, _, rfl, hR⟩
    · have hl : Pl 8 b := hb
      have hk : isBlk a b c many last = (isLoad a many && isLoad b many && (within c 1 1000000000000000000000000000000 && (!isNonD b || (last && isOne c)))) := by
        rw [isBlk_law, if_neg (by rw [e]; exact Bool.false_ne_true)]
      rw [hk] at hR
      refine for_find (fun e => ∃ x, e = [some (.dat (.tup [a, b, c])), some (.dat (.int many)), some (.dat (.bl last)), x, none]) (fun _ l => isLoad l many) ⟨_, rfl⟩ (fun Pv i l env' hd he h1 h2 => ?_) (fun hn env' he => ?_)
      · obtain ⟨x, rfl⟩ := he
        have hl : Pl 8 l := by
          have := List.mem_of_getElem? hd
          simp only [List.mem_cons, List.not_mem_nil, or_false] at this
          rcases this with rfl | rfl <;> assumption
        have hF : isLoad l many = false → R (.bl false) u := fun z => by
          have := bad2 (h2 z)
          rw [this, Bool.false_and] at hR
          exact hR
        walk_at "fl"
        rw [isi_tup hl.ty]
        walk_at "fl"
        cases l <;> first | exact hF rfl | skip
        rename_i ls
        refine itF rfl ⟨_, rfl, _, rfl, it2 (fun e1 => ?_) (fun e1 => ?_)⟩
        · replace e1 : (!decide ((ls.length : Int) = many)) = true := e1
          refine hF ?_
          show (decide ((ls.length : Int) = many) && _) = _
          rw [not_t e1, Bool.false_and]
        · replace e1 : (!decide ((ls.length : Int) = many)) = false := e1
          refine ⟨ls, rfl, lc_map (fun d => .bl (within d 0 1000000000000000000000000000000)) (fun Pv i d acc hd hP => ?_) ?_⟩
          · exact ⟨d, 0, rfl, (hl.tup_inv.mem d (List.mem_of_getElem? hd)).ty, hP⟩
          · refine ⟨_, all_map _ _, _, rfl, ?_⟩
            have e2 : isLoad (.tup ls) many = ls.all fun d => within d 0 1000000000000000000000000000000 := by
              show (decide ((ls.length : Int) = many) && _) = _
              rw [not_f e1, Bool.true_and]
            refine it2 (fun z => hF (by rw [e2]; exact not_t z)) (fun z => h1 (by rw [e2]; exact not_f z) _ ⟨_, rfl⟩)
      · obtain ⟨x, rfl⟩ := he
        rw [bad2n hn, Bool.true_and] at hR
        walk_at "fl"
        refine ⟨c, rfl, c, 1, rfl, hc.ty, ?_⟩
        cases ec : within c 1 1000000000000000000000000000000 with
        | false =>
          rw [ec, Bool.false_and] at hR
          exact ⟨_, rfl, hR⟩
        | true =>
          rw [ec, Bool.true_and] at hR
          refine ⟨_, rfl, itT rfl ⟨b, rfl, _, by rw [not_non b]; rfl, _, rfl, ?_⟩⟩
          rw [e] at hR ⊢
          exact itT rfl hR
  · refine itT (show (!decide ((xs.length : Int) = 3)) = true by rw [decide_eq_false (by omega)]; rfl) ?_
    have : isBlock (.tup xs) many last = false := by
      unfold isBlock
      split
      · rename_i h
        cases h
        exact absurd rfl e
      · rfl
    rw [this] at hR
    exact hR
end
end FL
set_option maxHeartbeats 4000000

namespace FL
open PySem PySem.Spec PyProof.Rows L2
local macro_rules | `(tactic| walk_at "fl") => `(tactic| simp only [mRet, mRetN, mNext, mSeq, mIfS, mSet, mDrop, mFor, mOwn, mApp, mPub, mAnd, mOr, mNot, mAndT, mOrT, mNotT, mIf, mVal, mChain, mOp, mTs, mNil, mCons, mTup, mLst, mB, mC, mVar, mNeg, mYes, mLc, mCall, mCallX, mL, mT, mTx, mR1, mR2, mEn, mEnL, mSl, mNoPart, mPart, gN, gT, gC, gZ, mRaise, mTry, hEnds, mOwnE, mPut, mIxO, mLenO, mTupO, mBor, cmpD, noEnds, wipeD, List.getElem?_cons_zero, List.getElem?_cons_succ, Option.some.injEq, Sl.dat.injEq, Sl.own.injEq, D.bl.injEq, D.int.injEq, D.str.injEq, D.tup.injEq, D.lst.injEq, exists_eq_left, exists_eq_left', exists_eq_right, exists_eq_right', exists_and_left, List.set_cons_zero, List.set_cons_succ, Option.map_some, Option.map_none, if_true, Bool.false_eq_true, if_false, List.map_cons, List.map_nil, List.cons_append, List.nil_append, List.cons.injEq, and_true, true_and, List.replicate_succ, List.replicate_zero, List.length_cons, List.length_nil, reduceCtorEq, false_and, and_false, exists_false, not_false_eq_true, Int.toNat_natCast])
section
variable {P : Program} {w : World} {K : PySem.W.Frag} {mg : Str → Option Value} {base : Heap} {wl : Nat → HO → Prop} {C_InvalidPlan f_InvalidPlan C_WrongValue C_WrongName C_NoAnswer : Addr}
abbrev s__law_told : Stmt := top 22
theorem sc__law_told : FnScope ["_law_value", "_law_named", "_law_found", "e", "_law_own", "_law_plain"] ["_law_value", "_law_named"] (defScope s__law_told) := ⟨rfl, rfl, rfl, by decide +kernel, rfl, by decide +kernel, by decide +kernel⟩
def shE : D → Str
  | .int i => toString i
  | _ => "None"
def toldS (d : D) : Str := match planErr d with
  | none => toString (crossD d)
  | some e => "wrong " ++ shE e
def OkW (d : D) : Prop := OkV d ∧ ∀ xs, d = .tup xs → xs.length ≤ 100
def ct__law_told : Ct := fun ds u R => ∃ d b, ds = [d, .bl b] ∧ OkW d ∧ R (.str (toldS d)) u
theorem sumOf_le {xs : List D} (hl : xs.length ≤ 100) (h : ∀ d ∈ xs, ∃ a b t, d = .tup [a, b, .int t] ∧ 1 ≤ t ∧ t ≤ 1000000000000000000000000000000) : 0 ≤ sumOf xs ∧ sumOf xs < 10 ^ 60 := by
  obtain ⟨a, b⟩ := sum_le (f := timesD) (M := 2000000000000000000000000000000) (xs := xs) fun d hd => by
    obtain ⟨a, b, t, rfl, h1, h2⟩ := h d hd
    show 0 ≤ (if isNonD b = true then 1 else 2 * t) ∧ (if isNonD b = true then 1 else 2 * t) ≤ _
    split <;> omega
  have e : (10 : Int) ^ 60 = 1000000000000000000000000000000000000000000000000000000000000 := by decide
  unfold sumOf
  refine ⟨a, ?_⟩
  rw [e]
  omega
theorem err_show {d e : D} (hw : OkW d) (h : planErr d = some e) : reprD [e] = some (.str (shE e)) ∧ addD (.str "wrong ") (.str (shE e)) = some (.str ("wrong " ++ shE e)) := by
  cases d <;> first | (cases h; exact ⟨repr_non, wrong_non⟩) | skip
  rename_i xs
  obtain ⟨i, e1, e2⟩ := Option.map_eq_some_iff.mp (show (wrongOf xs).map _ = _ from h)
  subst e2
  have hl := hw.2 xs rfl
  have hi : i ≤ 100 := by
    unfold wrongOf at e1
    split at e1
    · have := badAt_lt e1
      omega
    · cases e1
      omega
  have e : (10 : Int) ^ 60 = 1000000000000000000000000000000000000000000000000000000000000 := by decide
  exact ⟨repr_int (by omega) (by omega), wrong_add (by omega) (by omega)⟩
theorem cross_le {d : D} (hw : OkW d) (h : planErr d = none) : 0 ≤ crossD d ∧ crossD d < 10 ^ 60 := by
  cases d <;> first | cases h | skip
  rename_i xs
  exact sumOf_le (hw.2 xs rfl) (plan_good (Option.map_eq_none_iff.mp h))
theorem eq_bl3 : eqD (.lst [.bl true, .bl false, .bl false]) (.lst [.bl true, .bl false, .bl false]) = some true := by
  have e : toPy (.lst [.bl true, .bl false, .bl false]) = some (.list [.bool true, .bool false, .bool false]) := by simp only [toPy, toPys, Option.map_some]
  have h : eqD (.lst [.bl true, .bl false, .bl false]) (.lst [.bl true, .bl false, .bl false]) = eqP (.lst [.bl true, .bl false, .bl false]) (.lst [.bl true, .bl false, .bl false]) := by simp only [eqD]
  rw [h]
  unfold eqP
  rw [e]
  rfl
theorem isE_c {a dd : Addr} {ns : List Str} {es : List D} {C c : Addr} {b : Bool} (h : PySem.W.kitOne K (.ref C) (.ref c) = some b) : isE K C a dd [.exn a dd ns es, .cls c] = some (.bl b) := by
  show (if a = a ∧ dd = dd then (PySem.W.kitOne K (.ref C) (.ref c)).map D.bl else none) = _
  rw [if_pos ⟨rfl, rfl⟩, h]
  rfl
theorem isE_t {a dd : Addr} {ns : List Str} {es : List D} {C : Addr} {c : String} {b : Bool} (h : PySem.W.kitOne K (.ref C) (.type c) = some b) : isE K C a dd [.exn a dd ns es, .ty c] = some (.bl b) := by
  show (if a = a ∧ dd = dd then (PySem.W.kitOne K (.ref C) (.type c)).map D.bl else none) = _
  rw [if_pos ⟨rfl, rfl⟩, h]
  rfl
theorem ok__law_told (n_ArithmeticError : mg "ArithmeticError" = none) (n_LookupError : mg "LookupError" = none) (n_ValueError : mg "ValueError" = none) (n_isinstance : mg "isinstance" = none) (n_repr : mg "repr" = none) (h_crossings : HasX P w K mg base wl 7 "crossings" ["blocks"] (ct_crossings C_InvalidPlan)) (hk_crossings : KwX P w K mg base wl 7 "crossings" ["blocks"] (ct_crossings C_InvalidPlan)) (x_InvalidPlan : ErrT P w K mg base "InvalidPlan" C_InvalidPlan f_InvalidPlan "index") (c_NoAnswer : ClsG K mg "NoAnswer" C_NoAnswer) (c_WrongName : ClsG K mg "WrongName" C_WrongName) (c_WrongValue : ClsG K mg "WrongValue" C_WrongValue) (q1 : PySem.W.kitOne K (.ref C_InvalidPlan) (.ref C_WrongValue) = some true) (q2 : PySem.W.kitOne K (.ref C_InvalidPlan) (.ref C_WrongName) = some false) (q3 : PySem.W.kitOne K (.ref C_InvalidPlan) (.ref C_NoAnswer) = some false) (q4 : PySem.W.kitOne K (.ref C_InvalidPlan) (.type "ValueError") = some true) (q5 : PySem.W.kitOne K (.ref C_InvalidPlan) (.type "LookupError") = some false) (q6 : PySem.W.kitOne K (.ref C_InvalidPlan) (.type "ArithmeticError") = some false) (L : Lk K mg "_law_told" s__law_told) : HasG P w K mg base wl 8 "_law_told" ["_law_value", "_law_named"] ct__law_told := by
  have sc := sc__law_told
  refine hasG_of L sc (fun _ _ _ _ _ _ us hl => match us, hl with | [_, _], _ => rfl) (fun ds u R h => ?_) fun cdv A outer s H E wa B hr hgd => ?_
  · obtain ⟨d, b, rfl, _⟩ := h; rfl
  have hu := hr.units
  refine ⟨_, (ds_cons (ds_try (i := 3) rfl rfl sc.nd rfl rfl ⟨rfl, by decide, Or.inl x_InvalidPlan.g⟩ takes0 x_InvalidPlan.m (fun wd bl W pn xe tk pass => (ds_one (ds_set (i := 2) sc.nd rfl (by first | exact Or.inl rfl | exact Or.inr rfl) (de_bi (b_repr hgd hu) rfl n_repr bo_repr (da_cons (de_if (dt_val (de_var 1)) (de_xkw wd hk_crossings tk hr (dk_cons (de_var 0) dk_nil)) (de_xw wd h_crossings tk hr (da_cons (de_var 0) da_nil))) da_nil)))))
      (fun a oe dd pn hz hv => (ds_cons (ds_set (i := 4) sc.nd rfl (by first | exact Or.inl rfl | exact Or.inr rfl) (de_lst (da_cons (de_bi (b_isE x_InvalidPlan.x.ex hz hv) rfl n_isinstance bo_isinstance (da_cons (de_var 3) (da_cons (de_cls rfl c_WrongValue.g) da_nil))) (da_cons (de_bi (b_isE x_InvalidPlan.x.ex hz hv) rfl n_isinstance bo_isinstance (da_cons (de_var 3) (da_cons (de_cls rfl c_WrongName.g) da_nil))) (da_cons (de_bi (b_isE x_InvalidPlan.x.ex hz hv) rfl n_isinstance bo_isinstance (da_cons (de_var 3) (da_cons (de_cls rfl c_NoAnswer.g) da_nil))) da_nil)))))
      (ds_cons (ds_set (i := 5) sc.nd rfl (by first | exact Or.inl rfl | exact Or.inr rfl) (de_lst (da_cons (de_bi (b_isE x_InvalidPlan.x.ex hz hv) rfl n_isinstance bo_isinstance (da_cons (de_var 3) (da_cons (de_ty rfl n_ValueError bo_ValueError) da_nil))) (da_cons (de_bi (b_isE x_InvalidPlan.x.ex hz hv) rfl n_isinstance bo_isinstance (da_cons (de_var 3) (da_cons (de_ty rfl n_LookupError bo_LookupError) da_nil))) (da_cons (de_bi (b_isE x_InvalidPlan.x.ex hz hv) rfl n_isinstance bo_isinstance (da_cons (de_var 3) (da_cons (de_ty rfl n_ArithmeticError bo_ArithmeticError) da_nil))) da_nil)))))
      (ds_one (ds_set (i := 2) sc.nd rfl (by first | exact Or.inl rfl | exact Or.inr rfl) (de_if (dt_chain (o_eq hu) (o_eq hu) (de_var 4) (de_var 5) (de_lst (da_cons de_bl (da_cons de_bl (da_cons de_bl da_nil))))) (de_op o_add de_str (de_bi (b_repr hgd hu) rfl n_repr bo_repr (da_cons (de_xf x_InvalidPlan.x.xf x_InvalidPlan.e.nof hz hv (de_var 3)) da_nil))) de_str)))))))
      (ds_one (ds_ret (de_var 2)))), fun ds u R h => ?_⟩
  obtain ⟨d, b, rfl, hw, hR⟩ := h
  show mSeq _ _ (noEnds R) [some (.dat d), some (.dat (.bl b)), none, none, none, none] u
  have he : ∀ e, planErr d = some e → R (.str ("wrong " ++ shE e)) u := fun e z => by
    unfold toldS at hR
    rw [z] at hR
    exact hR
  have hn : planErr d = none → R (.str (toString (crossD d))) u := fun z => by
    unfold toldS at hR
    rw [z] at hR
    exact hR
  have fin : ∀ (R1 : D → Nat → Prop) (X1 : XD), (planErr d = none → R1 (.int (crossD d)) u) → (∀ e, planErr d = some e → X1 C_InvalidPlan ["index"] [e] u) → ct_crossings C_InvalidPlan [d] u R1 X1 := fun _ _ a b => ⟨d, rfl, hw.1, a, b⟩
  walk_at "fl"
  refine it2 (fun _ => fin _ _ (fun z => ?_) (fun e z => ?_)) (fun _ => fin _ _ (fun z => ?_) (fun e z => ?_))
  · exact ⟨_, repr_int (cross_le hw z).1 (cross_le hw z).2, hn z⟩
  · refine ⟨rfl, (by intro h; cases h), fun a dd => ⟨_, isE_c q1, _, isE_c q2, _, isE_c q3, by decide, _, isE_t q4, _, isE_t q5, _, isE_t q6, by decide, _, eq_bl3, itT rfl ⟨by decide, _, eq_bl3, itT rfl ⟨_, _, rfl, e, ?_, _, (err_show hw z).1, _, (err_show hw z).2, he e z⟩⟩⟩⟩
    first | rfl | simp
  · exact ⟨_, repr_int (cross_le hw z).1 (cross_le hw z).2, hn z⟩
  · refine ⟨rfl, (by intro h; cases h), fun a dd => ⟨_, isE_c q1, _, isE_c q2, _, isE_c q3, by decide, _, isE_t q4, _, isE_t q5, _, isE_t q6, by decide, _, eq_bl3, itT rfl ⟨by decide, _, eq_bl3, itT rfl ⟨_, _, rfl, e, ?_, _, (err_show hw z).1, _, (err_show hw z).2, he e z⟩⟩⟩⟩
    first | rfl | simp
abbrev s__law_due : Stmt := top 25
theorem sc__law_due : FnScope ["_law_value", "_law_total", "_law_k", "_law_block"] ["_law_value", "_law_total"] (defScope s__law_due) := ⟨rfl, rfl, rfl, by decide +kernel, rfl, by decide +kernel, by decide +kernel⟩
def dueS (xs : List D) (n : Int) : Str := match badAt (blkAt xs.length n) 0 xs with
  | none => toString (sumOf xs)
  | some i => "wrong " ++ toString ((i : Nat) : Int)
def ct__law_due : Ct := fun ds u R => ∃ xs n, ds = [.lst xs, .int n] ∧ Pls 8 xs ∧ xs.length ≤ 100 ∧ R (.str (dueS xs n)) u
theorem ok__law_due (n_len : mg "len" = none) (n_range : mg "range" = none) (n_repr : mg "repr" = none) (n_str : mg "str" = none) (n_sum : mg "sum" = none) (h__law_is_block : Has P w K mg base wl 2 "_law_is_block" ["_law_value", "_law_total", "_law_last"] ct__law_is_block) (L : Lk K mg "_law_due" s__law_due) : HasG P w K mg base wl 3 "_law_due" ["_law_value", "_law_total"] ct__law_due := by
  have sc := sc__law_due
  refine hasG_of L sc (fun _ _ _ _ _ _ us hl => match us, hl with | [_, _], _ => rfl) (fun ds u R h => ?_) fun cdv A outer s H E wa B hr hgd => ?_
  · obtain ⟨xs, n, rfl, _⟩ := h; rfl
  have hu := hr.units
  refine ⟨_, (ds_cons (ds_for PassesOwn.never rfl (di_r1 rfl n_range (da_cons (de_bi b_len rfl n_len bo_len (da_cons (de_var 0) da_nil)) da_nil)) (dg_name (ws := [2]) (i := 2) sc.nd rfl (by first | exact Or.inl rfl | exact Or.inr rfl))
      (ds_one (ds_if (dt_not (dt_val (de_c h__law_is_block hr (da_cons (de_ix (de_var 0) (de_var 2)) (da_cons (de_var 1) (da_cons (de_cmp (o_eq hu) (de_var 2) (de_op o_sub (de_bi b_len rfl n_len bo_len (da_cons (de_var 0) da_nil)) de_int) (nomark _)) da_nil))))))
      (ds_one (ds_ret (de_op o_add de_str (de_bt b_str rfl n_str bo_str (da_cons (de_var 2) da_nil)))))
      ds_nil)))
      (ds_one (ds_ret (de_bi (b_repr hgd hu) rfl n_repr bo_repr (da_cons (de_bi (b_sum rfl) rfl n_sum bo_sum (da_cons (de_lc (own := [("_law_block", 3)]) rfl sc.nd (di_l (de_var 0)) (blkOk_by (N := ["_law_value", "_law_total", "_law_k", "_law_block"]) (sc := defScope s__law_due) (by decide +kernel)) (fun _ _ _ _ _ => (dg_name (ws := [3]) (i := 3) sc.nd rfl (by first | exact Or.inl rfl | exact Or.inr rfl))) (fun _ _ _ _ _ => dts_nil) (fun _ _ _ _ _ => (de_if (dt_cmp o_is (de_ix (de_var 3) de_int) de_non (nomark _)) de_int (de_op o_mul de_int (de_ix (de_var 3) de_int))))) da_nil)) da_nil))))), fun ds u R h => ?_⟩
  obtain ⟨xs, n, rfl, hp, hl, hR⟩ := h
  show mSeq _ _ (noEnds R) [some (.dat (.lst xs)), some (.dat (.int n)), none, none] u
  have e60 : (10 : Int) ^ 60 = 1000000000000000000000000000000000000000000000000000000000000 := by decide
  have hb : badAt (fun i _ => blkAt xs.length n i (xs.getD i .non)) 0 (rng 0 xs.length) = badAt (blkAt xs.length n) 0 xs := by
    refine badAt_pt (rng_len _ _) fun j x y hx hy => ?_
    rw [Nat.zero_add, List.getD_eq_getElem?_getD, hy]
    rfl
  walk_at "fl"
  refine ⟨_, rfl, _, rfl, by omega, by omega, ?_⟩
  rw [show ((xs.length : Nat) : Int).toNat = xs.length from Int.toNat_natCast _]
  refine for_find (fun e => ∃ a, e = [some (.dat (.lst xs)), some (.dat (.int n)), a, none]) (fun i _ => blkAt xs.length n i (xs.getD i .non)) ⟨_, rfl⟩ (fun Pv i d env' hd he h1 h2 => ?_) (fun hn env' he => ?_)
  · obtain ⟨hi, rfl⟩ := rng_get hd
    obtain ⟨a, rfl⟩ := he
    rw [hb] at h2
    rw [Int.zero_add]
    walk_at "fl"
    have hx : xs[i]? = some xs[i] := List.getElem?_eq_getElem hi
    rw [List.getD_eq_getElem?_getD, hx] at h1 h2
    have e1 : decide ((i : Int) = (xs.length : Int) - 1) = decide (i + 1 = xs.length) := decide_eq_decide.mpr (by omega)
    refine ⟨xs[i], atN hx, _, rfl, _, rfl, _, rfl, xs[i], n, decide (i + 1 = xs.length), by rw [← e1], hp.mem _ (List.mem_of_getElem? hx), _, rfl, it2 (fun e => ?_) (fun e => ?_)⟩
    · have := h2 (not_t e)
      unfold dueS at hR
      rw [this] at hR
      exact ⟨_, str_int (by omega) (by omega), _, wrong_add (by omega) (by omega), hR⟩
    · exact h1 (not_f e) _ ⟨_, rfl⟩
  · obtain ⟨a, rfl⟩ := he
    rw [hb] at hn
    unfold dueS at hR
    rw [hn] at hR
    have hg : ∀ d ∈ xs, ∃ a b t, d = .tup [a, b, .int t] ∧ 1 ≤ t ∧ t ≤ 1000000000000000000000000000000 := fun d hd => by
      obtain ⟨i, hi⟩ := List.getElem?_of_mem hd
      exact isBlock_form (badAt_none hn i d hi)
    obtain ⟨s1, s2⟩ := sumOf_le hl hg
    walk_at "fl"
    refine lc_map (fun d => .int (timesD d)) (fun Pv i d acc hd hP => ?_) ?_
    · obtain ⟨a, b, t, rfl, _, _⟩ := hg d (List.mem_of_getElem? hd)
      refine ⟨b, rfl, _, is_non b, it2 (fun e => ?_) (fun e => ⟨.int t, rfl, _, mul2 t, ?_⟩)⟩
      · have : timesD (.tup [a, b, .int t]) = 1 := if_pos e
        rw [this] at hP
        exact hP
      · have : timesD (.tup [a, b, .int t]) = 2 * t := if_neg (by rw [e]; exact Bool.false_ne_true)
        rw [this] at hP
        exact hP
    · exact ⟨_, sum_map _ _, _, repr_int s1 s2, hR⟩
end
end FL
set_option maxHeartbeats 4000000

namespace FL
open PySem PySem.Spec PyProof.Rows L2
local macro_rules | `(tactic| walk_at "fl") => `(tactic| simp only [mRet, mRetN, mNext, mSeq, mIfS, mSet, mDrop, mFor, mOwn, mApp, mPub, mAnd, mOr, mNot, mAndT, mOrT, mNotT, mIf, mVal, mChain, mOp, mTs, mNil, mCons, mTup, mLst, mB, mC, mVar, mNeg, mYes, mLc, mCall, mCallX, mL, mT, mTx, mR1, mR2, mEn, mEnL, mSl, mNoPart, mPart, gN, gT, gC, gZ, mRaise, mTry, hEnds, mOwnE, mPut, mIxO, mLenO, mTupO, mBor, cmpD, noEnds, wipeD, List.getElem?_cons_zero, List.getElem?_cons_succ, Option.some.injEq, Sl.dat.injEq, Sl.own.injEq, D.bl.injEq, D.int.injEq, D.str.injEq, D.tup.injEq, D.lst.injEq, exists_eq_left, exists_eq_left', exists_eq_right, exists_eq_right', exists_and_left, List.set_cons_zero, List.set_cons_succ, Option.map_some, Option.map_none, if_true, Bool.false_eq_true, if_false, List.map_cons, List.map_nil, List.cons_append, List.nil_append, List.cons.injEq, and_true, true_and, List.replicate_succ, List.replicate_zero, List.length_cons, List.length_nil, reduceCtorEq, false_and, and_false, exists_false, not_false_eq_true, Int.toNat_natCast])
section
variable {P : Program} {w : World} {K : PySem.W.Frag} {mg : Str → Option Value} {base : Heap} {wl : Nat → HO → Prop} {C_InvalidPlan f_InvalidPlan C_WrongValue C_WrongName C_NoAnswer : Addr}
abbrev s__law_row : Stmt := top 23
theorem sc__law_row : FnScope ["_law_well_here", "_law_total", "_law_load", "_law_back", "_law_times", "_law_k"] ["_law_well_here", "_law_total"] (defScope s__law_row) := ⟨rfl, rfl, rfl, by decide +kernel, rfl, by decide +kernel, by decide +kernel⟩
def isN0 (y : D) : Prop := ∃ i : Int, y = .int i ∧ 0 ≤ i ∧ i ≤ 1000000000000000000000000000000
def Load (n : Nat) (xs : List D) : Prop := xs.length = n ∧ ∀ x ∈ xs, isN0 x
def IsRow (n : Nat) (d : D) : Prop := ∃ xs ys t, d = .tup [.tup xs, .tup ys, .int t] ∧ Load n xs ∧ Load n ys ∧ 1 ≤ t ∧ t ≤ 1000000000000000000000000000000
def ct__law_row : Ct := fun ds u R => ∃ n : Nat, ds = [.well, .int (n : Nat)] ∧ n ≤ 4 ∧ u + 100 < 1000000 ∧ ∀ d u', IsRow n d → u ≤ u' → u' ≤ u + 24 → R d u'
theorem at_in {xs : List D} {k : Int} (h0 : 0 ≤ k) (h1 : k < xs.length) : ∃ z, z ∈ xs ∧ atI xs k = some z := by
  have hi : k.toNat < xs.length := by omega
  refine ⟨xs[k.toNat], List.getElem_mem hi, ?_⟩
  have h := atI_nat (xs := xs) (j := k.toNat) (v := xs[k.toNat]) (List.getElem?_eq_getElem hi)
  rw [show ((k.toNat : Nat) : Int) = k by omega] at h
  exact h
theorem pick_at {xs : List D} {k n : Int} {R : D → Prop} (h0 : 0 ≤ k) (h1 : k < n) (hn : n = (xs.length : Nat)) (h : ∀ z, z ∈ xs → R z) : ∃ z, ixD (.lst xs) (.int k) = some z ∧ R z := by
  obtain ⟨z, hz, e⟩ := at_in (xs := xs) h0 (by omega)
  exact ⟨z, e, h z hz⟩
theorem dip_at {many : Int} {u : Nat} {R : D → Nat → Prop} (h0 : 0 < many) (h1 : many < 2 ^ 200) (hu : u < 1000000) (h : ∀ k : Int, 0 ≤ k → k < many → R (.int k) (u + 1)) : ct__law_dip [.well, .int many] u R := ⟨many, rfl, h0, h1, hu, h⟩
theorem ok__law_row (n_range : mg "range" = none) (n_tuple : mg "tuple" = none) (h__law_dip : Has P w K mg base wlW 1 "_law_dip" ["_law_well_here", "_law_many"] ct__law_dip) (L : Lk K mg "_law_row" s__law_row) : Has P w K mg base wlW 2 "_law_row" ["_law_well_here", "_law_total"] ct__law_row := by
  have sc := sc__law_row
  refine has_of L sc (fun _ _ _ _ _ _ us hl => match us, hl with | [_, _], _ => rfl) (fun ds u R h => ?_) fun cdv A outer s H E wa B hr => ?_
  · obtain ⟨n, rfl, _⟩ := h; rfl
  have hu := hr.units
  refine ⟨_, (ds_cons (ds_setLc (i := 2) (own := [("_law_k", 5)]) rfl sc.nd rfl rfl (sw_true rfl rfl rfl (by decide +kernel)) (di_r1 rfl n_range (da_cons (de_var 1) da_nil)) (blkOk_by (N := ["_law_well_here", "_law_total", "_law_load", "_law_back", "_law_times", "_law_k"]) (sc := defScope s__law_row) (by decide +kernel)) (fun _ _ _ _ _ => (dg_name (ws := [5]) (i := 5) sc.nd rfl (by first | exact Or.inl rfl | exact Or.inr rfl))) (fun _ _ _ _ _ => dts_nil) (fun _ _ _ _ _ => (de_c h__law_dip hr (da_cons (de_var 0) (da_cons de_int da_nil)))))
      (ds_cons (ds_setLc (i := 3) (own := [("_law_k", 5)]) rfl sc.nd rfl rfl (sw_true rfl rfl rfl (by decide +kernel)) (di_r1 rfl n_range (da_cons (de_var 1) da_nil)) (blkOk_by (N := ["_law_well_here", "_law_total", "_law_load", "_law_back", "_law_times", "_law_k"]) (sc := defScope s__law_row) (by decide +kernel)) (fun _ _ _ _ _ => (dg_name (ws := [5]) (i := 5) sc.nd rfl (by first | exact Or.inl rfl | exact Or.inr rfl))) (fun _ _ _ _ _ => dts_nil) (fun _ _ _ _ _ => (de_ix (de_lst (da_cons (de_c h__law_dip hr (da_cons (de_var 0) (da_cons de_int da_nil))) (da_cons (de_c h__law_dip hr (da_cons (de_var 0) (da_cons (de_op o_add (de_op o_pow de_int de_int) de_int) da_nil))) da_nil))) (de_c h__law_dip hr (da_cons (de_var 0) (da_cons de_int da_nil))))))
      (ds_cons (ds_set (i := 4) sc.nd rfl (by first | exact Or.inl rfl | exact Or.inr rfl) (de_ix (de_lst (da_cons de_int (da_cons (de_op o_add de_int (de_c h__law_dip hr (da_cons (de_var 0) (da_cons de_int da_nil)))) (da_cons (de_op o_sub (de_op o_pow de_int de_int) (de_c h__law_dip hr (da_cons (de_var 0) (da_cons de_int da_nil)))) da_nil)))) (de_c h__law_dip hr (da_cons (de_var 0) (da_cons de_int da_nil)))))
      (ds_one (ds_ret (de_tup (da_cons (de_bt b_tuple rfl n_tuple bo_tuple (da_cons (de_var 2) da_nil)) (da_cons (de_bt b_tuple rfl n_tuple bo_tuple (da_cons (de_var 3) da_nil)) (da_cons (de_var 4) da_nil))))))))), fun ds u R h => ?_⟩
  obtain ⟨n, rfl, hn, hu6, hR⟩ := h
  show mSeq _ _ (noEnds R) [some (.dat .well), some (.dat (.int (n : Nat))), none, none, none, none] u
  walk_at "fl"
  refine ⟨by omega, by omega, ?_⟩
  refine lc_draw isN0 1 (fun Pv i d acc u1 hd h1 h2 hP => ?_) (fun l1 u1 hl1 hm1 h1 h2 => ?_)
  · obtain ⟨hi, rfl⟩ := rng_get hd
    exact dip_at (by decide) (by decide) (by omega) fun k k0 k1 => hP _ _ ⟨k, rfl, k0, by omega⟩ (by omega) (by omega)
  rw [rng_len] at hl1 h2
  refine ⟨by omega, by omega, ?_⟩
  refine lc_draw isN0 3 (fun Pv i d acc u2 hd h3 h4 hP => ?_) (fun l2 u2 hl2 hm2 h3 h4 => ?_)
  · obtain ⟨hi, rfl⟩ := rng_get hd
    refine dip_at (by decide) (by decide) (by omega) fun a a0 a1 => ⟨_, pow_10_30, _, rfl, dip_at (by decide) (by decide) (by omega) fun b b0 b1 => ⟨by decide, dip_at (by decide) (by decide) (by omega) fun c c0 c1 => pick_at c0 c1 rfl fun z hz => hP _ _ ?_ (by omega) (by omega)⟩⟩
    simp only [List.mem_cons, List.not_mem_nil, or_false] at hz
    rcases hz with rfl | rfl
    · exact ⟨a, rfl, a0, by omega⟩
    · exact ⟨b, rfl, b0, by omega⟩
  rw [rng_len] at hl2 h4
  refine dip_at (by decide) (by decide) (by omega) fun a a0 a1 => ⟨_, rfl, _, pow_10_30, dip_at (by decide) (by decide) (by omega) fun b b0 b1 => ⟨_, rfl, by decide, dip_at (by decide) (by decide) (by omega) fun c c0 c1 => pick_at c0 c1 rfl fun z hz => ?_⟩⟩
  have hz : ∃ t, z = .int t ∧ 1 ≤ t ∧ t ≤ 1000000000000000000000000000000 := by
    simp only [List.mem_cons, List.not_mem_nil, or_false] at hz
    rcases hz with rfl | rfl | rfl
    · exact ⟨_, rfl, by omega, by omega⟩
    · exact ⟨_, rfl, by omega, by omega⟩
    · exact ⟨_, rfl, by omega, by omega⟩
  obtain ⟨t, rfl, t1, t2⟩ := hz
  exact ⟨_, rfl, _, rfl, by decide, hR _ _ ⟨l1, l2, t, rfl, ⟨hl1, hm1⟩, ⟨hl2, hm2⟩, t1, t2⟩ (by omega) (by omega)⟩
abbrev s__law_odd : Stmt := top 24
theorem sc__law_odd : FnScope ["_law_well_here", "_law_block", "_law_forms", "_law_times", "_law_number", "_law_at"] ["_law_well_here", "_law_block"] (defScope s__law_odd) := ⟨rfl, rfl, rfl, by decide +kernel, rfl, by decide +kernel, by decide +kernel⟩
def ct__law_odd : Ct := fun ds u R => ∃ xs ys n, ds = [.well, .tup [.tup xs, .tup ys, .int 1]] ∧ Load n xs ∧ Load n ys ∧ 1 ≤ n ∧ n ≤ 4 ∧ u + 100 < 1000000 ∧ ∀ d u', Pl 6 d → u ≤ u' → u' ≤ u + 10 → R d u'
theorem Load.pls {n : Nat} {xs : List D} (h : Load n xs) (k : Nat) : Pls k xs := Pls.all fun d hd => by
  obtain ⟨i, rfl, _, _⟩ := h.2 d hd
  exact .int
theorem cut_le {xs : List D} {lo hi : Option Int} {n : Nat} (h : xs.length ≤ n) : (cutL xs lo hi).length ≤ n := by
  unfold cutL
  rw [List.length_take, List.length_drop]
  omega
theorem Pls.cut {xs : List D} {lo hi : Option Int} {k : Nat} (h : Pls k xs) : Pls k (cutL xs lo hi) := Pls.all fun d hd => h.mem d (List.mem_of_mem_drop (List.mem_of_mem_take hd))
theorem Pls.app {xs ys : List D} {k : Nat} (h : Pls k xs) (h' : Pls k ys) : Pls k (xs ++ ys) := Pls.all fun d hd => by
  rcases List.mem_append.mp hd with q | q
  · exact h.mem d q
  · exact h'.mem d q
theorem tup_add {xs ys : List D} (h : xs.length ≤ 1000) (h' : ys.length ≤ 1000) : addD (.tup xs) (.tup ys) = some (.tup (xs ++ ys)) := if_pos (by have : sizeLine = 16777216 := by decide
                                                                                                                                                  omega)
theorem lst_add {xs ys : List D} (h : xs.length ≤ 1000) (h' : ys.length ≤ 1000) : addD (.lst xs) (.lst ys) = some (.lst (xs ++ ys)) := if_pos (by have : sizeLine = 16777216 := by decide
                                                                                                                                                  omega)
theorem app_len {xs ys : List D} {n m : Nat} (h : xs.length ≤ n) (h' : ys.length ≤ m) (hk : n + m ≤ 1000) : (xs ++ ys).length ≤ 1000 := by
  rw [List.length_append]
  omega
theorem ok__law_odd (n_len : mg "len" = none) (n_list : mg "list" = none) (h__law_dip : Has P w K mg base wlW 1 "_law_dip" ["_law_well_here", "_law_many"] ct__law_dip) (L : Lk K mg "_law_odd" s__law_odd) : Has P w K mg base wlW 2 "_law_odd" ["_law_well_here", "_law_block"] ct__law_odd := by
  have sc := sc__law_odd
  refine has_of L sc (fun _ _ _ _ _ _ us hl => match us, hl with | [_, _], _ => rfl) (fun ds u R h => ?_) fun cdv A outer s H E wa B hr => ?_
  · obtain ⟨xs, ys, n, rfl, _⟩ := h; rfl
  have hu := hr.units
  refine ⟨_, (ds_cons (ds_set (i := 2) sc.nd rfl (by first | exact Or.inl rfl | exact Or.inr rfl) (de_lst (da_cons de_non (da_cons (de_tup da_nil) (da_cons (de_bt b_list rfl n_list bo_list (da_cons (de_var 1) da_nil)) (da_cons (de_sl (de_var 1) do_none (do_some de_int)) (da_cons (de_op o_add (de_var 1) (de_tup (da_cons de_int da_nil))) (da_cons (de_tup (da_cons (de_ix (de_var 1) de_int) (da_cons de_non (da_cons de_int da_nil)))) (da_cons (de_tup (da_cons de_non (da_cons (de_ix (de_var 1) de_int) (da_cons de_int da_nil)))) (da_cons de_str (da_cons de_int da_nil)))))))))))
      (ds_cons (ds_set (i := 2) sc.nd rfl (by first | exact Or.inl rfl | exact Or.inr rfl) (de_op o_add (de_var 2) (de_lst (da_cons (de_tup (da_cons (de_op o_add (de_ix (de_var 1) de_int) (de_tup (da_cons de_int da_nil))) (da_cons (de_ix (de_var 1) de_int) (da_cons de_int da_nil)))) (da_cons (de_tup (da_cons (de_ix (de_var 1) de_int) (da_cons (de_op o_add (de_ix (de_var 1) de_int) (de_tup (da_cons de_int da_nil))) (da_cons de_int da_nil)))) (da_cons (de_tup (da_cons (de_sl (de_ix (de_var 1) de_int) (do_some de_int) do_none) (da_cons (de_ix (de_var 1) de_int) (da_cons de_int da_nil)))) da_nil))))))
      (ds_cons (ds_set (i := 2) sc.nd rfl (by first | exact Or.inl rfl | exact Or.inr rfl) (de_op o_add (de_var 2) (de_lst (da_cons (de_tup (da_cons (de_bt b_list rfl n_list bo_list (da_cons (de_ix (de_var 1) de_int) da_nil)) (da_cons (de_ix (de_var 1) de_int) (da_cons de_int da_nil)))) (da_cons (de_tup (da_cons (de_ix (de_var 1) de_int) (da_cons (de_bt b_list rfl n_list bo_list (da_cons (de_ix (de_var 1) de_int) da_nil)) (da_cons de_int da_nil)))) (da_cons (de_tup (da_cons (de_ix (de_var 1) de_int) (da_cons (de_ix (de_var 1) de_int) (da_cons de_bl da_nil)))) da_nil))))))
      (ds_cons (ds_set (i := 3) sc.nd rfl (by first | exact Or.inl rfl | exact Or.inr rfl) (de_ix (de_lst (da_cons de_int (da_cons (de_neg de_int) (da_cons (de_op o_add (de_op o_pow de_int de_int) de_int) (da_cons de_non (da_cons de_str da_nil)))))) (de_c h__law_dip hr (da_cons (de_var 0) (da_cons de_int da_nil)))))
      (ds_cons (ds_set (i := 4) sc.nd rfl (by first | exact Or.inl rfl | exact Or.inr rfl) (de_ix (de_lst (da_cons (de_neg de_int) (da_cons de_bl (da_cons de_non (da_cons de_str (da_cons (de_op o_add (de_op o_pow de_int de_int) de_int) da_nil)))))) (de_c h__law_dip hr (da_cons (de_var 0) (da_cons de_int da_nil)))))
      (ds_cons (ds_set (i := 5) sc.nd rfl (by first | exact Or.inl rfl | exact Or.inr rfl) (de_c h__law_dip hr (da_cons (de_var 0) (da_cons (de_bi b_len rfl n_len bo_len (da_cons (de_ix (de_var 1) de_int) da_nil)) da_nil))))
      (ds_cons (ds_set (i := 2) sc.nd rfl (by first | exact Or.inl rfl | exact Or.inr rfl) (de_op o_add (de_var 2) (de_lst (da_cons (de_tup (da_cons (de_ix (de_var 1) de_int) (da_cons (de_ix (de_var 1) de_int) (da_cons (de_var 3) da_nil)))) (da_cons (de_tup (da_cons (de_op o_add (de_op o_add (de_sl (de_ix (de_var 1) de_int) do_none (do_some (de_var 5))) (de_tup (da_cons (de_var 4) da_nil))) (de_sl (de_ix (de_var 1) de_int) (do_some (de_op o_add (de_var 5) de_int)) do_none)) (da_cons (de_ix (de_var 1) de_int) (da_cons de_int da_nil)))) da_nil)))))
      (ds_cons (ds_set (i := 2) sc.nd rfl (by first | exact Or.inl rfl | exact Or.inr rfl) (de_op o_add (de_var 2) (de_lst (da_cons (de_tup (da_cons (de_ix (de_var 1) de_int) (da_cons (de_op o_add (de_op o_add (de_sl (de_ix (de_var 1) de_int) do_none (do_some (de_var 5))) (de_tup (da_cons (de_var 4) da_nil))) (de_sl (de_ix (de_var 1) de_int) (do_some (de_op o_add (de_var 5) de_int)) do_none)) (da_cons de_int da_nil)))) (da_cons (de_tup (da_cons (de_ix (de_var 1) de_int) (da_cons de_non (da_cons de_bl da_nil)))) da_nil)))))
      (ds_one (ds_ret (de_ix (de_var 2) (de_c h__law_dip hr (da_cons (de_var 0) (da_cons de_int da_nil)))))))))))))), fun ds u R h => ?_⟩
  obtain ⟨xs, ys, n, rfl, hx, hy, hn1, hn4, hu6, hR⟩ := h
  show mSeq _ _ (noEnds R) [some (.dat .well), some (.dat (.tup [.tup xs, .tup ys, .int 1])), none, none, none, none] u
  have lx : xs.length ≤ 4 := by rw [hx.1]; exact hn4
  have ly : ys.length ≤ 4 := by rw [hy.1]; exact hn4
  have lx1 : xs.length ≤ 1000 := by omega
  have ly1 : ys.length ≤ 1000 := by omega
  have px := hx.pls
  have py := hy.pls
  walk_at "fl"
  repeat first | refine ⟨by decide, ?_⟩ | refine ⟨_, pow_10_30, ?_⟩ | refine ⟨_, tup_add (by first | assumption | exact Nat.le_of_ble_eq_true rfl | exact cut_le lx1 | exact cut_le ly1 | exact app_len (cut_le lx) (m := 1) (Nat.le_refl _) (by decide) | exact app_len (cut_le ly) (m := 1) (Nat.le_refl _) (by decide)) (by first | assumption | exact Nat.le_of_ble_eq_true rfl | exact cut_le lx1 | exact cut_le ly1), ?_⟩ | refine ⟨_, rfl, ?_⟩
  refine ⟨by omega, fun k k0 k1 => pick_at k0 k1 rfl fun z1 hz1 => ?_⟩
  have pz1 : ∀ k, Pl k z1 := fun k => Pls.mem (by repeat first | exact px _ | exact py _ | assumption | exact .nil | exact .non | exact .int | exact .bl | exact .str (by decide +kernel) | refine Pls.app ?_ ?_ | refine Pls.cut ?_ | refine Pls.cons ?_ ?_ | refine Pl.tup ?_ | refine Pl.lst ?_) z1 hz1
  repeat first | refine ⟨by decide, ?_⟩ | refine ⟨_, pow_10_30, ?_⟩ | refine ⟨_, tup_add (by first | assumption | exact Nat.le_of_ble_eq_true rfl | exact cut_le lx1 | exact cut_le ly1 | exact app_len (cut_le lx) (m := 1) (Nat.le_refl _) (by decide) | exact app_len (cut_le ly) (m := 1) (Nat.le_refl _) (by decide)) (by first | assumption | exact Nat.le_of_ble_eq_true rfl | exact cut_le lx1 | exact cut_le ly1), ?_⟩ | refine ⟨_, rfl, ?_⟩
  refine ⟨by omega, fun k k0 k1 => pick_at k0 k1 rfl fun z2 hz2 => ?_⟩
  have pz2 : ∀ k, Pl k z2 := fun k => Pls.mem (by repeat first | exact px _ | exact py _ | assumption | exact .nil | exact .non | exact .int | exact .bl | exact .str (by decide +kernel) | refine Pls.app ?_ ?_ | refine Pls.cut ?_ | refine Pls.cons ?_ ?_ | refine Pl.tup ?_ | refine Pl.lst ?_) z2 hz2
  repeat first | refine ⟨by decide, ?_⟩ | refine ⟨_, pow_10_30, ?_⟩ | refine ⟨_, tup_add (by first | assumption | exact Nat.le_of_ble_eq_true rfl | exact cut_le lx1 | exact cut_le ly1 | exact app_len (cut_le lx) (m := 1) (Nat.le_refl _) (by decide) | exact app_len (cut_le ly) (m := 1) (Nat.le_refl _) (by decide)) (by first | assumption | exact Nat.le_of_ble_eq_true rfl | exact cut_le lx1 | exact cut_le ly1), ?_⟩ | refine ⟨_, rfl, ?_⟩
  have p200 : (2 : Int) ^ 200 = 1606938044258990275541962092341162602522202993782792835301376 := by decide
  have hx1 := hx.1
  refine ⟨by omega, by omega, by omega, fun j j0 j1 => ?_⟩
  repeat first | refine ⟨by decide, ?_⟩ | refine ⟨_, pow_10_30, ?_⟩ | refine ⟨_, tup_add (by first | assumption | exact Nat.le_of_ble_eq_true rfl | exact cut_le lx1 | exact cut_le ly1 | exact app_len (cut_le lx) (m := 1) (Nat.le_refl _) (by decide) | exact app_len (cut_le ly) (m := 1) (Nat.le_refl _) (by decide)) (by first | assumption | exact Nat.le_of_ble_eq_true rfl | exact cut_le lx1 | exact cut_le ly1), ?_⟩ | refine ⟨_, rfl, ?_⟩
  refine ⟨by omega, fun k k0 k1 => pick_at k0 k1 rfl fun z hz => hR z _ (Pls.mem ?_ z hz) (by omega) (by omega)⟩
  repeat first | exact px _ | exact py _ | assumption | exact pz1 _ | exact pz2 _ | exact .nil | exact .non | exact .int | exact .bl | exact .str (by decide +kernel) | refine Pls.app ?_ ?_ | refine Pls.cut ?_ | refine Pls.cons ?_ ?_ | refine Pl.tup ?_ | refine Pl.lst ?_
end
end FL
set_option maxHeartbeats 4000000

namespace FL
open PySem PySem.Spec PyProof.Rows L2
local macro_rules | `(tactic| walk_at "fl") => `(tactic| simp only [mRet, mRetN, mNext, mSeq, mIfS, mSet, mDrop, mFor, mOwn, mApp, mPub, mAnd, mOr, mNot, mAndT, mOrT, mNotT, mIf, mVal, mChain, mOp, mTs, mNil, mCons, mTup, mLst, mB, mC, mVar, mNeg, mYes, mLc, mCall, mCallX, mL, mT, mTx, mR1, mR2, mEn, mEnL, mSl, mNoPart, mPart, gN, gT, gC, gZ, mRaise, mTry, hEnds, mOwnE, mPut, mIxO, mLenO, mTupO, mBor, cmpD, noEnds, wipeD, List.getElem?_cons_zero, List.getElem?_cons_succ, Option.some.injEq, Sl.dat.injEq, Sl.own.injEq, D.bl.injEq, D.int.injEq, D.str.injEq, D.tup.injEq, D.lst.injEq, exists_eq_left, exists_eq_left', exists_eq_right, exists_eq_right', exists_and_left, List.set_cons_zero, List.set_cons_succ, Option.map_some, Option.map_none, if_true, Bool.false_eq_true, if_false, List.map_cons, List.map_nil, List.cons_append, List.nil_append, List.cons.injEq, and_true, true_and, List.replicate_succ, List.replicate_zero, List.length_cons, List.length_nil, reduceCtorEq, false_and, and_false, exists_false, not_false_eq_true, Int.toNat_natCast])
section
variable {P : Program} {w : World} {K : PySem.W.Frag} {mg : Str → Option Value} {base : Heap} {wl : Nat → HO → Prop} {C_InvalidPlan f_InvalidPlan C_WrongValue C_WrongName C_NoAnswer : Addr}
abbrev s__law_right : Stmt := top 26
theorem sc__law_right : FnScope ["_law_well_here", "_law_turn", "_law_total", "_law_row_here", "_law_at", "_law_other", "_law_long", "_law_first", "_law_k"] ["_law_well_here"] (defScope s__law_right) := ⟨rfl, rfl, rfl, by decide +kernel, rfl, by decide +kernel, by decide +kernel⟩
theorem IsRow.pl {n : Nat} {d : D} (h : IsRow n d) : Pl 6 d := by
  obtain ⟨xs, ys, t, rfl, hx, hy, _, _⟩ := h
  exact .tup (.cons (.tup (hx.pls 4)) (.cons (.tup (hy.pls 4)) (.cons .int .nil)))
/-- the row behind the first change -/
def Row3 (n : Nat) (row : List D) : Prop := row.length ≤ 5 ∧ ∀ i d, row[i]? = some d → IsRow n d ∨ (i + 1 = row.length ∧ ∃ xs, d = .tup [.tup xs, .non, .int 1] ∧ Load n xs)
def Row4 (n : Nat) (row : List D) : Prop := row.length ≤ 5 ∧ Pls 6 row ∧ ∀ d, row[0]? = some d → ∃ xs b c, d = .tup [.tup xs, b, c] ∧ xs.length = n
theorem Row3.load {n : Nat} {row : List D} (h : Row3 n row) {i : Nat} {d : D} (e : row[i]? = some d) : ∃ xs b c, d = .tup [.tup xs, b, c] ∧ Load n xs := by
  rcases h.2 i d e with ⟨xs, ys, t, rfl, hx, _⟩ | ⟨_, xs, rfl, hx⟩
  · exact ⟨xs, _, _, rfl, hx⟩
  · exact ⟨xs, _, _, rfl, hx⟩
theorem Row3.pls {n : Nat} {row : List D} (h : Row3 n row) : Pls 6 row := Pls.all fun d hd => by
  obtain ⟨i, e⟩ := List.getElem?_of_mem hd
  rcases h.2 i d e with hr | ⟨_, xs, rfl, hx⟩
  · exact hr.pl
  · exact .tup (.cons (.tup (hx.pls 4)) (.cons .non (.cons .int .nil)))
theorem Row3.four {n : Nat} {row : List D} (h : Row3 n row) : Row4 n row := ⟨h.1, h.pls, fun d e => by
  obtain ⟨xs, b, c, rfl, hx⟩ := h.load e
  exact ⟨xs, b, c, rfl, hx.1⟩⟩
theorem Row4.put {n : Nat} {row : List D} (h : Row4 n row) {j : Nat} {d : D} (hj : 1 ≤ j) (hd : Pl 6 d) : Row4 n (row.set j d) := by
  refine ⟨by rw [List.length_set]; exact h.1, Pls.all fun x hx => ?_, fun x e => ?_⟩
  · rcases List.mem_or_eq_of_mem_set hx with q | q
    · exact h.2.1.mem x q
    · rw [q]
      exact hd
  · rw [List.getElem?_set_ne (by omega)] at e
    exact h.2.2 x e
theorem Row3.fin {n : Nat} {row xs : List D} (h : Row3 n row) (hx : Load n xs) (hne : 1 ≤ row.length) : Row3 n (row.set (row.length - 1) (.tup [.tup xs, .non, .int 1])) := by
  refine ⟨by rw [List.length_set]; exact h.1, fun i d e => ?_⟩
  by_cases hi : i = row.length - 1
  · rw [hi, List.getElem?_set_self (by omega)] at e
    cases e
    exact .inr ⟨by rw [List.length_set]; omega, xs, rfl, hx⟩
  · rw [List.getElem?_set_ne (Ne.symm hi)] at e
    rcases h.2 i d e with q | ⟨q, _⟩
    · exact .inl q
    · omega
theorem Pls.mono {k j : Nat} {ds : List D} (h : Pls k ds) (hj : k ≤ j) : Pls j ds := Pls.all fun d hd => (h.mem d hd).mono hj
theorem Row4.okw {n : Nat} {row : List D} (h : Row4 n row) : OkW (.tup row) := ⟨⟨(fun z => nomatch z), fun xs e => by cases e; exact h.2.1.mono (by decide)⟩, fun xs e => by cases e; have := h.1; omega⟩
theorem told_due {n : Nat} {row : List D} (h : Row4 n row) (h1 : 1 ≤ n) (h4 : n ≤ 4) : toldS (.tup row) = dueS row (n : Nat) := by
  have hw : wrongOf row = badAt (blkAt row.length (n : Nat)) 0 row := by
    unfold wrongOf
    cases row with
    | nil => rfl
    | cons d row =>
      obtain ⟨xs, b, c, rfl, hx⟩ := h.2.2 d rfl
      have : kindsIn (.tup [.tup xs, b, c] :: row) = (n : Nat) := by
        show (if (xs.length : Int) ≤ 4 then (xs.length : Int) else 0) = _
        rw [hx, if_pos (by omega)]
      rw [this, if_pos (.inl (by omega))]
      rfl
  have hp : planErr (.tup row) = (badAt (blkAt row.length (n : Nat)) 0 row).map fun i => .int (i : Nat) := by
    show (wrongOf row).map _ = _
    rw [hw]
  unfold toldS dueS
  rw [hp]
  cases badAt (blkAt row.length (n : Nat)) 0 row with
  | none => rfl
  | some i => rfl
theorem told_non {d : D} (h : isTup d = false) : toldS d = "wrong None" := by
  have : planErr d = some .non := by cases d <;> first | rfl | cases h
  unfold toldS
  rw [this]
  show ("wrong " ++ "None" : Str) = _
  decide +kernel
theorem told_0 {row : List D} {z : D} (h : kindsOf (loadOf z) = 0 ∨ (kindsOf (loadOf z) = 1 ∧ ∀ l, isBlock z 1 l = false)) : toldS (.tup (z :: row)) = "wrong 0" := by
  have : wrongOf (z :: row) = some 0 := by
    unfold wrongOf
    have e : kindsIn (z :: row) = kindsOf (loadOf z) := rfl
    rw [e]
    rcases h with h | ⟨h, hb⟩
    · rw [h, if_neg (fun q => q.elim (by decide) (fun y => nomatch y))]
    · rw [h, if_pos (.inl (by decide))]
      show (if blkAt _ 1 0 z = true then _ else some 0) = _
      rw [if_neg]
      unfold blkAt
      rw [hb]
      exact Bool.false_ne_true
  unfold toldS
  rw [show planErr (.tup (z :: row)) = some (.int ((0 : Nat) : Int)) from by show (wrongOf (z :: row)).map _ = _; rw [this]; rfl]
  show ("wrong " ++ toString ((0 : Nat) : Int) : Str) = _
  decide +kernel
theorem told_nil : toldS (.tup []) = "0" := by
  show (toString (0 : Int) : Str) = _
  decide +kernel
theorem ok__law_right (n_len : mg "len" = none) (n_range : mg "range" = none) (n_tuple : mg "tuple" = none) (h__law_dip : Has P w K mg base wlW 1 "_law_dip" ["_law_well_here", "_law_many"] ct__law_dip) (h__law_due : HasG P w K mg base wlW 3 "_law_due" ["_law_value", "_law_total"] ct__law_due) (h__law_odd : Has P w K mg base wlW 2 "_law_odd" ["_law_well_here", "_law_block"] ct__law_odd) (h__law_row : Has P w K mg base wlW 2 "_law_row" ["_law_well_here", "_law_total"] ct__law_row) (h__law_told : HasG P w K mg base wlW 8 "_law_told" ["_law_value", "_law_named"] ct__law_told) (L : Lk K mg "_law_right" s__law_right) : HasG P w K mg base wlW 9 "_law_right" ["_law_well_here"] (ctRight) := by
  have sc := sc__law_right
  refine hasG_of L sc (fun _ _ _ _ _ _ us hl => match us, hl with | [_], _ => rfl) (fun ds u R h => ?_) fun cdv A outer s H E wa B hr hgd => ?_
  · obtain ⟨rfl, _⟩ := h; rfl
  have hu := hr.units
  refine ⟨_, (ds_cons (ds_for PassesOwn.never rfl (di_r1 rfl n_range (da_cons de_int da_nil)) (dg_name (ws := [1]) (i := 1) sc.nd rfl (by first | exact Or.inl rfl | exact Or.inr rfl))
      (ds_cons (ds_set (i := 2) sc.nd rfl (by first | exact Or.inl rfl | exact Or.inr rfl) (de_op o_add de_int (de_c h__law_dip hr (da_cons (de_var 0) (da_cons de_int da_nil)))))
      (ds_cons (ds_setLcO (i := 3) (own := [("_law_k", 8)]) rfl sc.nd rfl rfl (sw_true rfl rfl rfl (by decide +kernel)) (di_r1 rfl n_range (da_cons (de_c h__law_dip hr (da_cons (de_var 0) (da_cons de_int da_nil))) da_nil)) (blkOk_by (N := ["_law_well_here", "_law_turn", "_law_total", "_law_row_here", "_law_at", "_law_other", "_law_long", "_law_first", "_law_k"]) (sc := defScope s__law_right) (by decide +kernel)) (fun _ _ _ _ _ => (dg_name (ws := [8]) (i := 8) sc.nd rfl (by first | exact Or.inl rfl | exact Or.inr rfl))) (fun _ _ _ _ _ => dts_nil) (fun _ _ _ _ _ => (de_c h__law_row hr (da_cons (de_var 0) (da_cons (de_var 2) da_nil)))))
      (ds_cons (ds_if (PW.pt (dw_and (dt_bor (i := 3) (dt_cmp (o_ne hu) (de_var 3) (de_lst da_nil) (nomark _))) (dw_and1 (dt_cmp (o_eq hu) (de_c h__law_dip hr (da_cons (de_var 0) (da_cons de_int da_nil))) de_int (nomark _)))))
      (ds_one (ds_put (i := 3) (pv 3) (de_neg de_int) (de_tup (da_cons (de_ix (de_ixO (i := 3) (pv 3) (de_neg de_int)) de_int) (da_cons de_non (da_cons de_int da_nil))))))
      ds_nil)
      (ds_cons (ds_if (PW.pt (dw_and (dt_cmp (o_eq hu) (de_c h__law_dip hr (da_cons (de_var 0) (da_cons de_int da_nil))) de_int (nomark _)) (dw_and1 (dt_cmp o_gt (de_lenO (i := 3) (pv 3) rfl n_len) de_int (nomark _)))))
      (ds_cons (ds_set (i := 4) sc.nd rfl (by first | exact Or.inl rfl | exact Or.inr rfl) (de_op o_add de_int (de_c h__law_dip hr (da_cons (de_var 0) (da_cons (de_op o_sub (de_lenO (i := 3) (pv 3) rfl n_len) de_int) da_nil)))))
      (ds_one (ds_put (i := 3) (pv 3) (de_var 4) (de_c h__law_odd hr (da_cons (de_var 0) (da_cons (de_tup (da_cons (de_ix (de_ixO (i := 3) (pv 3) (de_var 4)) de_int) (da_cons (de_ix (de_ixO (i := 3) (pv 3) (de_op o_sub (de_var 4) de_int)) de_int) (da_cons de_int da_nil)))) da_nil))))))
      ds_nil)
      (ds_pub (i := 3) (ds_cons (ds_if (dt_cmp (o_ne hu) (de_g h__law_told hr hgd (da_cons (de_bt b_tuple rfl n_tuple bo_tuple (da_cons (de_var 3) da_nil)) (da_cons (de_cmp (o_eq hu) (de_c h__law_dip hr (da_cons (de_var 0) (da_cons de_int da_nil))) de_int (nomark _)) da_nil))) (de_g h__law_due hr hgd (da_cons (de_var 3) (da_cons (de_var 2) da_nil))) (nomark _))
      (ds_one (ds_ret de_bl))
      ds_nil)
      (ds_cons (ds_set (i := 5) sc.nd rfl (by first | exact Or.inl rfl | exact Or.inr rfl) (de_ix (de_lst (da_cons (de_var 3) (da_cons de_non (da_cons de_int (da_cons de_str (da_cons de_dic0 (da_cons de_bl (da_cons (de_lst (da_cons (de_tup da_nil) da_nil)) da_nil)))))))) (de_c h__law_dip hr (da_cons (de_var 0) (da_cons de_int da_nil)))))
      (ds_cons (ds_if (dt_cmp (o_ne hu) (de_g h__law_told hr hgd (da_cons (de_var 5) (da_cons de_bl da_nil))) de_str (nomark _))
      (ds_one (ds_ret de_bl))
      ds_nil)
      (ds_cons (ds_set (i := 6) sc.nd rfl (by first | exact Or.inl rfl | exact Or.inr rfl) (de_tup (da_cons (de_tup (da_cons de_int (da_cons de_int (da_cons de_int (da_cons de_int (da_cons de_int da_nil)))))) (da_cons (de_tup (da_cons de_int (da_cons de_int (da_cons de_int (da_cons de_int (da_cons de_int da_nil)))))) (da_cons de_int da_nil)))))
      (ds_cons (ds_set (i := 7) sc.nd rfl (by first | exact Or.inl rfl | exact Or.inr rfl) (de_ix (de_lst (da_cons (de_tup (da_cons (de_tup da_nil) (da_cons (de_tup da_nil) (da_cons de_int da_nil)))) (da_cons (de_var 6) (da_cons de_non (da_cons (de_tup (da_cons (de_tup (da_cons de_int da_nil)) (da_cons de_non (da_cons de_int da_nil)))) (da_cons (de_tup (da_cons (de_tup da_nil) (da_cons de_non (da_cons de_int da_nil)))) (da_cons (de_tup (da_cons de_int (da_cons de_int (da_cons de_int da_nil)))) da_nil))))))) (de_c h__law_dip hr (da_cons (de_var 0) (da_cons de_int da_nil)))))
      (ds_one (ds_if (dt_cmp (o_ne hu) (de_g h__law_told hr hgd (da_cons (de_op o_add (de_tup (da_cons (de_var 7) da_nil)) (de_bt b_tuple rfl n_tuple bo_tuple (da_cons (de_var 3) da_nil))) (da_cons de_bl da_nil))) de_str (nomark _))
      (ds_one (ds_ret de_bl))
      ds_nil)))))))))))))
      (ds_one (ds_ret (de_cmp (o_eq hu) (de_g h__law_told hr hgd (da_cons (de_tup da_nil) (da_cons de_bl da_nil))) de_str (nomark _))))), fun ds u R h => ?_⟩
  obtain ⟨rfl, rfl, hR⟩ := h
  show mSeq _ _ (noEnds R) [some (.dat .well), none, none, none, none, none, none, none, none] 0
  refine seq_cut fun N0 hN0 => ?_
  refine forR_draw (n := 8) (fun e => ∃ a b c d f g h i, e = [some (.dat .well), a, b, c, d, f, g, h, i]) 200 (by decide) ⟨_, _, _, _, _, _, _, _, rfl⟩ (fun N i env' u0 hi he hu0 hu1 hP => ?_) (fun env' u0 he hu0 hu1 => ?_)
  rotate_left
  · obtain ⟨a, b, c, d, f, g, h, i, rfl⟩ := he
    refine hN0 _ _ ?_
    walk_at "fl"
    refine ⟨by decide, .tup [], true, rfl, ⟨⟨(fun z => nomatch z), fun xs e => by cases e; exact .nil⟩, fun xs e => by cases e; decide⟩, ?_⟩
    rw [told_nil]
    exact ⟨_, rfl, hR _⟩
  obtain ⟨a, b, c, d, f, g, h, i', rfl⟩ := he
  show mSeq _ _ _ [some (.dat .well), some (.dat (.int (i : Nat))), b, c, d, f, g, h, i'] u0
  refine seq_cut fun N1 h1 => ?_
  walk_at "fl"
  refine dip_at (by decide) (by decide) (by omega) fun k k0 k1 => ⟨_, rfl, h1 _ _ ?_⟩
  obtain ⟨n, hn⟩ : ∃ n : Nat, 1 + k = (n : Nat) := ⟨(1 + k).toNat, by omega⟩
  rw [hn]
  have n1 : 1 ≤ n := by omega
  have n4 : n ≤ 4 := by omega
  clear hn h1
  refine seq_cut fun N2 h2 => ?_
  walk_at "fl"
  refine dip_at (by decide) (by decide) (by omega) fun k k0 k1 => ⟨k, rfl, by omega, by omega, ?_⟩
  refine lc_draw (IsRow n) 24 (fun Pv i d acc u1 hd h3 h4 hP2 => ?_) (fun row u1 hl hm h3 h4 => ?_)
  · obtain ⟨hi2, rfl⟩ := rng_get hd
    have : i * 24 ≤ 5 * 24 := Nat.mul_le_mul_right _ (by omega)
    exact ⟨n, rfl, n4, by omega, fun d u' hd h5 h6 => hP2 _ _ hd h5 h6⟩
  rw [rng_len] at hl h4
  have r3 : Row3 n row := ⟨by omega, fun i d e => .inl (hm d (List.mem_of_getElem? e))⟩
  have c4 : k.toNat * 24 ≤ 5 * 24 := Nat.mul_le_mul_right _ (by omega)
  have b1 : u1 ≤ u0 + 122 := by omega
  have b0 : u0 ≤ u1 := by omega
  refine h2 _ _ ?_
  clear h2 hm hl h3 h4 c4
  refine seq_cut fun N3 h3 => ?_
  have k3 : ∀ row u2, Row3 n row → u1 ≤ u2 → u2 ≤ u1 + 1 → N3 [some (.dat .well), some (.dat (.int (i : Nat))), some (.dat (.int (n : Nat))), some (.own row), d, f, g, h, i'] u2 := by
    intro row u2 r3 b2 b3
    refine h3 _ _ ?_
    refine seq_cut fun N4 h4 => ?_
    have k4 : ∀ row u3 d, Row4 n row → u2 ≤ u3 → u3 ≤ u2 + 20 → N4 [some (.dat .well), some (.dat (.int (i : Nat))), some (.dat (.int (n : Nat))), some (.own row), d, f, g, h, i'] u3 := by
      intro row u3 d r4 b4 b5
      refine h4 _ _ ⟨row, rfl, ?_⟩
      show mSeq _ _ _ [some (.dat .well), some (.dat (.int (i : Nat))), some (.dat (.int (n : Nat))), some (.dat (.lst row)), d, f, g, h, i'] u3
      refine seq_cut fun N5 h5 => ?_
      walk_at "fl"
      refine ⟨_, rfl, dip_at (by decide) (by decide) (by omega) fun k k0 k1 => ⟨_, rfl, .tup row, _, rfl, r4.okw, row, (n : Nat), rfl, r4.2.1.mono (by decide), by have := r4.1; omega, _, ne_strs _ _, ?_⟩⟩
      rw [told_due r4 n1 n4]
      refine itF (by rw [decide_eq_true rfl]; rfl) (h5 _ _ ?_)
      refine seq_cut fun N6 h6 => ?_
      have k6 : ∀ z, isTup z = false → plainTy z → N6 [some (.dat .well), some (.dat (.int (i : Nat))), some (.dat (.int (n : Nat))), some (.dat (.lst row)), d, some (.dat z), g, h, i'] (u3 + 1 + 1) := by
        intro z ht hp
        refine h6 _ _ (seq_cut fun N7 h7 => ?_)
        walk_at "fl"
        refine ⟨z, false, rfl, ⟨⟨hp, fun xs e => by rw [e] at ht; cases ht⟩, fun xs e => by rw [e] at ht; cases ht⟩, _, ne_strs _ _, ?_⟩
        rw [told_non ht]
        refine itF (by rw [decide_eq_true rfl]; rfl) (h7 _ _ (seq_cut fun N8 h8 => ?_))
        walk_at "fl"
        repeat refine ⟨by decide, ?_⟩
        refine h8 _ _ (seq_cut fun N9 h9 => ?_)
        walk_at "fl"
        repeat refine ⟨by decide, ?_⟩
        refine dip_at (by decide) (by decide) (by omega) fun k k0 k1 => pick_at k0 k1 rfl fun z1 hz1 => h9 _ _ ?_
        have pz : Pl 6 z1 := Pls.mem (by repeat first | assumption | exact .nil | exact .non | exact .int | exact .bl | exact .str (by decide +kernel) | refine Pls.app ?_ ?_ | refine Pls.cut ?_ | refine Pls.cons ?_ ?_ | refine Pl.tup ?_ | refine Pl.lst ?_) z1 hz1
        have fz : kindsOf (loadOf z1) = 0 ∨ (kindsOf (loadOf z1) = 1 ∧ ∀ l, isBlock z1 1 l = false) := by
          simp only [List.mem_cons, List.not_mem_nil, or_false] at hz1
          rcases hz1 with rfl | rfl | rfl | rfl | rfl | rfl
          · exact .inl rfl
          · exact .inl rfl
          · exact .inl rfl
          · exact .inr ⟨rfl, fun l => by cases l <;> rfl⟩
          · exact .inl rfl
          · exact .inl rfl
        walk_at "fl"
        refine ⟨by decide, _, rfl, _, tup_add (Nat.le_of_ble_eq_true rfl) (by have := r4.1; omega), .tup (z1 :: row), false, rfl, ⟨⟨(fun z => nomatch z), fun xs e => by cases e; exact (Pls.cons pz r4.2.1).mono (by decide)⟩, fun xs e => by cases e; have := r4.1; rw [List.length_cons]; omega⟩, _, ne_strs _ _, ?_⟩
        rw [told_0 fz]
        exact itF (by rw [decide_eq_true rfl]; rfl) (hP _ _ ⟨_, _, _, _, _, _, _, _, rfl⟩ (by omega) (by omega))
      walk_at "fl"
      repeat refine ⟨by decide, ?_⟩
      refine dip_at (by decide) (by decide) (by omega) fun k k0 k1 => pick_at k0 k1 rfl fun z hz => ?_
      simp only [List.mem_cons, List.not_mem_nil, or_false] at hz
      rcases hz with rfl | rfl | rfl | rfl | rfl | rfl | rfl <;> exact k6 _ rfl (fun z => nomatch z)
    walk_at "fl"
    refine dip_at (by decide) (by decide) (by omega) fun k k0 k1 => ⟨_, rfl, it2 (fun e => ⟨_, rfl, it2 (fun e2 => ?_) (fun e2 => k4 _ _ _ r3.four (by omega) (by omega))⟩) (fun e => k4 _ _ _ r3.four (by omega) (by omega))⟩
    have hlen : 1 < row.length := by
      have := of_decide_eq_true (show decide ((1 : Int) < (row.length : Nat)) = true from e2)
      omega
    have hl5 := r3.1
    have p200 : (2 : Int) ^ 200 = 1606938044258990275541962092341162602522202993782792835301376 := by decide
    refine ⟨_, rfl, dip_at (by omega) (by omega) (by omega) fun a a0 a1 => ⟨_, rfl, ?_⟩⟩
    obtain ⟨j, hj⟩ : ∃ j : Nat, 1 + a = (j : Nat) := ⟨(1 + a).toNat, by omega⟩
    rw [hj]
    have j1 : 1 ≤ j := by omega
    have j2 : j < row.length := by omega
    obtain ⟨d1, e1⟩ : ∃ d1, row[j]? = some d1 := ⟨row[j], List.getElem?_eq_getElem j2⟩
    obtain ⟨xs, b', c', rfl, hx⟩ := r3.load e1
    obtain ⟨d0, e0⟩ : ∃ d0, row[j - 1]? = some d0 := ⟨row[j - 1], List.getElem?_eq_getElem (by omega)⟩
    obtain ⟨xs0, ys0, t, rfl, _, hy, _, _⟩ := (r3.2 (j - 1) d0 e0).resolve_right (fun q => by omega)
    have ej : (j : Int) - 1 = ((j - 1 : Nat) : Int) := by omega
    exact ⟨_, rfl, _, atN e1, _, rfl, _, rfl, _, rfl, _, (by rw [ej]; exact atN e0), _, rfl, by decide, xs, ys0, n, rfl, hx, hy, n1, n4, by omega, fun d u' hd b6 b7 => ⟨_, rfl, _, ixN_nat j2, k4 _ _ _ (r3.four.put j1 hd) (by omega) (by omega)⟩⟩
  walk_at "fl"
  refine ⟨by decide, _, ne_lst0 r3.pls (by decide), it2 (fun e => dip_at (by decide) (by decide) (by omega) fun k k0 k1 => ⟨_, rfl, it2 (fun e2 => ?_) (fun e2 => k3 _ _ r3 (by omega) (by omega))⟩) (fun e => k3 _ _ r3 (by omega) (by omega))⟩
  have hne : 1 ≤ row.length := by
    cases row with
    | nil => cases e
    | cons x xs => rw [List.length_cons]; omega
  obtain ⟨d1, e1⟩ : ∃ d1, row[row.length - 1]? = some d1 := ⟨row[row.length - 1], List.getElem?_eq_getElem (by omega)⟩
  obtain ⟨xs, b', c', rfl, hx⟩ := r3.load e1
  exact ⟨_, at_last e1, _, rfl, by decide, _, ixN_last hne, k3 _ _ (r3.fin hx hne) (by omega) (by omega)⟩
end
end FL
set_option maxHeartbeats 4000000

namespace FL
open PySem PySem.Spec PyProof.Rows L2
section
variable {P : Program} {w : World} {K : PySem.W.Frag} {mg : Str → Option Value} {base : Heap} {wl : Nat → HO → Prop}
abbrev s__law_dip : Stmt := top 19
theorem sc__law_dip : FnScope ["_law_well_here", "_law_many", "_law_digit"] ["_law_well_here", "_law_many"] (defScope s__law_dip) := ⟨rfl, rfl, rfl, by decide +kernel, rfl, by decide +kernel, by decide +kernel⟩
theorem ok__law_dip (n_divmod : mg "divmod" = none) (n_int : mg "int" = none) (L : Lk K mg "_law_dip" s__law_dip) : Has P w K mg base wlW 1 "_law_dip" ["_law_well_here", "_law_many"] ct__law_dip := by
  obtain ⟨fd, F⟩ := L.ex
  have sc := sc__law_dip
  refine ⟨⟨fd, F.ok sc (fun vs H Q E h => ?_) fun cdv A outer s H vs Q E hr h => ?_, F.bindsN fun _ _ _ _ _ _ us hl => match us, hl with | [_, _], _ => rfl⟩, L.g, F.kp⟩
  · obtain ⟨wa, B, ds, u, R, ok, wl, rs, ⟨many, rfl, _⟩, _⟩ := h
    rw [rs.length]
    rfl
  obtain ⟨wa, B, ds, u, R, ok, ⟨o, ho, mm, q, n, rfl, m0, m1, q0, n0, n1⟩, rs, ⟨many, rfl, p0, p1, hu, hR⟩, hQ⟩ := h
  obtain ⟨v1, v2, rfl, r1, r2⟩ := rs.two
  cases r1
  cases r2
  refine ⟨_, PSs.nox (pss_cons (ps_if (pt_cmpR op_gt (pe_ix ix_list (pv 0) pe_int (fun _ _ => rfl)) pe_int (nomark _))
      (pss_cons (ps_asg (pe_callB call_divmodW (by rfl) n_divmod bo_divmod (pa_cons (pe_ix ix_list (pv 0) pe_int (fun _ _ => rfl)) (pa_cons (pv 1) pa_nil))) (pg_tup rfl (pgs_cons (pg_sub (pv 0) pe_int set_list) (pgs_cons (pg_name (i := 2) sc.nd rfl (Or.inl rfl)) pgs_nil))))
        (pss_one (ps_ret (pv 2)))) pss_nil)
    (pss_cons (ps_asg (pe_op op_add (pe_ix ix_list (pv 0) pe_int (fun _ _ => rfl)) pe_int) (pg_sub (pv 0) pe_int set_list))
    (pss_cons (ps_asg (pe_op op_mod (pe_callTy call_int1 (by rfl) n_int bo_int (pa_cons (pe_op op_add (pe_op op_add (pe_op op_mul (pe_ix ix_list (pv 0) pe_int (fun _ _ => rfl)) pe_int) (pe_op op_mul (pe_op op_mul pe_int (pe_ix ix_list (pv 0) pe_int (fun _ _ => rfl))) (pe_ix ix_list (pv 0) pe_int (fun _ _ => rfl)))) pe_int) pa_nil)) pe_int) (pg_sub (pv 0) pe_int set_list))
    (pss_one (ps_ret (pe_op op_mod (pe_callTy call_int1 (by rfl) n_int bo_int (pa_cons (pe_op op_fdiv (pe_ix ix_list (pv 0) pe_int (fun _ _ => rfl)) pe_int) pa_nil)) (pv 1))))))), ?_⟩
  have at0 : ∀ {x y z : V}, atI [x, y, z] 0 = some x := fun {x y z} => rfl
  have at1 : ∀ {x y z : V}, atI [x, y, z] 1 = some y := fun {x y z} => rfl
  have at2 : ∀ {x y z : V}, atI [x, y, z] 2 = some z := fun {x y z} => rfl
  refine ⟨.ref wa, rfl, wa, _, 1, _, rfl, rfl, .inl (.inl ho), at1, q, 0, rfl, rfl, _, rfl, ite2 (fun e => ?_) (fun e => ?_)⟩
  · have eq : 0 < q := of_decide_eq_true e
    -- divmod
    refine ⟨.ref wa, rfl, wa, _, 1, _, rfl, rfl, .inl (.inl ho), at1, .int many, rfl, q, many, rfl, ⟨p0, PyProof.noPylong_of_log2 (log2_200 p0 p1)⟩, fun p np => ?_⟩
    have npw : wa ≠ p := ne_of_none ho np
    refine ⟨p, _, rfl, .inl (.inl upd_same), rfl, .int (q / many), [.int (q % many)], rfl, .ref wa, rfl, wa, [.int mm, .int q, .int n], 1, 1, rfl, rfl, ?_, rfl, .int (q % many), [], rfl, rfl, .int (q % many), rfl, ?_⟩
    · rw [upd_ne npw]
      exact ho
    · have st1 := Step.lay (o := .tup [.int (q / many), .int (q % many)]) ok np
      refine hQ (.int (q % many)) (u + 1) _ _ _ (st1.trans (Step.well st1.ok)) ⟨_, upd_same, mm, q / many, n, rfl, m0, m1, Int.ediv_nonneg q0 (by omega), n0, by omega⟩ (.int _) (hR _ (Int.emod_nonneg _ (by omega)) (Int.emod_lt_of_pos _ p0))
  · -- w[2] = w[2] + 1
    refine ⟨.ref wa, rfl, wa, _, 2, _, rfl, rfl, .inl (.inl ho), at2, n, 1, rfl, rfl, .ref wa, rfl, wa, _, 2, 2, rfl, rfl, ho, rfl, ?_⟩
    have h1 : (upd H wa (.lst [.int mm, .int q, .int (n + 1)])) wa = some (.lst [.int mm, .int q, .int (n + 1)]) := upd_same
    have b1 : -(2 ^ 64) < (mm : Int) ∧ mm < 2 ^ 64 := by omega
    have b2 : -(2 ^ 64) < (7 : Int) ∧ (7 : Int) < 2 ^ 64 := by omega
    have b3 : -(2 ^ 64) < (n + 1 : Int) ∧ (n + 1 : Int) < 2 ^ 64 := by omega
    -- w[0] = ..
    refine ⟨.ref wa, rfl, wa, _, 0, _, rfl, rfl, .inl (.inl h1), at0, mm, 39373, rfl, rfl, .inl b1, .ref wa, rfl, wa, _, 2, _, rfl, rfl, .inl (.inl h1), at2, 7, n + 1, rfl, rfl, .inl b2, .ref wa, rfl, wa, _, 2, _, rfl, rfl, .inl (.inl h1), at2, 7 * (n + 1), n + 1, rfl, rfl, .inr b3, _, _, rfl, rfl, _, _, rfl, rfl, .inl ⟨_, rfl, _, _, rfl, rfl, (by show (0 : Int) < 2147483629; decide), ?_⟩⟩
    refine ⟨.ref wa, rfl, wa, _, 0, 0, rfl, rfl, h1, rfl, ?_⟩
    obtain ⟨z, hz⟩ : ∃ z, z = (mm * 39373 + 7 * (n + 1) * (n + 1) + 101) % 2147483629 := ⟨_, rfl⟩
    have z0 : 0 ≤ z := by
      rw [hz]
      exact Int.emod_nonneg _ (by decide)
    have z1 : z < 2147483629 := by
      rw [hz]
      exact Int.emod_lt_of_pos _ (by decide)
    have ez : ([V.int mm, V.int q, V.int (n + 1)].set 0 ((fun i j => V.int (i % j)) (mm * 39373 + 7 * (n + 1) * (n + 1) + 101) 2147483629)) = [.int z, .int q, .int (n + 1)] := by
      rw [hz]
      rfl
    rw [upd_upd, ez]
    have h2 : (upd H wa (.lst [.int z, .int q, .int (n + 1)])) wa = some (.lst [.int z, .int q, .int (n + 1)]) := upd_same
    refine ⟨.ref wa, rfl, wa, _, 0, _, rfl, rfl, .inl (.inl h2), at0, z, 64, rfl, rfl, ⟨by decide, by decide⟩, .inl ⟨_, rfl, .int many, rfl, _, many, rfl, rfl, p0, ?_⟩⟩
    exact hQ _ (u + 1) _ _ _ (Step.well ok) ⟨_, upd_same, z, q, n + 1, rfl, z0, z1, q0, by omega, by omega⟩ (.int _) (hR _ (Int.emod_nonneg _ (by omega)) (Int.emod_lt_of_pos _ p0))

abbrev s__law_well : Stmt := top 18
theorem sc__law_well : FnScope ["_law_script", "_law_k", "_law_cell", "_law_mixed", "_law_other"] ["_law_script", "_law_k"] (defScope s__law_well) := ⟨rfl, rfl, rfl, by decide +kernel, rfl, by decide +kernel, by decide +kernel⟩
theorem ok__law_well (n_len : mg "len" = none) (n_int : mg "int" = none) (n_abs : mg "abs" = none) (L : Lk K mg "_law_well" s__law_well) : ∃ fd, FnOk P w K mg base CX0 1 (He.ga K "_law_well") fd ["_law_script", "_law_k"] (spWell K) ∧ Binds K fd ["_law_script", "_law_k"] [] ∧ PySem.W.keepIn K (.ref (He.ga K "_law_well")) = true := by
  obtain ⟨fd, F⟩ := L.ex
  have sc := sc__law_well
  refine ⟨fd, F.ok sc (fun vs H Q E h => ?_) fun cdv A outer s H vs Q E hr h => ?_, F.bindsN fun _ _ _ _ _ _ us hl => match us, hl with | [_, _], _ => rfl, F.kp⟩
  · obtain ⟨a, ns, k, rfl, _⟩ := h
    rfl
  obtain ⟨a, ns, k, rfl, hS, hl, k0, k1, hQ⟩ := h
  refine ⟨_, PSs.nox (pss_cons (ps_set (i := 2) sc.nd rfl (Or.inl rfl) (pe_ifExp (pt_cmpR op_lt (pv 1) (pe_callB call_len_seq (by rfl) n_len bo_len (pa_cons (pv 0) pa_nil)) (nomark _)) (pe_ix ix_list (pv 0) (pv 1) (fun _ _ => rfl)) pe_int))
    (pss_cons (ps_set (i := 3) sc.nd rfl (Or.inl rfl) (pe_op op_add pe_int (pe_op op_mul pe_int (pv 1))))
    (pss_cons (ps_for PassesOwn.never rfl (pi_list (pe_slice sl_list (pv 0) po_none (po_some pe_int))) (pg_name (i := 4) sc.nd rfl (Or.inl rfl))
      (pss_one (ps_set (i := 3) sc.nd rfl (Or.inl rfl) (pe_op op_mod (pe_callTy call_int1 (by rfl) n_int bo_int (pa_cons (pe_op op_add (pe_op op_add (pe_op op_mul (pv 3) pe_int) (pe_op op_mod (pe_callTy call_int1 (by rfl) n_int bo_int (pa_cons (pv 4) pa_nil)) pe_int)) pe_int) pa_nil)) pe_int))))
    (pss_cons (ps_set (i := 3) sc.nd rfl (Or.inl rfl) (pe_op op_mod (pe_callTy call_int1 (by rfl) n_int bo_int (pa_cons (pe_op op_add (pe_op op_add (pe_op op_mul (pv 3) pe_int) (pe_op op_mod (pe_callTy call_int1 (by rfl) n_int bo_int (pa_cons (pv 2) pa_nil)) pe_int)) pe_int) pa_nil)) pe_int))
    (pss_one (ps_ret (pe_lst (pa_cons (pv 3) (pa_cons (pe_ifExp (pt_cmpR op_ge (pe_callB call_abs (by rfl) n_abs bo_abs (pa_cons (pv 2) pa_nil)) (pe_op op_pow pe_int pe_int) (nomark _)) (pe_callB call_abs (by rfl) n_abs bo_abs (pa_cons (pv 2) pa_nil)) pe_int) (pa_cons pe_int pa_nil)))))))))), ?_⟩
  have pick : ∀ T : V → Hp → Prop, (∀ cell : Int, T (.int cell) H) → (if decide (k < ((ns.map V.int).length : Int)) = true then tOp (rIxL K) (tVar 0) (tVar 1) [some (.ref a), some (.int k), none, none, none] H T else tC (.int 0) [some (.ref a), some (.int k), none, none, none] H T) := fun T hT => by
    refine ite2 (fun e => ?_) (fun e => hT 0)
    have hk : k < ((ns.map V.int).length : Int) := of_decide_eq_true e
    rw [List.length_map] at hk
    have hi : k.toNat < ns.length := by omega
    refine ⟨.ref a, rfl, .int k, rfl, a, _, k, .int ns[k.toNat], rfl, rfl, hS, ?_, hT _⟩
    have h := atI_nat (xs := ns.map V.int) (j := k.toNat) (v := .int ns[k.toNat]) (by rw [List.getElem?_map, List.getElem?_eq_getElem hi]; rfl)
    rw [show ((k.toNat : Nat) : Int) = k by omega] at h
    exact h
  refine ⟨.int k, rfl, .ref a, rfl, a, _, rfl, .inl hS, k, _, rfl, rfl, _, rfl, pick _ fun cell => ?_⟩
  refine ⟨.int k, rfl, 7907, k, rfl, rfl, .inl ⟨by decide, by decide⟩, 104729, _, rfl, rfl, ?_⟩
  refine ⟨.ref a, rfl, 4, rfl, a, _, rfl, hS, fun c nc => ⟨c, rfl, ⟨_, .inl (.inl upd_same)⟩, ?_⟩⟩
  refine for_list (xs := cutV (ns.map V.int) none (some 4)) (fun i σ H' => H' = upd H c (.lst (cutV (ns.map V.int) none (some 4))) ∧ ∃ m y, σ = [some (.ref a), some (.int k), some (.int cell), some (.int m), y]) ⟨rfl, _, _, rfl⟩ (fun i σ H' _ hh => ?_) (fun i x σ H' hx hh => ?_) (fun σ H' hh => ?_)
  · obtain ⟨rfl, _⟩ := hh
    exact .inl (.inl upd_same)
  · obtain ⟨rfl, m, y, rfl⟩ := hh
    obtain ⟨z, rfl⟩ : ∃ z, x = .int z := by
      have hm : x ∈ ns.map V.int := List.mem_of_mem_drop (List.mem_of_mem_take (List.mem_of_getElem? hx))
      obtain ⟨z, _, e⟩ := List.mem_map.mp hm
      exact ⟨z, e.symm⟩
    refine ⟨.int m, rfl, m, 48271, rfl, rfl, .inr ⟨by decide, by decide⟩, .int z, rfl, .inl ⟨z, rfl, z, 2147483587, rfl, rfl, (by show (0 : Int) < 2147483587; decide), ?_⟩⟩
    exact ⟨_, _, rfl, rfl, _, 13, rfl, rfl, .inl ⟨_, rfl, _, 2147483629, rfl, rfl, (by show (0 : Int) < 2147483629; decide), rfl, _, _, rfl⟩⟩
  · obtain ⟨rfl, m, y, rfl⟩ := hh
    refine ⟨.int m, rfl, m, 69621, rfl, rfl, .inr ⟨by decide, by decide⟩, .int cell, rfl, .inl ⟨cell, rfl, cell, 2147483579, rfl, rfl, (by show (0 : Int) < 2147483579; decide), _, _, rfl, rfl, _, 5, rfl, rfl, .inl ⟨_, rfl, _, 2147483629, rfl, rfl, (by show (0 : Int) < 2147483629; decide), ?_⟩⟩⟩
    generalize hz : ((m * 69621 + cell % 2147483579 + 5) % 2147483629 : Int) = z
    have fin : ∀ q : Int, 0 ≤ q → [V.int z, .int q, .int 0].length ≤ sizeLine ∧ ∀ p, (upd H c (.lst (cutV (ns.map V.int) none (some 4)))) p = none → Q (.ref p) (upd (upd H c (.lst (cutV (ns.map V.int) none (some 4)))) p (.lst [.int z, .int q, .int 0])) := fun q q0 => by
      refine ⟨by show 3 ≤ sizeLine; decide, fun p np => ?_⟩
      have npc : H p = none := by
        cases e : H p with
        | none => rfl
        | some o =>
          rw [same_new nc p o e] at np
          cases np
      refine hQ _ p z q ((same_new nc).trans (same_new np)) npc upd_same ?_ ?_ q0
      · rw [← hz]
        exact Int.emod_nonneg _ (by decide)
      · rw [← hz]
        exact Int.emod_lt_of_pos _ (by decide)
    refine ⟨.int z, ?_, .int cell, rfl, cell, rfl, 10, 18, rfl, rfl, ⟨by decide, by decide, by decide⟩, _, _, rfl, rfl, _, rfl, ite2 (fun _ => ?_) (fun _ => ?_)⟩
    · rw [← hz]
      rfl
    · refine ⟨.int cell, rfl, cell, rfl, fin _ ?_⟩
      split <;> omega
    · exact fin 0 (by decide)

abbrev s_law : Stmt := top 27
theorem sc_law : FnScope ["_law_script", "_law_k"] ["_law_script"] (defScope s_law) := ⟨rfl, rfl, rfl, by decide +kernel, rfl, by decide +kernel, by decide +kernel⟩
theorem ok_law {kr : Nat} {fd : FuncData} (n_len : mg "len" = none) (n_max : mg "max" = none) (n_min : mg "min" = none) (n_range : mg "range" = none) (h_well : ∃ fd, FnOk P w K mg base CX0 1 (He.ga K "_law_well") fd ["_law_script", "_law_k"] (spWell K) ∧ Binds K fd ["_law_script", "_law_k"] [] ∧ PySem.W.keepIn K (.ref (He.ga K "_law_well")) = true) (g_well : mg "_law_well" = some (.ref (He.ga K "_law_well")))
    (h_right : HasG P w K mg base wlW (kr + 1) "_law_right" ["_law_well_here"] ctRight) (F : FunD K "law" "law" (defArgs s_law) (defBody s_law) (defScope s_law) [] [] (He.ga K "law") fd) : FnG P w K mg base CX0 (kr + 2) (He.ga K "law") fd ["_law_script"] (spLaw K) := by
  have sc := sc_law
  obtain ⟨fdw, FW, bW, kW⟩ := h_well
  obtain ⟨⟨fdr, FR, bR⟩, gR, kR⟩ := h_right
  obtain ⟨oc, od, dV, kV, doc, pm, an, cdv, ct, osl, rfl, lk, hcd, _, _⟩ := F.ex
  refine fn_ofG lk hcd sc (fun vs H Q E h => ?_) fun A outer s H vs Q E hr hgd h => ?_
  · obtain ⟨a, ns, rfl, _⟩ := h
    rfl
  obtain ⟨a, ns, rfl, hS, hl, hQ⟩ := h
  refine ⟨_, PSs.nox (pss_cons (ps_for PassesOwn.never rfl (pi_range1 rfl n_range (pa_cons (pe_callB (call_max2 rfl) rfl n_max bo_max (pa_cons pe_int (pa_cons (pe_callB (call_min2 rfl) rfl n_min bo_min (pa_cons (pe_callB call_len_seq (by rfl) n_len bo_len (pa_cons (pv 0) pa_nil)) (pa_cons pe_int pa_nil))) pa_nil))) pa_nil)) (pg_name (i := 1) sc.nd rfl (Or.inl rfl))
      (pss_one (ps_if (pt_not (pt_val (pe_callGH FR hr hgd rfl gR kR bR (pa_cons (pe_call FW (hr.mono (by omega)) rfl g_well kW bW .nil pass0 (pa_cons (pv 0) (pa_cons (pv 1) pa_nil))) pa_nil)))) (pss_one (ps_ret pe_bl)) pss_nil)))
    (pss_one (ps_ret pe_bl))), ?_⟩
  obtain ⟨n, hn⟩ : ∃ n : Int, n = (if (if (6 : Int) < ((ns.map V.int).length : Int) then (6 : Int) else ((ns.map V.int).length : Int)) > (2 : Int) then (if (6 : Int) < ((ns.map V.int).length : Int) then (6 : Int) else ((ns.map V.int).length : Int)) else (2 : Int)) := ⟨_, rfl⟩
  have n1 : 0 ≤ n ∧ n ≤ 63 := by
    rw [hn, List.length_map]
    split <;> split <;> omega
  refine ⟨.ref a, rfl, a, _, rfl, .inl hS, _, _, rfl, _, _, rfl, n, by rw [hn], by omega, by omega, ?_⟩
  refine for_range (lo := 0) (n := n.toNat) (fun i σ H' => SqL K H' a (ns.map V.int) ∧ ∃ y, σ = [some (.ref a), y]) ⟨hS, none, rfl⟩ (fun i σ H1 hi hh => ?_) (fun σ H1 hh => ?_)
  · obtain ⟨hS1, y, rfl⟩ := hh
    refine ⟨.ref a, rfl, .int (0 + (i : Nat)), rfl, a, ns, _, rfl, hS1, hl, by omega, by omega, fun H2 p m q sm np hp m0 m1 q0 => ?_⟩
    have npa : ∀ b o, H1 b = some o → b ≠ p := fun b o e => ne_of_none e np
    refine ⟨p, fun _ => none, [.well], 0, fun d _ => d = .bl true, ⟨fun _ _ e => (by cases e), rfl, by rw [hp]; exact fun z => nomatch z⟩, ⟨_, hp, m, q, 0, rfl, m0, m1, q0, by decide, by decide⟩, .cons .well .nil, ⟨rfl, rfl, fun _ => rfl⟩, fun d u' v H3 B3 st wl r e => ?_⟩
    subst e
    cases r
    refine ⟨true, rfl, iteF ⟨?_, _, rfl⟩⟩
    rcases hS1 with (e | ⟨o, e⟩) | e
    · exact .inl (.inl (st.keep a _ (sm a _ e) (npa a _ e)))
    · exact .inl (.inr ⟨o, st.keep a _ (sm a _ e) (npa a _ e)⟩)
    · exact .inr e
  · exact hQ H1

end
end FL
set_option maxHeartbeats 0

namespace FL
open PySem PySem.Spec PyProof.Rows L2
def d__law_well : He.DefD := ⟨("_law_well", none), "_law_well", "_law_well", defArgs s__law_well, defBody s__law_well, defScope s__law_well, [], []⟩
def d__law_dip : He.DefD := ⟨("_law_dip", none), "_law_dip", "_law_dip", defArgs s__law_dip, defBody s__law_dip, defScope s__law_dip, [], []⟩
def d_is_integer : He.DefD := ⟨("is_integer", none), "is_integer", "is_integer", defArgs s_is_integer, defBody s_is_integer, defScope s_is_integer, [], []⟩
def d_is_within_range : He.DefD := ⟨("is_within_range", none), "is_within_range", "is_within_range", defArgs s_is_within_range, defBody s_is_within_range, defScope s_is_within_range, [], []⟩
def d_is_load : He.DefD := ⟨("is_load", none), "is_load", "is_load", defArgs s_is_load, defBody s_is_load, defScope s_is_load, [], []⟩
def d_is_block : He.DefD := ⟨("is_block", none), "is_block", "is_block", defArgs s_is_block, defBody s_is_block, defScope s_is_block, [], []⟩
def d_wrong_block : He.DefD := ⟨("wrong_block", none), "wrong_block", "wrong_block", defArgs s_wrong_block, defBody s_wrong_block, defScope s_wrong_block, [], []⟩
def d_kinds_in : He.DefD := ⟨("kinds_in", none), "kinds_in", "kinds_in", defArgs s_kinds_in, defBody s_kinds_in, defScope s_kinds_in, [], []⟩
def d_check_blocks : He.DefD := ⟨("check_blocks", none), "check_blocks", "check_blocks", defArgs s_check_blocks, defBody s_check_blocks, defScope s_check_blocks, [], []⟩
def d_crossings : He.DefD := ⟨("crossings", none), "crossings", "crossings", defArgs s_crossings, defBody s_crossings, defScope s_crossings, [], []⟩
def d__law_count_ok : He.DefD := ⟨("_law_count_ok", none), "_law_count_ok", "_law_count_ok", defArgs s__law_count_ok, defBody s__law_count_ok, defScope s__law_count_ok, [], []⟩
def d__law_is_block : He.DefD := ⟨("_law_is_block", none), "_law_is_block", "_law_is_block", defArgs s__law_is_block, defBody s__law_is_block, defScope s__law_is_block, [], []⟩
def d__law_told : He.DefD := ⟨("_law_told", none), "_law_told", "_law_told", defArgs s__law_told, defBody s__law_told, defScope s__law_told, [], []⟩
def d__law_row : He.DefD := ⟨("_law_row", none), "_law_row", "_law_row", defArgs s__law_row, defBody s__law_row, defScope s__law_row, [], []⟩
def d__law_odd : He.DefD := ⟨("_law_odd", none), "_law_odd", "_law_odd", defArgs s__law_odd, defBody s__law_odd, defScope s__law_odd, [], []⟩
def d__law_due : He.DefD := ⟨("_law_due", none), "_law_due", "_law_due", defArgs s__law_due, defBody s__law_due, defScope s__law_due, [], []⟩
def d__law_right : He.DefD := ⟨("_law_right", none), "_law_right", "_law_right", defArgs s__law_right, defBody s__law_right, defScope s__law_right, [], []⟩
def d_law : He.DefD := ⟨("law", none), "law", "law", defArgs s_law, defBody s_law, defScope s_law, [], []⟩
abbrev i_InvalidPlan : Stmt := clsAt (top 2) 0
def e_InvalidPlan : He.DefD := ⟨("InvalidPlan", some "__init__"), "__init__", "InvalidPlan.__init__", defArgs i_InvalidPlan, defBody i_InvalidPlan, defScope i_InvalidPlan, [], []⟩
theorem isc_InvalidPlan : FnScope ["self", "index"] ["self", "index"] (defScope i_InvalidPlan) := ⟨rfl, rfl, rfl, by decide +kernel, rfl, by decide +kernel, by decide +kernel⟩
def fnL : List He.DefD := [d__law_well, d__law_dip, d_is_integer, d_is_within_range, d_is_load, d_is_block, d_wrong_block, d_kinds_in, d_check_blocks, d_crossings, d__law_count_ok, d__law_is_block, d__law_told, d__law_row, d__law_odd, d__law_due, d__law_right, d_law, e_InvalidPlan]
def faL : List He.Fa := [.glo "_law_well", .glo "_law_dip", .glo "is_integer", .glo "is_within_range", .glo "is_load", .glo "is_block", .glo "wrong_block", .glo "kinds_in", .glo "check_blocks", .glo "crossings", .glo "_law_count_ok", .glo "_law_is_block", .glo "_law_told", .glo "_law_row", .glo "_law_odd", .glo "_law_due", .glo "_law_right", .glo "law", .glo "InvalidPlan", .glo "NoAnswer", .glo "WrongName", .glo "WrongValue", .free "ArithmeticError", .free "LookupError", .free "ValueError", .free "abs", .free "all", .free "bool", .free "divmod", .free "enumerate", .free "int", .free "isinstance", .free "len", .free "list", .free "max", .free "min", .free "range", .free "repr", .free "str", .free "sum", .free "tuple", .int "MOST_KINDS" 4, .int "MOST_THINGS" 1000000000000000000000000000000]
def exL (K : PySem.W.Frag) : Bool := [errB K "InvalidPlan" "index", kitB2 K "InvalidPlan" "WrongValue" true, kitB2 K "InvalidPlan" "WrongName" false, kitB2 K "InvalidPlan" "NoAnswer" false, kitT K "InvalidPlan" "ValueError" true, kitT K "InvalidPlan" "LookupError" false, kitT K "InvalidPlan" "ArithmeticError" false].all id
def names0 : List PySem.Str := ["WrongValue", "InvalidPlan", "WrongName", "NoAnswer", "MOST_KINDS", "MOST_THINGS", "is_integer", "is_within_range", "is_load", "is_block", "wrong_block", "kinds_in", "check_blocks", "crossings", "_law_well", "_law_dip", "_law_count_ok", "_law_is_block", "_law_told", "_law_row", "_law_odd", "_law_due", "_law_right"]
def namesL : List PySem.Str := names0
abbrev RL : PySem.W.OpenRow := PySem.W.OpenLaw.row PySem.Challenge.rw_ferryloads_k31_crossings_counted
abbrev hkL : PySem.W.Hook := hookF 6 faL fnL exL
def obL (s : PySem.W.SharedT) : He.AlD × Bool := obsF 6 faL fnL exL (HandSHeadRun.getT s)
theorem obL_eq (s : PySem.W.SharedT) : obL s = hkL.obs s.abs := obsF_eq (HandSHeadRun.getT_eq s)
theorem runL (w : World) : HandSHeadRun.RunEq RL (PySem.W.view RL.prog [27]) hkL obL 3000 namesL w := by
  intro os
  kernel_rfl
theorem factsL {P : Program} {w : World} {K : PySem.W.Frag} {h : Heap} {mg : Str → Option Value} {f : Addr} (X : K.In h) (G : h.Ns mainGlobals mg) (hfa : mg ("law" : Str) = some (.ref f)) (c : He.SaysD faL fnL K) (ce : exL K = true) :
    ∃ fd : FuncData, (∀ (s : Shared) (v : Value), BindsTo s fd ⟨[v], []⟩ [("_law_script", v)]) ∧ ∀ base : Heap, K.In base → base.Ns mainGlobals mg → FnG P w K mg base CX0 10 f fd ["_law_script"] (spLaw K) := by
  have ee := fun b (hb : b ∈ _) => List.all_eq_true.mp ce b hb
  obtain ⟨fd, F⟩ := c.def_ 17 (d := d_law) rfl
  have e := hfa.symm.trans (He.glo_ok X G (c.fact 17 (f := .glo "law") rfl))
  cases e
  have b := FunD.bindsA (ps := ["_law_script"]) F fun _ _ _ _ _ _ us hl => match us, hl with | [_], _ => rfl
  refine ⟨fd, fun s v => b s [v] rfl, fun base _ _ => ?_⟩
  have g__law_well := He.glo_ok X G (c.fact 0 (f := .glo "_law_well") rfl)
  have g__law_dip := He.glo_ok X G (c.fact 1 (f := .glo "_law_dip") rfl)
  have g_is_integer := He.glo_ok X G (c.fact 2 (f := .glo "is_integer") rfl)
  have g_is_within_range := He.glo_ok X G (c.fact 3 (f := .glo "is_within_range") rfl)
  have g_is_load := He.glo_ok X G (c.fact 4 (f := .glo "is_load") rfl)
  have g_is_block := He.glo_ok X G (c.fact 5 (f := .glo "is_block") rfl)
  have g_wrong_block := He.glo_ok X G (c.fact 6 (f := .glo "wrong_block") rfl)
  have g_kinds_in := He.glo_ok X G (c.fact 7 (f := .glo "kinds_in") rfl)
  have g_check_blocks := He.glo_ok X G (c.fact 8 (f := .glo "check_blocks") rfl)
  have g_crossings := He.glo_ok X G (c.fact 9 (f := .glo "crossings") rfl)
  have g__law_count_ok := He.glo_ok X G (c.fact 10 (f := .glo "_law_count_ok") rfl)
  have g__law_is_block := He.glo_ok X G (c.fact 11 (f := .glo "_law_is_block") rfl)
  have g__law_told := He.glo_ok X G (c.fact 12 (f := .glo "_law_told") rfl)
  have g__law_row := He.glo_ok X G (c.fact 13 (f := .glo "_law_row") rfl)
  have g__law_odd := He.glo_ok X G (c.fact 14 (f := .glo "_law_odd") rfl)
  have g__law_due := He.glo_ok X G (c.fact 15 (f := .glo "_law_due") rfl)
  have g__law_right := He.glo_ok X G (c.fact 16 (f := .glo "_law_right") rfl)
  have g_law := He.glo_ok X G (c.fact 17 (f := .glo "law") rfl)
  have g_InvalidPlan := He.glo_ok X G (c.fact 18 (f := .glo "InvalidPlan") rfl)
  have g_NoAnswer := He.glo_ok X G (c.fact 19 (f := .glo "NoAnswer") rfl)
  have g_WrongName := He.glo_ok X G (c.fact 20 (f := .glo "WrongName") rfl)
  have g_WrongValue := He.glo_ok X G (c.fact 21 (f := .glo "WrongValue") rfl)
  have n_ArithmeticError := He.free_ok X G (c.fact 22 (f := .free "ArithmeticError") rfl)
  have n_LookupError := He.free_ok X G (c.fact 23 (f := .free "LookupError") rfl)
  have n_ValueError := He.free_ok X G (c.fact 24 (f := .free "ValueError") rfl)
  have n_abs := He.free_ok X G (c.fact 25 (f := .free "abs") rfl)
  have n_all := He.free_ok X G (c.fact 26 (f := .free "all") rfl)
  have n_bool := He.free_ok X G (c.fact 27 (f := .free "bool") rfl)
  have n_divmod := He.free_ok X G (c.fact 28 (f := .free "divmod") rfl)
  have n_enumerate := He.free_ok X G (c.fact 29 (f := .free "enumerate") rfl)
  have n_int := He.free_ok X G (c.fact 30 (f := .free "int") rfl)
  have n_isinstance := He.free_ok X G (c.fact 31 (f := .free "isinstance") rfl)
  have n_len := He.free_ok X G (c.fact 32 (f := .free "len") rfl)
  have n_list := He.free_ok X G (c.fact 33 (f := .free "list") rfl)
  have n_max := He.free_ok X G (c.fact 34 (f := .free "max") rfl)
  have n_min := He.free_ok X G (c.fact 35 (f := .free "min") rfl)
  have n_range := He.free_ok X G (c.fact 36 (f := .free "range") rfl)
  have n_repr := He.free_ok X G (c.fact 37 (f := .free "repr") rfl)
  have n_str := He.free_ok X G (c.fact 38 (f := .free "str") rfl)
  have n_sum := He.free_ok X G (c.fact 39 (f := .free "sum") rfl)
  have n_tuple := He.free_ok X G (c.fact 40 (f := .free "tuple") rfl)
  have k_MOST_KINDS := He.int_ok X G (c.fact 41 (f := .int "MOST_KINDS" 4) rfl)
  have k_MOST_THINGS := He.int_ok X G (c.fact 42 (f := .int "MOST_THINGS" 1000000000000000000000000000000) rfl)
  have L__law_well : Lk K mg "_law_well" s__law_well := lk_of X G c 0 0 rfl rfl
  have L__law_dip : Lk K mg "_law_dip" s__law_dip := lk_of X G c 1 1 rfl rfl
  have L_is_integer : Lk K mg "is_integer" s_is_integer := lk_of X G c 2 2 rfl rfl
  have L_is_within_range : Lk K mg "is_within_range" s_is_within_range := lk_of X G c 3 3 rfl rfl
  have L_is_load : Lk K mg "is_load" s_is_load := lk_of X G c 4 4 rfl rfl
  have L_is_block : Lk K mg "is_block" s_is_block := lk_of X G c 5 5 rfl rfl
  have L_wrong_block : Lk K mg "wrong_block" s_wrong_block := lk_of X G c 6 6 rfl rfl
  have L_kinds_in : Lk K mg "kinds_in" s_kinds_in := lk_of X G c 7 7 rfl rfl
  have L_check_blocks : Lk K mg "check_blocks" s_check_blocks := lk_of X G c 8 8 rfl rfl
  have L_crossings : Lk K mg "crossings" s_crossings := lk_of X G c 9 9 rfl rfl
  have L__law_count_ok : Lk K mg "_law_count_ok" s__law_count_ok := lk_of X G c 10 10 rfl rfl
  have L__law_is_block : Lk K mg "_law_is_block" s__law_is_block := lk_of X G c 11 11 rfl rfl
  have L__law_told : Lk K mg "_law_told" s__law_told := lk_of X G c 12 12 rfl rfl
  have L__law_row : Lk K mg "_law_row" s__law_row := lk_of X G c 13 13 rfl rfl
  have L__law_odd : Lk K mg "_law_odd" s__law_odd := lk_of X G c 14 14 rfl rfl
  have L__law_due : Lk K mg "_law_due" s__law_due := lk_of X G c 15 15 rfl rfl
  have L__law_right : Lk K mg "_law_right" s__law_right := lk_of X G c 16 16 rfl rfl
  have x_InvalidPlan : ErrT P w K mg base "InvalidPlan" _ _ "index" := errT_of g_InvalidPlan (ee _ (List.mem_of_getElem? (i := 0) rfl)) fun ec => by
    obtain ⟨fd, F⟩ := c.def_ 18 (d := e_InvalidPlan) rfl
    exact ⟨fd, ini_ok ec F isc_InvalidPlan (by first | exact Or.inl rfl | exact Or.inr (Or.inl rfl)) (by first | exact Or.inl rfl | exact Or.inr (Or.inl rfl)) (by decide) (by decide), F.bindsN fun _ _ _ _ _ _ us hl => match us, hl with | [_, _], _ => rfl⟩
  have c_NoAnswer : ClsG K mg "NoAnswer" _ := ⟨g_NoAnswer⟩
  have c_WrongName : ClsG K mg "WrongName" _ := ⟨g_WrongName⟩
  have c_WrongValue : ClsG K mg "WrongValue" _ := ⟨g_WrongValue⟩
  have q1 : PySem.W.kitOne K (.ref (He.ga K "InvalidPlan")) (.ref (He.ga K "WrongValue")) = some true := of_decide_eq_true (ee _ (List.mem_of_getElem? (i := 1) rfl))
  have q2 : PySem.W.kitOne K (.ref (He.ga K "InvalidPlan")) (.ref (He.ga K "WrongName")) = some false := of_decide_eq_true (ee _ (List.mem_of_getElem? (i := 2) rfl))
  have q3 : PySem.W.kitOne K (.ref (He.ga K "InvalidPlan")) (.ref (He.ga K "NoAnswer")) = some false := of_decide_eq_true (ee _ (List.mem_of_getElem? (i := 3) rfl))
  have q4 : PySem.W.kitOne K (.ref (He.ga K "InvalidPlan")) (.type "ValueError") = some true := of_decide_eq_true (ee _ (List.mem_of_getElem? (i := 4) rfl))
  have q5 : PySem.W.kitOne K (.ref (He.ga K "InvalidPlan")) (.type "LookupError") = some false := of_decide_eq_true (ee _ (List.mem_of_getElem? (i := 5) rfl))
  have q6 : PySem.W.kitOne K (.ref (He.ga K "InvalidPlan")) (.type "ArithmeticError") = some false := of_decide_eq_true (ee _ (List.mem_of_getElem? (i := 6) rfl))
  have h__law_dip : Has P w K mg base wlW 1 "_law_dip" ["_law_well_here", "_law_many"] ct__law_dip := ok__law_dip n_divmod n_int L__law_dip
  have h_is_integer : Has P w K mg base wlW 1 "is_integer" ["value"] ct_is_integer := ok_is_integer n_bool n_int n_isinstance L_is_integer
  have h_is_within_range : Has P w K mg base wlW 2 "is_within_range" ["value", "least", "most"] ct_is_within_range := ok_is_within_range h_is_integer L_is_within_range
  have h_is_load : Has P w K mg base wlW 3 "is_load" ["value", "many"] ct_is_load := ok_is_load n_all n_isinstance n_len n_tuple k_MOST_THINGS h_is_within_range L_is_load
  have h_is_block : Has P w K mg base wlW 4 "is_block" ["value", "many", "is_last"] ct_is_block := ok_is_block n_isinstance n_len n_tuple k_MOST_THINGS h_is_load h_is_within_range L_is_block
  have h_wrong_block : Has P w K mg base wlW 5 "wrong_block" ["blocks", "many"] ct_wrong_block := ok_wrong_block n_enumerate n_len h_is_block L_wrong_block
  have h_kinds_in : Has P w K mg base wlW 1 "kinds_in" ["blocks"] ct_kinds_in := ok_kinds_in n_isinstance n_len n_tuple k_MOST_KINDS L_kinds_in
  have h_check_blocks : HasX P w K mg base wlW 6 "check_blocks" ["blocks"] (ct_check_blocks (He.ga K "InvalidPlan")) := ok_check_blocks n_isinstance n_tuple h_kinds_in h_wrong_block x_InvalidPlan L_check_blocks
  have h_crossings : HasX P w K mg base wlW 7 "crossings" ["blocks"] (ct_crossings (He.ga K "InvalidPlan")) := ok_crossings n_sum h_check_blocks L_crossings
  have hk_crossings : KwX P w K mg base wlW 7 "crossings" ["blocks"] (ct_crossings (He.ga K "InvalidPlan")) := okk_crossings n_sum h_check_blocks L_crossings
  have h__law_count_ok : Has P w K mg base wlW 1 "_law_count_ok" ["_law_value", "_law_least"] ct__law_count_ok := ok__law_count_ok n_bool n_int n_isinstance L__law_count_ok
  have h__law_is_block : Has P w K mg base wlW 2 "_law_is_block" ["_law_value", "_law_total", "_law_last"] ct__law_is_block := ok__law_is_block n_all n_isinstance n_len n_tuple h__law_count_ok L__law_is_block
  have h__law_told : HasG P w K mg base wlW 8 "_law_told" ["_law_value", "_law_named"] ct__law_told := ok__law_told n_ArithmeticError n_LookupError n_ValueError n_isinstance n_repr h_crossings hk_crossings x_InvalidPlan c_NoAnswer c_WrongName c_WrongValue q1 q2 q3 q4 q5 q6 L__law_told
  have h__law_row : Has P w K mg base wlW 2 "_law_row" ["_law_well_here", "_law_total"] ct__law_row := ok__law_row n_range n_tuple h__law_dip L__law_row
  have h__law_odd : Has P w K mg base wlW 2 "_law_odd" ["_law_well_here", "_law_block"] ct__law_odd := ok__law_odd n_len n_list h__law_dip L__law_odd
  have h__law_due : HasG P w K mg base wlW 3 "_law_due" ["_law_value", "_law_total"] ct__law_due := ok__law_due n_len n_range n_repr n_str n_sum h__law_is_block L__law_due
  have h__law_right : HasG P w K mg base wlW 9 "_law_right" ["_law_well_here"] (ctRight) := ok__law_right n_len n_range n_tuple h__law_dip h__law_due h__law_odd h__law_row h__law_told L__law_right
  exact ok_law (kr := 8) n_len n_max n_min n_range (ok__law_well n_len n_int n_abs L__law_well) g__law_well h__law_right F
end FL
open PySem PySem.W PySem.Calls PyProof.Rows
theorem PySem.Challenge.cw_ferryloads_k31_crossings_counted_holds : PySem.Challenge.rw_ferryloads_k31_crossings_counted.Holds := by
  w_on; o_law
  refine HandSHeadRun.head_any (r := OpenLaw.row PySem.Challenge.rw_ferryloads_k31_crossings_counted) (q := view (OpenLaw.row PySem.Challenge.rw_ferryloads_k31_crossings_counted).prog [27]) (H := FL.hkL) (ob := FL.obL) (M := 3000) (loose := FL.namesL) (d := HandSHeadRun.topDef (OpenLaw.row PySem.Challenge.rw_ferryloads_k31_crossings_counted).prog 27) (kwd := []) FL.obL_eq
    (by kernel_rfl) (fun s => by kernel_rfl) FL.runL (by kernel_rfl) (by kernel_rfl) (by kernel_rfl) (by rfl) (by first | assumption | decide +kernel) (by decide +kernel) ⟨rfl, rfl, rfl, rfl, rfl, by decide +kernel⟩ ?hw ?hc
  case hw => w_witness2
  case hc =>
    refine FL.walk_g (l := PySem.Challenge.rw_ferryloads_k31_crossings_counted) (n := 63) (k := 10) (x := "_law_script") rfl (by decide) (by kernel_rfl) ⟨rfl, by decide, by decide⟩ ?F
    intro w mg fa h Y G hmg0
    obtain ⟨K, KX, c, ce⟩ := Y
    have hmg : mg ("law" : PySem.Str) = some (.ref fa) := by
      have e : (HandSHeadRun.topDef (OpenLaw.row PySem.Challenge.rw_ferryloads_k31_crossings_counted).prog 27).name = ("law" : PySem.Str) := by kernel_rfl
      rw [← e]
      exact hmg0
    obtain ⟨fd, hb, hF⟩ := FL.factsL (P := (PySem.Challenge.rw_ferryloads_k31_crossings_counted).prog) (w := w) KX G hmg c ce
    exact ⟨K, fd, FL.spLaw K, KX, hb, fun H a ns hl hS => ⟨a, ns, rfl, hS, hl, fun _ => rfl⟩, hF⟩
