import PyProof.Rows.All
import HandS.ForMost
import HandS.Wide
import HandS.Gcd
import HandS.IsInst
import HandS.Zip
import HandS.Style
import HandS.TupAny
import HandS.Defaults
import PyProof.ReprRoads
import PySem.Challenge.RW_ironships_k61_whole_heel_rates_and_right
import HandS.Ends
import Wide.All
import OpenK.AllK
import Wide.FinOn
import KE.KStateDown
import Lean
import HandS.Head0
import HandS.Head1
import HandS.Head2
import HandS.Head3
import HandS.HeadEnd
import HandS.HeadHook1
import HandS.HeadHook2
import HandS.HeadHook3
import HandS.HeadHook4
set_option Elab.async false
set_option linter.all false
set_option maxRecDepth 100000
set_option maxHeartbeats 0
/-! ## IrA -/
namespace Ir
open PySem.Spec PySem L2 PyProof.Rows

/-- plain data; own p: a list that this def alone may grow; sto p: the law's store; scr: the script -/
inductive D where
  | non | bl (b : Bool) | int (i : Int) | str (x : Str) | tup (ds : List D) | lst (ds : List D) | own (p : Addr) (ds : List D) | sto (p : Addr) | scr (ns : List Int) | ty (n : String)

mutual
def Rep (K : PySem.W.Frag) (M : List Addr) (H : Hp) : D → V → Prop
  | .non, v => v = .non
  | .bl b, v => v = .bl b
  | .int i, v => v = .int i
  | .str x, v => v = .str x
  | .tup ds, v => ∃ a xs, v = .ref a ∧ SqT K H a xs ∧ Reps K M H ds xs
  | .lst ds, v => ∃ a xs, v = .ref a ∧ a ∉ M ∧ H a = some (.lst xs) ∧ Reps K M H ds xs
  | .own p ds, v => v = .ref p ∧ p ∉ M ∧ ∃ xs, H p = some (.lst xs) ∧ Reps K M H ds xs
  | .sto p, v => v = .ref p ∧ p ∈ M
  | .scr ns, v => ∃ a, v = .ref a ∧ a ∉ M ∧ SqL K H a (ns.map V.int)
  | .ty n, v => v = .ty n
def Reps (K : PySem.W.Frag) (M : List Addr) (H : Hp) : List D → List V → Prop
  | [], xs => xs = []
  | d :: ds, xs => ∃ x r, xs = x :: r ∧ Rep K M H d x ∧ Reps K M H ds r
end

/-- the stores hold three ints each -/
def Ok (M : List Addr) (H : Hp) : Prop := ∀ p ∈ M, ∃ i j k : Int, H p = some (.lst [.int i, .int j, .int k])
/-- all but the stores is as it was -/
def Good (M : List Addr) (H H' : Hp) : Prop := (∀ b o, b ∉ M → H b = some o → H' b = some o) ∧ Ok M H'
theorem Good.ok {M : List Addr} {H H' : Hp} (g : Good M H H') : Ok M H' := g.2
theorem Good.refl {M : List Addr} {H : Hp} (o : Ok M H) : Good M H H := ⟨fun _ _ _ e => e, o⟩
theorem Good.trans {M : List Addr} {H H1 H2 : Hp} (a : Good M H H1) (b : Good M H1 H2) : Good M H H2 := ⟨fun c o n e => b.1 c o n (a.1 c o n e), b.2⟩
theorem Good.new {M : List Addr} {H : Hp} {p : Addr} {o : HO} (k : Ok M H) (n : H p = none) : Good M H (upd H p o) := by
  refine ⟨fun b u _ e => ?_, fun q hq => ?_⟩
  · rw [upd_ne (ne_of_none e n)]; exact e
  · obtain ⟨i, j, l, e⟩ := k q hq
    exact ⟨i, j, l, by rw [upd_ne (ne_of_none e n)]; exact e⟩
theorem Ok.free {M : List Addr} {H : Hp} {p : Addr} (k : Ok M H) (n : H p = none) : p ∉ M := fun h => by
  obtain ⟨i, j, l, e⟩ := k p h
  rw [n] at e; cases e
section
variable {K : PySem.W.Frag} {M : List Addr} {H H' : Hp}
theorem SqT.good {a : Addr} {xs : List V} (k : Ok M H) (g : Good M H H') (h : SqT K H a xs) : SqT K H' a xs := by
  rcases h with ((h | ⟨o, h⟩) | h)
  · refine .inl (.inl (g.1 _ _ (fun z => ?_) h))
    obtain ⟨_, _, _, e⟩ := k _ z
    rw [h] at e; cases e
  · refine .inl (.inr ⟨o, g.1 _ _ (fun z => ?_) h⟩)
    obtain ⟨_, _, _, e⟩ := k _ z
    rw [h] at e; cases e
  · exact .inr h
theorem SqL.good {a : Addr} {xs : List V} (g : Good M H H') (n : a ∉ M) (h : SqL K H a xs) : SqL K H' a xs := by
  rcases h with ((h | ⟨o, h⟩) | h)
  · exact .inl (.inl (g.1 _ _ n h))
  · exact .inl (.inr ⟨o, g.1 _ _ n h⟩)
  · exact .inr h
mutual
theorem Rep.good (k : Ok M H) (g : Good M H H') : ∀ (d : D) (v : V), Rep K M H d v → Rep K M H' d v
  | .non, v, h => h
  | .bl _, v, h => h
  | .int _, v, h => h
  | .str _, v, h => h
  | .tup ds, v, h => by
    unfold Rep at h ⊢
    obtain ⟨a, xs, e, s, r⟩ := h
    exact ⟨a, xs, e, SqT.good k g s, Reps.good k g ds xs r⟩
  | .lst ds, v, h => by
    unfold Rep at h ⊢
    obtain ⟨a, xs, e, n, s, r⟩ := h
    exact ⟨a, xs, e, n, g.1 _ _ n s, Reps.good k g ds xs r⟩
  | .own p ds, v, h => by
    unfold Rep at h ⊢
    obtain ⟨e, n, xs, s, r⟩ := h
    exact ⟨e, n, xs, g.1 _ _ n s, Reps.good k g ds xs r⟩
  | .sto p, v, h => h
  | .scr ns, v, h => by
    unfold Rep at h ⊢
    obtain ⟨a, e, n, s⟩ := h
    exact ⟨a, e, n, SqL.good g n s⟩
  | .ty n, v, h => h
theorem Reps.good (k : Ok M H) (g : Good M H H') : ∀ (ds : List D) (xs : List V), Reps K M H ds xs → Reps K M H' ds xs
  | [], xs, h => h
  | d :: ds, xs, h => by
    unfold Reps at h ⊢
    obtain ⟨x, r, e, h1, h2⟩ := h
    exact ⟨x, r, e, Rep.good k g d x h1, Reps.good k g ds r h2⟩
end
theorem Reps.len : ∀ {ds : List D} {xs : List V}, Reps K M H ds xs → xs.length = ds.length
  | [], xs, h => by
    unfold Reps at h
    rw [h]; rfl
  | d :: ds, xs, h => by
    unfold Reps at h
    obtain ⟨x, r, e, _, h2⟩ := h
    rw [e, List.length_cons, List.length_cons, Reps.len h2]
theorem Reps.get : ∀ {ds : List D} {xs : List V} {i : Nat} {d : D}, Reps K M H ds xs → ds[i]? = some d → ∃ x, xs[i]? = some x ∧ Rep K M H d x
  | [], xs, i, d, h, e => by simp at e
  | d :: ds, xs, 0, d', h, e => by
    unfold Reps at h
    obtain ⟨x, r, ex, h1, _⟩ := h
    subst ex
    have e2 : d = d' := Option.some.inj e
    subst e2
    exact ⟨x, rfl, h1⟩
  | d :: ds, xs, i + 1, d', h, e => by
    unfold Reps at h
    obtain ⟨x, r, ex, _, h2⟩ := h
    subst ex
    exact Reps.get (i := i) h2 e
theorem Reps.drop : ∀ {ds : List D} {xs : List V} (n : Nat), Reps K M H ds xs → Reps K M H (ds.drop n) (xs.drop n)
  | _, _, 0, h => h
  | [], xs, n + 1, h => by
    unfold Reps at h
    rw [h]
    unfold Reps
    rfl
  | d :: ds, xs, n + 1, h => by
    unfold Reps at h
    obtain ⟨x, r, ex, _, h2⟩ := h
    subst ex
    exact Reps.drop n h2
theorem Reps.take : ∀ {ds : List D} {xs : List V} (n : Nat), Reps K M H ds xs → Reps K M H (ds.take n) (xs.take n)
  | ds, xs, 0, h => by
    show Reps K M H [] (xs.take 0)
    unfold Reps
    rfl
  | [], xs, n + 1, h => by
    unfold Reps at h
    rw [h]
    unfold Reps
    rfl
  | d :: ds, xs, n + 1, h => by
    unfold Reps at h
    obtain ⟨x, r, ex, h1, h2⟩ := h
    subst ex
    show Reps K M H (d :: ds.take n) (x :: r.take n)
    unfold Reps
    exact ⟨x, _, rfl, h1, Reps.take n h2⟩
theorem Reps.append : ∀ {ds es : List D} {xs ys : List V}, Reps K M H ds xs → Reps K M H es ys → Reps K M H (ds ++ es) (xs ++ ys)
  | [], es, xs, ys, h, h' => by
    unfold Reps at h
    rw [h]
    exact h'
  | d :: ds, es, xs, ys, h, h' => by
    unfold Reps at h
    obtain ⟨x, r, ex, h1, h2⟩ := h
    subst ex
    show Reps K M H (d :: (ds ++ es)) (x :: (r ++ ys))
    unfold Reps
    exact ⟨x, _, rfl, h1, Reps.append h2 h'⟩
theorem Reps.one {d : D} {x : V} (h : Rep K M H d x) : Reps K M H [d] [x] := by
  unfold Reps
  exact ⟨x, [], rfl, h, by unfold Reps; rfl⟩
theorem Reps.nil : Reps K M H [] [] := by unfold Reps; rfl
theorem Reps.cons {d : D} {x : V} {ds : List D} {xs : List V} (h : Rep K M H d x) (h' : Reps K M H ds xs) : Reps K M H (d :: ds) (x :: xs) := by
  unfold Reps
  exact ⟨x, xs, rfl, h, h'⟩
theorem Reps.uncons {d : D} {ds : List D} {xs : List V} (h : Reps K M H (d :: ds) xs) : ∃ x r, xs = x :: r ∧ Rep K M H d x ∧ Reps K M H ds r := by
  unfold Reps at h
  exact h
theorem Reps.unnil {xs : List V} (h : Reps K M H [] xs) : xs = [] := by
  unfold Reps at h
  exact h
theorem Rep.int {i : Int} {v : V} (h : Rep K M H (.int i) v) : v = .int i := by unfold Rep at h; exact h
theorem Rep.bl {i : Bool} {v : V} (h : Rep K M H (.bl i) v) : v = .bl i := by unfold Rep at h; exact h
theorem Rep.str {i : Str} {v : V} (h : Rep K M H (.str i) v) : v = .str i := by unfold Rep at h; exact h
theorem Rep.non {v : V} (h : Rep K M H .non v) : v = .non := by unfold Rep at h; exact h
theorem Rep.tup {ds : List D} {v : V} (h : Rep K M H (.tup ds) v) : ∃ a xs, v = .ref a ∧ SqT K H a xs ∧ Reps K M H ds xs := by unfold Rep at h; exact h
theorem Rep.lst {ds : List D} {v : V} (h : Rep K M H (.lst ds) v) : ∃ a xs, v = .ref a ∧ a ∉ M ∧ H a = some (.lst xs) ∧ Reps K M H ds xs := by unfold Rep at h; exact h
theorem Rep.own {p : Addr} {ds : List D} {v : V} (h : Rep K M H (.own p ds) v) : v = .ref p ∧ p ∉ M ∧ ∃ xs, H p = some (.lst xs) ∧ Reps K M H ds xs := by unfold Rep at h; exact h
theorem Rep.scr {ns : List Int} {v : V} (h : Rep K M H (.scr ns) v) : ∃ a, v = .ref a ∧ a ∉ M ∧ SqL K H a (ns.map V.int) := by unfold Rep at h; exact h
theorem Rep.ty {n : String} {v : V} (h : Rep K M H (.ty n) v) : v = .ty n := by unfold Rep at h; exact h
theorem Rep.sto {p : Addr} {v : V} (h : Rep K M H (.sto p) v) : v = .ref p ∧ p ∈ M := by unfold Rep at h; exact h
theorem rInt (i : Int) : Rep K M H (.int i) (.int i) := by unfold Rep; rfl
theorem rBl (i : Bool) : Rep K M H (.bl i) (.bl i) := by unfold Rep; rfl
theorem rStr (i : Str) : Rep K M H (.str i) (.str i) := by unfold Rep; rfl
theorem rNon : Rep K M H .non .non := by unfold Rep; rfl
theorem rTup {ds : List D} {a : Addr} {xs : List V} (h : SqT K H a xs) (r : Reps K M H ds xs) : Rep K M H (.tup ds) (.ref a) := by unfold Rep; exact ⟨a, xs, rfl, h, r⟩
theorem rLst {ds : List D} {a : Addr} {xs : List V} (n : a ∉ M) (h : H a = some (.lst xs)) (r : Reps K M H ds xs) : Rep K M H (.lst ds) (.ref a) := by unfold Rep; exact ⟨a, xs, rfl, n, h, r⟩
theorem rOwn {ds : List D} {a : Addr} {xs : List V} (n : a ∉ M) (h : H a = some (.lst xs)) (r : Reps K M H ds xs) : Rep K M H (.own a ds) (.ref a) := by unfold Rep; exact ⟨rfl, n, xs, h, r⟩
theorem rScr {ns : List Int} {a : Addr} (n : a ∉ M) (h : SqL K H a (ns.map V.int)) : Rep K M H (.scr ns) (.ref a) := by unfold Rep; exact ⟨a, rfl, n, h⟩
theorem rTy (n : String) : Rep K M H (.ty n) (.ty n) := by unfold Rep; rfl
theorem rSto {a : Addr} (n : a ∈ M) : Rep K M H (.sto a) (.ref a) := by unfold Rep; exact ⟨rfl, n⟩
theorem Rep.own_lst {p : Addr} {ds : List D} {v : V} (h : Rep K M H (.own p ds) v) : Rep K M H (.lst ds) v := by
  obtain ⟨e, n, xs, s, r⟩ := h.own
  rw [e]
  exact rLst n s r
/-- a new tuple, a new list -/
theorem new_tup {ds : List D} {xs : List V} {p : Addr} (k : Ok M H) (n : H p = none) (r : Reps K M H ds xs) : Good M H (upd H p (.tup xs)) ∧ Rep K M (upd H p (.tup xs)) (.tup ds) (.ref p) :=
  have g : Good M H (upd H p (.tup xs)) := Good.new k n
  ⟨g, rTup (.inl (.inl upd_same)) (Reps.good k g ds xs r)⟩
theorem new_lst {ds : List D} {xs : List V} {p : Addr} (k : Ok M H) (n : H p = none) (r : Reps K M H ds xs) : Good M H (upd H p (.lst xs)) ∧ Rep K M (upd H p (.lst xs)) (.lst ds) (.ref p) :=
  have g : Good M H (upd H p (.lst xs)) := Good.new k n
  ⟨g, rLst (k.free n) upd_same (Reps.good k g ds xs r)⟩

abbrev Ev := List (Option D)
def Env (K : PySem.W.Frag) (M : List Addr) (H : Hp) (δ : Ev) (σ : L2.St) : Prop := δ.length = σ.length ∧ ∀ (i : Nat) (d : D), δ[i]? = some (some d) → ∃ v, σ[i]? = some (some v) ∧ Rep K M H d v
theorem Env.good {δ : Ev} {σ : L2.St} (k : Ok M H) (g : Good M H H') (e : Env K M H δ σ) : Env K M H' δ σ := ⟨e.1, fun i d h => by
  obtain ⟨v, h1, h2⟩ := e.2 i d h
  exact ⟨v, h1, Rep.good k g d v h2⟩⟩
theorem Env.set {δ : Ev} {σ : L2.St} {i : Nat} {d : D} {v : V} (e : Env K M H δ σ) (r : Rep K M H d v) : Env K M H (δ.set i (some d)) (σ.set i (some v)) := by
  refine ⟨by rw [List.length_set, List.length_set]; exact e.1, fun j d' h => ?_⟩
  by_cases hj : i = j
  · subst hj
    by_cases hl : i < δ.length
    · rw [List.getElem?_set_self hl] at h
      have ed : d = d' := Option.some.inj (Option.some.inj h)
      subst ed
      exact ⟨v, List.getElem?_set_self (by rw [← e.1]; exact hl), r⟩
    · rw [List.getElem?_eq_none (by rw [List.length_set]; omega)] at h
      cases h
  · rw [List.getElem?_set_ne hj] at h
    obtain ⟨v', h1, h2⟩ := e.2 j d' h
    exact ⟨v', by rw [List.getElem?_set_ne hj]; exact h1, h2⟩
/-- δ' says less than δ -/
def Less (δ δ' : Ev) : Prop := δ'.length = δ.length ∧ ∀ (i : Nat) (d : D), δ'[i]? = some (some d) → δ[i]? = some (some d)
theorem Env.less {δ δ' : Ev} {σ : L2.St} (l : Less δ δ') (e : Env K M H δ σ) : Env K M H δ' σ := ⟨by rw [l.1]; exact e.1, fun i d h => e.2 i d (l.2 i d h)⟩
theorem Less.refl (δ : Ev) : Less δ δ := ⟨rfl, fun _ _ h => h⟩
theorem Less.cons {x y : Option D} {δ δ' : Ev} (h : y = x ∨ y = none) (l : Less δ δ') : Less (x :: δ) (y :: δ') := by
  refine ⟨by rw [List.length_cons, List.length_cons, l.1], fun i d e => ?_⟩
  cases i with
  | zero =>
    have e2 : y = some d := Option.some.inj e
    rcases h with h | h
    · show some x = some (some d)
      rw [← h, e2]
    · rw [h] at e2; cases e2
  | succ i => exact l.2 i d e
theorem Env.wipe {δ : Ev} {σ : L2.St} (e : Env K M H δ σ) : ∀ vs : List Nat, (∀ i ∈ vs, δ[i]? = some none) → Env K M H δ (wipe σ vs)
  | [], _ => e
  | v :: vs, h => by
    have ih := Env.wipe e vs fun i hi => h i (List.mem_cons_of_mem _ hi)
    refine ⟨by rw [e.1, wipe_length], fun i d hd => ?_⟩
    obtain ⟨u, h1, h2⟩ := ih.2 i d hd
    refine ⟨u, ?_, h2⟩
    have hne : v ≠ i := fun z => by
      subst z
      rw [h v (List.mem_cons_self ..)] at hd
      cases hd
    show ((L2.wipe σ vs).set v none)[i]? = _
    rw [List.getElem?_set_ne hne]
    exact h1
end
end Ir
/-! ## IrB -/
namespace Ir
open PySem.Spec PySem L2 PyProof.Rows

def tE (X : Cx) (e : Expr) : TE := fun σ H Q => ∀ (pins : List (Addr × Obj)) (s : Shared), Inv X pins σ H s → wpAny (model X.prog X.w) X.A (eval e X.env) (EP X pins σ Q) X.xe s
def tA (X : Cx) (es : List Expr) : TA := fun σ H Q => ∀ (pos : Pos) (pins : List (Addr × Obj)) (s : Shared), Inv X pins σ H s → wpAny (model X.prog X.w) X.A (spliced (backTo pos (starEach es X.env))) (AP X pins σ Q) X.xe s
def tT (X : Cx) (e : Expr) : TT := fun σ H Q => ∀ (pins : List (Addr × Obj)) (s : Shared), Inv X pins σ H s → wpAny (model X.prog X.w) X.A (isTrue e X.env (eval e X.env)) (TP X pins σ Q) X.xe s
def tS (X : Cx) (sts : List Stmt) : TS := fun D σ H => ∀ (pins : List (Addr × Obj)) (s : Shared), Inv X pins σ H s → wpAny (model X.prog X.w) X.A (execs sts X.env) (SP X pins D) X.xe s
section
variable {X : Cx} {e : Expr} {es : List Expr} {sts : List Stmt}
theorem pE : PE X e (tE X e) := ⟨fun pins s _ _ _ I h => h pins s I⟩
theorem pA : PA X es (tA X es) := ⟨fun pos pins s _ _ _ I h => h pos pins s I⟩
theorem pT : PT X e (tT X e) := ⟨fun pins s _ _ _ I h => h pins s I⟩
theorem pS : PSs X sts (tS X sts) := ⟨fun pins s _ _ _ I h => h pins s I⟩
theorem toE {t : TE} (h : PE X e t) {σ : L2.St} {H : Hp} {Q : VK} (q : t σ H Q) : tE X e σ H Q := fun pins s I => h.run pins s σ H Q I q
theorem toA {t : TA} (h : PA X es t) {σ : L2.St} {H : Hp} {Q : List V → Hp → Prop} (q : t σ H Q) : tA X es σ H Q := fun pos pins s I => h.run pos pins s σ H Q I q
theorem toT {t : TT} (h : PT X e t) {σ : L2.St} {H : Hp} {Q : Bool → Hp → Prop} (q : t σ H Q) : tT X e σ H Q := fun pins s I => h.run pins s σ H Q I q
theorem toS {t : TS} (h : PSs X sts t) {D : Ends} {σ : L2.St} {H : Hp} (q : t D σ H) : tS X sts D σ H := fun pins s I => h.run pins s σ H D I q
end

/-- e gives data of which P holds -/
def WE (X : Cx) (M : List Addr) (e : Expr) (δ : Ev) (P : D → Prop) : Prop := ∀ (σ : L2.St) (H : Hp) (Q : VK), Ok M H → Env X.K M H δ σ →
  (∀ (d : D) (v : V) (H' : Hp), P d → Good M H H' → Rep X.K M H' d v → Q v H') → tE X e σ H Q
def WA (X : Cx) (M : List Addr) (es : List Expr) (δ : Ev) (P : List D → Prop) : Prop := ∀ (σ : L2.St) (H : Hp) (Q : List V → Hp → Prop), Ok M H → Env X.K M H δ σ →
  (∀ (ds : List D) (vs : List V) (H' : Hp), P ds → Good M H H' → Reps X.K M H' ds vs → Q vs H') → tA X es σ H Q
def WT (X : Cx) (M : List Addr) (e : Expr) (δ : Ev) (P : Bool → Prop) : Prop := ∀ (σ : L2.St) (H : Hp) (Q : Bool → Hp → Prop), Ok M H → Env X.K M H δ σ →
  (∀ (b : Bool) (H' : Hp), P b → Good M H H' → Q b H') → tT X e σ H Q
/-- e gives d -/
abbrev DE (X : Cx) (M : List Addr) (e : Expr) (δ : Ev) (d : D) : Prop := WE X M e δ fun x => x = d
abbrev DA (X : Cx) (M : List Addr) (es : List Expr) (δ : Ev) (ds : List D) : Prop := WA X M es δ fun x => x = ds
abbrev DT (X : Cx) (M : List Addr) (e : Expr) (δ : Ev) (b : Bool) : Prop := WT X M e δ fun x => x = b

section
variable {X : Cx} {M : List Addr} {e e2 : Expr} {es : List Expr} {δ : Ev} {P : D → Prop}
theorem WE.go (w : WE X M e δ P) {σ : L2.St} {H : Hp} {Q : VK} (k : Ok M H) (en : Env X.K M H δ σ)
    (f : ∀ (d : D) (v : V) (H' : Hp), P d → Good M H H' → Ok M H' → Env X.K M H' δ σ → Rep X.K M H' d v → Q v H') : tE X e σ H Q := w σ H Q k en fun d v H' p g r => f d v H' p g g.ok (en.good k g) r
theorem WA.go {P : List D → Prop} (w : WA X M es δ P) {σ : L2.St} {H : Hp} {Q : List V → Hp → Prop} (k : Ok M H) (en : Env X.K M H δ σ)
    (f : ∀ (d : List D) (v : List V) (H' : Hp), P d → Good M H H' → Ok M H' → Env X.K M H' δ σ → Reps X.K M H' d v → Q v H') : tA X es σ H Q := w σ H Q k en fun d v H' p g r => f d v H' p g g.ok (en.good k g) r
theorem WT.go {P : Bool → Prop} (w : WT X M e δ P) {σ : L2.St} {H : Hp} {Q : Bool → Hp → Prop} (k : Ok M H) (en : Env X.K M H δ σ)
    (f : ∀ (b : Bool) (H' : Hp), P b → Good M H H' → Ok M H' → Env X.K M H' δ σ → Q b H') : tT X e σ H Q := w σ H Q k en fun b H' p g => f b H' p g g.ok (en.good k g)
theorem WE.mono {P' : D → Prop} (w : WE X M e δ P) (h : ∀ d, P d → P' d) : WE X M e δ P' := fun σ H Q k en f => w σ H Q k en fun d v H' p g r => f d v H' (h d p) g r
theorem DE.we {d : D} (w : DE X M e δ d) (h : P d) : WE X M e δ P := w.mono fun x z => by rw [z]; exact h
theorem WA.mono {P P' : List D → Prop} (w : WA X M es δ P) (h : ∀ d, P d → P' d) : WA X M es δ P' := fun σ H Q k en f => w σ H Q k en fun d v H' p g r => f d v H' (h d p) g r
theorem WT.mono {P P' : Bool → Prop} (w : WT X M e δ P) (h : ∀ d, P d → P' d) : WT X M e δ P' := fun σ H Q k en f => w σ H Q k en fun d H' p g => f d H' (h d p) g
theorem DE.eq {d d' : D} (w : DE X M e δ d) (h : d = d') : DE X M e δ d' := by rw [← h]; exact w
theorem DT.eq {d d' : Bool} (w : DT X M e δ d) (h : d = d') : DT X M e δ d' := by rw [← h]; exact w
theorem WE.less {δ' : Ev} (l : Less δ δ') (w : WE X M e δ' P) : WE X M e δ P := fun σ H Q k en f => w σ H Q k (en.less l) f

theorem de_v (i : Nat) {x : Str} {pos : Pos} {d : D} (hN : X.N[i]? = some x) (hv : Vis X.env.scope x) (hd : δ[i]? = some (some d)) (h1 : (x == ("__debug__" : Str)) = false := by decide) (h2 : (x == ("__classdict__" : Str)) = false := by decide) : DE X M (.Name x pos) δ d := by
  intro σ H Q k en f
  obtain ⟨v, e1, r⟩ := en.2 i d hd
  exact toE (pe_var hN hv h1 h2) ⟨v, e1, f d v H rfl (Good.refl k) r⟩
theorem de_vo (i : Nat) {x : Str} {pos : Pos} {p : Addr} {ds : List D} (hN : X.N[i]? = some x) (hv : Vis X.env.scope x) (hd : δ[i]? = some (some (.own p ds))) (h1 : (x == ("__debug__" : Str)) = false := by decide) (h2 : (x == ("__classdict__" : Str)) = false := by decide) :
    DE X M (.Name x pos) δ (.lst ds) := by
  intro σ H Q k en f
  obtain ⟨v, e1, r⟩ := en.2 i _ hd
  exact toE (pe_var hN hv h1 h2) ⟨v, e1, f _ v H rfl (Good.refl k) r.own_lst⟩
theorem de_int {i : Int} {j : Nat} {pos : Pos} : DE X M (.Constant (.int i) j pos) δ (.int i) := fun σ H Q k en f => toE pe_int (f _ _ H rfl (Good.refl k) (rInt i))
theorem de_bl {i : Bool} {j : Nat} {pos : Pos} : DE X M (.Constant (.bool i) j pos) δ (.bl i) := fun σ H Q k en f => toE pe_bl (f _ _ H rfl (Good.refl k) (rBl i))
theorem de_non {j : Nat} {pos : Pos} : DE X M (.Constant .none j pos) δ .non := fun σ H Q k en f => toE pe_non (f _ _ H rfl (Good.refl k) rNon)
/-- a module's constant -/
def Gd (K : PySem.W.Frag) (mg : Str → Option Value) (x : Str) (d : D) : Prop := ∃ (v : V) (u : Value), mg x = some u ∧ RelV v u ∧ ∀ (M : List Addr) (H : Hp), Rep K M H d v
theorem de_g {x : Str} {pos : Pos} {d : D} (G : Gd X.K X.mg x d) (hg : Gl X x) (hd : (x == ("__debug__" : Str)) = false := by decide) : DE X M (.Name x pos) δ d := by
  intro σ H Q k en f
  obtain ⟨v, u, hm, r, rep⟩ := G
  exact toE (pe_glob hg hm r hd) (f _ _ H rfl (Good.refl k) (rep M H))

theorem wa_nil {P : List D → Prop} (h : P []) : WA X M [] δ P := fun σ H Q k en f => toA pa_nil (f _ _ H h (Good.refl k) Reps.nil)
theorem wa_cons {P : List D → Prop} (h : WE X M e δ fun d => WA X M es δ fun ds => P (d :: ds)) (hs : starEach (e :: es) X.env = (false, eval e X.env) :: starEach es X.env := by rfl) : WA X M (e :: es) δ P := by
  intro σ H Q k en f
  refine toA (pa_cons pE pA hs) (h.go k en fun d v H1 w1 g1 k1 en1 r1 => w1.go k1 en1 fun ds vs H2 p2 g2 k2 en2 r2 => ?_)
  exact f _ _ H2 p2 (g1.trans g2) (Reps.cons (Rep.good k1 g2 d v r1) r2)
theorem da_nil : DA X M [] δ [] := wa_nil rfl
theorem da_cons {d : D} {ds : List D} (h : DE X M e δ d) (h' : DA X M es δ ds) (hs : starEach (e :: es) X.env = (false, eval e X.env) :: starEach es X.env := by rfl) : DA X M (e :: es) δ (d :: ds) :=
  wa_cons (h.we (h'.mono fun x z => by rw [z])) hs
theorem we_tup {k : Nat} {pos : Pos} (h : WA X M es δ fun ds => ds.length ≤ 1000 ∧ P (.tup ds)) : WE X M (.Tuple es k pos) δ P := by
  intro σ H Q ok en f
  refine toE (pe_tup pA) (h.go ok en fun ds vs H1 p1 g1 k1 en1 r1 => ⟨?_, fun p hp => ?_⟩)
  · rw [r1.len]
    exact Nat.le_of_lt (small1000 p1.1)
  · obtain ⟨g2, r2⟩ := new_tup k1 hp r1
    exact f _ _ _ p1.2 (g1.trans g2) r2
theorem de_tup {k : Nat} {pos : Pos} {ds : List D} (h : DA X M es δ ds) (hl : ds.length ≤ 1000 := by exact Nat.le_of_ble_eq_true rfl) : DE X M (.Tuple es k pos) δ (.tup ds) := we_tup (h.mono fun x z => by rw [z]; exact ⟨hl, rfl⟩)
theorem we_lst {pos : Pos} (h : WA X M es δ fun ds => ds.length ≤ 1000 ∧ P (.lst ds)) : WE X M (.List es pos) δ P := by
  intro σ H Q ok en f
  refine toE (pe_lst pA) (h.go ok en fun ds vs H1 p1 g1 k1 en1 r1 => ⟨?_, fun p hp => ?_⟩)
  · rw [r1.len]
    exact Nat.le_of_lt (small1000 p1.1)
  · obtain ⟨g2, r2⟩ := new_lst k1 hp r1
    exact f _ _ _ p1.2 (g1.trans g2) r2
theorem de_lst {pos : Pos} {ds : List D} (h : DA X M es δ ds) (hl : ds.length ≤ 1000 := by exact Nat.le_of_ble_eq_true rfl) : DE X M (.List es pos) δ (.lst ds) := we_lst (h.mono fun x z => by rw [z]; exact ⟨hl, rfl⟩)

def Op2 (K : PySem.W.Frag) (M : List Addr) (r : R2) (x y d : D) : Prop := ∀ (vx vy : V) (H : Hp) (Q : VK), Ok M H → Rep K M H x vx → Rep K M H y vy → (∀ (v : V) (H' : Hp), Good M H H' → Rep K M H' d v → Q v H') → r vx vy H Q
theorem we_bin {op : Operator} {r : R2} {pos : Pos} (ho : OpR X (binaryOp op) r) (h : WE X M e δ fun x => WE X M e2 δ fun y => ∃ d, Op2 X.K M r x y d ∧ P d) : WE X M (.BinOp e op e2 pos) δ P := by
  intro σ H Q ok en f
  refine toE (pe_op ho pE pE) (h.go ok en fun x vx H1 w1 g1 k1 en1 r1 => w1.go k1 en1 fun y vy H2 p2 g2 k2 en2 r2 => ?_)
  obtain ⟨d, h2, hp⟩ := p2
  exact h2 vx vy H2 Q k2 (Rep.good k1 g2 x vx r1) r2 fun v H3 g3 r3 => f d v H3 hp ((g1.trans g2).trans g3) r3
theorem de_bin {op : Operator} {r : R2} {pos : Pos} {x y d : D} (ho : OpR X (binaryOp op) r) (hx : DE X M e δ x) (hy : DE X M e2 δ y) (h : Op2 X.K M r x y d) : DE X M (.BinOp e op e2 pos) δ d :=
  we_bin ho (hx.we (hy.we ⟨d, h, rfl⟩))
theorem we_cmp {op : CmpOp} {r : R2} {pos : Pos} (ho : OpR X (compareOp op) r) (hm : behindInMarks op e2 = false) (h : WE X M e δ fun x => WE X M e2 δ fun y => ∃ d, Op2 X.K M r x y d ∧ P d) : WE X M (.Compare e [op] [e2] pos) δ P := by
  intro σ H Q ok en f
  refine toE (pe_cmpR ho pE pE hm) (h.go ok en fun x vx H1 w1 g1 k1 en1 r1 => w1.go k1 en1 fun y vy H2 p2 g2 k2 en2 r2 => ?_)
  obtain ⟨d, h2, hp⟩ := p2
  exact h2 vx vy H2 Q k2 (Rep.good k1 g2 x vx r1) r2 fun v H3 g3 r3 => f d v H3 hp ((g1.trans g2).trans g3) r3
theorem de_cmp {op : CmpOp} {r : R2} {pos : Pos} {x y d : D} (ho : OpR X (compareOp op) r) (hm : behindInMarks op e2 = false) (hx : DE X M e δ x) (hy : DE X M e2 δ y) (h : Op2 X.K M r x y d) : DE X M (.Compare e [op] [e2] pos) δ d :=
  we_cmp ho hm (hx.we (hy.we ⟨d, h, rfl⟩))
theorem wt_cmp {op : CmpOp} {r : R2} {pos : Pos} {P : Bool → Prop} (ho : OpR X (compareOp op) r) (hm : behindInMarks op e2 = false) (h : WE X M e δ fun x => WE X M e2 δ fun y => ∃ b, Op2 X.K M r x y (.bl b) ∧ P b) : WT X M (.Compare e [op] [e2] pos) δ P := by
  intro σ H Q ok en f
  refine toT (pt_cmpR ho pE pE hm) (h.go ok en fun x vx H1 w1 g1 k1 en1 r1 => w1.go k1 en1 fun y vy H2 p2 g2 k2 en2 r2 => ?_)
  obtain ⟨b, h2, hp⟩ := p2
  exact h2 vx vy H2 _ k2 (Rep.good k1 g2 x vx r1) r2 fun v H3 g3 r3 => ⟨b, r3.bl, f b H3 hp ((g1.trans g2).trans g3)⟩
theorem dt_cmp {op : CmpOp} {r : R2} {pos : Pos} {x y : D} {b : Bool} (ho : OpR X (compareOp op) r) (hm : behindInMarks op e2 = false) (hx : DE X M e δ x) (hy : DE X M e2 δ y) (h : Op2 X.K M r x y (.bl b)) : DT X M (.Compare e [op] [e2] pos) δ b :=
  wt_cmp ho hm (hx.we (hy.we ⟨b, h, rfl⟩))
theorem de_neg {pos : Pos} {i : Int} (h : DE X M e δ (.int i)) : DE X M (.UnaryOp .USub e pos) δ (.int (-i)) := by
  intro σ H Q ok en f
  refine toE (pe_un un_neg pE) (h.go ok en fun x vx H1 w1 g1 k1 en1 r1 => ?_)
  subst w1
  exact ⟨i, r1.int, f _ _ H1 rfl g1 (rInt _)⟩
/-- ints -/
theorem o_int {g : Int → Int → V} {K : PySem.W.Frag} {i j : Int} {d : D} (h : ∀ H, Rep K M H d (g i j)) : Op2 K M (rI0 g) (.int i) (.int j) d := fun vx vy H Q k rx ry f => ⟨i, j, rx.int, ry.int, f _ H (Good.refl k) (h H)⟩
theorem o_intC {C : Int → Int → Prop} {g : Int → Int → V} {K : PySem.W.Frag} {i j : Int} {d : D} (hc : C i j) (h : ∀ H, Rep K M H d (g i j)) : Op2 K M (rI C g) (.int i) (.int j) d := fun vx vy H Q k rx ry f => ⟨i, j, rx.int, ry.int, hc, f _ H (Good.refl k) (h H)⟩
theorem de_add {pos : Pos} {i j : Int} (hx : DE X M e δ (.int i)) (hy : DE X M e2 δ (.int j)) : DE X M (.BinOp e .Add e2 pos) δ (.int (i + j)) := de_bin op_add hx hy (o_int fun _ => rInt _)
theorem de_sub {pos : Pos} {i j : Int} (hx : DE X M e δ (.int i)) (hy : DE X M e2 δ (.int j)) : DE X M (.BinOp e .Sub e2 pos) δ (.int (i - j)) := de_bin op_sub hx hy (o_int fun _ => rInt _)
theorem de_mul {pos : Pos} {i j : Int} (hx : DE X M e δ (.int i)) (hy : DE X M e2 δ (.int j)) (hc : CMulW i j) : DE X M (.BinOp e .Mult e2 pos) δ (.int (i * j)) := de_bin op_mulW hx hy (o_intC hc fun _ => rInt _)
theorem de_mod {pos : Pos} {i j : Int} (hx : DE X M e δ (.int i)) (hy : DE X M e2 δ (.int j)) (hc : 0 < j) : DE X M (.BinOp e .Mod e2 pos) δ (.int (i % j)) := de_bin op_mod hx hy (o_intC hc fun _ => rInt _)
/-- // by any divisor below 2 ^ 9000 -/
def CDivA (_ j : Int) : Prop := j ≠ 0 ∧ j.natAbs.log2 < 9000
theorem op_fdivA : OpR X (binaryOp .FloorDiv) (rI CDivA fun i j => .int (i.fdiv j)) := opI fun i j _ _ _ _ _ hc q => floordiv_int hc.1 q (.inl (PyProof.noPylong_of_log2 hc.2))
theorem de_fdiv {pos : Pos} {i j : Int} (hx : DE X M e δ (.int i)) (hy : DE X M e2 δ (.int j)) (hc : CDivA i j) : DE X M (.BinOp e .FloorDiv e2 pos) δ (.int (i.fdiv j)) := de_bin op_fdivA hx hy (o_intC hc fun _ => rInt _)
theorem dt_lt {pos : Pos} {i j : Int} (hx : DE X M e δ (.int i)) (hy : DE X M e2 δ (.int j)) : DT X M (.Compare e [.Lt] [e2] pos) δ (decide (i < j)) := dt_cmp op_lt (nomark _) hx hy (o_int fun _ => rBl _)
theorem dt_gt {pos : Pos} {i j : Int} (hx : DE X M e δ (.int i)) (hy : DE X M e2 δ (.int j)) : DT X M (.Compare e [.Gt] [e2] pos) δ (decide (j < i)) := dt_cmp op_gt (nomark _) hx hy (o_int fun _ => rBl _)
theorem de_gt {pos : Pos} {i j : Int} (hx : DE X M e δ (.int i)) (hy : DE X M e2 δ (.int j)) : DE X M (.Compare e [.Gt] [e2] pos) δ (.bl (decide (j < i))) := de_cmp op_gt (nomark _) hx hy (o_int fun _ => rBl _)
theorem dt_ge {pos : Pos} {i j : Int} (hx : DE X M e δ (.int i)) (hy : DE X M e2 δ (.int j)) : DT X M (.Compare e [.GtE] [e2] pos) δ (decide (j ≤ i)) := dt_cmp op_ge (nomark _) hx hy (o_int fun _ => rBl _)
theorem o_eqI {K : PySem.W.Frag} {i j : Int} : Op2 K M rEq (.int i) (.int j) (.bl (decide (i = j))) := fun vx vy H Q k rx ry f => by
  rw [rx.int, ry.int]
  refine ⟨rfl, ?_⟩
  have e : decide (V.int i = V.int j) = decide (i = j) := by
    by_cases h : i = j
    · rw [h, decide_eq_true rfl, decide_eq_true rfl]
    · rw [decide_eq_false h, decide_eq_false fun z => h (V.int.inj z)]
  rw [e]
  exact f _ H (Good.refl k) (rBl _)
theorem o_neI {K : PySem.W.Frag} {i j : Int} : Op2 K M rNe (.int i) (.int j) (.bl (!decide (i = j))) := fun vx vy H Q k rx ry f => by
  rw [rx.int, ry.int]
  refine ⟨rfl, ?_⟩
  have e : decide (V.int i = V.int j) = decide (i = j) := by
    by_cases h : i = j
    · rw [h, decide_eq_true rfl, decide_eq_true rfl]
    · rw [decide_eq_false h, decide_eq_false fun z => h (V.int.inj z)]
  rw [e]
  exact f _ H (Good.refl k) (rBl _)
theorem de_eqI {pos : Pos} {i j : Int} (hx : DE X M e δ (.int i)) (hy : DE X M e2 δ (.int j)) : DE X M (.Compare e [.Eq] [e2] pos) δ (.bl (decide (i = j))) := de_cmp op_eq (nomark _) hx hy o_eqI
theorem dt_eqI {pos : Pos} {i j : Int} (hx : DE X M e δ (.int i)) (hy : DE X M e2 δ (.int j)) : DT X M (.Compare e [.Eq] [e2] pos) δ (decide (i = j)) := dt_cmp op_eq (nomark _) hx hy o_eqI
theorem dt_neI {pos : Pos} {i j : Int} (hx : DE X M e δ (.int i)) (hy : DE X M e2 δ (.int j)) : DT X M (.Compare e [.NotEq] [e2] pos) δ (!decide (i = j)) := dt_cmp op_ne (nomark _) hx hy o_neI
/-- texts -/
theorem de_neS {pos : Pos} {i j : Str} (hx : DE X M e δ (.str i)) (hy : DE X M e2 δ (.str j)) : DE X M (.Compare e [.NotEq] [e2] pos) δ (.bl (!decide (i = j))) := de_cmp op_ne (nomark _) hx hy fun vx vy H Q k rx ry f => by
  rw [rx.str, ry.str]
  refine ⟨rfl, ?_⟩
  have e : decide (V.str i = V.str j) = decide (i = j) := by
    by_cases h : i = j
    · rw [h, decide_eq_true rfl, decide_eq_true rfl]
    · rw [decide_eq_false h, decide_eq_false fun z => h (V.str.inj z)]
  rw [e]
  exact f _ H (Good.refl k) (rBl _)
theorem de_eqS {pos : Pos} {i j : Str} (hx : DE X M e δ (.str i)) (hy : DE X M e2 δ (.str j)) : DE X M (.Compare e [.Eq] [e2] pos) δ (.bl (decide (i = j))) := de_cmp op_eq (nomark _) hx hy fun vx vy H Q k rx ry f => by
  rw [rx.str, ry.str]
  refine ⟨rfl, ?_⟩
  have e : decide (V.str i = V.str j) = decide (i = j) := by
    by_cases h : i = j
    · rw [h, decide_eq_true rfl, decide_eq_true rfl]
    · rw [decide_eq_false h, decide_eq_false fun z => h (V.str.inj z)]
  rw [e]
  exact f _ H (Good.refl k) (rBl _)
/-- is None -/
def D.isNon : D → Bool
  | .non => true
  | _ => false
theorem rep_non {K : PySem.W.Frag} {H : Hp} {d : D} {v : V} (r : Rep K M H d v) : decide (v = .non) = d.isNon := by
  cases d with
  | non => rw [r.non]; rfl
  | bl b => rw [r.bl]; rfl
  | int b => rw [r.int]; rfl
  | str b => rw [r.str]; rfl
  | tup ds => obtain ⟨a, _, e, _⟩ := r.tup; rw [e]; rfl
  | lst ds => obtain ⟨a, _, e, _⟩ := r.lst; rw [e]; rfl
  | own p ds => obtain ⟨e, _⟩ := r.own; rw [e]; rfl
  | sto p => obtain ⟨e, _⟩ := r.sto; rw [e]; rfl
  | scr ns => obtain ⟨a, e, _⟩ := r.scr; rw [e]; rfl
  | ty n => rw [r.ty]; rfl
theorem de_isN {pos pos' : Pos} {j : Nat} {d : D} (hx : DE X M e δ d) : DE X M (.Compare e [.Is] [.Constant .none j pos'] pos) δ (.bl d.isNon) := de_cmp op_isN (nomark _) hx de_non fun vx vy H Q k rx ry f => by
  refine ⟨ry.non, ?_⟩
  rw [rep_non rx]
  exact f _ H (Good.refl k) (rBl _)
theorem dt_isN {pos pos' : Pos} {j : Nat} {d : D} (hx : DE X M e δ d) : DT X M (.Compare e [.Is] [.Constant .none j pos'] pos) δ d.isNon := dt_cmp op_isN (nomark _) hx de_non fun vx vy H Q k rx ry f => by
  refine ⟨ry.non, ?_⟩
  rw [rep_non rx]
  exact f _ H (Good.refl k) (rBl _)

theorem wt_val {P : Bool → Prop} (h : WE X M e δ fun d => ∃ b, d = .bl b ∧ P b) (he : ∀ whole, isTrue e X.env whole = (do let v ← whole; standAt e.pos; holding [v] (truthy v))) : WT X M e δ P := by
  intro σ H Q ok en f
  refine toT (pt_val pE he) (h.go ok en fun d v H1 p1 g1 k1 en1 r1 => ?_)
  obtain ⟨b, rfl, p⟩ := p1
  exact ⟨b, r1.bl, f b H1 p g1⟩
theorem dt_val {b : Bool} (h : DE X M e δ (.bl b)) (he : ∀ whole, isTrue e X.env whole = (do let v ← whole; standAt e.pos; holding [v] (truthy v))) : DT X M e δ b := wt_val (h.we ⟨b, rfl, rfl⟩) he
theorem wt_not {pos : Pos} {P : Bool → Prop} (h : WT X M e δ fun b => P (!b)) : WT X M (.UnaryOp .Not e pos) δ P := by
  intro σ H Q ok en f
  exact toT (pt_not pT) (h.go ok en fun b H1 p1 g1 k1 en1 => f _ H1 p1 g1)
theorem dt_not {pos : Pos} {b : Bool} (h : DT X M e δ b) : DT X M (.UnaryOp .Not e pos) δ (!b) := wt_not (h.mono fun x z => by rw [z])
/-- and, or as tests -/
def tW (X : Cx) (e : Expr) : TT := fun σ H Q => ∀ (whole : Sem Value) (pins : List (Addr × Obj)) (s : Shared), Inv X pins σ H s → wpAny (model X.prog X.w) X.A (isTrue e X.env whole) (TP X pins σ Q) X.xe s
theorem pW : PW X e (tW X e) := ⟨fun wh pins s _ _ _ I h => h wh pins s I⟩
theorem toW {t : TT} (h : PW X e t) {σ : L2.St} {H : Hp} {Q : Bool → Hp → Prop} (q : t σ H Q) : tW X e σ H Q := fun wh pins s I => h.run wh pins s σ H Q I q
def WW (X : Cx) (M : List Addr) (e : Expr) (δ : Ev) (P : Bool → Prop) : Prop := ∀ (σ : L2.St) (H : Hp) (Q : Bool → Hp → Prop), Ok M H → Env X.K M H δ σ →
  (∀ (b : Bool) (H' : Hp), P b → Good M H H' → Q b H') → tW X e σ H Q
theorem WW.wt {P : Bool → Prop} (h : WW X M e δ P) : WT X M e δ P := fun σ H Q ok en f => toT pW.pt (h σ H Q ok en f)
theorem ww_one {op : BoolOp} {pos : Pos} {P : Bool → Prop} (h : WT X M e δ P) : WW X M (.BoolOp op [e] pos) δ P := by
  intro σ H Q ok en f
  cases op with
  | And => exact toW (pw_and1 pT) (h σ H Q ok en f)
  | Or => exact toW (pw_or1 pT) (h σ H Q ok en f)
theorem ww_and {pos : Pos} {P : Bool → Prop} (h : WT X M e δ fun b => if b = true then WW X M (.BoolOp .And (e2 :: es) pos) δ P else P false) : WW X M (.BoolOp .And (e :: e2 :: es) pos) δ P := by
  intro σ H Q ok en f
  refine toW (pw_and pT pW) (h.go ok en fun b H1 p1 g1 k1 en1 => ?_)
  cases b with
  | true =>
    rw [if_pos rfl] at p1 ⊢
    exact p1 σ H1 _ k1 en1 fun b' H2 p2 g2 => f b' H2 p2 (g1.trans g2)
  | false =>
    rw [if_neg Bool.false_ne_true] at p1 ⊢
    exact f _ H1 p1 g1
theorem ww_or {pos : Pos} {P : Bool → Prop} (h : WT X M e δ fun b => if b = true then P true else WW X M (.BoolOp .Or (e2 :: es) pos) δ P) : WW X M (.BoolOp .Or (e :: e2 :: es) pos) δ P := by
  intro σ H Q ok en f
  refine toW (pw_or pT pW) (h.go ok en fun b H1 p1 g1 k1 en1 => ?_)
  cases b with
  | true =>
    rw [if_pos rfl] at p1 ⊢
    exact f _ H1 p1 g1
  | false =>
    rw [if_neg Bool.false_ne_true] at p1 ⊢
    exact p1 σ H1 _ k1 en1 fun b' H2 p2 g2 => f b' H2 p2 (g1.trans g2)
/-- and as a value, of bools: all hold; the last one's answer -/
theorem de_one {op : BoolOp} {pos : Pos} {d : D} (h : DE X M e δ d) : DE X M (.BoolOp op [e] pos) δ d := fun σ H Q ok en f => toE (pe_one pE) (h σ H Q ok en f)
theorem de_andT {pos : Pos} {d : D} (h : DE X M e δ (.bl true)) (h2 : DE X M (.BoolOp .And (e2 :: es) pos) δ d) : DE X M (.BoolOp .And (e :: e2 :: es) pos) δ d := by
  intro σ H Q ok en f
  refine toE (pe_and pE pE) (h.go ok en fun x v H1 p1 g1 k1 en1 r1 => ?_)
  subst p1
  refine ⟨true, r1.bl, ?_⟩
  rw [if_pos rfl]
  exact h2 σ H1 Q k1 en1 fun d v H2 p2 g2 r2 => f d v H2 p2 (g1.trans g2) r2
theorem de_andF {pos : Pos} (h : DE X M e δ (.bl false)) : DE X M (.BoolOp .And (e :: e2 :: es) pos) δ (.bl false) := by
  intro σ H Q ok en f
  refine toE (pe_and pE pE) (h.go ok en fun x v H1 p1 g1 k1 en1 r1 => ?_)
  subst p1
  refine ⟨false, r1.bl, ?_⟩
  rw [if_neg (Bool.false_ne_true)]
  exact f _ _ H1 rfl g1 (rBl _)
theorem de_not {pos : Pos} {b : Bool} (h : DE X M e δ (.bl b)) : DE X M (.UnaryOp .Not e pos) δ (.bl (!b)) := by
  intro σ H Q ok en f
  refine toE (pe_not pE) (h.go ok en fun x v H1 p1 g1 k1 en1 r1 => ?_)
  subst p1
  exact ⟨b, r1.bl, f _ _ H1 rfl g1 (rBl _)⟩
theorem we_ifExp {c : Expr} {pos : Pos} (h : WT X M c δ fun b => if b = true then WE X M e δ P else WE X M e2 δ P) : WE X M (.IfExp c e e2 pos) δ P := by
  intro σ H Q ok en f
  refine toE (pe_ifExp pT pE pE) (h.go ok en fun b H1 p1 g1 k1 en1 => ?_)
  cases b with
  | true =>
    rw [if_pos rfl] at p1 ⊢
    exact p1 σ H1 Q k1 en1 fun d v H2 p2 g2 r2 => f d v H2 p2 (g1.trans g2) r2
  | false =>
    rw [if_neg Bool.false_ne_true] at p1 ⊢
    exact p1 σ H1 Q k1 en1 fun d v H2 p2 g2 r2 => f d v H2 p2 (g1.trans g2) r2
end
end Ir
/-! ## IrC -/
namespace Ir
open PySem.Spec PySem L2 PyProof.Rows
section
variable {K : PySem.W.Frag} {M : List Addr} {H : Hp}
theorem Reps.at {ds : List D} {xs : List V} {i : Int} {d : D} (r : Reps K M H ds xs) (h : atI ds i = some d) : ∃ v, atI xs i = some v ∧ Rep K M H d v := by
  have hl := r.len
  unfold atI at h ⊢
  rw [hl]
  cases q : ixN ds.length i with
  | none => rw [q] at h; cases h
  | some j =>
    rw [q] at h
    exact r.get h
/-- the items of ds[lo:hi] -/
def cutD {α : Type} (ds : List α) (lo hi : Option Int) : List α := (ds.drop (HT.sIx ds.length 0 lo)).take (HT.sIx ds.length ds.length hi - HT.sIx ds.length 0 lo)
theorem Reps.cut {ds : List D} {xs : List V} (lo hi : Option Int) (r : Reps K M H ds xs) : Reps K M H (cutD ds lo hi) (cutV xs lo hi) := by
  unfold cutD cutV
  rw [r.len]
  exact (r.drop _).take _
theorem cutD_whole {α : Type} {ds : List α} {lo hi : Option Int} (h : HT.sIx ds.length 0 lo = 0 ∧ HT.sIx ds.length ds.length hi = ds.length) : cutD ds lo hi = ds := by
  unfold cutD
  rw [h.1, h.2]
  exact (List.take_of_length_le (by simp))
end
section
variable {X : Cx} {M : List Addr} {e e2 : Expr} {es : List Expr} {δ : Ev} {P : D → Prop}
theorem we_ixT {pos : Pos} (hs : PlainIx e2) (h : WE X M e δ fun x => WE X M e2 δ fun y => ∃ ds i d, x = .tup ds ∧ y = .int i ∧ atI ds i = some d ∧ P d) : WE X M (.Subscript e e2 pos) δ P := by
  intro σ H Q ok en f
  refine toE (pe_ix ix_tup pE pE hs) (h.go ok en fun x vx H1 w1 g1 k1 en1 r1 => w1.go k1 en1 fun y vy H2 p2 g2 k2 en2 r2 => ?_)
  obtain ⟨ds, i, d, rfl, rfl, ha, p⟩ := p2
  obtain ⟨a, xs, e1, s, r⟩ := (Rep.good k1 g2 _ vx r1).tup
  obtain ⟨v, hv, rv⟩ := r.at ha
  exact ⟨a, xs, i, v, e1, r2.int, s, hv, f d v H2 p (g1.trans g2) rv⟩
theorem de_ixT {pos : Pos} {ds : List D} {i : Int} {d : D} (hs : PlainIx e2) (hx : DE X M e δ (.tup ds)) (hy : DE X M e2 δ (.int i)) (h : atI ds i = some d) : DE X M (.Subscript e e2 pos) δ d :=
  we_ixT hs (hx.we (hy.we ⟨ds, i, d, rfl, rfl, h, rfl⟩))
theorem we_ixL {pos : Pos} (hs : PlainIx e2) (h : WE X M e δ fun x => WE X M e2 δ fun y => ∃ ds i d, x = .lst ds ∧ y = .int i ∧ atI ds i = some d ∧ P d) : WE X M (.Subscript e e2 pos) δ P := by
  intro σ H Q ok en f
  refine toE (pe_ix ix_list pE pE hs) (h.go ok en fun x vx H1 w1 g1 k1 en1 r1 => w1.go k1 en1 fun y vy H2 p2 g2 k2 en2 r2 => ?_)
  obtain ⟨ds, i, d, rfl, rfl, ha, p⟩ := p2
  obtain ⟨a, xs, e1, _, s, r⟩ := (Rep.good k1 g2 _ vx r1).lst
  obtain ⟨v, hv, rv⟩ := r.at ha
  exact ⟨a, xs, i, v, e1, r2.int, .inl (.inl s), hv, f d v H2 p (g1.trans g2) rv⟩
theorem de_ixL {pos : Pos} {ds : List D} {i : Int} {d : D} (hs : PlainIx e2) (hx : DE X M e δ (.lst ds)) (hy : DE X M e2 δ (.int i)) (h : atI ds i = some d) : DE X M (.Subscript e e2 pos) δ d :=
  we_ixL hs (hx.we (hy.we ⟨ds, i, d, rfl, rfl, h, rfl⟩))
/-- script[i] -/
theorem de_ixS {pos : Pos} {ns : List Int} {i j : Int} (hs : PlainIx e2) (hx : DE X M e δ (.scr ns)) (hy : DE X M e2 δ (.int i)) (h : atI ns i = some j) : DE X M (.Subscript e e2 pos) δ (.int j) := by
  intro σ H Q ok en f
  refine toE (pe_ix ix_list pE pE hs) (hx.go ok en fun x vx H1 w1 g1 k1 en1 r1 => hy.go k1 en1 fun y vy H2 p2 g2 k2 en2 r2 => ?_)
  subst w1 p2
  obtain ⟨a, e1, _, s⟩ := (Rep.good k1 g2 _ vx r1).scr
  refine ⟨a, ns.map V.int, i, .int j, e1, r2.int, s, ?_, f _ _ H2 rfl (g1.trans g2) (rInt _)⟩
  unfold atI at h ⊢
  rw [List.length_map]
  cases q : ixN ns.length i with
  | none => rw [q] at h; cases h
  | some l =>
    rw [q] at h
    have h2 : ns[l]? = some j := h
    show (ns.map V.int)[l]? = some (.int j)
    rw [List.getElem?_map, h2]
    rfl
def WO (X : Cx) (M : List Addr) (o : Option Expr) (δ : Ev) (z : Option Int) : Prop := match o, z with
  | none, none => True
  | some e, some i => DE X M e δ (.int i)
  | _, _ => False
theorem po_of {o : Option Expr} {z : Option Int} (h : WO X M o δ z) : ∃ t, PO X o t ∧ ∀ (σ : L2.St) (H : Hp) (Q : Option Int → Hp → Prop), Ok M H → Env X.K M H δ σ → (∀ H', Good M H H' → Q z H') → t σ H Q := by
  cases o with
  | none =>
    cases z with
    | none => exact ⟨_, po_none, fun σ H Q ok en f => f H (Good.refl ok)⟩
    | some i => exact False.elim h
  | some e =>
    cases z with
    | none => exact False.elim h
    | some i =>
      have h2 : DE X M e δ (.int i) := h
      refine ⟨_, po_some pE, fun σ H Q ok en f => h2.go ok en fun d v H1 p1 g1 k1 en1 r1 => ?_⟩
      subst p1
      exact ⟨i, r1.int, f H1 g1⟩
theorem de_slT {lo hi : Option Expr} {zl zh : Option Int} {p2 pos : Pos} {ds es : List D} (hx : DE X M e δ (.tup ds)) (hl : WO X M lo δ zl) (hh : WO X M hi δ zh) (h : cutD ds zl zh = es) : DE X M (.Subscript e (.Slice lo hi none p2) pos) δ (.tup es) := by
  intro σ H Q ok en f
  obtain ⟨tl, pl, fl⟩ := po_of hl
  obtain ⟨th, ph, fh⟩ := po_of hh
  refine toE (pe_slice sl_tupA pE pl ph) (hx.go ok en fun x vx H1 w1 g1 k1 en1 r1 => fl σ H1 _ k1 en1 fun H2 g2 => fh σ H2 _ g2.ok (en1.good k1 g2) fun H3 g3 => ?_)
  subst w1
  have g23 := g2.trans g3
  obtain ⟨a, xs, e1, s, r⟩ := (Rep.good k1 g23 _ vx r1).tup
  refine ⟨a, xs, e1, s, fun hw => ?_, fun _ p hp => ?_⟩
  · rw [r.len] at hw
    rw [cutD_whole hw] at h
    subst h
    rw [← e1]
    exact f _ _ H3 rfl (g1.trans g23) (Rep.good k1 g23 _ vx r1)
  · have r2 := r.cut zl zh
    rw [h] at r2
    obtain ⟨g4, r4⟩ := new_tup g3.ok hp r2
    exact f _ _ _ rfl ((g1.trans g23).trans g4) r4
theorem de_slL {lo hi : Option Expr} {zl zh : Option Int} {p2 pos : Pos} {ds es : List D} (hx : DE X M e δ (.lst ds)) (hl : WO X M lo δ zl) (hh : WO X M hi δ zh) (h : cutD ds zl zh = es) : DE X M (.Subscript e (.Slice lo hi none p2) pos) δ (.lst es) := by
  intro σ H Q ok en f
  obtain ⟨tl, pl, fl⟩ := po_of hl
  obtain ⟨th, ph, fh⟩ := po_of hh
  refine toE (pe_slice sl_list pE pl ph) (hx.go ok en fun x vx H1 w1 g1 k1 en1 r1 => fl σ H1 _ k1 en1 fun H2 g2 => fh σ H2 _ g2.ok (en1.good k1 g2) fun H3 g3 => ?_)
  subst w1
  have g23 := g2.trans g3
  obtain ⟨a, xs, e1, _, s, r⟩ := (Rep.good k1 g23 _ vx r1).lst
  refine ⟨a, xs, e1, .inl (.inl s), fun p hp => ?_⟩
  have r2 := r.cut zl zh
  rw [h] at r2
  obtain ⟨g4, r4⟩ := new_lst g3.ok hp r2
  exact f _ _ _ rfl ((g1.trans g23).trans g4) r4
theorem reps_ints {K : PySem.W.Frag} {H : Hp} : ∀ ns : List Int, Reps K M H (ns.map D.int) (ns.map V.int)
  | [] => Reps.nil
  | n :: ns => Reps.cons (rInt n) (reps_ints ns)
theorem cut_ints {lo hi : Option Int} {ns : List Int} : cutV (ns.map V.int) lo hi = (cutD ns lo hi).map V.int := by
  unfold cutV cutD
  rw [List.length_map, List.map_take, List.map_drop]
theorem de_slS {lo hi : Option Expr} {zl zh : Option Int} {p2 pos : Pos} {ns : List Int} (hx : DE X M e δ (.scr ns)) (hl : WO X M lo δ zl) (hh : WO X M hi δ zh) : DE X M (.Subscript e (.Slice lo hi none p2) pos) δ (.lst ((cutD ns zl zh).map D.int)) := by
  intro σ H Q ok en f
  obtain ⟨tl, pl, fl⟩ := po_of hl
  obtain ⟨th, ph, fh⟩ := po_of hh
  refine toE (pe_slice sl_list pE pl ph) (hx.go ok en fun x vx H1 w1 g1 k1 en1 r1 => fl σ H1 _ k1 en1 fun H2 g2 => fh σ H2 _ g2.ok (en1.good k1 g2) fun H3 g3 => ?_)
  subst w1
  have g23 := g2.trans g3
  obtain ⟨a, e1, _, s⟩ := (Rep.good k1 g23 _ vx r1).scr
  refine ⟨a, _, e1, s, fun p hp => ?_⟩
  rw [cut_ints]
  obtain ⟨g4, r4⟩ := new_lst g3.ok hp (reps_ints (K := X.K) (M := M) (H := H3) (cutD ns zl zh))
  exact f _ _ _ rfl ((g1.trans g23).trans g4) r4
theorem o_catT {K : PySem.W.Frag} {ds es : List D} (hl : ds.length + es.length ≤ 1000) : Op2 K M (rCatA K) (.tup ds) (.tup es) (.tup (ds ++ es)) := fun vx vy H Q k rx ry f => by
  obtain ⟨a, xs, e1, s1, r1⟩ := rx.tup
  obtain ⟨b, ys, e2, s2, r2⟩ := ry.tup
  have r3 := r1.append r2
  have l1 := r1.len
  have l2 := r2.len
  refine ⟨a, b, xs, ys, e1, e2, s1, s2, ?_, fun h => ?_, fun _ h => ?_, fun _ _ p hp => ?_⟩
  · rw [l1, l2]
    exact Nat.le_of_lt (small1000 hl)
  · refine f _ H (Good.refl k) (rTup s2 ?_)
    subst h
    exact r3
  · refine f _ H (Good.refl k) (rTup s1 ?_)
    subst h
    rw [List.append_nil] at r3
    exact r3
  · obtain ⟨g, r⟩ := new_tup k hp r3
    exact f _ _ g r
theorem de_catT {pos : Pos} {ds es : List D} (hx : DE X M e δ (.tup ds)) (hy : DE X M e2 δ (.tup es)) (hl : ds.length + es.length ≤ 1000 := by exact Nat.le_of_ble_eq_true rfl) : DE X M (.BinOp e .Add e2 pos) δ (.tup (ds ++ es)) := de_bin op_catA hx hy (o_catT hl)
theorem o_catL {K : PySem.W.Frag} {ds es : List D} (hl : ds.length + es.length ≤ 1000) : Op2 K M rCat (.lst ds) (.lst es) (.lst (ds ++ es)) := fun vx vy H Q k rx ry f => by
  obtain ⟨a, xs, e1, _, s1, r1⟩ := rx.lst
  obtain ⟨b, ys, e2, _, s2, r2⟩ := ry.lst
  refine ⟨a, b, xs, ys, e1, e2, s1, s2, ?_, fun p hp => ?_⟩
  · rw [r1.len, r2.len]
    exact Nat.le_of_lt (small1000 hl)
  · obtain ⟨g, r⟩ := new_lst k hp (r1.append r2)
    exact f _ _ g r
theorem de_catL {pos : Pos} {ds es : List D} (hx : DE X M e δ (.lst ds)) (hy : DE X M e2 δ (.lst es)) (hl : ds.length + es.length ≤ 1000 := by exact Nat.le_of_ble_eq_true rfl) : DE X M (.BinOp e .Add e2 pos) δ (.lst (ds ++ es)) := de_bin op_cat hx hy (o_catL hl)

def OpN (K : PySem.W.Frag) (M : List Addr) (r : List V → Hp → VK → Prop) (ds : List D) (d : D) : Prop := ∀ (vs : List V) (H : Hp) (Q : VK), Ok M H → Reps K M H ds vs → (∀ (v : V) (H' : Hp), Good M H H' → Rep K M H' d v → Q v H') → r vs H Q
section
variable {x : Str} {p pos : Pos} {id : String} {r : List V → Hp → VK → Prop}
theorem we_callB (hc : CallR X (.builtin id) r) (hg : Gl X x) (hm : X.mg x = none) (hv : bootBuiltins x = some (.builtin id)) (h : WA X M (e :: es) δ fun ds => ∃ d, OpN X.K M r ds d ∧ P d) (hn : x ≠ "__name__" := by decide) (hdb : (x == ("__debug__" : Str)) = false := by decide)
    (he : starEach (e :: es) X.env = (false, eval e X.env) :: starEach es X.env := by rfl) (hpl : (backTo pos (starEach es X.env)).any (·.1) = false := by rfl) : WE X M (.Call (.Name x p) (e :: es) [] pos) δ P := by
  intro σ H Q ok en f
  refine toE (pe_callB hc hg hm hv pA hn hdb he hpl) (h.go ok en fun ds vs H1 p1 g1 k1 en1 r1 => ?_)
  obtain ⟨d, h2, hp⟩ := p1
  exact h2 vs H1 Q k1 r1 fun v H2 g2 r2 => f d v H2 hp (g1.trans g2) r2
theorem we_callTy (hc : CallR X (.type id) r) (hg : Gl X x) (hm : X.mg x = none) (hv : bootBuiltins x = some (.type id)) (h : WA X M (e :: es) δ fun ds => ∃ d, OpN X.K M r ds d ∧ P d) (hn : x ≠ "__name__" := by decide) (hdb : (x == ("__debug__" : Str)) = false := by decide)
    (he : starEach (e :: es) X.env = (false, eval e X.env) :: starEach es X.env := by rfl) (hpl : (backTo pos (starEach es X.env)).any (·.1) = false := by rfl) : WE X M (.Call (.Name x p) (e :: es) [] pos) δ P := by
  intro σ H Q ok en f
  refine toE (pe_callTy hc hg hm hv pA hn hdb he hpl) (h.go ok en fun ds vs H1 p1 g1 k1 en1 r1 => ?_)
  obtain ⟨d, h2, hp⟩ := p1
  exact h2 vs H1 Q k1 r1 fun v H2 g2 r2 => f d v H2 hp (g1.trans g2) r2
theorem we_callF (hc : CallR X (.builtin id) r) (hg : Gl X x) (hm : X.mg x = some (.builtin id)) (h : WA X M (e :: es) δ fun ds => ∃ d, OpN X.K M r ds d ∧ P d) (hdb : (x == ("__debug__" : Str)) = false := by decide)
    (he : starEach (e :: es) X.env = (false, eval e X.env) :: starEach es X.env := by rfl) (hpl : (backTo pos (starEach es X.env)).any (·.1) = false := by rfl) : WE X M (.Call (.Name x p) (e :: es) [] pos) δ P := by
  intro σ H Q ok en f
  refine toE (pe_callBfun hc hg hm pA hdb he hpl) (h.go ok en fun ds vs H1 p1 g1 k1 en1 r1 => ?_)
  obtain ⟨d, h2, hp⟩ := p1
  exact h2 vs H1 Q k1 r1 fun v H2 g2 r2 => f d v H2 hp (g1.trans g2) r2
end
theorem Reps.one_ {K : PySem.W.Frag} {H : Hp} {d : D} {vs : List V} (h : Reps K M H [d] vs) : ∃ x, vs = [x] ∧ Rep K M H d x := by
  obtain ⟨x, r, e1, h1, h2⟩ := h.uncons
  rw [h2.unnil] at e1
  exact ⟨x, e1, h1⟩
theorem Reps.two_ {K : PySem.W.Frag} {H : Hp} {d d2 : D} {vs : List V} (h : Reps K M H [d, d2] vs) : ∃ x y, vs = [x, y] ∧ Rep K M H d x ∧ Rep K M H d2 y := by
  obtain ⟨x, r, e1, h1, h2⟩ := h.uncons
  obtain ⟨y, e2, h3⟩ := Reps.one_ h2
  rw [e2] at e1
  exact ⟨x, y, e1, h1, h3⟩
section
variable {x : Str} {p pos : Pos}
theorem de_len {d : D} {n : Nat} (hg : Gl X "len") (hm : X.mg "len" = none) (hx : DE X M e δ d) (h : (∃ ds, d = .tup ds ∧ n = ds.length) ∨ (∃ ds, d = .lst ds ∧ n = ds.length) ∨ ∃ ns, d = .scr ns ∧ n = ns.length)
    (he : starEach [e] X.env = (false, eval e X.env) :: starEach [] X.env := by rfl) (hpl : (backTo pos (starEach [] X.env)).any (·.1) = false := by rfl) : DE X M (.Call (.Name "len" p) [e] [] pos) δ (.int n) := by
  refine we_callB call_len_seq hg hm PySem.boot_len (wa_cons (hx.we (wa_nil ⟨_, fun vs H Q k r f => ?_, rfl⟩)) he) (by decide) (by decide) he hpl
  obtain ⟨v, rfl, r1⟩ := Reps.one_ r
  rcases h with ⟨ds, rfl, rfl⟩ | ⟨ds, rfl, rfl⟩ | ⟨ns, rfl, rfl⟩
  · obtain ⟨a, xs, e1, s, r2⟩ := r1.tup
    refine ⟨a, xs, by rw [e1], .inr s, ?_⟩
    rw [r2.len]
    exact f _ H (Good.refl k) (rInt _)
  · obtain ⟨a, xs, e1, _, s, r2⟩ := r1.lst
    refine ⟨a, xs, by rw [e1], .inl (.inl (.inl s)), ?_⟩
    rw [r2.len]
    exact f _ H (Good.refl k) (rInt _)
  · obtain ⟨a, e1, _, s⟩ := r1.scr
    refine ⟨a, _, by rw [e1], .inl s, ?_⟩
    rw [List.length_map]
    exact f _ H (Good.refl k) (rInt _)
/-- the type of data -/
def D.tyn : D → String
  | .non => "NoneType"
  | .bl _ => "bool"
  | .int _ => "int"
  | .str _ => "str"
  | .tup _ => "tuple"
  | .lst _ => "list"
  | .own _ _ => "list"
  | _ => "?"
theorem rep_ty {K : PySem.W.Frag} {H : Hp} {d : D} {v : V} (r : Rep K M H d v) (h : d.tyn ≠ "?") : TyX K H v (.type d.tyn) := by
  cases d with
  | non => rw [r.non]; exact .base .non
  | bl b => rw [r.bl]; exact .base (.bl b)
  | int b => rw [r.int]; exact .base (.int b)
  | str b => rw [r.str]; exact .base (.str b)
  | tup ds =>
    obtain ⟨a, _, e, s, _⟩ := r.tup
    rw [e]
    rcases s with (s | ⟨o, s⟩) | ⟨o, its, n, hk, hc, _⟩
    · exact .base (.tup s)
    · exact .fTuple s
    · exact .kTuple hk hc
  | lst ds => obtain ⟨a, _, e, _, s, _⟩ := r.lst; rw [e]; exact .base (.lst s)
  | own p ds => obtain ⟨e, _, _, s, _⟩ := r.own; rw [e]; exact .base (.lst s)
  | sto p => exact absurd rfl h
  | scr ns => exact absurd rfl h
  | ty n => exact absurd rfl h
theorem de_isi (t T : String) (b : Bool) {d : D} {x2 : Str} {p2 : Pos} (hg : Gl X "isinstance") (hm : X.mg "isinstance" = none) (hx : DE X M e δ d) (hd : d.tyn = t) (hg2 : Gl X x2) (hm2 : X.mg x2 = none) (hv2 : bootBuiltins x2 = some (.type T) := by decide +kernel) (ht : t ≠ "?" := by decide) (hb : kitB t T = some b := by decide +kernel)
    (hn : x2 ≠ "__name__" := by decide) (hdb : (x2 == ("__debug__" : Str)) = false := by decide)
    (he : starEach [e, .Name x2 p2] X.env = (false, eval e X.env) :: starEach [.Name x2 p2] X.env := by rfl) (he2 : starEach [.Name x2 p2] X.env = (false, eval (.Name x2 p2) X.env) :: starEach [] X.env := by rfl)
    (hpl : (backTo pos (starEach [.Name x2 p2] X.env)).any (·.1) = false := by rfl) : DE X M (.Call (.Name "isinstance" p) [e, .Name x2 p2] [] pos) δ (.bl b) := by
  have h2 : DE X M (.Name x2 p2) δ (.ty T) := fun σ H Q k en f => toE (pe_bltn (v := .ty T) hg2 hm2 hv2 rfl hn hdb) (f _ _ H rfl (Good.refl k) (rTy T))
  refine we_callB call_isi hg hm (by decide +kernel) (wa_cons (hx.we (wa_cons (h2.we (wa_nil ⟨_, fun vs H Q k r f => ?_, rfl⟩)) he2)) he) (by decide) (by decide) he hpl
  obtain ⟨v, c, rfl, r1, r2⟩ := Reps.two_ r
  subst hd
  refine ⟨v, c, .type d.tyn, .type T, b, rfl, ?_, rep_ty r1 ht, kit_ty hb, f _ H (Good.refl k) (rBl b)⟩
  rw [r2.ty]
  exact .ty T
end
end
end Ir
/-! ## IrD -/
namespace Ir
open PySem.Spec PySem L2 PyProof.Rows
mutual
def D.py : D → PyData
  | .bl b => .bool b
  | .int i => .int i
  | .str x => .str x
  | .tup ds => .tuple (D.pys ds)
  | .lst ds => .list (D.pys ds)
  | _ => .none
def D.pys : List D → List PyData
  | [] => []
  | d :: ds => D.py d :: D.pys ds
end
mutual
def D.plain : D → Bool
  | .non => true
  | .bl _ => true
  | .int _ => true
  | .str _ => true
  | .tup ds => D.plains ds
  | .lst ds => D.plains ds
  | _ => false
def D.plains : List D → Bool
  | [] => true
  | d :: ds => D.plain d && D.plains ds
end
section
variable {K : PySem.W.Frag} {M : List Addr} {H : Hp}
mutual
theorem rep_py : ∀ (d : D) (v : V), Rep K M H d v → d.plain = true → Dp K H v d.py
  | .non, v, r, h => by rw [r.non]; unfold D.py; exact .non
  | .bl b, v, r, h => by rw [r.bl]; unfold D.py; exact .bl b
  | .int b, v, r, h => by rw [r.int]; unfold D.py; exact .int b
  | .str b, v, r, h => by rw [r.str]; unfold D.py; exact .str b
  | .tup ds, v, r, h => by
    obtain ⟨a, xs, e, s, r2⟩ := r.tup
    rw [e]
    unfold D.py
    unfold D.plain at h
    exact .tup s (reps_py ds xs r2 h)
  | .lst ds, v, r, h => by
    obtain ⟨a, xs, e, _, s, r2⟩ := r.lst
    rw [e]
    unfold D.py
    unfold D.plain at h
    exact .lst (.inl (.inl s)) (reps_py ds xs r2 h)
  | .own _ _, v, r, h => by unfold D.plain at h; cases h
  | .sto _, v, r, h => by unfold D.plain at h; cases h
  | .scr _, v, r, h => by unfold D.plain at h; cases h
  | .ty _, v, r, h => by unfold D.plain at h; cases h
theorem reps_py : ∀ (ds : List D) (xs : List V), Reps K M H ds xs → D.plains ds = true → DpAll K H xs (D.pys ds)
  | [], xs, r, h => by
    rw [r.unnil]
    unfold D.pys
    exact .nil
  | d :: ds, xs, r, h => by
    obtain ⟨x, ys, e, h1, h2⟩ := r.uncons
    unfold D.plains at h
    obtain ⟨q1, q2⟩ := Bool.and_eq_true_iff.mp h
    rw [e]
    unfold D.pys
    exact .cons (rep_py d x h1 q1) (reps_py ds ys h2 q2)
end
end
section
variable {X : Cx} {M : List Addr} {e e2 : Expr} {es : List Expr} {δ : Ev} {P : D → Prop}
theorem o_eqD {K : PySem.W.Frag} {x y : D} {b : Bool} (hx : x.plain = true) (hy : y.plain = true) (sx : SeqAt.shaped x.py = true) (sy : SeqAt.shaped y.py = true) (h : PyData.eqv x.py y.py = b) : Op2 K M (rEqD K) x y (.bl b) := fun vx vy H Q k rx ry f =>
  ⟨x.py, y.py, rep_py x vx rx hx, rep_py y vy ry hy, sx, sy, by rw [h]; exact f _ H (Good.refl k) (rBl b)⟩
theorem o_neD {K : PySem.W.Frag} {x y : D} {b : Bool} (hx : x.plain = true) (hy : y.plain = true) (sx : SeqAt.shaped x.py = true) (sy : SeqAt.shaped y.py = true) (h : PyData.eqv x.py y.py = b) : Op2 K M (rNeD K) x y (.bl (!b)) := fun vx vy H Q k rx ry f =>
  ⟨x.py, y.py, rep_py x vx rx hx, rep_py y vy ry hy, sx, sy, by rw [h]; exact f _ H (Good.refl k) (rBl _)⟩
section
variable {x : Str} {p pos : Pos}
theorem all_lst {K : PySem.W.Frag} {H : Hp} : ∀ {bs : List Bool} {xs : List V}, Reps K M H (bs.map D.bl) xs → xs = bs.map V.bl
  | [], xs, r => r.unnil
  | b :: bs, xs, r => by
    obtain ⟨x, ys, e, h1, h2⟩ := Reps.uncons (d := .bl b) (ds := bs.map D.bl) r
    rw [e, h1.bl, all_lst h2]
    rfl
theorem de_all {bs : List Bool} {b : Bool} (hc : X.calm = true) (hg : Gl X "all") (hm : X.mg "all" = none) (hx : DE X M e δ (.lst (bs.map D.bl))) (h : bs.all id = b)
    (he : starEach [e] X.env = (false, eval e X.env) :: starEach [] X.env := by rfl) (hpl : (backTo pos (starEach [] X.env)).any (·.1) = false := by rfl) : DE X M (.Call (.Name "all" p) [e] [] pos) δ (.bl b) := by
  refine we_callB (cr_all hc) hg hm (by decide +kernel) (wa_cons (hx.we (wa_nil ⟨_, fun vs H Q k r f => ?_, rfl⟩)) he) (by decide) (by decide) he hpl
  obtain ⟨v, rfl, r1⟩ := Reps.one_ r
  obtain ⟨a, xs, e1, _, s, r2⟩ := r1.lst
  rw [all_lst r2] at s
  refine ⟨a, bs, by rw [e1], .inl (.inl s), ?_⟩
  rw [h]
  exact f _ H (Good.refl k) (rBl _)
theorem de_abs {i : Int} (hg : Gl X "abs") (hm : X.mg "abs" = none) (hx : DE X M e δ (.int i))
    (he : starEach [e] X.env = (false, eval e X.env) :: starEach [] X.env := by rfl) (hpl : (backTo pos (starEach [] X.env)).any (·.1) = false := by rfl) : DE X M (.Call (.Name "abs" p) [e] [] pos) δ (.int (i.natAbs : Nat)) := by
  refine we_callB call_abs hg hm (by decide +kernel) (wa_cons (hx.we (wa_nil ⟨_, fun vs H Q k r f => ?_, rfl⟩)) he) (by decide) (by decide) he hpl
  obtain ⟨v, rfl, r1⟩ := Reps.one_ r
  refine ⟨i, by rw [r1.int], ?_⟩
  have e1 : (if i < 0 then -i else i) = ((i.natAbs : Nat) : Int) := by omega
  rw [e1]
  exact f _ H (Good.refl k) (rInt _)
theorem de_toInt {i : Int} (hg : Gl X "int") (hm : X.mg "int" = none) (hx : DE X M e δ (.int i))
    (he : starEach [e] X.env = (false, eval e X.env) :: starEach [] X.env := by rfl) (hpl : (backTo pos (starEach [] X.env)).any (·.1) = false := by rfl) : DE X M (.Call (.Name "int" p) [e] [] pos) δ (.int i) := by
  refine we_callTy call_int1 hg hm (by decide +kernel) (wa_cons (hx.we (wa_nil ⟨_, fun vs H Q k r f => ?_, rfl⟩)) he) (by decide) (by decide) he hpl
  obtain ⟨v, rfl, r1⟩ := Reps.one_ r
  exact .inl ⟨i, by rw [r1.int], f _ H (Good.refl k) (rInt _)⟩
theorem we_toInt (hg : Gl X "int") (hm : X.mg "int" = none) (hx : WE X M e δ fun d => ∃ i, d = .int i ∧ P (.int i))
    (he : starEach [e] X.env = (false, eval e X.env) :: starEach [] X.env := by rfl) (hpl : (backTo pos (starEach [] X.env)).any (·.1) = false := by rfl) : WE X M (.Call (.Name "int" p) [e] [] pos) δ P := by
  refine we_callTy call_int1 hg hm (by decide +kernel) (wa_cons (hx.mono fun d ⟨i, e1, h⟩ => wa_nil ⟨_, fun vs H Q k r f => ?_, h⟩) he) (by decide) (by decide) he hpl
  subst e1
  obtain ⟨v, rfl, r1⟩ := Reps.one_ r
  exact .inl ⟨i, by rw [r1.int], f _ H (Good.refl k) (rInt _)⟩
theorem ints_lst {K : PySem.W.Frag} {H : Hp} : ∀ {ns : List Int} {xs : List V}, Reps K M H (ns.map D.int) xs → xs = ns.map V.int
  | [], xs, r => r.unnil
  | n :: ns, xs, r => by
    obtain ⟨x, ys, e, h1, h2⟩ := Reps.uncons (d := .int n) (ds := ns.map D.int) r
    rw [e, h1.int, ints_lst h2]
    rfl
theorem de_sumI {ns : List Int} (hc : X.calm = true) (hg : Gl X "sum") (hm : X.mg "sum" = none) (hx : DE X M e δ (.lst (ns.map D.int)))
    (he : starEach [e] X.env = (false, eval e X.env) :: starEach [] X.env := by rfl) (hpl : (backTo pos (starEach [] X.env)).any (·.1) = false := by rfl) : DE X M (.Call (.Name "sum" p) [e] [] pos) δ (.int ns.sum) := by
  refine we_callB (cr_sum hc) hg hm (by decide +kernel) (wa_cons (hx.we (wa_nil ⟨_, fun vs H Q k r f => ?_, rfl⟩)) he) (by decide) (by decide) he hpl
  obtain ⟨v, rfl, r1⟩ := Reps.one_ r
  obtain ⟨a, xs, e1, _, s, r2⟩ := r1.lst
  rw [ints_lst r2] at s
  exact ⟨a, ns, by rw [e1], .inl (.inl s), f _ H (Good.refl k) (rInt _)⟩
theorem de_max2 {i j : Int} (hc : X.calm = true) (hg : Gl X "max") (hm : X.mg "max" = none) (hx : DE X M e δ (.int i)) (hy : DE X M e2 δ (.int j))
    (he : starEach [e, e2] X.env = (false, eval e X.env) :: starEach [e2] X.env := by rfl) (he2 : starEach [e2] X.env = (false, eval e2 X.env) :: starEach [] X.env := by rfl) (hpl : (backTo pos (starEach [e2] X.env)).any (·.1) = false := by rfl) : DE X M (.Call (.Name "max" p) [e, e2] [] pos) δ (.int (if j > i then j else i)) := by
  refine we_callB (call_max2 hc) hg hm (by decide +kernel) (wa_cons (hx.we (wa_cons (hy.we (wa_nil ⟨_, fun vs H Q k r f => ?_, rfl⟩)) he2)) he) (by decide) (by decide) he hpl
  obtain ⟨u, v, rfl, r1, r2⟩ := Reps.two_ r
  exact ⟨i, j, by rw [r1.int, r2.int], f _ H (Good.refl k) (rInt _)⟩
theorem de_min2 {i j : Int} (hc : X.calm = true) (hg : Gl X "min") (hm : X.mg "min" = none) (hx : DE X M e δ (.int i)) (hy : DE X M e2 δ (.int j))
    (he : starEach [e, e2] X.env = (false, eval e X.env) :: starEach [e2] X.env := by rfl) (he2 : starEach [e2] X.env = (false, eval e2 X.env) :: starEach [] X.env := by rfl) (hpl : (backTo pos (starEach [e2] X.env)).any (·.1) = false := by rfl) : DE X M (.Call (.Name "min" p) [e, e2] [] pos) δ (.int (if j < i then j else i)) := by
  refine we_callB (call_min2 hc) hg hm (by decide +kernel) (wa_cons (hx.we (wa_cons (hy.we (wa_nil ⟨_, fun vs H Q k r f => ?_, rfl⟩)) he2)) he) (by decide) (by decide) he hpl
  obtain ⟨u, v, rfl, r1, r2⟩ := Reps.two_ r
  exact ⟨i, j, by rw [r1.int, r2.int], f _ H (Good.refl k) (rInt _)⟩
theorem de_gcd {x : Str} {i j : Int} (hg : Gl X x) (hm : X.mg x = some (.builtin "math.gcd")) (hx : DE X M e δ (.int i)) (hy : DE X M e2 δ (.int j)) (hdb : (x == ("__debug__" : Str)) = false := by decide)
    (he : starEach [e, e2] X.env = (false, eval e X.env) :: starEach [e2] X.env := by rfl) (he2 : starEach [e2] X.env = (false, eval e2 X.env) :: starEach [] X.env := by rfl) (hpl : (backTo pos (starEach [e2] X.env)).any (·.1) = false := by rfl) : DE X M (.Call (.Name x p) [e, e2] [] pos) δ (.int ((Nat.gcd i.natAbs j.natAbs : Nat) : Int)) := by
  refine we_callF cr_gcd hg hm (wa_cons (hx.we (wa_cons (hy.we (wa_nil ⟨_, fun vs H Q k r f => ?_, rfl⟩)) he2)) he) hdb he hpl
  obtain ⟨u, v, rfl, r1, r2⟩ := Reps.two_ r
  exact ⟨i, j, by rw [r1.int, r2.int], f _ H (Good.refl k) (rInt _)⟩
theorem de_divmod {i j : Int} (hg : Gl X "divmod") (hm : X.mg "divmod" = none) (hx : DE X M e δ (.int i)) (hy : DE X M e2 δ (.int j)) (hj : 0 < j ∧ j < 1073741824)
    (he : starEach [e, e2] X.env = (false, eval e X.env) :: starEach [e2] X.env := by rfl) (he2 : starEach [e2] X.env = (false, eval e2 X.env) :: starEach [] X.env := by rfl) (hpl : (backTo pos (starEach [e2] X.env)).any (·.1) = false := by rfl) : DE X M (.Call (.Name "divmod" p) [e, e2] [] pos) δ (.tup [.int (i / j), .int (i % j)]) := by
  refine we_callB call_divmod hg hm (by decide +kernel) (wa_cons (hx.we (wa_cons (hy.we (wa_nil ⟨_, fun vs H Q k r f => ?_, rfl⟩)) he2)) he) (by decide) (by decide) he hpl
  obtain ⟨u, v, rfl, r1, r2⟩ := Reps.two_ r
  refine ⟨i, j, by rw [r1.int, r2.int], hj, fun q hq => ?_⟩
  obtain ⟨g, r3⟩ := new_tup k hq (Reps.cons (rInt (i / j)) (Reps.one (rInt (i % j))))
  exact f _ _ g r3
/-- tuple(xs), xs a list -/
theorem de_tupleL {ds : List D} (hg : Gl X "tuple") (hm : X.mg "tuple" = none) (hx : DE X M e δ (.lst ds))
    (he : starEach [e] X.env = (false, eval e X.env) :: starEach [] X.env := by rfl) (hpl : (backTo pos (starEach [] X.env)).any (·.1) = false := by rfl) : DE X M (.Call (.Name "tuple" p) [e] [] pos) δ (.tup ds) := by
  refine we_callTy call_tuple_of hg hm (by decide +kernel) (wa_cons (hx.we (wa_nil ⟨_, fun vs H Q k r f => ?_, rfl⟩)) he) (by decide) (by decide) he hpl
  obtain ⟨v, rfl, r1⟩ := Reps.one_ r
  obtain ⟨a, xs, e1, _, s, r2⟩ := r1.lst
  refine ⟨a, xs, by rw [e1], .inl ⟨.inl (.inl s), fun l hl => ?_⟩⟩
  obtain ⟨g, r3⟩ := new_tup k hl r2
  exact f _ _ g r3
theorem cr_repr (hg : X.A.guards = some []) (hu : X.A.units + 64 < cLine) : CallR X (.builtin "repr") (fun vs H Q => ∃ (v : V) (d : PyData), vs = [v] ∧ Dp X.K H v d ∧ d.showable = true ∧ d.hasDict = false ∧ d.depth < 60 ∧ d.shown.length ≤ sizeLine ∧ Q (.str d.shown) H) := by
  intro pins s σ H vv us Q I r h
  obtain ⟨v, d, rfl, dp, hs, hd, hdp, hz, q⟩ := h
  obtain ⟨u, rfl, ru⟩ := (vals1 r)
  obtain ⟨as, rd⟩ := dp.reads I d v u ru
  cases d with
  | none =>
    cases rd
    exact PySem.P.repr_of_none ⟨.str _, H, I.tok _, ⟨_, rfl⟩, q⟩
  | list xs =>
    cases dp with
    | lst s1 s2 =>
      cases ru
      exact repr_of_reads' rd hs (PyData.noDict_hsm hd) hg (by omega) (fun _ _ z => z) (fun h' t tk k => ⟨.str _, H, I.kept k, ⟨_, rfl⟩, q⟩) hz
  | tuple xs =>
    cases dp with
    | tup s1 s2 =>
      cases ru
      exact repr_of_reads' rd hs (PyData.noDict_hsm hd) hg (by omega) (fun _ _ z => z) (fun h' t tk k => ⟨.str _, H, I.kept k, ⟨_, rfl⟩, q⟩) hz
  | int i =>
    cases dp
    obtain ⟨t, rfl⟩ := ru
    exact PySem.P.repr_of_int (by simpa [PyData.showable] using hs) ⟨.str _, H, I.tok _, ⟨_, rfl⟩, q⟩
  | bool b => cases dp; cases ru; exact PySem.P.repr_of_bool ⟨.str _, H, I.tok _, ⟨_, rfl⟩, q⟩
  | str b => cases dp; obtain ⟨t, rfl⟩ := ru; exact PySem.P.repr_of_str ⟨.str _, H, I.tok _, ⟨_, rfl⟩, q⟩ hz
  | dict kvs => unfold PyData.hasDict at hd; cases hd
theorem de_repr {d : D} (hgd : X.A.guards = some []) (hu : X.A.units + 64 < cLine) (hg : Gl X "repr") (hm : X.mg "repr" = none) (hx : DE X M e δ d) (h1 : d.plain = true) (h2 : d.py.showable = true) (h3 : d.py.hasDict = false) (h4 : d.py.depth < 60) (h5 : d.py.shown.length ≤ sizeLine)
    (he : starEach [e] X.env = (false, eval e X.env) :: starEach [] X.env := by rfl) (hpl : (backTo pos (starEach [] X.env)).any (·.1) = false := by rfl) : DE X M (.Call (.Name "repr" p) [e] [] pos) δ (.str d.py.shown) := by
  refine we_callB (cr_repr hgd hu) hg hm (by decide +kernel) (wa_cons (hx.we (wa_nil ⟨_, fun vs H Q k r f => ?_, rfl⟩)) he) (by decide) (by decide) he hpl
  obtain ⟨v, rfl, r1⟩ := Reps.one_ r
  exact ⟨v, d.py, rfl, rep_py d v r1 h1, h2, h3, h4, h5, f _ H (Good.refl k) (rStr _)⟩
end
end
end Ir
/-! ## IrE -/
namespace Ir
open PySem.Spec PySem L2 PyProof.Rows
/-- what a def does, over data: from the arguments and what is wanted of the answer -/
abbrev Rsp := List D → (D → Prop) → Prop
def spD (K : PySem.W.Frag) (R : Rsp) : Sp := fun vs H Q _ => ∃ (M : List Addr) (ds : List D), Ok M H ∧ Reps K M H ds vs ∧ R ds fun d => ∀ (v : V) (H' : Hp), Good M H H' → Rep K M H' d v → Q v H'
/-- a def that keeps R, at most k calls deep -/
structure Fn (P : Program) (w : World) (K : PySem.W.Frag) (mg : Str → Option Value) (base : Heap) (x : Str) (k : Nat) (ps : List Str) (R : Rsp) : Prop where
  ok : ∃ f fd, FnOk P w K mg base CX0 k f fd ps (spD K R) ∧ mg x = some (.ref f) ∧ PySem.W.keepIn K (.ref f) = true ∧ Binds K fd ps []
  mono : ∀ (ds : List D) (p q : D → Prop), (∀ d, p d → q d) → R ds p → R ds q
section
variable {X : Cx} {M : List Addr} {e e2 : Expr} {es : List Expr} {δ : Ev} {P : D → Prop}
theorem we_call {x : Str} {p pos : Pos} {k n : Nat} {ps : List Str} {R : Rsp} (F : Fn X.prog X.w X.K X.mg X.base x k ps R) (hr : Room n X.A) (hg : Gl X x) (h : WA X M (e :: es) δ fun ds => R ds P) (hk : k ≤ n := by decide) (hdb : (x == ("__debug__" : Str)) = false := by decide)
    (he : starEach (e :: es) X.env = (false, eval e X.env) :: starEach es X.env := by rfl) (hpl : (backTo pos (starEach es X.env)).any (·.1) = false := by rfl) : WE X M (.Call (.Name x p) (e :: es) [] pos) δ P := by
  intro σ H Q ok en f
  obtain ⟨g, fd, F1, gm, kp, b⟩ := F.ok
  refine toE (pe_call F1 (hr.mono hk) hg gm kp b .nil pass0 pA hdb he hpl) (h.go ok en fun ds vs H1 p1 g1 k1 en1 r1 => ?_)
  refine ⟨M, ds, k1, ?_, F.mono _ _ _ (fun d hp v H2 g2 r2 => f d v H2 hp (g1.trans g2) r2) p1⟩
  rw [List.append_nil]
  exact r1
theorem de_call {x : Str} {p pos : Pos} {k n : Nat} {ps : List Str} {R : Rsp} {ds : List D} {d : D} (F : Fn X.prog X.w X.K X.mg X.base x k ps R) (hr : Room n X.A) (hg : Gl X x) (h : DA X M (e :: es) δ ds) (hR : R ds fun x => x = d) (hk : k ≤ n := by decide) (hdb : (x == ("__debug__" : Str)) = false := by decide)
    (he : starEach (e :: es) X.env = (false, eval e X.env) :: starEach es X.env := by rfl) (hpl : (backTo pos (starEach es X.env)).any (·.1) = false := by rfl) : DE X M (.Call (.Name x p) (e :: es) [] pos) δ d :=
  we_call F hr hg (h.mono fun x z => by rw [z]; exact hR) hk hdb he hpl

def tG (X : Cx) (tg : Expr) : TG := fun v σ H Q => ∀ (pins : List (Addr × Obj)) (s : Shared) (u : Value), Inv X pins σ H s → RelV v u → wpAny (model X.prog X.w) X.A (assign tg X.env u) (fun _ s' => ∃ σ' H', Inv X pins σ' H' s' ∧ Q σ' H') X.xe s
def tGs (X : Cx) (ts : List Expr) : TGs := fun vs σ H Q => ∀ (pins : List (Addr × Obj)) (s : Shared) (us : List Value), Inv X pins σ H s → Vals vs us → wpAny (model X.prog X.w) X.A (assignInOrder ((assignEach ts X.env).map (·.2)) us) (fun _ s' => ∃ σ' H', Inv X pins σ' H' s' ∧ Q σ' H') X.xe s
theorem pG {tg : Expr} : PG X tg (tG X tg) := ⟨fun pins s _ _ _ u _ I r h => h pins s u I r⟩
theorem pGs {ts : List Expr} : PGs X ts (tGs X ts) := ⟨fun pins s _ _ _ us _ I r h => h pins s us I r⟩
theorem toG {tg : Expr} {t : TG} (h : PG X tg t) {v : V} {σ : L2.St} {H : Hp} {Q : L2.St → Hp → Prop} (q : t v σ H Q) : tG X tg v σ H Q := fun pins s u I r => h.run pins s σ H v u Q I r q
theorem toGs {ts : List Expr} {t : TGs} (h : PGs X ts t) {v : List V} {σ : L2.St} {H : Hp} {Q : L2.St → Hp → Prop} (q : t v σ H Q) : tGs X ts v σ H Q := fun pins s u I r => h.run pins s σ H v u Q I r q
/-- d is stored to tg: the slots δ become δ' -/
def GT (X : Cx) (M : List Addr) (tg : Expr) (d : D) (δ δ' : Ev) : Prop := ∀ (v : V) (σ : L2.St) (H : Hp) (Q : L2.St → Hp → Prop), Ok M H → Env X.K M H δ σ → Rep X.K M H d v → (∀ σ', Env X.K M H δ' σ' → Q σ' H) → tG X tg v σ H Q
def GTs (X : Cx) (M : List Addr) (ts : List Expr) (ds : List D) (δ δ' : Ev) : Prop := ∀ (vs : List V) (σ : L2.St) (H : Hp) (Q : L2.St → Hp → Prop), Ok M H → Env X.K M H δ σ → Reps X.K M H ds vs → (∀ σ', Env X.K M H δ' σ' → Q σ' H) → tGs X ts vs σ H Q
theorem gt_name (i : Nat) {x : Str} {pos : Pos} {d : D} (hN : X.N.Nodup) (hi : X.N[i]? = some x) (hx : Loc X.env.scope x) (hf : X.fn x = true ∨ X.env.scope.names.lookup x = some .local := by first | exact .inl rfl | exact .inr rfl) : GT X M (.Name x pos) d δ (δ.set i (some d)) := by
  intro v σ H Q ok en r f
  exact toG (pg_name hN hi hx hf) (f _ (en.set r))
theorem gts_nil : GTs X M [] [] δ δ := by
  intro vs σ H Q ok en r f
  exact toGs pgs_nil ⟨r.unnil, f _ en⟩
theorem gts_cons {d : D} {ds : List D} {δ1 δ2 : Ev} (h : GT X M e d δ δ1) (h2 : GTs X M es ds δ1 δ2) (hs : (assignEach (e :: es) X.env).map (·.2) = assign e X.env :: (assignEach es X.env).map (·.2) := by rfl) : GTs X M (e :: es) (d :: ds) δ δ2 := by
  intro vs σ H Q ok en r f
  obtain ⟨x, xs, e1, r1, r2⟩ := r.uncons
  exact toGs (pgs_cons pG pGs hs) ⟨x, xs, e1, h x σ H _ ok en r1 fun σ' en' => h2 xs σ' H Q ok en' r2 f⟩
theorem gt_tup {k : Nat} {pos : Pos} {ds : List D} {δ' : Ev} (hc : X.calm = true) (h : GTs X M es ds δ δ') (hn : (assignEach es X.env).length = ds.length := by rfl) (hst : (assignEach es X.env).findIdx? (·.1) = none := by rfl) : GT X M (.Tuple es k pos) (.tup ds) δ δ' := by
  intro v σ H Q ok en r f
  obtain ⟨a, xs, e1, s, r2⟩ := r.tup
  exact toG (pg_tup (n := ds.length) hc pGs hn hst) ⟨a, xs, e1, s, r2.len, h xs σ H Q ok en r2 f⟩

def KeepT (H H' : Hp) : Prop := ∀ (b : Addr) (xs : List V), Rd H b (.tup xs) → Rd H' b (.tup xs)
theorem KeepT.refl (H : Hp) : KeepT H H := fun _ _ h => h
theorem KeepT.trans {H H1 H2 : Hp} (a : KeepT H H1) (b : KeepT H1 H2) : KeepT H H2 := fun c xs h => b c xs (a c xs h)
theorem Good.keepT {H H' : Hp} (k : Ok M H) (g : Good M H H') : KeepT H H' := fun b xs h => by
  rcases h with h | ⟨o, h⟩
  · refine .inl (g.1 _ _ (fun z => ?_) h)
    obtain ⟨_, _, _, e⟩ := k _ z
    rw [h] at e; cases e
  · refine .inr ⟨o, g.1 _ _ (fun z => ?_) h⟩
    obtain ⟨_, _, _, e⟩ := k _ z
    rw [h] at e; cases e
/-- a list is written -/
theorem KeepT.write {H : Hp} {a : Addr} {xs ys : List V} (h : H a = some (.lst xs)) : KeepT H (upd H a (.lst ys)) := fun b zs r => by
  rcases r with r | ⟨o, r⟩
  · exact .inl (by rw [upd_ne (ne_of r h (by intro z; cases z))]; exact r)
  · exact .inr ⟨o, by rw [upd_ne (ne_of r h (by intro z; cases z))]; exact r⟩
mutual
def D.lf : D → Bool
  | .tup ds => D.lfs ds
  | .lst _ => false
  | .own _ _ => false
  | .scr _ => false
  | _ => true
def D.lfs : List D → Bool
  | [] => true
  | d :: ds => D.lf d && D.lfs ds
end
section
variable {K : PySem.W.Frag} {H H' : Hp}
theorem SqT.keepT {a : Addr} {xs : List V} (k : KeepT H H') (h : SqT K H a xs) : SqT K H' a xs := by
  rcases h with h | h
  · exact .inl (k a xs h)
  · exact .inr h
mutual
theorem Rep.keepT (k : KeepT H H') : ∀ (d : D) (v : V), d.lf = true → Rep K M H d v → Rep K M H' d v
  | .non, v, _, h => h
  | .bl _, v, _, h => h
  | .int _, v, _, h => h
  | .str _, v, _, h => h
  | .sto _, v, _, h => h
  | .ty _, v, _, h => h
  | .tup ds, v, l, h => by
    obtain ⟨a, xs, e, s, r⟩ := h.tup
    rw [e]
    unfold D.lf at l
    exact rTup (SqT.keepT k s) (Reps.keepT k ds xs l r)
  | .lst ds, v, l, h => by unfold D.lf at l; cases l
  | .own _ _, v, l, h => by unfold D.lf at l; cases l
  | .scr _, v, l, h => by unfold D.lf at l; cases l
theorem Reps.keepT (k : KeepT H H') : ∀ (ds : List D) (xs : List V), D.lfs ds = true → Reps K M H ds xs → Reps K M H' ds xs
  | [], xs, _, h => by rw [h.unnil]; exact Reps.nil
  | d :: ds, xs, l, h => by
    obtain ⟨x, ys, e, h1, h2⟩ := h.uncons
    unfold D.lfs at l
    obtain ⟨q1, q2⟩ := Bool.and_eq_true_iff.mp l
    rw [e]
    exact Reps.cons (Rep.keepT k d x q1 h1) (Reps.keepT k ds ys q2 h2)
end
end
theorem lfs_get : ∀ {ds : List D} {i : Nat} {d : D}, D.lfs ds = true → ds[i]? = some d → d.lf = true
  | [], i, d, h, e => by simp at e
  | c :: ds, 0, d, h, e => by
    unfold D.lfs at h
    have e2 : c = d := Option.some.inj e
    rw [← e2]
    exact (Bool.and_eq_true_iff.mp h).1
  | c :: ds, i + 1, d, h, e => by
    unfold D.lfs at h
    exact lfs_get (i := i) (Bool.and_eq_true_iff.mp h).2 e
/-- from the slots δ: it goes on where N holds of the slots, or gives data of which R holds. H0: the entry -/
def DS (X : Cx) (M : List Addr) (H0 : Hp) (sts : List Stmt) (δ : Ev) (N : Ev → Prop) (R : D → Prop) : Prop := ∀ (σ : L2.St) (H : Hp) (E : Ends), Good M H0 H → Ok M H → Env X.K M H δ σ →
  (∀ (δ' : Ev) (σ' : L2.St) (H' : Hp), N δ' → Good M H0 H' → KeepT H H' → Env X.K M H' δ' σ' → E.nx σ' H') → (∀ (d : D) (v : V) (H' : Hp), R d → Good M H0 H' → Rep X.K M H' d v → E.rt v H') → tS X sts E σ H
variable {H0 : Hp} {st : Stmt} {rest a b : List Stmt} {N : Ev → Prop} {R : D → Prop}
theorem ds_nil (h : N δ) : DS X M H0 [] δ N R := fun σ H E g ok en fn fr => toS pss_nil (fn δ σ H h g (KeepT.refl H) en)
theorem DS.mono {N' : Ev → Prop} {R' : D → Prop} (h : DS X M H0 rest δ N R) (hn : ∀ δ, N δ → N' δ) (hr : ∀ d, R d → R' d) : DS X M H0 rest δ N' R' := fun σ H E g ok en fn fr => h σ H E g ok en (fun δ' σ' H' n => fn δ' σ' H' (hn δ' n)) fun d v H' r => fr d v H' (hr d r)
theorem DS.less {δ' : Ev} (l : Less δ δ') (h : DS X M H0 rest δ' N R) : DS X M H0 rest δ N R := fun σ H E g ok en fn fr => h σ H E g ok (en.less l) fn fr
theorem ds_set (i : Nat) {x : Str} {px pos : Pos} (hN : X.N.Nodup) (hi : X.N[i]? = some x) (hx : Loc X.env.scope x) (h : WE X M e δ fun d => DS X M H0 rest (δ.set i (some d)) N R)
    (hs : swapsWith e (some (.Name x px)) pos.line X.env = pure false := by rfl) (hf : X.fn x = true ∨ X.env.scope.names.lookup x = some .local := by first | exact .inl rfl | exact .inr rfl) : DS X M H0 (.Assign [.Name x px] e pos :: rest) δ N R := by
  intro σ H E g ok en fn fr
  refine toS (pss_cons (ps_set hN hi hx pE hs hf) pS) (h.go ok en fun d v H1 p1 g1 k1 en1 r1 => ?_)
  exact p1 _ H1 E (g.trans g1) k1 (en1.set r1) (fun δ' σ' H' n g2 t2 => fn δ' σ' H' n g2 ((g1.keepT ok).trans t2)) fr
theorem ds_setD (i : Nat) {x : Str} {px pos : Pos} {d : D} (hN : X.N.Nodup) (hi : X.N[i]? = some x) (hx : Loc X.env.scope x) (h : DE X M e δ d) (h2 : DS X M H0 rest (δ.set i (some d)) N R)
    (hs : swapsWith e (some (.Name x px)) pos.line X.env = pure false := by rfl) (hf : X.fn x = true ∨ X.env.scope.names.lookup x = some .local := by first | exact .inl rfl | exact .inr rfl) : DS X M H0 (.Assign [.Name x px] e pos :: rest) δ N R := ds_set i hN hi hx (h.we h2) hs hf
/-- tg = e -/
theorem ds_asg {tg : Expr} {pos : Pos} (h : WE X M e δ fun d => ∃ δ', GT X M tg d δ δ' ∧ DS X M H0 rest δ' N R) (hs : swapsWithSole [tg] e pos.line X.env = pure false := by rfl) (hw : swappedStores [tg] e X.env = pure none := by rfl)
    (h1 : (assignEach [tg] X.env).map (·.2) = [assign tg X.env] := by rfl) : DS X M H0 (.Assign [tg] e pos :: rest) δ N R := by
  intro σ H E g ok en fn fr
  refine toS (pss_cons (ps_asg pE pG hs hw h1) pS) (h.go ok en fun d v H1 p1 g1 k1 en1 r1 => ?_)
  obtain ⟨δ', gt, p2⟩ := p1
  refine gt v σ H1 _ k1 en1 r1 fun σ' en' => ?_
  exact p2 _ H1 E (g.trans g1) k1 en' (fun δ' σ' H' n g2 t2 => fn δ' σ' H' n g2 ((g1.keepT ok).trans t2)) fr
theorem ds_asgD {tg : Expr} {pos : Pos} {d : D} {δ' : Ev} (h : DE X M e δ d) (gt : GT X M tg d δ δ') (h2 : DS X M H0 rest δ' N R) (hs : swapsWithSole [tg] e pos.line X.env = pure false := by rfl) (hw : swappedStores [tg] e X.env = pure none := by rfl)
    (h1 : (assignEach [tg] X.env).map (·.2) = [assign tg X.env] := by rfl) : DS X M H0 (.Assign [tg] e pos :: rest) δ N R := ds_asg (h.we ⟨δ', gt, h2⟩) hs hw h1
/-- x, y = a, b -/
theorem ds_par {i j : Nat} {x y : Str} {px py pt pos : Pos} {kt k2 : Nat} {pt2 : Pos} {d d2 : D} (hc : X.calm = true) (hN : X.N.Nodup) (hi : X.N[i]? = some x) (hj : X.N[j]? = some y) (hij : i ≠ j) (hx : X.env.scope.names.lookup x = some .local) (hy : X.env.scope.names.lookup y = some .local)
    (h : DA X M [e, e2] δ [d, d2]) (h2 : DS X M H0 rest ((δ.set i (some d)).set j (some d2)) N R) (hw : swappedStores [.Tuple [.Name x px, .Name y py] kt pt] (.Tuple [e, e2] k2 pt2) X.env = pure (some [x, y]) := by rfl)
    (hs : swapsWithSole [.Tuple [.Name x px, .Name y py] kt pt] (.Tuple [e, e2] k2 pt2) pos.line X.env = pure false := by rfl) : DS X M H0 (.Assign [.Tuple [.Name x px, .Name y py] kt pt] (.Tuple [e, e2] k2 pt2) pos :: rest) δ N R := by
  intro σ H E g ok en fn fr
  refine toS (pss_cons (ps_par hc hN hi hj hij hx hy pA hw hs) pS) (h.go ok en fun ds vs H1 p1 g1 k1 en1 r1 => ?_)
  subst p1
  obtain ⟨u, v, e1, q1, q2⟩ := Reps.two_ r1
  refine ⟨u, v, e1, ?_⟩
  exact h2 _ H1 E (g.trans g1) k1 ((en1.set q1).set q2) (fun δ' σ' H' n g2 t2 => fn δ' σ' H' n g2 ((g1.keepT ok).trans t2)) fr
theorem ds_ret {pos : Pos} (h : WE X M e δ R) : DS X M H0 (.Return (some e) pos :: rest) δ N R := by
  intro σ H E g ok en fn fr
  exact toS (pss_cons (ps_ret pE) pS) (h.go ok en fun d v H1 p1 g1 k1 en1 r1 => fr d v H1 p1 (g.trans g1) r1)
theorem ds_retD {pos : Pos} {d : D} (h : DE X M e δ d) (hd : R d) : DS X M H0 (.Return (some e) pos :: rest) δ N R := ds_ret (h.we hd)
/-- if c: a; rest, a never going on -/
theorem ds_if {c : Expr} {pos : Pos} (h : WT X M c δ fun b => if b = true then DS X M H0 a δ (fun _ => False) R else DS X M H0 rest δ N R) : DS X M H0 (.If c a [] pos :: rest) δ N R := by
  intro σ H E g ok en fn fr
  refine toS (pss_cons (ps_if pT pS pss_nil) pS) (h.go ok en fun b H1 p1 g1 k1 en1 => ?_)
  cases b with
  | true =>
    rw [if_pos rfl] at p1 ⊢
    exact p1 σ H1 _ (g.trans g1) k1 en1 (fun _ _ _ z => z.elim) fr
  | false =>
    rw [if_neg Bool.false_ne_true] at p1 ⊢
    exact p1 σ H1 E (g.trans g1) k1 en1 (fun δ' σ' H' n g2 t2 => fn δ' σ' H' n g2 ((g1.keepT ok).trans t2)) fr
theorem ds_ifF {c : Expr} {pos : Pos} {b : Bool} (h : DT X M c δ b) (hb : b = false) (h2 : DS X M H0 rest δ N R) : DS X M H0 (.If c a [] pos :: rest) δ N R := ds_if (h.mono fun x z => by rw [z, hb]; rw [if_neg Bool.false_ne_true]; exact h2)
theorem ds_ifT {c : Expr} {pos : Pos} {b : Bool} (h : DT X M c δ b) (hb : b = true) (h2 : DS X M H0 a δ (fun _ => False) R) : DS X M H0 (.If c a [] pos :: rest) δ N R := ds_if (h.mono fun x z => by rw [z, hb]; rw [if_pos rfl]; exact h2)
theorem ds_expr {pos : Pos} (h : WE X M e δ fun _ => DS X M H0 rest δ N R) (hs : swapsWith e none pos.line X.env = pure false := by rfl) : DS X M H0 (.Expr e pos :: rest) δ N R := by
  intro σ H E g ok en fn fr
  refine toS (pss_cons (ps_expr pE hs) pS) (h.go ok en fun d v H1 p1 g1 k1 en1 r1 => ?_)
  exact p1 _ H1 E (g.trans g1) k1 en1 (fun δ' σ' H' n g2 t2 => fn δ' σ' H' n g2 ((g1.keepT ok).trans t2)) fr
/-- x = [], a list of one's own -/
theorem ds_new (i : Nat) {x : Str} {px pos p1 : Pos} (hN : X.N.Nodup) (hi : X.N[i]? = some x) (hx : Loc X.env.scope x) (h : ∀ q : Addr, H0 q = none → (∀ (j : Nat) (p : Addr) (ds : List D), δ[j]? = some (some (.own p ds)) → p ≠ q) → DS X M H0 rest (δ.set i (some (.own q []))) N R)
    (hs : swapsWith (.List [] p1) (some (.Name x px)) pos.line X.env = pure false := by rfl) (hf : X.fn x = true ∨ X.env.scope.names.lookup x = some .local := by first | exact .inl rfl | exact .inr rfl) : DS X M H0 (.Assign [.Name x px] (.List [] p1) pos :: rest) δ N R := by
  intro σ H E g ok en fn fr
  refine toS (pss_cons (ps_set hN hi hx (pe_lst pa_nil) hs hf) pS) ⟨Nat.zero_le _, fun q hq => ?_⟩
  have g1 : Good M H (upd H q (.lst [])) := Good.new ok hq
  have n0 : H0 q = none := by
    cases z : H0 q with
    | none => rfl
    | some o =>
      by_cases hm : q ∈ M
      · exact absurd hm (ok.free hq)
      · have := g.1 q o hm z
        rw [hq] at this; cases this
  refine h q n0 (fun j p ds e z => ?_) _ _ E (g.trans g1) g1.ok ((en.good ok g1).set (rOwn (ok.free hq) upd_same Reps.nil)) (fun δ' σ' H' n g2 t2 => fn δ' σ' H' n g2 ((g1.keepT ok).trans t2)) fr
  obtain ⟨v, _, r⟩ := en.2 j _ e
  obtain ⟨_, _, xs, s, _⟩ := r.own
  rw [z, hq] at s; cases s
/-- data apart from q: no list but own ones elsewhere -/
def D.off (q : Addr) : D → Prop
  | .own p ds => p ≠ q ∧ D.lfs ds = true
  | d => d.lf = true
theorem Rep.off {K : PySem.W.Frag} {H : Hp} {q : Addr} {xs ys : List V} (h : H q = some (.lst xs)) {d : D} {v : V} (o : d.off q) (r : Rep K M H d v) : Rep K M (upd H q (.lst ys)) d v := by
  have t : KeepT H (upd H q (.lst ys)) := KeepT.write h
  cases d with
  | own p ds =>
    obtain ⟨e, n, zs, s, r2⟩ := r.own
    rw [e]
    have hp : p ≠ q := o.1
    exact rOwn n (by rw [upd_ne hp]; exact s) (Reps.keepT t ds zs o.2 r2)
  | non => exact Rep.keepT t _ v rfl r
  | bl b => exact Rep.keepT t _ v rfl r
  | int b => exact Rep.keepT t _ v rfl r
  | str b => exact Rep.keepT t _ v rfl r
  | sto p => exact Rep.keepT t _ v rfl r
  | ty p => exact Rep.keepT t _ v rfl r
  | tup ds => exact Rep.keepT t _ v o r
  | lst ds => exact Rep.keepT t _ v o r
  | scr ds => exact Rep.keepT t _ v o r
/-- x.append(e), x a list of one's own -/
theorem ds_append (i : Nat) {x : Str} {px pa pc pos : Pos} {q : Addr} {ds : List D} {d : D} (hb : PE X (.Call (.Attribute (.Name x px) "append" pa) [e] [] pc) (tBM X.K "list" rAppend (tVar i) (tCons (tE X e) tNil))) (hd : δ[i]? = some (some (.own q ds))) (h0 : H0 q = none) (hl : ds.length ≤ 900) (lf : D.lfs ds = true) (h : DE X M e δ d) (ld : d.lf = true)
    (off : ∀ (j : Nat) (c : D), j ≠ i → δ[j]? = some (some c) → c.off q) (h2 : DS X M H0 rest (δ.set i (some (.own q (ds ++ [d])))) N R)
    (hs : swapsWith (.Call (.Attribute (.Name x px) "append" pa) [e] [] pc) none pos.line X.env = pure false := by rfl) :
    DS X M H0 (.Expr (.Call (.Attribute (.Name x px) "append" pa) [e] [] pc) pos :: rest) δ N R := by
  intro σ H E g ok en fn fr
  obtain ⟨v, e1, r⟩ := en.2 i _ hd
  obtain ⟨ev, nq, xs, s, r1⟩ := r.own
  refine toS (pss_cons (ps_expr hb hs) pS) ⟨v, e1, ?_⟩
  subst ev
  refine ⟨.inl ⟨rfl, _, .inl (.inl s)⟩, h.go ok en fun d' y H1 p1 g1 k1 en1 r2 => ?_⟩
  subst p1
  have s1 : H1 q = some (.lst xs) := g1.1 _ _ nq s
  have r3 := Reps.good ok g1 ds xs r1
  refine ⟨q, xs, y, rfl, rfl, s1, ?_, ?_⟩
  · rw [r1.len]
    exact small1000 (Nat.le_trans hl (by decide))
  · have t : KeepT H1 (upd H1 q (.lst (xs ++ [y]))) := KeepT.write s1
    have kq : Ok M (upd H1 q (.lst (xs ++ [y]))) := fun p hp => by
      obtain ⟨l1, l2, l3, z⟩ := k1 p hp
      exact ⟨l1, l2, l3, by rw [upd_ne (fun w => nq (by rw [← w]; exact hp))]; exact z⟩
    have g2 : Good M H0 (upd H1 q (.lst (xs ++ [y]))) := ⟨fun b o hb e => by
      rw [upd_ne (ne_of_none e h0)]
      exact (g.trans g1).1 b o hb e, kq⟩
    refine h2 σ _ E g2 kq ⟨by rw [List.length_set]; exact en1.1, fun j c hj => ?_⟩ (fun δ' σ' H' n g2 t2 => fn δ' σ' H' n g2 (((g1.keepT ok).trans t).trans t2)) fr
    by_cases hji : i = j
    · subst hji
      have hlt : i < δ.length := (List.getElem?_eq_some_iff.mp hd).1
      rw [List.getElem?_set_self hlt] at hj
      have ec : D.own q (ds ++ [d']) = c := Option.some.inj (Option.some.inj hj)
      subst ec
      refine ⟨_, e1, rOwn nq upd_same ?_⟩
      exact (Reps.keepT t ds xs lf r3).append (Reps.one (Rep.keepT t _ y ld r2))
    · rw [List.getElem?_set_ne hji] at hj
      obtain ⟨w, e2, r4⟩ := en1.2 j c hj
      exact ⟨w, e2, Rep.off s1 (off j c (fun z => hji z.symm) hj) r4⟩
end
end Ir
/-! ## IrF -/
namespace Ir
open PySem.Spec PySem L2 PyProof.Rows
section
variable {X : Cx} {M : List Addr} {e e2 : Expr} {es : List Expr} {δ : Ev} {P : D → Prop} {H0 : Hp} {rest body : List Stmt} {N : Ev → Prop} {R : D → Prop}
/-- for tg in a tuple -/
theorem ds_forT {tg iter : Expr} {pos : Pos} {ds : List D} (Ei Et : Nat → Ev) (hp : PassesOwn (model X.prog X.w) X.A X.env X.xe) (hc : X.calm = true) (hx : DE X M iter δ (.tup ds)) (lf : D.lfs ds = true) (h0 : Less δ (Ei 0))
    (turn : ∀ (i : Nat) (d : D), ds[i]? = some d → GT X M tg d (Ei i) (Et i) ∧ DS X M H0 body (Et i) (fun δ' => Less δ' (Ei (i + 1))) R) (after : DS X M H0 rest (Ei ds.length) N R)
    (hs : ∀ x, foldedSetIterable iter X.env x = pure x := by intro _; rfl) : DS X M H0 (.For tg iter body [] pos :: rest) δ N R := by
  intro σ H E g ok en fn fr
  refine toS (pss_cons (ps_for hp hc (pi_tup pE) pG pS hs) pS) (hx.go ok en fun d v H1 p1 g1 k1 en1 r1 => ?_)
  subst p1
  obtain ⟨a, xs, e1, s, r2⟩ := r1.tup
  refine ⟨a, e1, ⟨xs, s⟩, ?_⟩
  refine for_tup (K := X.K) (xs := xs) (fun i σ' H' => Good M H0 H' ∧ KeepT H1 H' ∧ Env X.K M H' (Ei i) σ') ⟨g.trans g1, KeepT.refl _, en1.less h0⟩ (fun i σ' H' _ q => SqT.keepT q.2.1 s) (fun i x σ' H' hx' q => ?_) (fun σ' H' q => ?_)
  · obtain ⟨q1, q2, q3⟩ := q
    have hlt : i < ds.length := by
      rw [← r2.len]
      exact (List.getElem?_eq_some_iff.mp hx').1
    have hd : ds[i]? = some ds[i] := List.getElem?_eq_getElem hlt
    obtain ⟨x', hx2, rx⟩ := r2.get hd
    have ex : x' = x := Option.some.inj (hx2.symm.trans hx')
    subst ex
    obtain ⟨gt, bd⟩ := turn i _ hd
    refine gt x' σ' H' _ q1.ok q3 (Rep.keepT q2 _ x' (lfs_get lf hd) rx) fun σ2 en2 => ?_
    exact bd σ2 H' _ q1 q1.ok en2 (fun δ' σ3 H3 l g3 t3 en3 => ⟨g3, q2.trans t3, en3.less l⟩) fr
  · obtain ⟨q1, q2, q3⟩ := q
    rw [r2.len] at q3
    exact after σ' H' E q1 q1.ok q3 (fun δ' σ3 H3 n g3 t3 => fn δ' σ3 H3 n g3 (((g1.keepT ok).trans q2).trans t3)) fr
/-- for tg in a list that stands still: the body's proof is for any entry -/
theorem ds_forL {tg iter : Expr} {pos : Pos} {ds : List D} (Ei Et : Nat → Ev) (hp : PassesOwn (model X.prog X.w) X.A X.env X.xe) (hc : X.calm = true) (hx : DE X M iter δ (.lst ds)) (h0 : Less δ (Ei 0))
    (turn : ∀ (H1 : Hp) (i : Nat) (d : D), ds[i]? = some d → GT X M tg d (Ei i) (Et i) ∧ DS X M H1 body (Et i) (fun δ' => Less δ' (Ei (i + 1))) R) (after : DS X M H0 rest (Ei ds.length) N R)
    (hs : ∀ x, foldedSetIterable iter X.env x = pure x := by intro _; rfl) : DS X M H0 (.For tg iter body [] pos :: rest) δ N R := by
  intro σ H E g ok en fn fr
  refine toS (pss_cons (ps_for hp hc (pi_list pE) pG pS hs) pS) (hx.go ok en fun d v H1 p1 g1 k1 en1 r1 => ?_)
  subst p1
  obtain ⟨a, xs, e1, na, s, r2⟩ := r1.lst
  refine ⟨a, e1, ⟨xs, .inl (.inl s)⟩, ?_⟩
  refine for_list (K := X.K) (xs := xs) (fun i σ' H' => Good M H1 H' ∧ Env X.K M H' (Ei i) σ') ⟨Good.refl k1, en1.less h0⟩ (fun i σ' H' _ q => .inl (.inl (q.1.1 _ _ na s))) (fun i x σ' H' hx' q => ?_) (fun σ' H' q => ?_)
  · obtain ⟨q1, q3⟩ := q
    have hlt : i < ds.length := by
      rw [← r2.len]
      exact (List.getElem?_eq_some_iff.mp hx').1
    have hd : ds[i]? = some ds[i] := List.getElem?_eq_getElem hlt
    obtain ⟨x', hx2, rx⟩ := r2.get hd
    have ex : x' = x := Option.some.inj (hx2.symm.trans hx')
    subst ex
    obtain ⟨gt, bd⟩ := turn H1 i _ hd
    refine gt x' σ' H' _ q1.ok q3 (Rep.good k1 q1 _ x' rx) fun σ2 en2 => ?_
    exact bd σ2 H' _ q1 q1.ok en2 (fun δ' σ3 H3 l g3 t3 en3 => ⟨g3, en3.less l⟩) fun d v H3 hr g3 r3 => fr d v H3 hr ((g.trans g1).trans g3) r3
  · obtain ⟨q1, q3⟩ := q
    rw [r2.len] at q3
    exact after σ' H' E ((g.trans g1).trans q1) q1.ok q3 (fun δ' σ3 H3 n g3 t3 => fn δ' σ3 H3 n g3 (((g1.trans q1).keepT ok).trans t3)) fr
/-- for tg in range(n) -/
theorem ds_forR {tg a : Expr} {p pc pos : Pos} {n : Nat} (Ei Et : Nat → Ev) (hp : PassesOwn (model X.prog X.w) X.A X.env X.xe) (hc : X.calm = true) (hg : Gl X "range") (hm : X.mg "range" = none) (hx : DE X M a δ (.int (n : Nat))) (hn : n < 1000) (h0 : Less δ (Ei 0))
    (turn : ∀ (i : Nat), i < n → GT X M tg (.int (i : Nat)) (Ei i) (Et i) ∧ DS X M H0 body (Et i) (fun δ' => Less δ' (Ei (i + 1))) R) (after : DS X M H0 rest (Ei n) N R)
    (hs : ∀ x, foldedSetIterable (.Call (.Name "range" p) [a] [] pc) X.env x = pure x := by intro _; rfl) (h1 : starEach [a] X.env = [(false, eval a X.env)] := by rfl)
    (h2 : starEach [a] X.env = (false, eval a X.env) :: starEach [] X.env := by rfl) : DS X M H0 (.For tg (.Call (.Name "range" p) [a] [] pc) body [] pos :: rest) δ N R := by
  intro σ H E g ok en fn fr
  refine toS (pss_cons (ps_for hp hc (pi_range1 hg hm (pa_cons pE pa_nil h2) h1) pG pS hs) pS) (hx.go ok en fun d v H1 p1 g1 k1 en1 r1 => ?_)
  subst p1
  refine ⟨(n : Nat), by rw [r1.int], by omega, by omega, ?_⟩
  show ∃ W : Nat → Nat → L2.St → Hp → Prop, _
  have en' : ((n : Nat) : Int).toNat = n := by omega
  rw [en']
  refine for_range (lo := 0) (n := n) (fun i σ' H' => Good M H0 H' ∧ KeepT H1 H' ∧ Env X.K M H' (Ei i) σ') ⟨g.trans g1, KeepT.refl _, en1.less h0⟩ (fun i σ' H' hi q => ?_) (fun σ' H' q => ?_)
  · obtain ⟨q1, q2, q3⟩ := q
    obtain ⟨gt, bd⟩ := turn i hi
    refine gt _ σ' H' _ q1.ok q3 (show Rep X.K M H' (.int (i : Nat)) (.int (0 + (i : Nat))) by rw [Int.zero_add]; exact rInt _) fun σ2 en2 => ?_
    exact bd σ2 H' _ q1 q1.ok en2 (fun δ' σ3 H3 l g3 t3 en3 => ⟨g3, q2.trans t3, en3.less l⟩) fr
  · obtain ⟨q1, q2, q3⟩ := q
    exact after σ' H' E q1 q1.ok q3 (fun δ' σ3 H3 n g3 t3 => fn δ' σ3 H3 n g3 (((g1.keepT ok).trans q2).trans t3)) fr
/-- while -/
theorem ds_while {c : Expr} {pos : Pos} (I : Ev → Prop) (m : Ev → Nat) (hp : PassesOwn (model X.prog X.w) X.A X.env X.xe) (h0 : I δ)
    (turn : ∀ δ', I δ' → WT X M c δ' fun b => if b = true then DS X M H0 body δ' (fun δ2 => I δ2 ∧ m δ2 < m δ') R else DS X M H0 rest δ' N R) : DS X M H0 (.While c body [] pos :: rest) δ N R := by
  intro σ H E g ok en fn fr
  refine toS (pss_cons (ps_while hp pT pS) pS) ⟨fun n σ' H' => ∃ δ', I δ' ∧ n = m δ' ∧ Good M H0 H' ∧ KeepT H H' ∧ Env X.K M H' δ' σ', ⟨_, δ, h0, rfl, g, KeepT.refl H, en⟩, ?_⟩
  rintro n σ1 H1 ⟨δ1, i1, rfl, g1, t1, en1⟩
  refine (turn δ1 i1).go g1.ok en1 fun b H2 p2 g2 k2 en2 => ?_
  cases b with
  | true =>
    rw [if_pos rfl] at p2 ⊢
    refine ⟨fun σ' H' => ∃ δ', (I δ' ∧ m δ' < m δ1) ∧ Good M H0 H' ∧ KeepT H H' ∧ Env X.K M H' δ' σ', fun σ' H' ⟨δ', ⟨a1, a2⟩, a3⟩ => ⟨_, a2, δ', a1, rfl, a3⟩, ?_⟩
    exact p2 σ1 H2 _ (g1.trans g2) k2 en2 (fun δ' σ3 H3 q g3 t3 en3 => ⟨δ', q, g3, (t1.trans (g2.keepT g1.ok)).trans t3, en3⟩) fr
  | false =>
    rw [if_neg Bool.false_ne_true] at p2 ⊢
    exact p2 σ1 H2 E (g1.trans g2) k2 en2 (fun δ' σ3 H3 n g3 t3 => fn δ' σ3 H3 n g3 ((t1.trans (g2.keepT g1.ok)).trans t3)) fr

theorem wipe_get {σ : L2.St} : ∀ {vs : List Nat} {j : Nat}, (wipe σ vs)[j]? = if j ∈ vs ∧ j < σ.length then some none else σ[j]?
  | [], j => by
    rw [if_neg (fun z => by cases z.1)]
    rfl
  | v :: vs, j => by
    show ((L2.wipe σ vs).set v none)[j]? = _
    by_cases hv : v = j
    · subst hv
      by_cases hl : v < σ.length
      · rw [List.getElem?_set_self (by rw [wipe_length]; exact hl), if_pos ⟨List.mem_cons_self .., hl⟩]
      · rw [List.getElem?_eq_none (by rw [List.length_set, wipe_length]; omega), if_neg (fun z => hl z.2), List.getElem?_eq_none (by omega)]
    · rw [List.getElem?_set_ne hv, wipe_get]
      by_cases h : j ∈ vs ∧ j < σ.length
      · rw [if_pos h, if_pos ⟨List.mem_cons_of_mem _ h.1, h.2⟩]
      · rw [if_neg h, if_neg (fun z => h ⟨(List.mem_cons.mp z.1).resolve_left (fun w => hv w.symm), z.2⟩)]
theorem wipe_set {σ : L2.St} {vs : List Nat} {i : Nat} {x : Option V} (h : i ∈ vs) : wipe (σ.set i x) vs = wipe σ vs := by
  apply List.ext_getElem?
  intro j
  rw [wipe_get, wipe_get, List.length_set]
  by_cases hj : j ∈ vs ∧ j < σ.length
  · rw [if_pos hj, if_pos hj]
  · rw [if_neg hj, if_neg hj]
    by_cases hi : i = j
    · subst hi
      have hl : ¬ i < σ.length := fun z => hj ⟨h, z⟩
      rw [List.getElem?_eq_none (by rw [List.length_set]; omega), List.getElem?_eq_none (by omega)]
    · rw [List.getElem?_set_ne hi]
theorem wipe_wipe {σ : L2.St} {vs : List Nat} : wipe (wipe σ vs) vs = wipe σ vs := by
  apply List.ext_getElem?
  intro j
  rw [wipe_get, wipe_length, wipe_get]
  by_cases hj : j ∈ vs ∧ j < σ.length
  · rw [if_pos hj, if_pos hj]
  · rw [if_neg hj, if_neg hj]
/-- a comprehension's target: d goes to the block's own slots vs -/
def GD (K : PySem.W.Frag) (M : List Addr) (vs : List Nat) (g : TG) (d : D) (δ δ' : Ev) : Prop := ∀ (v : V) (σ : L2.St) (H : Hp) (Q : L2.St → Hp → Prop), Ok M H → Env K M H δ σ → Rep K M H d v → (∀ σ', Env K M H δ' σ' → wipe σ' vs = wipe σ vs → Q σ' H) → g v σ H Q
theorem gd_name {K : PySem.W.Frag} {vs : List Nat} {i : Nat} {d : D} (h : i ∈ vs) : GD K M vs (gName i) d δ (δ.set i (some d)) := fun v σ H Q ok en r f => f _ (en.set r) (wipe_set h)
theorem gd_pair {K : PySem.W.Frag} {vs : List Nat} {i j : Nat} {d d2 : D} (h : i ∈ vs) (h2 : j ∈ vs) : GD K M vs (gTup K 2 (gCons (gName i) (gCons (gName j) gNil))) (.tup [d, d2]) δ ((δ.set i (some d)).set j (some d2)) := fun v σ H Q ok en r f => by
  obtain ⟨a, xs, e1, s, r2⟩ := r.tup
  obtain ⟨x, y, e2, q1, q2⟩ := Reps.two_ r2
  refine ⟨a, xs, e1, s, r2.len, ?_⟩
  rw [e2]
  exact ⟨x, [y], rfl, y, [], rfl, rfl, f _ ((en.set q1).set q2) (by rw [wipe_set h2, wipe_set h])⟩
/-- the element in the block -/
def tEb (X : Cx) (scope : Scope) (elt : Expr) : TE := fun σ H Q => ∀ (s : Shared) (H1 : Hp) (C : Addr) (cl : List (Str × Addr)) (fp : List Addr), tE (X.blk s H1 scope (compEnvC scope cl C X.env) fp) elt σ H Q
/-- what a comprehension of no tests gives -/
def LC (X : Cx) (M : List Addr) (wi : TI) (g : TG) (te : TE) (vs : List Nat) (δ : Ev) (ys : List D) : Prop := ∀ (σ : L2.St) (H : Hp) (Q : VK), Ok M H → Env X.K M H δ σ → (∀ (v : V) (H' : Hp), Good M H H' → Rep X.K M H' (.lst ys) v → Q v H') → tLc wi g tYes te vs σ H Q
/-- one turn's end: the new item goes to the list at D -/
theorem lc_put {K : PySem.W.Frag} {H1 H4 : Hp} {Dl : Addr} {acc : List V} {ys : List D} {i : Nat} {d : D} {y : V} (hD : H1 Dl = none) (k1 : Ok M H1) (g : Good M H1 H4) (s : H4 Dl = some (.lst acc)) (r : Reps K M H4 (ys.take i) acc) (lf : D.lfs ys = true) (hy : ys[i]? = some d) (ry : Rep K M H4 d y) (hl : ys.length ≤ 1000) :
    ∃ acc', H4 Dl = some (.lst acc') ∧ acc'.length < sizeLine ∧ Good M H1 (upd H4 Dl (.lst (acc' ++ [y]))) ∧ ∃ acc2, (upd H4 Dl (.lst (acc' ++ [y]))) Dl = some (.lst acc2) ∧ Reps K M (upd H4 Dl (.lst (acc' ++ [y]))) (ys.take (i + 1)) acc2 := by
  have t : KeepT H4 (upd H4 Dl (.lst (acc ++ [y]))) := KeepT.write s
  have nD : Dl ∉ M := k1.free hD
  have lft : ∀ {l : List D} (n : Nat), D.lfs l = true → D.lfs (l.take n) = true := by
    intro l
    induction l with
    | nil => intro n h; cases n <;> exact h
    | cons c l ih =>
      intro n h
      cases n with
      | zero => rfl
      | succ n =>
        unfold D.lfs at h
        obtain ⟨q1, q2⟩ := Bool.and_eq_true_iff.mp h
        show D.lfs (c :: l.take n) = true
        unfold D.lfs
        rw [q1, ih n q2]
        rfl
  refine ⟨acc, s, ?_, ⟨fun b o hb e => ?_, fun p hp => ?_⟩, acc ++ [y], upd_same, ?_⟩
  · have e1 := r.len
    rw [List.length_take] at e1
    exact small1000 (by omega)
  · rw [upd_ne (ne_of_none e hD)]
    exact g.1 b o hb e
  · obtain ⟨l1, l2, l3, z⟩ := g.ok p hp
    exact ⟨l1, l2, l3, by rw [upd_ne (fun w => nD (by rw [← w]; exact hp))]; exact z⟩
  · rw [List.take_add_one, hy]
    exact (Reps.keepT t _ _ (lft i lf) r).append (Reps.one (Rep.keepT t _ _ (lfs_get lf hy) ry))
/-- over a tuple -/
theorem lc_T {iter elt : Expr} {scope : Scope} {g : TG} {vs : List Nat} {ds ys : List D} (Et : Nat → Ev) (hx : DE X M iter δ (.tup ds)) (hw : ∀ i ∈ vs, δ[i]? = some none) (hl : ys.length = ds.length) (hl2 : ys.length ≤ 1000) (lf : D.lfs ys = true)
    (turn : ∀ (i : Nat) (d y : D), ds[i]? = some d → ys[i]? = some y → GD X.K M vs g d δ (Et i) ∧ ∀ (s : Shared) (H1 : Hp) (C : Addr) (cl : List (Str × Addr)) (fp : List Addr), DE (X.blk s H1 scope (compEnvC scope cl C X.env) fp) M elt (Et i) y) :
    LC X M (iTup X.K (tE X iter)) g (tEb X scope elt) vs δ ys := by
  intro σ H Q ok en f
  refine hx.go ok en fun d v H1 p1 g1 k1 en1 r1 => ?_
  subst p1
  obtain ⟨a, xs, e1, s, r2⟩ := r1.tup
  refine ⟨a, e1, ⟨xs, s⟩, fun Dl hD => ?_⟩
  have gD : Good M H1 (upd H1 Dl (.lst [])) := Good.new k1 hD
  refine lc_tup (K := X.K) (xs := xs) (fun i H' => Good M H1 H' ∧ ∃ acc, H' Dl = some (.lst acc) ∧ Reps X.K M H' (ys.take i) acc) ⟨gD, [], upd_same, Reps.nil⟩ (fun i H' _ q => SqT.good k1 q.1 s) (fun i x H' hx' q => ?_) (fun H' q => ?_)
  · obtain ⟨q1, acc, q2, q3⟩ := q
    have hlt : i < ds.length := by
      rw [← r2.len]
      exact (List.getElem?_eq_some_iff.mp hx').1
    have hd : ds[i]? = some ds[i] := List.getElem?_eq_getElem hlt
    have hly : i < ys.length := by omega
    have hy : ys[i]? = some ys[i] := List.getElem?_eq_getElem hly
    obtain ⟨x', hx2, rx⟩ := r2.get hd
    have ex : x' = x := Option.some.inj (hx2.symm.trans hx')
    subst ex
    obtain ⟨gd, te⟩ := turn i _ _ hd hy
    refine gd x' _ H' _ q1.ok ((en1.good k1 q1).wipe vs hw) (Rep.good k1 q1 _ x' rx) fun σ' en' hw' => ⟨by rw [hw', wipe_wipe], fun s0 Hb C cl fp => ?_⟩
    refine te s0 Hb C cl fp σ' H' _ q1.ok en' fun y v H4 py g4 ry => ?_
    subst py
    have n1 : Dl ∉ M := k1.free hD
    exact lc_put hD k1 (q1.trans g4) (g4.1 _ _ n1 q2) (Reps.good q1.ok g4 _ _ q3) lf hy ry hl2
  · obtain ⟨q1, acc, q2, q3⟩ := q
    refine f _ H' (g1.trans q1) (rLst (k1.free hD) q2 ?_)
    have e3 : ys.take xs.length = ys := List.take_of_length_le (by rw [r2.len]; omega)
    rw [e3] at q3
    exact q3
/-- over a zip of two tuples -/
theorem lc_Z {elt : Expr} {scope : Scope} {g : TG} {vs : List Nat} {as bs ys : List D} (Et : Nat → Ev) (hx : DA X M [e, e2] δ [.tup as, .tup bs]) (hw : ∀ i ∈ vs, δ[i]? = some none) (hab : as.length = bs.length) (hl : ys.length = as.length) (hl2 : ys.length ≤ 1000) (lf : D.lfs ys = true)
    (turn : ∀ (i : Nat) (a b y : D), as[i]? = some a → bs[i]? = some b → ys[i]? = some y → GD X.K M vs g (.tup [a, b]) δ (Et i) ∧ ∀ (s : Shared) (H1 : Hp) (C : Addr) (cl : List (Str × Addr)) (fp : List Addr), DE (X.blk s H1 scope (compEnvC scope cl C X.env) fp) M elt (Et i) y) :
    LC X M (RZ.iZipA X.K (tA X [e, e2])) g (tEb X scope elt) vs δ ys := by
  intro σ H Q ok en f
  refine hx.go ok en fun d v H1 p1 g1 k1 en1 r1 => ?_
  subst p1
  obtain ⟨v1, v2, ev, q1, q2⟩ := Reps.two_ r1
  obtain ⟨a, xs, e1, s1, r2⟩ := q1.tup
  obtain ⟨b, zs, e3, s2, r3⟩ := q2.tup
  refine ⟨a, b, xs, zs, by rw [ev, e1, e3], .inr ⟨s1, s2, fun Dl hD => ?_⟩⟩
  have gD : Good M H1 (upd H1 Dl (.lst [])) := Good.new k1 hD
  have n1 : Dl ∉ M := k1.free hD
  have lx := r2.len
  have lz := r3.len
  refine ⟨fun i m H' => m = xs.length - i ∧ i ≤ xs.length ∧ Good M H1 H' ∧ ∃ acc, H' Dl = some (.lst acc) ∧ Reps X.K M H' (ys.take i) acc, ⟨_, rfl, Nat.zero_le _, gD, [], upd_same, Reps.nil⟩, ?_⟩
  rintro i m H' ⟨rfl, hi, q1, acc, q2, q3⟩
  by_cases hlt : i < xs.length
  · have ha : as[i]? = some as[i] := List.getElem?_eq_getElem (by omega)
    have hb : bs[i]? = some bs[i] := List.getElem?_eq_getElem (by omega)
    have hy : ys[i]? = some ys[i] := List.getElem?_eq_getElem (by omega)
    obtain ⟨x, hx2, rx⟩ := r2.get ha
    obtain ⟨z, hz2, rz⟩ := r3.get hb
    refine .inr ⟨⟨xs, zs, x, z, SqT.good k1 q1 s1, SqT.good k1 q1 s2, hx2, hz2⟩, fun H' => Good M H1 H' ∧ ∃ acc, H' Dl = some (.lst acc) ∧ Reps X.K M H' (ys.take (i + 1)) acc, fun H' q => ⟨xs.length - (i + 1), by omega, rfl, hlt, q⟩, fun v H3 hv => ?_⟩
    obtain ⟨T, x', z', rfl, hT, rfl, f1, f2⟩ := hv
    have ex : x' = x := Option.some.inj ((f1 _ (SqT.good k1 q1 s1)).symm.trans hx2)
    have ez : z' = z := Option.some.inj ((f2 _ (SqT.good k1 q1 s2)).symm.trans hz2)
    subst ex ez
    obtain ⟨gT, rT⟩ := new_tup q1.ok hT (Reps.cons (Rep.good k1 q1 _ _ rx) (Reps.one (Rep.good k1 q1 _ _ rz)))
    obtain ⟨gd, te⟩ := turn i _ _ _ ha hb hy
    have q1' := q1.trans gT
    refine gd _ _ _ _ gT.ok ((en1.good k1 q1').wipe vs hw) rT fun σ' en' hw' => ⟨by rw [hw', wipe_wipe], fun s0 Hb C cl fp => ?_⟩
    refine te s0 Hb C cl fp σ' _ _ gT.ok en' fun y v H4 py g4 ry => ?_
    subst py
    have g5 := gT.trans g4
    exact lc_put hD k1 (q1.trans g5) (g5.1 _ _ n1 q2) (Reps.good q1.ok g5 _ _ q3) lf hy ry hl2
  · refine .inl ⟨⟨xs, zs, SqT.good k1 q1 s1, SqT.good k1 q1 s2, .inl (by omega)⟩, ?_⟩
    refine f _ H' (g1.trans q1) (rLst n1 q2 ?_)
    have e3 : ys.take i = ys := List.take_of_length_le (by omega)
    rw [e3] at q3
    exact q3
/-- the comprehension as a value -/
theorem de_lc {elt tg iter : Expr} {scope : Scope} {own : List (Str × Nat)} {pos : Pos} {wi : TI} {g : TG} {ys : List D} (hc : X.calm = true) (hN : X.N.Nodup) (hi : PI X tg iter wi) (ok : BlkOk X.N X.env.scope scope own)
    (hg : ∀ (s : Shared) (H : Hp) (C : Addr) (cl : List (Str × Addr)) (fp : List Addr), PG (X.blk s H scope (compEnvC scope cl C X.env) fp) tg g) (h : LC X M wi g (tEb X scope elt) (own.map (·.2)) δ ys)
    (hs : ∀ x, foldedSetIterable iter X.env x = pure x := by intro _; rfl) : DE X M (.ListComp elt [⟨tg, iter, [], 0⟩] scope pos) δ (.lst ys) := by
  intro σ H Q k en f
  refine toE (pe_lc hc hN hi ok hg (fun _ _ _ _ _ => pts_nil) (te := tEb X scope elt) (fun s H1 C cl fp => ⟨fun pins s1 σ1 H2 Q1 I q => q s H1 C cl fp pins s1 I⟩) hs) (h σ H Q k en fun v H' g2 r2 => f _ v H' rfl g2 r2)
/-- y = [..], the comprehension's list to a local -/
theorem ds_setLc (i : Nat) {y : Str} {py spos : Pos} {elt tg iter : Expr} {scope : Scope} {own : List (Str × Nat)} {pos : Pos} {wi : TI} {g : TG} {ys : List D} (hc : X.calm = true) (hN : X.N.Nodup) (hy : X.N[i]? = some y) (hyl : X.env.scope.names.lookup y = some .local)
    (hsw : swapsWith (.ListComp elt [⟨tg, iter, [], 0⟩] scope pos) (some (.Name y py)) spos.line X.env = pure true) (hi : PI X tg iter wi) (ok : BlkOk X.N X.env.scope scope own)
    (hg : ∀ (s : Shared) (H : Hp) (C : Addr) (cl : List (Str × Addr)) (fp : List Addr), PG (X.blk s H scope (compEnvC scope cl C X.env) fp) tg g) (h : LC X M wi g (tEb X scope elt) (own.map (·.2)) δ ys) (h2 : DS X M H0 rest (δ.set i (some (.lst ys))) N R)
    (hs : ∀ x, foldedSetIterable iter X.env x = pure x := by intro _; rfl) : DS X M H0 (.Assign [.Name y py] (.ListComp elt [⟨tg, iter, [], 0⟩] scope pos) spos :: rest) δ N R := by
  intro σ H E g0 k en fn fr
  refine toS (pss_cons (ps_setLc hc hN hy hyl hsw hi ok hg (fun _ _ _ _ _ => pts_nil) (te := tEb X scope elt) (fun s H1 C cl fp => ⟨fun pins s1 σ1 H2 Q1 I q => q s H1 C cl fp pins s1 I⟩) hs) pS) (show tLc wi g tYes (tEb X scope elt) (own.map (·.2)) σ H (fun x H1 => tS X rest E (σ.set i (some x)) H1) from h σ H _ k en fun v H' g2 r2 => ?_)
  exact h2 _ H' E (g0.trans g2) g2.ok ((en.good k g2).set r2) (fun δ' σ' H' n g3 t2 => fn δ' σ' H' n g3 ((g2.keepT k).trans t2)) fr

section
variable {prog : Program} {w : World} {A : Around} {Er : Value → Shared → Prop} {s : Shared}
theorem draw_lst {it l : Addr} {items : Array Value} (ne : l ≠ it) : ∀ (n i : Nat) (s : Shared) (Q : List Value → Shared → Prop), s.heap.IsListIter it l i → s.heap.IsList l items → i + n ≤ items.size →
    (∀ h', h'.IsListIter it l (i + n) → Heap.SameBut it s.heap h' → Q ((items.toList.drop i).take n) { s with heap := h' }) → wpAny (model prog w) A (draw (.ref it) n) Q Er s := by
  intro n
  induction n with
  | zero =>
    intro i s Q hit _ _ hQ
    exact wpAny_pure (by simpa using (hQ s.heap hit (Heap.SameBut.refl ..)))
  | succ n ih =>
    intro i s Q hit hl hle hQ
    have lt : i < items.size := by omega
    show wpAny (model prog w) A (pyNext (.ref it) >>= _) Q Er s
    refine wpAny_bind (wpAny_pyNext_list_item hit hl (x := items[i]) (by simp [lt]) fun g1 it1 sb1 => wpAny_bind (wpAny_holding ?_))
    refine ih (i + 1) _ _ it1 ?_ (by omega) fun g2 it2 sb2 => wpAny_pure ?_
    · obtain ⟨o, ho, c⟩ := hl
      exact ⟨o, (sb1.2 l ne).trans ho, c⟩
    · have z := hQ g2 (by rw [show i + (n + 1) = i + 1 + n by omega]; exact it2) (sb1.trans sb2)
      rw [show items.toList.drop i = items[i] :: items.toList.drop (i + 1) by simp [List.drop_eq_getElem_cons, lt], List.take_succ_cons] at z
      exact z
theorem unpack_lst {elts : List Expr} {env : PySem.Env} {x1 : Nat} {pos : Pos} {l : Addr} {items : Array Value} {Q : Unit → Shared → Prop} (hh : A.handled = none) (hl : s.heap.IsList l items) (hn : (assignEach elts env).length = items.size) (hst : (assignEach elts env).findIdx? (·.1) = none)
    (h : ∀ h', (∀ b o, s.heap.get? b = some o → h'.get? b = some o) → wpAny (model prog w) A (assignInOrder ((assignEach elts env).map (·.2)) items.toList) Q Er { s with heap := h' }) : wpAny (model prog w) A (assign (.Tuple elts x1 pos) env (.ref l)) Q Er s := by
  have ne : l ≠ s.heap.objs.size := by
    obtain ⟨o, ho, _⟩ := hl
    exact (Nat.ne_of_lt (Heap.lt_size ho))
  rw [arm_assign_Tuple]
  refine (wpAny_bind (wpAny_standAt ?_))
  unfold unpack
  rw [hn, hst]
  refine (wpAny_bind (wpAny_holding ?_))
  unfold unpackItems notIterableAtAll
  refine wpAny_bind (wpAny_bind (wpAny_specialOf hl.typeIs PySem.slot_list_iter.lookup (wpAny_pure ?_)))
  simp only [if_false, Bool.false_eq_true]
  have pushed : ∀ (o : Obj), (s.heap.push o).IsList l items := fun ob => by
    obtain ⟨o, ho, c⟩ := hl
    exact ⟨o, Heap.get?_push_of_some _ ho, c⟩
  refine wpAny_bind (wpAny_holding (wpAny_pyIter_list hl (wpAny_bind (wpAny_holding ?_))))
  refine draw_lst ne items.size 0 _ _ ⟨_, Heap.get?_push_size _ rfl, rfl, rfl⟩ (pushed _) (by omega) fun g1 it1 sb1 => ?_
  have all : List.take items.size (List.drop 0 items.toList) = items.toList := by
    rw [List.drop_zero]
    exact (List.take_of_length_le (by simp))
  rw [all, if_neg (by simp)]
  have l1 : g1.IsList l items := by
    obtain ⟨o, ho, c⟩ := pushed { cls := .type "list_iterator", data := .fields #[.ref l, .int 0 0] }
    exact ⟨o, (sb1.2 l ne).trans ho, c⟩
  refine wpAny_bind (wpAny_holding (wpAny_pyNext_list_end hh it1 l1 (by simp) fun g2 eb => ?_))
  simp only [if_false, Option.isSome_none, Bool.false_eq_true]
  refine wpAny_pure (h g2 fun b o e => ?_)
  have nb : b ≠ s.heap.objs.size := Nat.ne_of_lt (Heap.lt_size e)
  exact eb b o nb ((sb1.2 b nb).trans (Heap.get?_push_of_some _ e))
end
theorem gt_lst {k : Nat} {pos : Pos} {ds : List D} {δ' : Ev} (hc : X.calm = true) (h : GTs X M es ds δ δ') (hn : (assignEach es X.env).length = ds.length := by rfl) (hst : (assignEach es X.env).findIdx? (·.1) = none := by rfl) : GT X M (.Tuple es k pos) (.lst ds) δ δ' := by
  intro v σ H Q ok en r f pins s u I rv
  obtain ⟨a, xs, e1, _, s1, r2⟩ := r.lst
  subst e1
  cases rv
  obtain ⟨its, rx, pl, hz⟩ := I.list (show SqL X.K H a xs from .inl (.inl s1))
  have sz : its.toArray.size = ds.length := by rw [List.size_toArray, ← rx.length, r2.len]
  refine unpack_lst (I.ok.hd hc) pl.isList (hn.trans sz.symm) hst fun h' kh => ?_
  have I1 : Inv X pins σ H { s with heap := h' } := I.kept (t' := s.toks) kh
  exact h xs σ H Q ok en r2 f pins _ its I1 (by simpa using rx)

end

def startD (N : List Str) (ds : List D) : Ev := ds.map some ++ List.replicate (N.length - ds.length) none
theorem env_start {K : PySem.W.Frag} {M : List Addr} {H : Hp} {N : List Str} {ds : List D} {vs : List V} (r : Reps K M H ds vs) : Env K M H (startD N ds) (L2.start N vs) := by
  have l := r.len
  refine ⟨?_, fun i d e => ?_⟩
  · unfold startD L2.start
    rw [List.length_append, List.length_append, List.length_map, List.length_map, List.length_replicate, List.length_replicate, l]
  · unfold startD at e
    by_cases hi : i < ds.length
    · rw [List.getElem?_append_left (by rw [List.length_map]; exact hi), List.getElem?_map, List.getElem?_eq_getElem hi] at e
      have ed : ds[i] = d := Option.some.inj (Option.some.inj e)
      subst ed
      obtain ⟨v, hv, rv⟩ := r.get (List.getElem?_eq_getElem hi)
      refine ⟨v, ?_, rv⟩
      unfold L2.start
      rw [List.getElem?_append_left (by rw [List.length_map, l]; exact hi), List.getElem?_map, hv]
      rfl
    · rw [List.getElem?_append_right (by rw [List.length_map]; omega), List.getElem?_replicate] at e
      split at e <;> cases e
section
variable {w : World} {P : Program} {mg : Str → Option Value} {K : PySem.W.Frag} {base : Heap}
theorem fn_ok {x qual : Str} {params : Arguments} {body : List Stmt} {scope : Scope} {f : Addr} {fd : FuncData} {N ps : List Str} {k : Nat} {R : Rsp} (F : FunD K x qual params body scope [] [] f fd) (S : FnScope N ps scope) (gf : mg x = some (.ref f))
    (hb : ∀ (kV doc pm : Value) (an : Option Addr) (cdv ct : Value) (us : List Value), us.length = ps.length → bindArgs (PySem.W.fnOf x qual params body scope .none kV doc pm an cdv ct) ⟨us, []⟩ = pure (ps.zip us))
    (mono : ∀ (ds : List D) (p q : D → Prop), (∀ d, p d → q d) → R ds p → R ds q) (len : ∀ ds p, R ds p → ds.length = ps.length)
    (hbody : ∀ (cdv : Value) (A : Around) (outer : List PySem.Env) (s : Shared) (H : Hp) (E : XK) (M : List Addr) (ds : List D) (Pd : D → Prop), Room k (A.deeper (envOfC qual scope s.heap.objs.size f cdv)) → R ds Pd →
      DS (cxOf CX0 P w K mg base N qual scope f cdv A outer s H E).nox M H body (startD N ds) (fun _ => Pd .non) Pd) : Fn P w K mg base x (k + 1) ps R := by
  obtain ⟨oc, od, dV, kV, doc, pm, an, cdv, ct, osl, efd, lk, hcd, hD, hK⟩ := F.ex
  refine ⟨⟨f, fd, ?_, gf, F.kp, FunD.bindsN F hb⟩, mono⟩
  refine F.ok S (fun vs H Q E h => ?_) (fun cdv A outer s H vs Q E hr h => ?_)
  · obtain ⟨M, ds, _, r, q⟩ := h
    rw [r.len]
    exact len ds _ q
  · obtain ⟨M, ds, ok, r, q⟩ := h
    refine ⟨_, PSs.nox pS, ?_⟩
    refine hbody cdv A outer s H E M ds _ hr q _ H { nx := fun _ H' => Q .non H', rt := Q } (Good.refl ok) ok (env_start r) (fun δ' σ' H' n g _ _ => n _ H' g rNon) (fun d v H' hr' g r' => hr' v H' g r')
end
end Ir
/-! ## IrQ -/
namespace Ir
/-- the fraction that stands for q -/
def fr (q : Rat) : D := .tup [.int q.num, .int (q.den : Int)]
theorem fr_inj {p q : Rat} (h : fr p = fr q) : p = q := by
  unfold fr at h
  injection h with h
  injection h with h1 h2
  injection h1 with h1
  injection h2 with h2 _
  injection h2 with h2
  exact Rat.ext h1 (Int.ofNat.inj h2)
/-- both numbers of q are below 2 ^ k -/
class Sz (q : Rat) (k : outParam Nat) : Prop where
  ok : q.num.natAbs < 2 ^ k ∧ q.den < 2 ^ k
theorem Sz.pos {q : Rat} {k : Nat} (h : Sz q k) : 0 < k := by
  rcases k with _ | k
  · have h1 := h.ok.2
    have h2 := q.den_pos
    simp at h1
    omega
  · exact Nat.succ_pos k
theorem Sz.mono {q : Rat} {k l : Nat} (h : Sz q k) (hl : k ≤ l) : Sz q l := by
  have e : 2 ^ k ≤ 2 ^ l := Nat.pow_le_pow_right (by decide) hl
  exact ⟨Nat.lt_of_lt_of_le h.ok.1 e, Nat.lt_of_lt_of_le h.ok.2 e⟩
theorem num_le (a b : Int) : (Rat.divInt a b).num.natAbs ≤ a.natAbs := by
  rw [Rat.num_divInt]
  have h1 : (b.sign * a / (b.gcd a : Int)).natAbs ≤ (b.sign * a).natAbs := by
    rw [Int.natAbs_ediv_of_dvd]
    · exact Nat.div_le_self _ _
    · exact Int.dvd_mul_of_dvd_right (Int.gcd_dvd_right ..)
  refine Nat.le_trans h1 ?_
  rw [Int.natAbs_mul]
  have h2 : b.sign.natAbs ≤ 1 := by
    rcases (Int.lt_trichotomy b 0) with h | h | h
    · rw [Int.sign_eq_neg_one_of_neg h]; decide
    · subst h; decide
    · rw [Int.sign_eq_one_of_pos h]; decide
  calc b.sign.natAbs * a.natAbs ≤ 1 * a.natAbs := Nat.mul_le_mul_right _ h2
    _ = a.natAbs := Nat.one_mul _
theorem den_le (a b : Int) (h : b ≠ 0) : (Rat.divInt a b).den ≤ b.natAbs := by
  rw [Rat.den_divInt, if_neg h]
  exact Nat.div_le_self _ _
theorem Sz.divInt {a b : Int} {k : Nat} (ha : a.natAbs < 2 ^ k) (hb : b.natAbs < 2 ^ k) (h : 0 < k) : Sz (Rat.divInt a b) k := by
  refine ⟨Nat.lt_of_le_of_lt (num_le a b) ha, ?_⟩
  by_cases hz : b = 0
  · subst hz
    rw [Rat.den_divInt, if_pos rfl]
    exact Nat.one_lt_two_pow (by omega)
  · exact Nat.lt_of_le_of_lt (den_le a b hz) hb
theorem sum_eq (p q : Rat) : Rat.divInt (p.num * q.den + q.num * p.den) (p.den * q.den) = p + q := by
  rw [← Rat.divInt_add_divInt _ _ (Int.natCast_ne_zero.mpr p.den_nz) (Int.natCast_ne_zero.mpr q.den_nz), Rat.num_divInt_den, Rat.num_divInt_den]
theorem neg_div (a b : Int) : Rat.divInt (-a) b = -Rat.divInt a b := by
  rw [Rat.divInt_eq_div, Rat.divInt_eq_div, Rat.intCast_neg]
  grind
theorem less_eq (p q : Rat) : Rat.divInt (p.num * q.den - q.num * p.den) (p.den * q.den) = p - q := by
  have e := sum_eq p (-q)
  rw [Rat.neg_num, Rat.neg_den] at e
  rw [Rat.sub_eq_add_neg, ← e]
  congr 1
  rw [Int.neg_mul]
  exact Int.sub_eq_add_neg
theorem mul_eq (p q : Rat) : Rat.divInt (p.num * q.num) (p.den * q.den) = p * q := by
  rw [← Rat.divInt_mul_divInt, Rat.num_divInt_den, Rat.num_divInt_den]
theorem over_eq (p q : Rat) : Rat.divInt (p.num * q.den) (p.den * q.num) = p / q := by
  rw [← Rat.divInt_mul_divInt, Rat.num_divInt_den, Rat.div_def, Rat.inv_def]
theorem lt_mul {a b m n : Nat} (ha : a < 2 ^ m) (hb : b < 2 ^ n) : a * b < 2 ^ (m + n) := by
  rw [Nat.pow_add]
  exact Nat.mul_lt_mul'' ha hb
theorem lt_mulI {a b : Int} {m n : Nat} (ha : a.natAbs < 2 ^ m) (hb : b.natAbs < 2 ^ n) : (a * b).natAbs < 2 ^ (m + n) := by
  rw [Int.natAbs_mul]
  exact lt_mul ha hb
theorem lt_addI {a b : Int} {m : Nat} (ha : a.natAbs < 2 ^ m) (hb : b.natAbs < 2 ^ m) : (a + b).natAbs < 2 ^ (m + 1) := by
  rw [Nat.pow_succ]
  omega
theorem lt_subI {a b : Int} {m : Nat} (ha : a.natAbs < 2 ^ m) (hb : b.natAbs < 2 ^ m) : (a - b).natAbs < 2 ^ (m + 1) := by
  rw [Nat.pow_succ]
  omega
theorem lt_up {a m n : Nat} (ha : a < 2 ^ m) (h : m ≤ n) : a < 2 ^ n := Nat.lt_of_lt_of_le ha (Nat.pow_le_pow_right (by decide) h)
section
variable {p q : Rat} {m n : Nat}
instance [hp : Sz p m] [hq : Sz q n] : Sz (p + q) (m + n + 1) := by
  rw [← sum_eq]
  have h1 := lt_mulI (a := p.num) (b := (q.den : Int)) hp.ok.1 (n := n) (by simpa using hq.ok.2)
  have h2 := lt_mulI (a := q.num) (b := (p.den : Int)) hq.ok.1 (n := m) (by simpa using hp.ok.2)
  rw [Nat.add_comm n m] at h2
  have h3 := lt_mulI (a := (p.den : Int)) (b := (q.den : Int)) (m := m) (n := n) (by simpa using hp.ok.2) (by simpa using hq.ok.2)
  exact Sz.divInt (lt_addI h1 h2) (lt_up h3 (Nat.le_succ _)) (Nat.succ_pos _)
instance [hp : Sz p m] : Sz (-p) m := by
  refine ⟨?_, ?_⟩
  · rw [Rat.neg_num, Int.natAbs_neg]; exact hp.ok.1
  · rw [Rat.neg_den]; exact hp.ok.2
instance [hp : Sz p m] [hq : Sz q n] : Sz (p - q) (m + n + 1) := by
  rw [Rat.sub_eq_add_neg]
  infer_instance
instance [hp : Sz p m] [hq : Sz q n] : Sz (p * q) (m + n) := by
  rw [← mul_eq]
  have h3 := lt_mulI (a := (p.den : Int)) (b := (q.den : Int)) (m := m) (n := n) (by simpa using hp.ok.2) (by simpa using hq.ok.2)
  exact Sz.divInt (lt_mulI hp.ok.1 hq.ok.1) h3 (Nat.add_pos_left hp.pos _)
instance [hp : Sz p m] [hq : Sz q n] : Sz (p / q) (m + n) := by
  rw [← over_eq]
  have h1 := lt_mulI (a := p.num) (b := (q.den : Int)) hp.ok.1 (n := n) (by simpa using hq.ok.2)
  have h3 := lt_mulI (a := (p.den : Int)) (b := q.num) (m := m) (n := n) (by simpa using hp.ok.2) hq.ok.1
  exact Sz.divInt h1 h3 (Nat.add_pos_left hp.pos _)
instance : Sz 0 1 := ⟨by decide, by decide⟩
instance : Sz 1 1 := ⟨by decide, by decide⟩
instance : Sz 2 2 := ⟨by decide, by decide⟩
end
/-- what // by the greatest common divisor gives -/
theorem fr_div {a b : Int} (h : b ≠ 0) : (D.tup [.int (a.fdiv (if 0 < b then (Nat.gcd a.natAbs b.natAbs : Nat) else -((Nat.gcd a.natAbs b.natAbs : Nat) : Int))), .int (b.fdiv (if 0 < b then (Nat.gcd a.natAbs b.natAbs : Nat) else -((Nat.gcd a.natAbs b.natAbs : Nat) : Int)))]) = fr (Rat.divInt a b) := by
  unfold fr
  rw [Rat.num_divInt, Rat.den_divInt, if_neg h]
  have eg : b.gcd a = Nat.gcd a.natAbs b.natAbs := by
    rw [Nat.gcd_comm]
    rfl
  rw [eg]
  have g0 : 0 < Nat.gcd a.natAbs b.natAbs := Nat.gcd_pos_of_pos_right _ (Int.natAbs_pos.mpr h)
  obtain ⟨x, hx⟩ : ((Nat.gcd a.natAbs b.natAbs : Nat) : Int) ∣ a := Int.ofNat_dvd_left.mpr (Nat.gcd_dvd_left ..)
  obtain ⟨y, hy⟩ : ((Nat.gcd a.natAbs b.natAbs : Nat) : Int) ∣ b := Int.ofNat_dvd_left.mpr (Nat.gcd_dvd_right ..)
  generalize hg : Nat.gcd a.natAbs b.natAbs = g at *
  have gz : (g : Int) ≠ 0 := by omega
  have dn : ((b.natAbs / g : Nat) : Int) = y.natAbs := by
    rw [hy, Int.natAbs_mul, Int.natAbs_natCast, Nat.mul_div_cancel_left _ g0]
  rw [dn]
  by_cases hb : 0 < b
  · rw [if_pos hb, Int.sign_eq_one_of_pos hb, Int.one_mul]
    have y0 : 0 < y := by
      rw [hy] at hb
      rcases Int.lt_or_le 0 y with z | z
      · exact z
      · have w := Int.mul_le_mul_of_nonneg_left z (show (0 : Int) ≤ g by omega)
        rw [Int.mul_zero] at w
        omega
    have e1 : a.fdiv g = x := by
      rw [hx]
      exact Int.mul_fdiv_cancel_left _ gz
    have e2 : b.fdiv g = y := by
      rw [hy]
      exact Int.mul_fdiv_cancel_left _ gz
    have e3 : a / (g : Int) = x := by
      rw [hx]
      exact Int.mul_ediv_cancel_left _ gz
    rw [e1, e2, e3]
    have e4 : ((y.natAbs : Nat) : Int) = y := by omega
    rw [e4]
  · have hb2 : b < 0 := by omega
    rw [if_neg hb, Int.sign_eq_neg_one_of_neg hb2]
    have y0 : y < 0 := by
      rw [hy] at hb2
      rcases Int.lt_or_le y 0 with z | z
      · exact z
      · have w := Int.mul_le_mul_of_nonneg_left z (show (0 : Int) ≤ g by omega)
        rw [Int.mul_zero] at w
        omega
    have e1 : a.fdiv (-(g : Int)) = -x := by
      rw [show a = -(g : Int) * -x by rw [Int.neg_mul_neg]; exact hx]
      exact Int.mul_fdiv_cancel_left _ (by omega)
    have e2 : b.fdiv (-(g : Int)) = -y := by
      rw [show b = -(g : Int) * -y by rw [Int.neg_mul_neg]; exact hy]
      exact Int.mul_fdiv_cancel_left _ (by omega)
    have e3 : -1 * a / (g : Int) = -x := by
      rw [show -1 * a = (g : Int) * -x by rw [hx, Int.mul_neg]; omega]
      exact Int.mul_ediv_cancel_left _ gz
    rw [e1, e2, e3]
    have e4 : ((y.natAbs : Nat) : Int) = -y := by omega
    rw [e4]
end Ir
/-! ## IrT -/
namespace Ir
open PySem.Spec PySem L2 PyProof.Rows
abbrev prg : Program := PySem.Challenge.pw_ironships_k61_whole_heel_rates_and_right
def topS (i : Nat) : Stmt := prg.main.body.getD i (.Pass ⟨0, 0, 0, 0⟩)
abbrev s_is_whole : Stmt := topS 7
abbrev n_is_whole : List Str := ["value"]
theorem sc_is_whole : FnScope n_is_whole ["value"] (defScope s_is_whole) := ⟨rfl, rfl, rfl, by decide +kernel, rfl, by decide +kernel, by decide +kernel⟩
theorem b_is_whole (kV doc pm : Value) (an : Option Addr) (cdv ct : Value) (us : List Value) (hl : us.length = 1) : bindArgs (PySem.W.fnOf "is_whole" "is_whole" (defArgs s_is_whole) (defBody s_is_whole) (defScope s_is_whole) .none kV doc pm an cdv ct) ⟨us, []⟩ = pure ((["value"] : List Str).zip us) := match us, hl with | [_], _ => rfl
abbrev s_are_wholes : Stmt := topS 8
abbrev n_are_wholes : List Str := ["value", "many", "number"]
theorem sc_are_wholes : FnScope n_are_wholes ["value", "many"] (defScope s_are_wholes) := ⟨rfl, rfl, rfl, by decide +kernel, rfl, by decide +kernel, by decide +kernel⟩
theorem b_are_wholes (kV doc pm : Value) (an : Option Addr) (cdv ct : Value) (us : List Value) (hl : us.length = 2) : bindArgs (PySem.W.fnOf "are_wholes" "are_wholes" (defArgs s_are_wholes) (defBody s_are_wholes) (defScope s_are_wholes) .none kV doc pm an cdv ct) ⟨us, []⟩ = pure ((["value", "many"] : List Str).zip us) := match us, hl with | [_, _], _ => rfl
abbrev s_divisor_of : Stmt := topS 9
abbrev n_divisor_of : List Str := ["numbers", "found", "number"]
theorem sc_divisor_of : FnScope n_divisor_of ["numbers"] (defScope s_divisor_of) := ⟨rfl, rfl, rfl, by decide +kernel, rfl, by decide +kernel, by decide +kernel⟩
theorem b_divisor_of (kV doc pm : Value) (an : Option Addr) (cdv ct : Value) (us : List Value) (hl : us.length = 1) : bindArgs (PySem.W.fnOf "divisor_of" "divisor_of" (defArgs s_divisor_of) (defBody s_divisor_of) (defScope s_divisor_of) .none kV doc pm an cdv ct) ⟨us, []⟩ = pure ((["numbers"] : List Str).zip us) := match us, hl with | [_], _ => rfl
abbrev s_is_reduced : Stmt := topS 10
abbrev n_is_reduced : List Str := ["numbers"]
theorem sc_is_reduced : FnScope n_is_reduced ["numbers"] (defScope s_is_reduced) := ⟨rfl, rfl, rfl, by decide +kernel, rfl, by decide +kernel, by decide +kernel⟩
theorem b_is_reduced (kV doc pm : Value) (an : Option Addr) (cdv ct : Value) (us : List Value) (hl : us.length = 1) : bindArgs (PySem.W.fnOf "is_reduced" "is_reduced" (defArgs s_is_reduced) (defBody s_is_reduced) (defScope s_is_reduced) .none kV doc pm an cdv ct) ⟨us, []⟩ = pure ((["numbers"] : List Str).zip us) := match us, hl with | [_], _ => rfl
abbrev s_is_ratio : Stmt := topS 14
abbrev n_is_ratio : List Str := ["value"]
theorem sc_is_ratio : FnScope n_is_ratio ["value"] (defScope s_is_ratio) := ⟨rfl, rfl, rfl, by decide +kernel, rfl, by decide +kernel, by decide +kernel⟩
theorem b_is_ratio (kV doc pm : Value) (an : Option Addr) (cdv ct : Value) (us : List Value) (hl : us.length = 1) : bindArgs (PySem.W.fnOf "is_ratio" "is_ratio" (defArgs s_is_ratio) (defBody s_is_ratio) (defScope s_is_ratio) .none kV doc pm an cdv ct) ⟨us, []⟩ = pure ((["value"] : List Str).zip us) := match us, hl with | [_], _ => rfl
abbrev s_ratio : Stmt := topS 15
abbrev n_ratio : List Str := ["number", "under", "part"]
theorem sc_ratio : FnScope n_ratio ["number", "under"] (defScope s_ratio) := ⟨rfl, rfl, rfl, by decide +kernel, rfl, by decide +kernel, by decide +kernel⟩
theorem b_ratio (kV doc pm : Value) (an : Option Addr) (cdv ct : Value) (us : List Value) (hl : us.length = 2) : bindArgs (PySem.W.fnOf "ratio" "ratio" (defArgs s_ratio) (defBody s_ratio) (defScope s_ratio) .none kV doc pm an cdv ct) ⟨us, []⟩ = pure ((["number", "under"] : List Str).zip us) := match us, hl with | [_, _], _ => rfl
abbrev s_ratio_sum : Stmt := topS 16
abbrev n_ratio_sum : List Str := ["one", "two"]
theorem sc_ratio_sum : FnScope n_ratio_sum ["one", "two"] (defScope s_ratio_sum) := ⟨rfl, rfl, rfl, by decide +kernel, rfl, by decide +kernel, by decide +kernel⟩
theorem b_ratio_sum (kV doc pm : Value) (an : Option Addr) (cdv ct : Value) (us : List Value) (hl : us.length = 2) : bindArgs (PySem.W.fnOf "ratio_sum" "ratio_sum" (defArgs s_ratio_sum) (defBody s_ratio_sum) (defScope s_ratio_sum) .none kV doc pm an cdv ct) ⟨us, []⟩ = pure ((["one", "two"] : List Str).zip us) := match us, hl with | [_, _], _ => rfl
abbrev s_ratio_less : Stmt := topS 17
abbrev n_ratio_less : List Str := ["one", "two"]
theorem sc_ratio_less : FnScope n_ratio_less ["one", "two"] (defScope s_ratio_less) := ⟨rfl, rfl, rfl, by decide +kernel, rfl, by decide +kernel, by decide +kernel⟩
theorem b_ratio_less (kV doc pm : Value) (an : Option Addr) (cdv ct : Value) (us : List Value) (hl : us.length = 2) : bindArgs (PySem.W.fnOf "ratio_less" "ratio_less" (defArgs s_ratio_less) (defBody s_ratio_less) (defScope s_ratio_less) .none kV doc pm an cdv ct) ⟨us, []⟩ = pure ((["one", "two"] : List Str).zip us) := match us, hl with | [_, _], _ => rfl
abbrev s_ratio_product : Stmt := topS 18
abbrev n_ratio_product : List Str := ["one", "two"]
theorem sc_ratio_product : FnScope n_ratio_product ["one", "two"] (defScope s_ratio_product) := ⟨rfl, rfl, rfl, by decide +kernel, rfl, by decide +kernel, by decide +kernel⟩
theorem b_ratio_product (kV doc pm : Value) (an : Option Addr) (cdv ct : Value) (us : List Value) (hl : us.length = 2) : bindArgs (PySem.W.fnOf "ratio_product" "ratio_product" (defArgs s_ratio_product) (defBody s_ratio_product) (defScope s_ratio_product) .none kV doc pm an cdv ct) ⟨us, []⟩ = pure ((["one", "two"] : List Str).zip us) := match us, hl with | [_, _], _ => rfl
abbrev s_ratio_over : Stmt := topS 19
abbrev n_ratio_over : List Str := ["one", "two"]
theorem sc_ratio_over : FnScope n_ratio_over ["one", "two"] (defScope s_ratio_over) := ⟨rfl, rfl, rfl, by decide +kernel, rfl, by decide +kernel, by decide +kernel⟩
theorem b_ratio_over (kV doc pm : Value) (an : Option Addr) (cdv ct : Value) (us : List Value) (hl : us.length = 2) : bindArgs (PySem.W.fnOf "ratio_over" "ratio_over" (defArgs s_ratio_over) (defBody s_ratio_over) (defScope s_ratio_over) .none kV doc pm an cdv ct) ⟨us, []⟩ = pure ((["one", "two"] : List Str).zip us) := match us, hl with | [_, _], _ => rfl
abbrev s_ratio_back : Stmt := topS 20
abbrev n_ratio_back : List Str := ["one"]
theorem sc_ratio_back : FnScope n_ratio_back ["one"] (defScope s_ratio_back) := ⟨rfl, rfl, rfl, by decide +kernel, rfl, by decide +kernel, by decide +kernel⟩
theorem b_ratio_back (kV doc pm : Value) (an : Option Addr) (cdv ct : Value) (us : List Value) (hl : us.length = 1) : bindArgs (PySem.W.fnOf "ratio_back" "ratio_back" (defArgs s_ratio_back) (defBody s_ratio_back) (defScope s_ratio_back) .none kV doc pm an cdv ct) ⟨us, []⟩ = pure ((["one"] : List Str).zip us) := match us, hl with | [_], _ => rfl
abbrev s_square_length : Stmt := topS 22
abbrev n_square_length : List Str := ["one"]
theorem sc_square_length : FnScope n_square_length ["one"] (defScope s_square_length) := ⟨rfl, rfl, rfl, by decide +kernel, rfl, by decide +kernel, by decide +kernel⟩
theorem b_square_length (kV doc pm : Value) (an : Option Addr) (cdv ct : Value) (us : List Value) (hl : us.length = 1) : bindArgs (PySem.W.fnOf "square_length" "square_length" (defArgs s_square_length) (defBody s_square_length) (defScope s_square_length) .none kV doc pm an cdv ct) ⟨us, []⟩ = pure ((["one"] : List Str).zip us) := match us, hl with | [_], _ => rfl
abbrev s_is_pair : Stmt := topS 24
abbrev n_is_pair : List Str := ["value"]
theorem sc_is_pair : FnScope n_is_pair ["value"] (defScope s_is_pair) := ⟨rfl, rfl, rfl, by decide +kernel, rfl, by decide +kernel, by decide +kernel⟩
theorem b_is_pair (kV doc pm : Value) (an : Option Addr) (cdv ct : Value) (us : List Value) (hl : us.length = 1) : bindArgs (PySem.W.fnOf "is_pair" "is_pair" (defArgs s_is_pair) (defBody s_is_pair) (defScope s_is_pair) .none kV doc pm an cdv ct) ⟨us, []⟩ = pure ((["value"] : List Str).zip us) := match us, hl with | [_], _ => rfl
abbrev s_is_unit : Stmt := topS 25
abbrev n_is_unit : List Str := ["value"]
theorem sc_is_unit : FnScope n_is_unit ["value"] (defScope s_is_unit) := ⟨rfl, rfl, rfl, by decide +kernel, rfl, by decide +kernel, by decide +kernel⟩
theorem b_is_unit (kV doc pm : Value) (an : Option Addr) (cdv ct : Value) (us : List Value) (hl : us.length = 1) : bindArgs (PySem.W.fnOf "is_unit" "is_unit" (defArgs s_is_unit) (defBody s_is_unit) (defScope s_is_unit) .none kV doc pm an cdv ct) ⟨us, []⟩ = pure ((["value"] : List Str).zip us) := match us, hl with | [_], _ => rfl
abbrev s_are_ratios : Stmt := topS 30
abbrev n_are_ratios : List Str := ["value", "many", "number"]
theorem sc_are_ratios : FnScope n_are_ratios ["value", "many"] (defScope s_are_ratios) := ⟨rfl, rfl, rfl, by decide +kernel, rfl, by decide +kernel, by decide +kernel⟩
theorem b_are_ratios (kV doc pm : Value) (an : Option Addr) (cdv ct : Value) (us : List Value) (hl : us.length = 2) : bindArgs (PySem.W.fnOf "are_ratios" "are_ratios" (defArgs s_are_ratios) (defBody s_are_ratios) (defScope s_are_ratios) .none kV doc pm an cdv ct) ⟨us, []⟩ = pure ((["value", "many"] : List Str).zip us) := match us, hl with | [_, _], _ => rfl
abbrev s_is_rows : Stmt := topS 31
abbrev n_is_rows : List Str := ["value", "row"]
theorem sc_is_rows : FnScope n_is_rows ["value"] (defScope s_is_rows) := ⟨rfl, rfl, rfl, by decide +kernel, rfl, by decide +kernel, by decide +kernel⟩
theorem b_is_rows (kV doc pm : Value) (an : Option Addr) (cdv ct : Value) (us : List Value) (hl : us.length = 1) : bindArgs (PySem.W.fnOf "is_rows" "is_rows" (defArgs s_is_rows) (defBody s_is_rows) (defScope s_is_rows) .none kV doc pm an cdv ct) ⟨us, []⟩ = pure ((["value"] : List Str).zip us) := match us, hl with | [_], _ => rfl
abbrev s_strength_by : Stmt := topS 32
abbrev n_strength_by : List Str := ["rows"]
theorem sc_strength_by : FnScope n_strength_by ["rows"] (defScope s_strength_by) := ⟨rfl, rfl, rfl, by decide +kernel, rfl, by decide +kernel, by decide +kernel⟩
theorem b_strength_by (kV doc pm : Value) (an : Option Addr) (cdv ct : Value) (us : List Value) (hl : us.length = 1) : bindArgs (PySem.W.fnOf "strength_by" "strength_by" (defArgs s_strength_by) (defBody s_strength_by) (defScope s_strength_by) .none kV doc pm an cdv ct) ⟨us, []⟩ = pure ((["rows"] : List Str).zip us) := match us, hl with | [_], _ => rfl
abbrev s_is_ironed : Stmt := topS 33
abbrev n_is_ironed : List Str := ["value"]
theorem sc_is_ironed : FnScope n_is_ironed ["value"] (defScope s_is_ironed) := ⟨rfl, rfl, rfl, by decide +kernel, rfl, by decide +kernel, by decide +kernel⟩
theorem b_is_ironed (kV doc pm : Value) (an : Option Addr) (cdv ct : Value) (us : List Value) (hl : us.length = 1) : bindArgs (PySem.W.fnOf "is_ironed" "is_ironed" (defArgs s_is_ironed) (defBody s_is_ironed) (defScope s_is_ironed) .none kV doc pm an cdv ct) ⟨us, []⟩ = pure ((["value"] : List Str).zip us) := match us, hl with | [_], _ => rfl
abbrev s_is_port : Stmt := topS 34
abbrev n_is_port : List Str := ["value"]
theorem sc_is_port : FnScope n_is_port ["value"] (defScope s_is_port) := ⟨rfl, rfl, rfl, by decide +kernel, rfl, by decide +kernel, by decide +kernel⟩
theorem b_is_port (kV doc pm : Value) (an : Option Addr) (cdv ct : Value) (us : List Value) (hl : us.length = 1) : bindArgs (PySem.W.fnOf "is_port" "is_port" (defArgs s_is_port) (defBody s_is_port) (defScope s_is_port) .none kV doc pm an cdv ct) ⟨us, []⟩ = pure ((["value"] : List Str).zip us) := match us, hl with | [_], _ => rfl
abbrev s_check_heading : Stmt := topS 36
abbrev n_check_heading : List Str := ["value"]
theorem sc_check_heading : FnScope n_check_heading ["value"] (defScope s_check_heading) := ⟨rfl, rfl, rfl, by decide +kernel, rfl, by decide +kernel, by decide +kernel⟩
theorem b_check_heading (kV doc pm : Value) (an : Option Addr) (cdv ct : Value) (us : List Value) (hl : us.length = 1) : bindArgs (PySem.W.fnOf "check_heading" "check_heading" (defArgs s_check_heading) (defBody s_check_heading) (defScope s_check_heading) .none kV doc pm an cdv ct) ⟨us, []⟩ = pure ((["value"] : List Str).zip us) := match us, hl with | [_], _ => rfl
abbrev s_check_iron : Stmt := topS 37
abbrev n_check_iron : List Str := ["value"]
theorem sc_check_iron : FnScope n_check_iron ["value"] (defScope s_check_iron) := ⟨rfl, rfl, rfl, by decide +kernel, rfl, by decide +kernel, by decide +kernel⟩
theorem b_check_iron (kV doc pm : Value) (an : Option Addr) (cdv ct : Value) (us : List Value) (hl : us.length = 1) : bindArgs (PySem.W.fnOf "check_iron" "check_iron" (defArgs s_check_iron) (defBody s_check_iron) (defScope s_check_iron) .none kV doc pm an cdv ct) ⟨us, []⟩ = pure ((["value"] : List Str).zip us) := match us, hl with | [_], _ => rfl
abbrev s_check_place : Stmt := topS 38
abbrev n_check_place : List Str := ["value"]
theorem sc_check_place : FnScope n_check_place ["value"] (defScope s_check_place) := ⟨rfl, rfl, rfl, by decide +kernel, rfl, by decide +kernel, by decide +kernel⟩
theorem b_check_place (kV doc pm : Value) (an : Option Addr) (cdv ct : Value) (us : List Value) (hl : us.length = 1) : bindArgs (PySem.W.fnOf "check_place" "check_place" (defArgs s_check_place) (defBody s_check_place) (defScope s_check_place) .none kV doc pm an cdv ct) ⟨us, []⟩ = pure ((["value"] : List Str).zip us) := match us, hl with | [_], _ => rfl
abbrev s_wave_sum : Stmt := topS 41
abbrev n_wave_sum : List Str := ["wave", "other", "number", "one", "two"]
theorem sc_wave_sum : FnScope n_wave_sum ["wave", "other", "number"] (defScope s_wave_sum) := ⟨rfl, rfl, rfl, by decide +kernel, rfl, by decide +kernel, by decide +kernel⟩
theorem b_wave_sum (kV doc pm : Value) (an : Option Addr) (cdv ct : Value) (us : List Value) (hl : us.length = 3) : bindArgs (PySem.W.fnOf "wave_sum" "wave_sum" (defArgs s_wave_sum) (defBody s_wave_sum) (defScope s_wave_sum) .none kV doc pm an cdv ct) ⟨us, []⟩ = pure ((["wave", "other", "number"] : List Str).zip us) := match us, hl with | [_, _, _], _ => rfl
abbrev s_sum_of_products : Stmt := topS 44
abbrev n_sum_of_products : List Str := ["pairs", "found", "one", "two"]
theorem sc_sum_of_products : FnScope n_sum_of_products ["pairs"] (defScope s_sum_of_products) := ⟨rfl, rfl, rfl, by decide +kernel, rfl, by decide +kernel, by decide +kernel⟩
theorem b_sum_of_products (kV doc pm : Value) (an : Option Addr) (cdv ct : Value) (us : List Value) (hl : us.length = 1) : bindArgs (PySem.W.fnOf "sum_of_products" "sum_of_products" (defArgs s_sum_of_products) (defBody s_sum_of_products) (defScope s_sum_of_products) .none kV doc pm an cdv ct) ⟨us, []⟩ = pure ((["pairs"] : List Str).zip us) := match us, hl with | [_], _ => rfl
abbrev s_ship_field : Stmt := topS 45
abbrev n_ship_field : List Str := ["place", "heading"]
theorem sc_ship_field : FnScope n_ship_field ["place", "heading"] (defScope s_ship_field) := ⟨rfl, rfl, rfl, by decide +kernel, rfl, by decide +kernel, by decide +kernel⟩
theorem b_ship_field (kV doc pm : Value) (an : Option Addr) (cdv ct : Value) (us : List Value) (hl : us.length = 2) : bindArgs (PySem.W.fnOf "ship_field" "ship_field" (defArgs s_ship_field) (defBody s_ship_field) (defScope s_ship_field) .none kV doc pm an cdv ct) ⟨us, []⟩ = pure ((["place", "heading"] : List Str).zip us) := match us, hl with | [_, _], _ => rfl
abbrev s_level_waves : Stmt := topS 46
abbrev n_level_waves : List Str := ["iron", "place", "heading", "a", "b", "c", "hard", "d", "e", "f", "aside", "g", "j", "k", "down", "x", "y", "z", "ahead", "first", "second", "third", "right"]
theorem sc_level_waves : FnScope n_level_waves ["iron", "place", "heading"] (defScope s_level_waves) := ⟨rfl, rfl, rfl, by decide +kernel, rfl, by decide +kernel, by decide +kernel⟩
theorem b_level_waves (kV doc pm : Value) (an : Option Addr) (cdv ct : Value) (us : List Value) (hl : us.length = 3) : bindArgs (PySem.W.fnOf "level_waves" "level_waves" (defArgs s_level_waves) (defBody s_level_waves) (defScope s_level_waves) .none kV doc pm an cdv ct) ⟨us, []⟩ = pure ((["iron", "place", "heading"] : List Str).zip us) := match us, hl with | [_, _, _], _ => rfl
abbrev s_waves_of_heel : Stmt := topS 47
abbrev n_waves_of_heel : List Str := ["iron", "place", "heading", "ahead", "right", "c", "s", "north"]
theorem sc_waves_of_heel : FnScope n_waves_of_heel ["iron", "place", "heading"] (defScope s_waves_of_heel) := ⟨rfl, rfl, rfl, by decide +kernel, rfl, by decide +kernel, by decide +kernel⟩
theorem b_waves_of_heel (kV doc pm : Value) (an : Option Addr) (cdv ct : Value) (us : List Value) (hl : us.length = 3) : bindArgs (PySem.W.fnOf "waves_of_heel" "waves_of_heel" (defArgs s_waves_of_heel) (defBody s_waves_of_heel) (defScope s_waves_of_heel) .none kV doc pm an cdv ct) ⟨us, []⟩ = pure ((["iron", "place", "heading"] : List Str).zip us) := match us, hl with | [_, _, _], _ => rfl
abbrev s_upright_parts : Stmt := topS 48
abbrev n_upright_parts : List Str := ["wave", "worth"]
theorem sc_upright_parts : FnScope n_upright_parts ["wave"] (defScope s_upright_parts) := ⟨rfl, rfl, rfl, by decide +kernel, rfl, by decide +kernel, by decide +kernel⟩
theorem b_upright_parts (kV doc pm : Value) (an : Option Addr) (cdv ct : Value) (us : List Value) (hl : us.length = 1) : bindArgs (PySem.W.fnOf "upright_parts" "upright_parts" (defArgs s_upright_parts) (defBody s_upright_parts) (defScope s_upright_parts) .none kV doc pm an cdv ct) ⟨us, []⟩ = pure ((["wave"] : List Str).zip us) := match us, hl with | [_], _ => rfl
abbrev s_rate_of : Stmt := topS 49
abbrev n_rate_of : List Str := ["waves", "north", "up", "east", "along", "wave"]
theorem sc_rate_of : FnScope n_rate_of ["waves"] (defScope s_rate_of) := ⟨rfl, rfl, rfl, by decide +kernel, rfl, by decide +kernel, by decide +kernel⟩
theorem b_rate_of (kV doc pm : Value) (an : Option Addr) (cdv ct : Value) (us : List Value) (hl : us.length = 1) : bindArgs (PySem.W.fnOf "rate_of" "rate_of" (defArgs s_rate_of) (defBody s_rate_of) (defScope s_rate_of) .none kV doc pm an cdv ct) ⟨us, []⟩ = pure ((["waves"] : List Str).zip us) := match us, hl with | [_], _ => rfl
abbrev s_magnet_of : Stmt := topS 50
abbrev n_magnet_of : List Str := ["iron", "place", "heading", "rows", "number", "changed"]
theorem sc_magnet_of : FnScope n_magnet_of ["iron", "place", "heading"] (defScope s_magnet_of) := ⟨rfl, rfl, rfl, by decide +kernel, rfl, by decide +kernel, by decide +kernel⟩
theorem b_magnet_of (kV doc pm : Value) (an : Option Addr) (cdv ct : Value) (us : List Value) (hl : us.length = 3) : bindArgs (PySem.W.fnOf "magnet_of" "magnet_of" (defArgs s_magnet_of) (defBody s_magnet_of) (defScope s_magnet_of) .none kV doc pm an cdv ct) ⟨us, []⟩ = pure ((["iron", "place", "heading"] : List Str).zip us) := match us, hl with | [_, _, _], _ => rfl
abbrev s_check_ship : Stmt := topS 52
abbrev n_check_ship : List Str := ["iron", "place", "heading"]
theorem sc_check_ship : FnScope n_check_ship ["iron", "place", "heading"] (defScope s_check_ship) := ⟨rfl, rfl, rfl, by decide +kernel, rfl, by decide +kernel, by decide +kernel⟩
theorem b_check_ship (kV doc pm : Value) (an : Option Addr) (cdv ct : Value) (us : List Value) (hl : us.length = 3) : bindArgs (PySem.W.fnOf "check_ship" "check_ship" (defArgs s_check_ship) (defBody s_check_ship) (defScope s_check_ship) .none kV doc pm an cdv ct) ⟨us, []⟩ = pure ((["iron", "place", "heading"] : List Str).zip us) := match us, hl with | [_, _, _], _ => rfl
abbrev s_heel_rate : Stmt := topS 53
abbrev n_heel_rate : List Str := ["iron", "place", "heading"]
theorem sc_heel_rate : FnScope n_heel_rate ["iron", "place", "heading"] (defScope s_heel_rate) := ⟨rfl, rfl, rfl, by decide +kernel, rfl, by decide +kernel, by decide +kernel⟩
theorem b_heel_rate (kV doc pm : Value) (an : Option Addr) (cdv ct : Value) (us : List Value) (hl : us.length = 3) : bindArgs (PySem.W.fnOf "heel_rate" "heel_rate" (defArgs s_heel_rate) (defBody s_heel_rate) (defScope s_heel_rate) .none kV doc pm an cdv ct) ⟨us, []⟩ = pure ((["iron", "place", "heading"] : List Str).zip us) := match us, hl with | [_, _, _], _ => rfl
abbrev s_righting_magnet : Stmt := topS 54
abbrev n_righting_magnet : List Str := ["iron", "place", "heading"]
theorem sc_righting_magnet : FnScope n_righting_magnet ["iron", "place", "heading"] (defScope s_righting_magnet) := ⟨rfl, rfl, rfl, by decide +kernel, rfl, by decide +kernel, by decide +kernel⟩
theorem b_righting_magnet (kV doc pm : Value) (an : Option Addr) (cdv ct : Value) (us : List Value) (hl : us.length = 3) : bindArgs (PySem.W.fnOf "righting_magnet" "righting_magnet" (defArgs s_righting_magnet) (defBody s_righting_magnet) (defScope s_righting_magnet) .none kV doc pm an cdv ct) ⟨us, []⟩ = pure ((["iron", "place", "heading"] : List Str).zip us) := match us, hl with | [_, _, _], _ => rfl
abbrev s__law_store : Stmt := topS 56
abbrev n__law_store : List Str := ["_law_script", "_law_turn", "_law_own", "_law_stir", "_law_each"]
theorem sc__law_store : FnScope n__law_store ["_law_script", "_law_turn"] (defScope s__law_store) := ⟨rfl, rfl, rfl, by decide +kernel, rfl, by decide +kernel, by decide +kernel⟩
theorem b__law_store (kV doc pm : Value) (an : Option Addr) (cdv ct : Value) (us : List Value) (hl : us.length = 2) : bindArgs (PySem.W.fnOf "_law_store" "_law_store" (defArgs s__law_store) (defBody s__law_store) (defScope s__law_store) .none kV doc pm an cdv ct) ⟨us, []⟩ = pure ((["_law_script", "_law_turn"] : List Str).zip us) := match us, hl with | [_, _], _ => rfl
abbrev s__law_take : Stmt := topS 57
abbrev n__law_take : List Str := ["_law_store_here", "_law_many", "_law_found", "_law_lap"]
theorem sc__law_take : FnScope n__law_take ["_law_store_here", "_law_many"] (defScope s__law_take) := ⟨rfl, rfl, rfl, by decide +kernel, rfl, by decide +kernel, by decide +kernel⟩
theorem b__law_take (kV doc pm : Value) (an : Option Addr) (cdv ct : Value) (us : List Value) (hl : us.length = 2) : bindArgs (PySem.W.fnOf "_law_take" "_law_take" (defArgs s__law_take) (defBody s__law_take) (defScope s__law_take) .none kV doc pm an cdv ct) ⟨us, []⟩ = pure ((["_law_store_here", "_law_many"] : List Str).zip us) := match us, hl with | [_, _], _ => rfl
abbrev s__law_of : Stmt := topS 58
abbrev n__law_of : List Str := ["_law_store_here", "_law_some"]
theorem sc__law_of : FnScope n__law_of ["_law_store_here", "_law_some"] (defScope s__law_of) := ⟨rfl, rfl, rfl, by decide +kernel, rfl, by decide +kernel, by decide +kernel⟩
theorem b__law_of (kV doc pm : Value) (an : Option Addr) (cdv ct : Value) (us : List Value) (hl : us.length = 2) : bindArgs (PySem.W.fnOf "_law_of" "_law_of" (defArgs s__law_of) (defBody s__law_of) (defScope s__law_of) .none kV doc pm an cdv ct) ⟨us, []⟩ = pure ((["_law_store_here", "_law_some"] : List Str).zip us) := match us, hl with | [_, _], _ => rfl
abbrev s__law_frac : Stmt := topS 59
abbrev n__law_frac : List Str := ["_law_top", "_law_under", "_law_one", "_law_two"]
theorem sc__law_frac : FnScope n__law_frac ["_law_top", "_law_under"] (defScope s__law_frac) := ⟨rfl, rfl, rfl, by decide +kernel, rfl, by decide +kernel, by decide +kernel⟩
theorem b__law_frac (kV doc pm : Value) (an : Option Addr) (cdv ct : Value) (us : List Value) (hl : us.length = 2) : bindArgs (PySem.W.fnOf "_law_frac" "_law_frac" (defArgs s__law_frac) (defBody s__law_frac) (defScope s__law_frac) .none kV doc pm an cdv ct) ⟨us, []⟩ = pure ((["_law_top", "_law_under"] : List Str).zip us) := match us, hl with | [_, _], _ => rfl
abbrev s__law_add : Stmt := topS 60
abbrev n__law_add : List Str := ["_law_one", "_law_two"]
theorem sc__law_add : FnScope n__law_add ["_law_one", "_law_two"] (defScope s__law_add) := ⟨rfl, rfl, rfl, by decide +kernel, rfl, by decide +kernel, by decide +kernel⟩
theorem b__law_add (kV doc pm : Value) (an : Option Addr) (cdv ct : Value) (us : List Value) (hl : us.length = 2) : bindArgs (PySem.W.fnOf "_law_add" "_law_add" (defArgs s__law_add) (defBody s__law_add) (defScope s__law_add) .none kV doc pm an cdv ct) ⟨us, []⟩ = pure ((["_law_one", "_law_two"] : List Str).zip us) := match us, hl with | [_, _], _ => rfl
abbrev s__law_sub : Stmt := topS 61
abbrev n__law_sub : List Str := ["_law_one", "_law_two"]
theorem sc__law_sub : FnScope n__law_sub ["_law_one", "_law_two"] (defScope s__law_sub) := ⟨rfl, rfl, rfl, by decide +kernel, rfl, by decide +kernel, by decide +kernel⟩
theorem b__law_sub (kV doc pm : Value) (an : Option Addr) (cdv ct : Value) (us : List Value) (hl : us.length = 2) : bindArgs (PySem.W.fnOf "_law_sub" "_law_sub" (defArgs s__law_sub) (defBody s__law_sub) (defScope s__law_sub) .none kV doc pm an cdv ct) ⟨us, []⟩ = pure ((["_law_one", "_law_two"] : List Str).zip us) := match us, hl with | [_, _], _ => rfl
abbrev s__law_mul : Stmt := topS 62
abbrev n__law_mul : List Str := ["_law_one", "_law_two"]
theorem sc__law_mul : FnScope n__law_mul ["_law_one", "_law_two"] (defScope s__law_mul) := ⟨rfl, rfl, rfl, by decide +kernel, rfl, by decide +kernel, by decide +kernel⟩
theorem b__law_mul (kV doc pm : Value) (an : Option Addr) (cdv ct : Value) (us : List Value) (hl : us.length = 2) : bindArgs (PySem.W.fnOf "_law_mul" "_law_mul" (defArgs s__law_mul) (defBody s__law_mul) (defScope s__law_mul) .none kV doc pm an cdv ct) ⟨us, []⟩ = pure ((["_law_one", "_law_two"] : List Str).zip us) := match us, hl with | [_, _], _ => rfl
abbrev s__law_div : Stmt := topS 63
abbrev n__law_div : List Str := ["_law_one", "_law_two"]
theorem sc__law_div : FnScope n__law_div ["_law_one", "_law_two"] (defScope s__law_div) := ⟨rfl, rfl, rfl, by decide +kernel, rfl, by decide +kernel, by decide +kernel⟩
theorem b__law_div (kV doc pm : Value) (an : Option Addr) (cdv ct : Value) (us : List Value) (hl : us.length = 2) : bindArgs (PySem.W.fnOf "_law_div" "_law_div" (defArgs s__law_div) (defBody s__law_div) (defScope s__law_div) .none kV doc pm an cdv ct) ⟨us, []⟩ = pure ((["_law_one", "_law_two"] : List Str).zip us) := match us, hl with | [_, _], _ => rfl
abbrev s__law_total : Stmt := topS 64
abbrev n__law_total : List Str := ["_law_some", "_law_found", "_law_each"]
theorem sc__law_total : FnScope n__law_total ["_law_some"] (defScope s__law_total) := ⟨rfl, rfl, rfl, by decide +kernel, rfl, by decide +kernel, by decide +kernel⟩
theorem b__law_total (kV doc pm : Value) (an : Option Addr) (cdv ct : Value) (us : List Value) (hl : us.length = 1) : bindArgs (PySem.W.fnOf "_law_total" "_law_total" (defArgs s__law_total) (defBody s__law_total) (defScope s__law_total) .none kV doc pm an cdv ct) ⟨us, []⟩ = pure ((["_law_some"] : List Str).zip us) := match us, hl with | [_], _ => rfl
abbrev s__law_rows_sum : Stmt := topS 65
abbrev n__law_rows_sum : List Str := ["_law_one", "_law_two", "_law_by", "_law_here", "_law_there"]
theorem sc__law_rows_sum : FnScope n__law_rows_sum ["_law_one", "_law_two", "_law_by"] (defScope s__law_rows_sum) := ⟨rfl, rfl, rfl, by decide +kernel, rfl, by decide +kernel, by decide +kernel⟩
theorem b__law_rows_sum (kV doc pm : Value) (an : Option Addr) (cdv ct : Value) (us : List Value) (hl : us.length = 3) : bindArgs (PySem.W.fnOf "_law_rows_sum" "_law_rows_sum" (defArgs s__law_rows_sum) (defBody s__law_rows_sum) (defScope s__law_rows_sum) .none kV doc pm an cdv ct) ⟨us, []⟩ = pure ((["_law_one", "_law_two", "_law_by"] : List Str).zip us) := match us, hl with | [_, _, _], _ => rfl
abbrev s__law_scaled : Stmt := topS 66
abbrev n__law_scaled : List Str := ["_law_row", "_law_by", "_law_each"]
theorem sc__law_scaled : FnScope n__law_scaled ["_law_row", "_law_by"] (defScope s__law_scaled) := ⟨rfl, rfl, rfl, by decide +kernel, rfl, by decide +kernel, by decide +kernel⟩
theorem b__law_scaled (kV doc pm : Value) (an : Option Addr) (cdv ct : Value) (us : List Value) (hl : us.length = 2) : bindArgs (PySem.W.fnOf "_law_scaled" "_law_scaled" (defArgs s__law_scaled) (defBody s__law_scaled) (defScope s__law_scaled) .none kV doc pm an cdv ct) ⟨us, []⟩ = pure ((["_law_row", "_law_by"] : List Str).zip us) := match us, hl with | [_, _], _ => rfl
abbrev s__law_low : Stmt := topS 67
abbrev n__law_low : List Str := ["_law_store_here", "_law_size"]
theorem sc__law_low : FnScope n__law_low ["_law_store_here"] (defScope s__law_low) := ⟨rfl, rfl, rfl, by decide +kernel, rfl, by decide +kernel, by decide +kernel⟩
theorem b__law_low (kV doc pm : Value) (an : Option Addr) (cdv ct : Value) (us : List Value) (hl : us.length = 1) : bindArgs (PySem.W.fnOf "_law_low" "_law_low" (defArgs s__law_low) (defBody s__law_low) (defScope s__law_low) .none kV doc pm an cdv ct) ⟨us, []⟩ = pure ((["_law_store_here"] : List Str).zip us) := match us, hl with | [_], _ => rfl
abbrev s__law_part : Stmt := topS 68
abbrev n__law_part : List Str := ["_law_store_here", "_law_top"]
theorem sc__law_part : FnScope n__law_part ["_law_store_here"] (defScope s__law_part) := ⟨rfl, rfl, rfl, by decide +kernel, rfl, by decide +kernel, by decide +kernel⟩
theorem b__law_part (kV doc pm : Value) (an : Option Addr) (cdv ct : Value) (us : List Value) (hl : us.length = 1) : bindArgs (PySem.W.fnOf "_law_part" "_law_part" (defArgs s__law_part) (defBody s__law_part) (defScope s__law_part) .none kV doc pm an cdv ct) ⟨us, []⟩ = pure ((["_law_store_here"] : List Str).zip us) := match us, hl with | [_], _ => rfl
abbrev s__law_heading_of : Stmt := topS 69
abbrev n__law_heading_of : List Str := ["_law_half_here", "_law_p", "_law_q"]
theorem sc__law_heading_of : FnScope n__law_heading_of ["_law_half_here"] (defScope s__law_heading_of) := ⟨rfl, rfl, rfl, by decide +kernel, rfl, by decide +kernel, by decide +kernel⟩
theorem b__law_heading_of (kV doc pm : Value) (an : Option Addr) (cdv ct : Value) (us : List Value) (hl : us.length = 1) : bindArgs (PySem.W.fnOf "_law_heading_of" "_law_heading_of" (defArgs s__law_heading_of) (defBody s__law_heading_of) (defScope s__law_heading_of) .none kV doc pm an cdv ct) ⟨us, []⟩ = pure ((["_law_half_here"] : List Str).zip us) := match us, hl with | [_], _ => rfl
abbrev s__law_half : Stmt := topS 70
abbrev n__law_half : List Str := ["_law_store_here", "_law_way", "_law_top"]
theorem sc__law_half : FnScope n__law_half ["_law_store_here"] (defScope s__law_half) := ⟨rfl, rfl, rfl, by decide +kernel, rfl, by decide +kernel, by decide +kernel⟩
theorem b__law_half (kV doc pm : Value) (an : Option Addr) (cdv ct : Value) (us : List Value) (hl : us.length = 1) : bindArgs (PySem.W.fnOf "_law_half" "_law_half" (defArgs s__law_half) (defBody s__law_half) (defScope s__law_half) .none kV doc pm an cdv ct) ⟨us, []⟩ = pure ((["_law_store_here"] : List Str).zip us) := match us, hl with | [_], _ => rfl
abbrev s__law_heading : Stmt := topS 71
abbrev n__law_heading : List Str := ["_law_store_here"]
theorem sc__law_heading : FnScope n__law_heading ["_law_store_here"] (defScope s__law_heading) := ⟨rfl, rfl, rfl, by decide +kernel, rfl, by decide +kernel, by decide +kernel⟩
theorem b__law_heading (kV doc pm : Value) (an : Option Addr) (cdv ct : Value) (us : List Value) (hl : us.length = 1) : bindArgs (PySem.W.fnOf "_law_heading" "_law_heading" (defArgs s__law_heading) (defBody s__law_heading) (defScope s__law_heading) .none kV doc pm an cdv ct) ⟨us, []⟩ = pure ((["_law_store_here"] : List Str).zip us) := match us, hl with | [_], _ => rfl
abbrev s__law_worth : Stmt := topS 72
abbrev n__law_worth : List Str := ["_law_wave", "_law_point", "_law_c", "_law_s", "_law_squares", "_law_product", "_law_some"]
theorem sc__law_worth : FnScope n__law_worth ["_law_wave", "_law_point"] (defScope s__law_worth) := ⟨rfl, rfl, rfl, by decide +kernel, rfl, by decide +kernel, by decide +kernel⟩
theorem b__law_worth (kV doc pm : Value) (an : Option Addr) (cdv ct : Value) (us : List Value) (hl : us.length = 2) : bindArgs (PySem.W.fnOf "_law_worth" "_law_worth" (defArgs s__law_worth) (defBody s__law_worth) (defScope s__law_worth) .none kV doc pm an cdv ct) ⟨us, []⟩ = pure ((["_law_wave", "_law_point"] : List Str).zip us) := match us, hl with | [_, _], _ => rfl
abbrev s__law_iron : Stmt := topS 73
abbrev n__law_iron : List Str := ["_law_store_here", "_law_by", "_law_rows", "_law_k", "_law_row", "_law_j"]
theorem sc__law_iron : FnScope n__law_iron ["_law_store_here", "_law_by"] (defScope s__law_iron) := ⟨rfl, rfl, rfl, by decide +kernel, rfl, by decide +kernel, by decide +kernel⟩
theorem b__law_iron (kV doc pm : Value) (an : Option Addr) (cdv ct : Value) (us : List Value) (hl : us.length = 2) : bindArgs (PySem.W.fnOf "_law_iron" "_law_iron" (defArgs s__law_iron) (defBody s__law_iron) (defScope s__law_iron) .none kV doc pm an cdv ct) ⟨us, []⟩ = pure ((["_law_store_here", "_law_by"] : List Str).zip us) := match us, hl with | [_, _], _ => rfl
abbrev s__law_site : Stmt := topS 74
abbrev n__law_site : List Str := ["_law_store_here"]
theorem sc__law_site : FnScope n__law_site ["_law_store_here"] (defScope s__law_site) := ⟨rfl, rfl, rfl, by decide +kernel, rfl, by decide +kernel, by decide +kernel⟩
theorem b__law_site (kV doc pm : Value) (an : Option Addr) (cdv ct : Value) (us : List Value) (hl : us.length = 1) : bindArgs (PySem.W.fnOf "_law_site" "_law_site" (defArgs s__law_site) (defBody s__law_site) (defScope s__law_site) .none kV doc pm an cdv ct) ⟨us, []⟩ = pure ((["_law_store_here"] : List Str).zip us) := match us, hl with | [_], _ => rfl
abbrev s__law_leaned : Stmt := topS 75
abbrev n__law_leaned : List Str := ["_law_iron_here", "_law_half_here", "_law_p", "_law_q", "_law_minus", "_law_rows", "_law_x", "_law_y", "_law_z", "_law_k", "_law_second"]
theorem sc__law_leaned : FnScope n__law_leaned ["_law_iron_here", "_law_half_here"] (defScope s__law_leaned) := ⟨rfl, rfl, rfl, by decide +kernel, rfl, by decide +kernel, by decide +kernel⟩
theorem b__law_leaned (kV doc pm : Value) (an : Option Addr) (cdv ct : Value) (us : List Value) (hl : us.length = 2) : bindArgs (PySem.W.fnOf "_law_leaned" "_law_leaned" (defArgs s__law_leaned) (defBody s__law_leaned) (defScope s__law_leaned) .none kV doc pm an cdv ct) ⟨us, []⟩ = pure ((["_law_iron_here", "_law_half_here"] : List Str).zip us) := match us, hl with | [_, _], _ => rfl
abbrev s__law_field : Stmt := topS 76
abbrev n__law_field : List Str := ["_law_iron_here", "_law_field_here", "_law_found", "_law_k", "_law_more", "_law_here", "_law_there"]
theorem sc__law_field : FnScope n__law_field ["_law_iron_here", "_law_field_here"] (defScope s__law_field) := ⟨rfl, rfl, rfl, by decide +kernel, rfl, by decide +kernel, by decide +kernel⟩
theorem b__law_field (kV doc pm : Value) (an : Option Addr) (cdv ct : Value) (us : List Value) (hl : us.length = 2) : bindArgs (PySem.W.fnOf "_law_field" "_law_field" (defArgs s__law_field) (defBody s__law_field) (defScope s__law_field) .none kV doc pm an cdv ct) ⟨us, []⟩ = pure ((["_law_iron_here", "_law_field_here"] : List Str).zip us) := match us, hl with | [_, _], _ => rfl
abbrev s__law_lean_parts : Stmt := topS 77
abbrev n__law_lean_parts : List Str := ["_law_iron_here", "_law_site_here", "_law_point", "_law_half_here", "_law_c", "_law_s", "_law_field_here", "_law_fore", "_law_aside"]
theorem sc__law_lean_parts : FnScope n__law_lean_parts ["_law_iron_here", "_law_site_here", "_law_point", "_law_half_here"] (defScope s__law_lean_parts) := ⟨rfl, rfl, rfl, by decide +kernel, rfl, by decide +kernel, by decide +kernel⟩
theorem b__law_lean_parts (kV doc pm : Value) (an : Option Addr) (cdv ct : Value) (us : List Value) (hl : us.length = 4) : bindArgs (PySem.W.fnOf "_law_lean_parts" "_law_lean_parts" (defArgs s__law_lean_parts) (defBody s__law_lean_parts) (defScope s__law_lean_parts) .none kV doc pm an cdv ct) ⟨us, []⟩ = pure ((["_law_iron_here", "_law_site_here", "_law_point", "_law_half_here"] : List Str).zip us) := match us, hl with | [_, _, _, _], _ => rfl
abbrev s__law_lean_waves : Stmt := topS 78
abbrev n__law_lean_waves : List Str := ["_law_iron_here", "_law_site_here", "_law_point", "_law_found", "_law_at", "_law_here", "_law_east", "_law_west", "_law_half_here", "_law_south", "_law_slant", "_law_k1", "_law_k2", "_law_high", "_law_low_here", "_law_k0", "_law_k3", "_law_rest"]
theorem sc__law_lean_waves : FnScope n__law_lean_waves ["_law_iron_here", "_law_site_here", "_law_point"] (defScope s__law_lean_waves) := ⟨rfl, rfl, rfl, by decide +kernel, rfl, by decide +kernel, by decide +kernel⟩
theorem b__law_lean_waves (kV doc pm : Value) (an : Option Addr) (cdv ct : Value) (us : List Value) (hl : us.length = 3) : bindArgs (PySem.W.fnOf "_law_lean_waves" "_law_lean_waves" (defArgs s__law_lean_waves) (defBody s__law_lean_waves) (defScope s__law_lean_waves) .none kV doc pm an cdv ct) ⟨us, []⟩ = pure ((["_law_iron_here", "_law_site_here", "_law_point"] : List Str).zip us) := match us, hl with | [_, _, _], _ => rfl
abbrev s__law_is_whole : Stmt := topS 79
abbrev n__law_is_whole : List Str := ["_law_value"]
theorem sc__law_is_whole : FnScope n__law_is_whole ["_law_value"] (defScope s__law_is_whole) := ⟨rfl, rfl, rfl, by decide +kernel, rfl, by decide +kernel, by decide +kernel⟩
theorem b__law_is_whole (kV doc pm : Value) (an : Option Addr) (cdv ct : Value) (us : List Value) (hl : us.length = 1) : bindArgs (PySem.W.fnOf "_law_is_whole" "_law_is_whole" (defArgs s__law_is_whole) (defBody s__law_is_whole) (defScope s__law_is_whole) .none kV doc pm an cdv ct) ⟨us, []⟩ = pure ((["_law_value"] : List Str).zip us) := match us, hl with | [_], _ => rfl
abbrev s__law_is_frac : Stmt := topS 80
abbrev n__law_is_frac : List Str := ["_law_value", "_law_each"]
theorem sc__law_is_frac : FnScope n__law_is_frac ["_law_value"] (defScope s__law_is_frac) := ⟨rfl, rfl, rfl, by decide +kernel, rfl, by decide +kernel, by decide +kernel⟩
theorem b__law_is_frac (kV doc pm : Value) (an : Option Addr) (cdv ct : Value) (us : List Value) (hl : us.length = 1) : bindArgs (PySem.W.fnOf "_law_is_frac" "_law_is_frac" (defArgs s__law_is_frac) (defBody s__law_is_frac) (defScope s__law_is_frac) .none kV doc pm an cdv ct) ⟨us, []⟩ = pure ((["_law_value"] : List Str).zip us) := match us, hl with | [_], _ => rfl
abbrev s__law_rate : Stmt := topS 81
abbrev n__law_rate : List Str := ["_law_iron_here", "_law_site_here", "_law_point", "_law_north", "_law_east", "_law_here", "_law_there", "_law_first", "_law_last"]
theorem sc__law_rate : FnScope n__law_rate ["_law_iron_here", "_law_site_here", "_law_point"] (defScope s__law_rate) := ⟨rfl, rfl, rfl, by decide +kernel, rfl, by decide +kernel, by decide +kernel⟩
theorem b__law_rate (kV doc pm : Value) (an : Option Addr) (cdv ct : Value) (us : List Value) (hl : us.length = 3) : bindArgs (PySem.W.fnOf "_law_rate" "_law_rate" (defArgs s__law_rate) (defBody s__law_rate) (defScope s__law_rate) .none kV doc pm an cdv ct) ⟨us, []⟩ = pure ((["_law_iron_here", "_law_site_here", "_law_point"] : List Str).zip us) := match us, hl with | [_, _, _], _ => rfl
abbrev s__law_with : Stmt := topS 82
abbrev n__law_with : List Str := ["_law_iron_here", "_law_last"]
theorem sc__law_with : FnScope n__law_with ["_law_iron_here", "_law_last"] (defScope s__law_with) := ⟨rfl, rfl, rfl, by decide +kernel, rfl, by decide +kernel, by decide +kernel⟩
theorem b__law_with (kV doc pm : Value) (an : Option Addr) (cdv ct : Value) (us : List Value) (hl : us.length = 2) : bindArgs (PySem.W.fnOf "_law_with" "_law_with" (defArgs s__law_with) (defBody s__law_with) (defScope s__law_with) .none kV doc pm an cdv ct) ⟨us, []⟩ = pure ((["_law_iron_here", "_law_last"] : List Str).zip us) := match us, hl with | [_, _], _ => rfl
abbrev s__law_right : Stmt := topS 83
abbrev n__law_right : List Str := ["_law_store_here", "_law_iron_here", "_law_site_here", "_law_point", "_law_rate_here", "_law_told", "_law_other", "_law_more", "_law_each"]
theorem sc__law_right : FnScope n__law_right ["_law_store_here"] (defScope s__law_right) := ⟨rfl, rfl, rfl, by decide +kernel, rfl, by decide +kernel, by decide +kernel⟩
theorem b__law_right (kV doc pm : Value) (an : Option Addr) (cdv ct : Value) (us : List Value) (hl : us.length = 1) : bindArgs (PySem.W.fnOf "_law_right" "_law_right" (defArgs s__law_right) (defBody s__law_right) (defScope s__law_right) .none kV doc pm an cdv ct) ⟨us, []⟩ = pure ((["_law_store_here"] : List Str).zip us) := match us, hl with | [_], _ => rfl
abbrev s_law : Stmt := topS 84
abbrev n_law : List Str := ["_law_script", "_law_turn"]
theorem sc_law : FnScope n_law ["_law_script"] (defScope s_law) := ⟨rfl, rfl, rfl, by decide +kernel, rfl, by decide +kernel, by decide +kernel⟩
theorem b_law (kV doc pm : Value) (an : Option Addr) (cdv ct : Value) (us : List Value) (hl : us.length = 1) : bindArgs (PySem.W.fnOf "law" "law" (defArgs s_law) (defBody s_law) (defScope s_law) .none kV doc pm an cdv ct) ⟨us, []⟩ = pure ((["_law_script"] : List Str).zip us) := match us, hl with | [_], _ => rfl
/-- a def of the text, as it stands behind the top -/
def Df (K : PySem.W.Frag) (mg : Str → Option Value) (x : Str) (st : Stmt) : Prop := ∃ f fd, FunD K x x (defArgs st) (defBody st) (defScope st) [] [] f fd ∧ mg x = some (.ref f)
structure Ds (K : PySem.W.Frag) (mg : Str → Option Value) : Prop where
  d_is_whole : Df K mg "is_whole" s_is_whole
  d_are_wholes : Df K mg "are_wholes" s_are_wholes
  d_divisor_of : Df K mg "divisor_of" s_divisor_of
  d_is_reduced : Df K mg "is_reduced" s_is_reduced
  d_is_ratio : Df K mg "is_ratio" s_is_ratio
  d_ratio : Df K mg "ratio" s_ratio
  d_ratio_sum : Df K mg "ratio_sum" s_ratio_sum
  d_ratio_less : Df K mg "ratio_less" s_ratio_less
  d_ratio_product : Df K mg "ratio_product" s_ratio_product
  d_ratio_over : Df K mg "ratio_over" s_ratio_over
  d_ratio_back : Df K mg "ratio_back" s_ratio_back
  d_square_length : Df K mg "square_length" s_square_length
  d_is_pair : Df K mg "is_pair" s_is_pair
  d_is_unit : Df K mg "is_unit" s_is_unit
  d_are_ratios : Df K mg "are_ratios" s_are_ratios
  d_is_rows : Df K mg "is_rows" s_is_rows
  d_strength_by : Df K mg "strength_by" s_strength_by
  d_is_ironed : Df K mg "is_ironed" s_is_ironed
  d_is_port : Df K mg "is_port" s_is_port
  d_check_heading : Df K mg "check_heading" s_check_heading
  d_check_iron : Df K mg "check_iron" s_check_iron
  d_check_place : Df K mg "check_place" s_check_place
  d_wave_sum : Df K mg "wave_sum" s_wave_sum
  d_sum_of_products : Df K mg "sum_of_products" s_sum_of_products
  d_ship_field : Df K mg "ship_field" s_ship_field
  d_level_waves : Df K mg "level_waves" s_level_waves
  d_waves_of_heel : Df K mg "waves_of_heel" s_waves_of_heel
  d_upright_parts : Df K mg "upright_parts" s_upright_parts
  d_rate_of : Df K mg "rate_of" s_rate_of
  d_magnet_of : Df K mg "magnet_of" s_magnet_of
  d_check_ship : Df K mg "check_ship" s_check_ship
  d_heel_rate : Df K mg "heel_rate" s_heel_rate
  d_righting_magnet : Df K mg "righting_magnet" s_righting_magnet
  d__law_store : Df K mg "_law_store" s__law_store
  d__law_take : Df K mg "_law_take" s__law_take
  d__law_of : Df K mg "_law_of" s__law_of
  d__law_frac : Df K mg "_law_frac" s__law_frac
  d__law_add : Df K mg "_law_add" s__law_add
  d__law_sub : Df K mg "_law_sub" s__law_sub
  d__law_mul : Df K mg "_law_mul" s__law_mul
  d__law_div : Df K mg "_law_div" s__law_div
  d__law_total : Df K mg "_law_total" s__law_total
  d__law_rows_sum : Df K mg "_law_rows_sum" s__law_rows_sum
  d__law_scaled : Df K mg "_law_scaled" s__law_scaled
  d__law_low : Df K mg "_law_low" s__law_low
  d__law_part : Df K mg "_law_part" s__law_part
  d__law_heading_of : Df K mg "_law_heading_of" s__law_heading_of
  d__law_half : Df K mg "_law_half" s__law_half
  d__law_heading : Df K mg "_law_heading" s__law_heading
  d__law_worth : Df K mg "_law_worth" s__law_worth
  d__law_iron : Df K mg "_law_iron" s__law_iron
  d__law_site : Df K mg "_law_site" s__law_site
  d__law_leaned : Df K mg "_law_leaned" s__law_leaned
  d__law_field : Df K mg "_law_field" s__law_field
  d__law_lean_parts : Df K mg "_law_lean_parts" s__law_lean_parts
  d__law_lean_waves : Df K mg "_law_lean_waves" s__law_lean_waves
  d__law_is_whole : Df K mg "_law_is_whole" s__law_is_whole
  d__law_is_frac : Df K mg "_law_is_frac" s__law_is_frac
  d__law_rate : Df K mg "_law_rate" s__law_rate
  d__law_with : Df K mg "_law_with" s__law_with
  d__law_right : Df K mg "_law_right" s__law_right
  d_law : Df K mg "law" s_law
end Ir
/-! ## IrU -/
namespace Ir
open PySem.Spec PySem L2 PyProof.Rows
structure Gs (K : PySem.W.Frag) (mg : Str → Option Value) : Prop where
  isinstance : mg "isinstance" = none
  int : mg "int" = none
  bool : mg "bool" = none
  tuple : mg "tuple" = none
  len : mg "len" = none
  all : mg "all" = none
  zip : mg "zip" = none
  abs : mg "abs" = none
  sum : mg "sum" = none
  max : mg "max" = none
  min : mg "min" = none
  range : mg "range" = none
  repr : mg "repr" = none
  divmod : mg "divmod" = none
  gcd : mg "gcd" = some (.builtin "math.gcd")
  zero : Gd K mg "ZERO" (fr 0)
  one : Gd K mg "ONE" (fr 1)
  half1 : Gd K mg "HALF_ironwork" (fr (1 / 2))
  half2 : Gd K mg "HALF_heelwork" (fr (1 / 2))
  nought : Gd K mg "NOUGHT" (.tup [fr 0, fr 0, fr 0, fr 0, fr 0])
  rows : Gd K mg "MANY_ROWS" (.int 3)
  numbers : Gd K mg "MANY_NUMBERS" (.int 4)
theorem DS.at {X : Cx} {M : List Addr} {H0 : Hp} {sts : List Stmt} {δ δ' : Ev} {N : Ev → Prop} {R : D → Prop} (h : DS X M H0 sts δ' N R) (e : δ = δ') : DS X M H0 sts δ N R := by rw [e]; exact h
section
variable {w : World} {P : Program} {mg : Str → Option Value} {K : PySem.W.Frag} {base : Heap}
theorem fn_ok' {x : Str} {st : Stmt} {N ps : List Str} {k : Nat} {R : Rsp} (F : Df K mg x st) (S : FnScope N ps (defScope st))
    (hb : ∀ (kV doc pm : Value) (an : Option Addr) (cdv ct : Value) (us : List Value), us.length = ps.length → bindArgs (PySem.W.fnOf x x (defArgs st) (defBody st) (defScope st) .none kV doc pm an cdv ct) ⟨us, []⟩ = pure (ps.zip us))
    (mono : ∀ (ds : List D) (p q : D → Prop), (∀ d, p d → q d) → R ds p → R ds q) (len : ∀ ds p, R ds p → ds.length = ps.length)
    (hbody : ∀ (f : Addr) (cdv : Value) (A : Around) (outer : List PySem.Env) (s : Shared) (H : Hp) (E : XK) (M : List Addr) (ds : List D) (Pd : D → Prop), Room k (A.deeper (envOfC x (defScope st) s.heap.objs.size f cdv)) → R ds Pd →
      DS (cxOf CX0 P w K mg base N x (defScope st) f cdv A outer s H E).nox M H (defBody st) (startD N ds) (fun _ => Pd .non) Pd) : Fn P w K mg base x (k + 1) ps R := by
  obtain ⟨f, fd, F1, gf⟩ := F
  exact fn_ok F1 S gf hb mono len (hbody f)

end
/-- a written fraction -/
theorem de_lit {X : Cx} {M : List Addr} {e : Expr} {δ : Ev} {a b : Int} {q : Rat} (h : DE X M e δ (.tup [.int a, .int b])) (hq : q.num = a ∧ (q.den : Int) = b := by decide +kernel) : DE X M e δ (fr q) := by
  unfold fr
  rw [hq.1, hq.2]
  exact h
/-- sizes that * and // take -/
def C2 (p q : Rat) : Prop := ∃ m n, Sz p m ∧ Sz q n ∧ m + n ≤ 9000
theorem c2 {p q : Rat} {m n : Nat} [hp : Sz p m] [hq : Sz q n] (h : m + n ≤ 9000 := by first | decide | omega) : C2 p q := ⟨m, n, hp, hq, h⟩
/-- two fractions to one -/
def r2 (f : Rat → Rat → Rat) : Rsp := fun ds P => ∃ p q, ds = [fr p, fr q] ∧ C2 p q ∧ P (fr (f p q))
def rOver : Rsp := fun ds P => ∃ p q, ds = [fr p, fr q] ∧ C2 p q ∧ q ≠ 0 ∧ P (fr (p / q))
section
variable {X : Cx} {M : List Addr} {e e2 : Expr} {δ : Ev}
theorem c_op {f : Rat → Rat → Rat} {x a b : Str} {pp pos : Pos} {k n : Nat} {p q : Rat} {m l : Nat} (F : Fn X.prog X.w X.K X.mg X.base x k [a, b] (r2 f)) (hr : Room n X.A) (hg : Gl X x) (ha : DE X M e δ (fr p)) (hb : DE X M e2 δ (fr q)) [hp : Sz p m] [hq : Sz q l] (h : m + l ≤ 9000 := by first | decide | omega) (hk : k ≤ n := by decide) (hdb : (x == ("__debug__" : Str)) = false := by decide)
    (he : starEach [e, e2] X.env = (false, eval e X.env) :: starEach [e2] X.env := by rfl) (he2 : starEach [e2] X.env = (false, eval e2 X.env) :: starEach [] X.env := by rfl) (hpl : (backTo pos (starEach [e2] X.env)).any (·.1) = false := by rfl) : DE X M (.Call (.Name x pp) [e, e2] [] pos) δ (fr (f p q)) :=
  de_call F hr hg (da_cons ha (da_cons hb da_nil he2) he) ⟨p, q, rfl, ⟨m, l, hp, hq, h⟩, rfl⟩ hk hdb he hpl
theorem c_over {x a b : Str} {pp pos : Pos} {k n : Nat} {p q : Rat} {m l : Nat} (F : Fn X.prog X.w X.K X.mg X.base x k [a, b] rOver) (hr : Room n X.A) (hg : Gl X x) (ha : DE X M e δ (fr p)) (hb : DE X M e2 δ (fr q)) (h0 : q ≠ 0) [hp : Sz p m] [hq : Sz q l] (h : m + l ≤ 9000 := by first | decide | omega) (hk : k ≤ n := by decide) (hdb : (x == ("__debug__" : Str)) = false := by decide)
    (he : starEach [e, e2] X.env = (false, eval e X.env) :: starEach [e2] X.env := by rfl) (he2 : starEach [e2] X.env = (false, eval e2 X.env) :: starEach [] X.env := by rfl) (hpl : (backTo pos (starEach [e2] X.env)).any (·.1) = false := by rfl) : DE X M (.Call (.Name x pp) [e, e2] [] pos) δ (fr (p / q)) :=
  de_call F hr hg (da_cons ha (da_cons hb da_nil he2) he) ⟨p, q, rfl, ⟨m, l, hp, hq, h⟩, h0, rfl⟩ hk hdb he hpl
/-- a def of one argument, of two, of three -/
theorem c1 {R : Rsp} {x a : Str} {pp pos : Pos} {k n : Nat} {d r : D} (F : Fn X.prog X.w X.K X.mg X.base x k [a] R) (hr : Room n X.A) (hg : Gl X x) (ha : DE X M e δ d) (hR : R [d] fun z => z = r) (hk : k ≤ n := by decide) (hdb : (x == ("__debug__" : Str)) = false := by decide)
    (he : starEach [e] X.env = (false, eval e X.env) :: starEach [] X.env := by rfl) (hpl : (backTo pos (starEach [] X.env)).any (·.1) = false := by rfl) : DE X M (.Call (.Name x pp) [e] [] pos) δ r :=
  de_call F hr hg (da_cons ha da_nil he) hR hk hdb he hpl
theorem c2a {R : Rsp} {x a b : Str} {pp pos : Pos} {k n : Nat} {d d2 r : D} (F : Fn X.prog X.w X.K X.mg X.base x k [a, b] R) (hr : Room n X.A) (hg : Gl X x) (ha : DE X M e δ d) (hb : DE X M e2 δ d2) (hR : R [d, d2] fun z => z = r) (hk : k ≤ n := by decide) (hdb : (x == ("__debug__" : Str)) = false := by decide)
    (he : starEach [e, e2] X.env = (false, eval e X.env) :: starEach [e2] X.env := by rfl) (he2 : starEach [e2] X.env = (false, eval e2 X.env) :: starEach [] X.env := by rfl) (hpl : (backTo pos (starEach [e2] X.env)).any (·.1) = false := by rfl) : DE X M (.Call (.Name x pp) [e, e2] [] pos) δ r :=
  de_call F hr hg (da_cons ha (da_cons hb da_nil he2) he) hR hk hdb he hpl
theorem c3a {R : Rsp} {e3 : Expr} {x a b c : Str} {pp pos : Pos} {k n : Nat} {d d2 d3 r : D} (F : Fn X.prog X.w X.K X.mg X.base x k [a, b, c] R) (hr : Room n X.A) (hg : Gl X x) (ha : DE X M e δ d) (hb : DE X M e2 δ d2) (hc : DE X M e3 δ d3) (hR : R [d, d2, d3] fun z => z = r) (hk : k ≤ n := by decide) (hdb : (x == ("__debug__" : Str)) = false := by decide)
    (he : starEach [e, e2, e3] X.env = (false, eval e X.env) :: starEach [e2, e3] X.env := by rfl) (he2 : starEach [e2, e3] X.env = (false, eval e2 X.env) :: starEach [e3] X.env := by rfl) (he3 : starEach [e3] X.env = (false, eval e3 X.env) :: starEach [] X.env := by rfl) (hpl : (backTo pos (starEach [e2, e3] X.env)).any (·.1) = false := by rfl) : DE X M (.Call (.Name x pp) [e, e2, e3] [] pos) δ r :=
  de_call F hr hg (da_cons ha (da_cons hb (da_cons hc da_nil he3) he2) he) hR hk hdb he hpl
end
end Ir
/-! ## IrV -/
namespace Ir
open PySem.Spec PySem L2 PyProof.Rows
def r_whole : Rsp := fun ds p => ∃ i : Int, ds = [.int i] ∧ p (.bl true)
def r_wholes : Rsp := fun ds p => ∃ i j : Int, ds = [.tup [.int i, .int j], .int 2] ∧ p (.bl true)
def r_gcd : Rsp := fun ds p => ∃ i j : Int, ds = [.tup [.int i, .int j]] ∧ p (.int (Nat.gcd i.natAbs j.natAbs : Nat))
def r_red : Rsp := fun ds p => ∃ i j : Int, ds = [.tup [.int i, .int j]] ∧ p (.bl (decide (((Nat.gcd i.natAbs j.natAbs : Nat) : Int) = 1)))
def r_isRatio : Rsp := fun ds p => ∃ q : Rat, ds = [fr q] ∧ p (.bl true)
def r_ratio : Rsp := fun ds p => ∃ a b : Int, ds = [.int a, .int b] ∧ b ≠ 0 ∧ b.natAbs < 2 ^ 9000 ∧ p (fr (Rat.divInt a b))
def r_back : Rsp := fun ds p => ∃ q : Rat, ds = [fr q] ∧ p (fr (-q))
structure Mu (p q : Rat) : Prop where
  nn : CMulW p.num q.num
  nd : CMulW p.num q.den
  dn : CMulW q.num p.den
  dd : CMulW p.den q.den
  dn2 : CMulW p.den q.num
  s1 : ((p.den : Int) * (q.den : Int)).natAbs < 2 ^ 9000
  s2 : ((p.den : Int) * q.num).natAbs < 2 ^ 9000
theorem C2.mu {p q : Rat} (h : C2 p q) : Mu p q := by
  obtain ⟨m, n, hp, hq, hl⟩ := h
  have p1 := hp.ok.1
  have p2 : ((p.den : Nat) : Int).natAbs < 2 ^ m := by rw [Int.natAbs_natCast]; exact hp.ok.2
  have q1 := hq.ok.1
  have q2 : ((q.den : Nat) : Int).natAbs < 2 ^ n := by rw [Int.natAbs_natCast]; exact hq.ok.2
  have m0 := hp.pos
  have n0 := hq.pos
  have b1 : m + n ≤ 1000000 := by omega
  have b2 : n + m ≤ 1000000 := by omega
  exact ⟨wide_mul p1 q1 m0 n0 b1, wide_mul p1 q2 m0 n0 b1, wide_mul q1 p2 n0 m0 b2, wide_mul p2 q2 m0 n0 b1, wide_mul p2 q1 m0 n0 b1, lt_up (lt_mulI p2 q2) hl, lt_up (lt_mulI p2 q1) hl⟩
theorem div_ok {a b : Int} (h : b ≠ 0) (hs : b.natAbs < 2 ^ 9000) : 0 < Nat.gcd a.natAbs b.natAbs ∧ (Nat.gcd a.natAbs b.natAbs).log2 < 9000 := by
  have g0 : 0 < Nat.gcd a.natAbs b.natAbs := Nat.gcd_pos_of_pos_right _ (Int.natAbs_pos.mpr h)
  refine ⟨g0, PySem.Flt.log2_lt_of (by decide) (Nat.lt_of_le_of_lt (Nat.le_of_dvd (Int.natAbs_pos.mpr h) (Nat.gcd_dvd_right ..)) hs)⟩
section
variable {P : Program} {w : World} {K : PySem.W.Frag} {mg : Str → Option Value} {base : Heap} (G : Gs K mg) (T : Ds K mg)
include G T
theorem ok_is_whole : Fn P w K mg base "is_whole" 1 ["value"] r_whole := by
  refine fn_ok' T.d_is_whole sc_is_whole b_is_whole (fun ds p q h ⟨i, e, r⟩ => ⟨i, e, h _ r⟩) (fun ds p ⟨i, e, r⟩ => by rw [e]; rfl) fun f cdv A outer s H E M ds Pd hr ⟨i, e, hP⟩ => ?_
  subst e
  refine DS.at (δ' := [some (.int i)]) ?_ rfl
  refine ds_retD (de_andT (de_isi "int" "int" true rfl G.isinstance (de_v 0 rfl (.inl rfl) rfl) rfl rfl G.int)
    (de_one (de_not (de_isi "int" "bool" false rfl G.isinstance (de_v 0 rfl (.inl rfl) rfl) rfl rfl G.bool)))) hP
theorem ok__law_is_whole : Fn P w K mg base "_law_is_whole" 1 ["_law_value"] r_whole := by
  refine fn_ok' T.d__law_is_whole sc__law_is_whole b__law_is_whole (fun ds p q h ⟨i, e, r⟩ => ⟨i, e, h _ r⟩) (fun ds p ⟨i, e, r⟩ => by rw [e]; rfl) fun f cdv A outer s H E M ds Pd hr ⟨i, e, hP⟩ => ?_
  subst e
  refine DS.at (δ' := [some (.int i)]) ?_ rfl
  refine ds_retD (de_andT (de_isi "int" "int" true rfl G.isinstance (de_v 0 rfl (.inl rfl) rfl) rfl rfl G.int)
    (de_one (de_not (de_isi "int" "bool" false rfl G.isinstance (de_v 0 rfl (.inl rfl) rfl) rfl rfl G.bool)))) hP
theorem ok_are_wholes : Fn P w K mg base "are_wholes" 2 ["value", "many"] r_wholes := by
  refine fn_ok' T.d_are_wholes sc_are_wholes b_are_wholes (fun ds p q h ⟨i, j, e, r⟩ => ⟨i, j, e, h _ r⟩) (fun ds p ⟨i, j, e, r⟩ => by rw [e]; rfl) fun f cdv A outer s H E M ds Pd hr ⟨i, j, e, hP⟩ => ?_
  subst e
  refine DS.at (δ' := [some (.tup [.int i, .int j]), some (.int 2), none]) ?_ rfl
  refine ds_retD (d := .bl true) (de_andT (de_isi "tuple" "tuple" true rfl G.isinstance (de_v 0 rfl (.inl rfl) rfl) rfl rfl G.tuple) (de_andT (de_eqI (i := 2) (j := 2) (de_len rfl G.len (de_v 0 rfl (.inl rfl) rfl) (.inl ⟨_, rfl, rfl⟩)) (de_v 1 rfl (.inl rfl) rfl))
    (de_one (de_all (bs := [true, true]) rfl rfl G.all (de_lc (own := [("number", 2)]) (g := gName 2) rfl sc_are_wholes.nd (pi_tup pE) (blkOk_by (N := n_are_wholes) (sc := defScope s_are_wholes) (by decide +kernel)) (fun _ _ _ _ _ => pg_name sc_are_wholes.nd rfl (.inl rfl))
      (lc_T (ds := [.int i, .int j]) (fun n => [some (.tup [.int i, .int j]), some (.int 2), some (.int (match n with | 0 => i | _ => j))]) (de_v 0 rfl (.inl rfl) rfl) (fun z hz => ?_) rfl (by decide) rfl (fun n d y hd hy => ?_))) rfl)))) hP
  · cases hz with
    | head => rfl
    | tail _ h => cases h
  · match n, hd, hy with
    | 0, hd, hy =>
      cases hd; cases hy
      exact ⟨gd_name (.head _), fun s1 H1 C cl fp => c1 (ok_is_whole G T) hr rfl (de_v 2 rfl (.inl rfl) rfl) ⟨i, rfl, rfl⟩⟩
    | 1, hd, hy =>
      cases hd; cases hy
      exact ⟨gd_name (.head _), fun s1 H1 C cl fp => c1 (ok_is_whole G T) hr rfl (de_v 2 rfl (.inl rfl) rfl) ⟨j, rfl, rfl⟩⟩
    | n + 2, hd, hy => cases hd
theorem ok_divisor_of : Fn P w K mg base "divisor_of" 1 ["numbers"] r_gcd := by
  refine fn_ok' T.d_divisor_of sc_divisor_of b_divisor_of (fun ds p q h ⟨i, j, e, r⟩ => ⟨i, j, e, h _ r⟩) (fun ds p ⟨i, j, e, r⟩ => by rw [e]; rfl) fun f cdv A outer s H E M ds Pd hr ⟨i, j, e, hP⟩ => ?_
  subst e
  refine DS.at (δ' := [some (.tup [.int i, .int j]), none, none]) ?_ rfl
  refine ds_setD 1 sc_divisor_of.nd rfl (.inl rfl) de_int ?_
  refine ds_forT (fun n => [some (.tup [.int i, .int j]), some (.int (match n with | 0 => 0 | 1 => (Nat.gcd 0 i.natAbs : Nat) | _ => (Nat.gcd (Nat.gcd 0 i.natAbs) j.natAbs : Nat))), none])
    (fun n => [some (.tup [.int i, .int j]), some (.int (match n with | 0 => 0 | 1 => (Nat.gcd 0 i.natAbs : Nat) | _ => (Nat.gcd (Nat.gcd 0 i.natAbs) j.natAbs : Nat))), some (.int (match n with | 0 => i | _ => j))])
    PassesOwn.never rfl (de_v 0 rfl (.inl rfl) rfl) rfl (Less.refl _) (fun n d hd => ?_) ?_
  · match n, hd with
    | 0, hd =>
      cases hd
      refine ⟨gt_name 2 sc_divisor_of.nd rfl (.inl rfl), ?_⟩
      exact ds_setD 1 sc_divisor_of.nd rfl (.inl rfl) (de_gcd rfl G.gcd (de_v 1 rfl (.inl rfl) rfl) (de_v 2 rfl (.inl rfl) rfl)) (ds_nil (.cons (.inl rfl) (.cons (.inl rfl) (.cons (.inr rfl) (Less.refl _)))))
    | 1, hd =>
      cases hd
      refine ⟨gt_name 2 sc_divisor_of.nd rfl (.inl rfl), ?_⟩
      exact ds_setD 1 sc_divisor_of.nd rfl (.inl rfl) (de_gcd rfl G.gcd (de_v 1 rfl (.inl rfl) rfl) (de_v 2 rfl (.inl rfl) rfl)) (ds_nil (.cons (.inl rfl) (.cons (.inl rfl) (.cons (.inr rfl) (Less.refl _)))))
    | n + 2, hd => cases hd
  · refine ds_retD (de_v 1 rfl (.inl rfl) rfl) ?_
    have e : Nat.gcd (Nat.gcd 0 i.natAbs) j.natAbs = Nat.gcd i.natAbs j.natAbs := by rw [Nat.gcd_zero_left]
    show Pd (.int (Nat.gcd (Nat.gcd 0 i.natAbs) j.natAbs : Nat))
    rw [e]
    exact hP
theorem ok_is_reduced : Fn P w K mg base "is_reduced" 2 ["numbers"] r_red := by
  refine fn_ok' T.d_is_reduced sc_is_reduced b_is_reduced (fun ds p q h ⟨i, j, e, r⟩ => ⟨i, j, e, h _ r⟩) (fun ds p ⟨i, j, e, r⟩ => by rw [e]; rfl) fun f cdv A outer s H E M ds Pd hr ⟨i, j, e, hP⟩ => ?_
  subst e
  refine DS.at (δ' := [some (.tup [.int i, .int j])]) ?_ rfl
  exact ds_retD (de_eqI (c1 (ok_divisor_of G T) hr rfl (de_v 0 rfl (.inl rfl) rfl) ⟨i, j, rfl, rfl⟩) de_int) hP
theorem ok_is_ratio : Fn P w K mg base "is_ratio" 3 ["value"] r_isRatio := by
  refine fn_ok' T.d_is_ratio sc_is_ratio b_is_ratio (fun ds p q h ⟨i, e, r⟩ => ⟨i, e, h _ r⟩) (fun ds p ⟨i, e, r⟩ => by rw [e]; rfl) fun f cdv A outer s H E M ds Pd hr ⟨q, e, hP⟩ => ?_
  subst e
  refine DS.at (δ' := [some (fr q)]) ?_ rfl
  have e1 : decide ((0 : Int) < (q.den : Int)) = true := decide_eq_true (Int.natCast_pos.mpr q.den_pos)
  have e2 : decide (((Nat.gcd q.num.natAbs (q.den : Int).natAbs : Nat) : Int) = 1) = true := decide_eq_true (by
    rw [Int.natAbs_natCast]
    exact congrArg Int.ofNat q.reduced)
  refine ds_retD (d := .bl true) (de_andT (c2a (ok_are_wholes G T) hr rfl (de_v 0 rfl (.inl rfl) rfl) de_int ⟨q.num, q.den, rfl, rfl⟩)
    (de_andT (DE.eq (de_gt (de_ixT (fun _ _ => rfl) (de_v 0 rfl (.inl rfl) rfl) de_int rfl) de_int) (congrArg D.bl e1)) (de_one (DE.eq (c1 (ok_is_reduced G T) hr rfl (de_v 0 rfl (.inl rfl) rfl) ⟨q.num, q.den, rfl, rfl⟩) (congrArg D.bl e2))))) hP
theorem ok_ratio : Fn P w K mg base "ratio" 2 ["number", "under"] r_ratio := by
  refine fn_ok' T.d_ratio sc_ratio b_ratio (fun ds p q h ⟨a, b, e, h1, h2, r⟩ => ⟨a, b, e, h1, h2, h _ r⟩) (fun ds p ⟨a, b, e, _⟩ => by rw [e]; rfl) fun f cdv A outer s H E M ds Pd hr ⟨a, b, e, hb, hs, hP⟩ => ?_
  subst e
  obtain ⟨g0, gl⟩ := div_ok (a := a) hb hs
  refine DS.at (δ' := [some (.int a), some (.int b), none]) ?_ rfl
  refine ds_setD 2 sc_ratio.nd rfl (.inl rfl) (c1 (ok_divisor_of G T) hr rfl (de_tup (da_cons (de_v 0 rfl (.inl rfl) rfl) (da_cons (de_v 1 rfl (.inl rfl) rfl) da_nil))) ⟨a, b, rfl, rfl⟩) ?_
  refine ds_setD 2 sc_ratio.nd rfl (.inl rfl) (d := .int (if 0 < b then (Nat.gcd a.natAbs b.natAbs : Nat) else -((Nat.gcd a.natAbs b.natAbs : Nat) : Int))) (we_ifExp ((dt_gt (de_v 1 rfl (.inl rfl) rfl) de_int).mono fun z hz => ?_)) ?_
  · subst hz
    by_cases h : 0 < b
    · rw [if_pos (decide_eq_true h), if_pos h]
      exact de_v 2 rfl (.inl rfl) rfl
    · rw [if_neg (by rw [decide_eq_false h]; decide), if_neg h]
      exact de_neg (de_v 2 rfl (.inl rfl) rfl)
  have cd : ∀ i, CDivA i (if 0 < b then (Nat.gcd a.natAbs b.natAbs : Nat) else -((Nat.gcd a.natAbs b.natAbs : Nat) : Int)) := fun i => by
    by_cases h : 0 < b
    · rw [if_pos h]
      exact ⟨by omega, by rw [Int.natAbs_natCast]; exact gl⟩
    · rw [if_neg h]
      exact ⟨by omega, by rw [Int.natAbs_neg, Int.natAbs_natCast]; exact gl⟩
  refine ds_retD (DE.eq (de_tup (da_cons (de_fdiv (de_v 0 rfl (.inl rfl) rfl) (de_v 2 rfl (.inl rfl) rfl) (cd _)) (da_cons (de_fdiv (de_v 1 rfl (.inl rfl) rfl) (de_v 2 rfl (.inl rfl) rfl) (cd _)) da_nil))) (fr_div hb)) hP
theorem ok_ratio_back : Fn P w K mg base "ratio_back" 1 ["one"] r_back := by
  refine fn_ok' T.d_ratio_back sc_ratio_back b_ratio_back (fun ds p q h ⟨i, e, r⟩ => ⟨i, e, h _ r⟩) (fun ds p ⟨i, e, r⟩ => by rw [e]; rfl) fun f cdv A outer s H E M ds Pd hr ⟨q, e, hP⟩ => ?_
  subst e
  refine DS.at (δ' := [some (fr q)]) ?_ rfl
  have e1 : D.tup [.int (-q.num), .int (q.den : Int)] = fr (-q) := by
    unfold fr
    rw [Rat.neg_num, Rat.neg_den]
  exact ds_retD ((de_tup (da_cons (de_neg (de_ixT (fun _ _ => rfl) (de_v 0 rfl (.inl rfl) rfl) de_int rfl)) (da_cons (de_ixT (fun _ _ => rfl) (de_v 0 rfl (.inl rfl) rfl) de_int rfl) da_nil))).eq e1) hP
theorem ok_ratio_sum : Fn P w K mg base "ratio_sum" 3 ["one", "two"] (r2 HAdd.hAdd) := by
  refine fn_ok' T.d_ratio_sum sc_ratio_sum b_ratio_sum (fun ds p q h ⟨x, y, e, h1, r⟩ => ⟨x, y, e, h1, h _ r⟩) (fun ds p ⟨x, y, e, _⟩ => by rw [e]; rfl) fun f cdv A outer s H E M ds Pd hr ⟨p, q, e, hc, hP⟩ => ?_
  subst e
  have mu := hc.mu
  refine DS.at (δ' := [some (fr p), some (fr q)]) ?_ rfl
  exact ds_retD (DE.eq (c2a (ok_ratio G T) hr rfl (de_add (de_mul (de_ixT (fun _ _ => rfl) (de_v 0 rfl (.inl rfl) rfl) de_int rfl) (de_ixT (fun _ _ => rfl) (de_v 1 rfl (.inl rfl) rfl) de_int rfl) mu.nd) (de_mul (de_ixT (fun _ _ => rfl) (de_v 1 rfl (.inl rfl) rfl) de_int rfl) (de_ixT (fun _ _ => rfl) (de_v 0 rfl (.inl rfl) rfl) de_int rfl) mu.dn)) (de_mul (de_ixT (fun _ _ => rfl) (de_v 0 rfl (.inl rfl) rfl) de_int rfl) (de_ixT (fun _ _ => rfl) (de_v 1 rfl (.inl rfl) rfl) de_int rfl) mu.dd) ⟨_, _, rfl, Int.mul_ne_zero (Int.natCast_ne_zero.mpr p.den_nz) (Int.natCast_ne_zero.mpr q.den_nz), mu.s1, rfl⟩) (congrArg fr (sum_eq p q))) hP
theorem ok_ratio_less : Fn P w K mg base "ratio_less" 3 ["one", "two"] (r2 HSub.hSub) := by
  refine fn_ok' T.d_ratio_less sc_ratio_less b_ratio_less (fun ds p q h ⟨x, y, e, h1, r⟩ => ⟨x, y, e, h1, h _ r⟩) (fun ds p ⟨x, y, e, _⟩ => by rw [e]; rfl) fun f cdv A outer s H E M ds Pd hr ⟨p, q, e, hc, hP⟩ => ?_
  subst e
  have mu := hc.mu
  refine DS.at (δ' := [some (fr p), some (fr q)]) ?_ rfl
  exact ds_retD (DE.eq (c2a (ok_ratio G T) hr rfl (de_sub (de_mul (de_ixT (fun _ _ => rfl) (de_v 0 rfl (.inl rfl) rfl) de_int rfl) (de_ixT (fun _ _ => rfl) (de_v 1 rfl (.inl rfl) rfl) de_int rfl) mu.nd) (de_mul (de_ixT (fun _ _ => rfl) (de_v 1 rfl (.inl rfl) rfl) de_int rfl) (de_ixT (fun _ _ => rfl) (de_v 0 rfl (.inl rfl) rfl) de_int rfl) mu.dn)) (de_mul (de_ixT (fun _ _ => rfl) (de_v 0 rfl (.inl rfl) rfl) de_int rfl) (de_ixT (fun _ _ => rfl) (de_v 1 rfl (.inl rfl) rfl) de_int rfl) mu.dd) ⟨_, _, rfl, Int.mul_ne_zero (Int.natCast_ne_zero.mpr p.den_nz) (Int.natCast_ne_zero.mpr q.den_nz), mu.s1, rfl⟩) (congrArg fr (less_eq p q))) hP
theorem ok_ratio_product : Fn P w K mg base "ratio_product" 3 ["one", "two"] (r2 HMul.hMul) := by
  refine fn_ok' T.d_ratio_product sc_ratio_product b_ratio_product (fun ds p q h ⟨x, y, e, h1, r⟩ => ⟨x, y, e, h1, h _ r⟩) (fun ds p ⟨x, y, e, _⟩ => by rw [e]; rfl) fun f cdv A outer s H E M ds Pd hr ⟨p, q, e, hc, hP⟩ => ?_
  subst e
  have mu := hc.mu
  refine DS.at (δ' := [some (fr p), some (fr q)]) ?_ rfl
  exact ds_retD (DE.eq (c2a (ok_ratio G T) hr rfl (de_mul (de_ixT (fun _ _ => rfl) (de_v 0 rfl (.inl rfl) rfl) de_int rfl) (de_ixT (fun _ _ => rfl) (de_v 1 rfl (.inl rfl) rfl) de_int rfl) mu.nn) (de_mul (de_ixT (fun _ _ => rfl) (de_v 0 rfl (.inl rfl) rfl) de_int rfl) (de_ixT (fun _ _ => rfl) (de_v 1 rfl (.inl rfl) rfl) de_int rfl) mu.dd) ⟨_, _, rfl, Int.mul_ne_zero (Int.natCast_ne_zero.mpr p.den_nz) (Int.natCast_ne_zero.mpr q.den_nz), mu.s1, rfl⟩) (congrArg fr (mul_eq p q))) hP
theorem ok_ratio_over : Fn P w K mg base "ratio_over" 3 ["one", "two"] rOver := by
  refine fn_ok' T.d_ratio_over sc_ratio_over b_ratio_over (fun ds p q h ⟨x, y, e, h1, h2, r⟩ => ⟨x, y, e, h1, h2, h _ r⟩) (fun ds p ⟨x, y, e, _⟩ => by rw [e]; rfl) fun f cdv A outer s H E M ds Pd hr ⟨p, q, e, hc, h0, hP⟩ => ?_
  subst e
  have mu := hc.mu
  refine DS.at (δ' := [some (fr p), some (fr q)]) ?_ rfl
  exact ds_retD (DE.eq (c2a (ok_ratio G T) hr rfl (de_mul (de_ixT (fun _ _ => rfl) (de_v 0 rfl (.inl rfl) rfl) de_int rfl) (de_ixT (fun _ _ => rfl) (de_v 1 rfl (.inl rfl) rfl) de_int rfl) mu.nd) (de_mul (de_ixT (fun _ _ => rfl) (de_v 0 rfl (.inl rfl) rfl) de_int rfl) (de_ixT (fun _ _ => rfl) (de_v 1 rfl (.inl rfl) rfl) de_int rfl) mu.dn2) ⟨_, _, rfl, Int.mul_ne_zero (Int.natCast_ne_zero.mpr p.den_nz) (fun z => h0 (Rat.num_eq_zero.mp z)), mu.s2, rfl⟩) (congrArg fr (over_eq p q))) hP
end
end Ir
/-! ## IrW -/
namespace Ir
open PySem.Spec PySem L2 PyProof.Rows
def evN : Ev → Nat
  | [_, _, _, some (.int y)] => y.toNat
  | _ => 0
section
variable {P : Program} {w : World} {K : PySem.W.Frag} {mg : Str → Option Value} {base : Heap} (G : Gs K mg) (T : Ds K mg)
include G T
theorem ok__law_frac : Fn P w K mg base "_law_frac" 2 ["_law_top", "_law_under"] r_ratio := by
  refine fn_ok' T.d__law_frac sc__law_frac b__law_frac (fun ds p q h ⟨a, b, e, h1, h2, r⟩ => ⟨a, b, e, h1, h2, h _ r⟩) (fun ds p ⟨a, b, e, _⟩ => by rw [e]; rfl) fun f cdv A outer s H E M ds Pd hr ⟨a, b, e, hb, hs, hP⟩ => ?_
  subst e
  obtain ⟨g0, gl⟩ := div_ok (a := a) hb hs
  refine DS.at (δ' := [some (.int a), some (.int b), none, none]) ?_ rfl
  refine ds_par (i := 2) (j := 3) rfl sc__law_frac.nd rfl rfl (by decide) rfl rfl (da_cons (de_abs rfl G.abs (de_v 0 rfl (.inl rfl) rfl)) (da_cons (de_abs rfl G.abs (de_v 1 rfl (.inl rfl) rfl)) da_nil)) ?_
  refine ds_while (fun δ => ∃ x y : Nat, δ = [some (.int a), some (.int b), some (.int (x : Nat)), some (.int (y : Nat))] ∧ Nat.gcd x y = Nat.gcd a.natAbs b.natAbs) evN PassesOwn.never ⟨a.natAbs, b.natAbs, rfl, rfl⟩ (fun δ hδ => ?_)
  obtain ⟨x, y, rfl, hg⟩ := hδ
  refine (dt_neI (de_v 3 rfl (.inl rfl) rfl) de_int).mono fun z hz => ?_
  subst hz
  by_cases hy : y = 0
  · subst hy
    rw [Nat.gcd_zero_right] at hg
    subst hg
    refine iteF ?_
    refine ds_setD 2 sc__law_frac.nd rfl (.inl rfl) (d := .int (if 0 < b then (Nat.gcd a.natAbs b.natAbs : Nat) else -((Nat.gcd a.natAbs b.natAbs : Nat) : Int))) (we_ifExp ((dt_gt (de_v 1 rfl (.inl rfl) rfl) de_int).mono fun z hz => ?_)) ?_
    · subst hz
      by_cases h : 0 < b
      · rw [if_pos (decide_eq_true h), if_pos h]
        exact de_v 2 rfl (.inl rfl) rfl
      · rw [if_neg (by rw [decide_eq_false h]; decide), if_neg h]
        exact DE.eq (de_sub de_int (de_v 2 rfl (.inl rfl) rfl)) (congrArg D.int (by omega))
    have cd : ∀ i, CDivA i (if 0 < b then (Nat.gcd a.natAbs b.natAbs : Nat) else -((Nat.gcd a.natAbs b.natAbs : Nat) : Int)) := fun i => by
      by_cases h : 0 < b
      · rw [if_pos h]
        exact ⟨by omega, by rw [Int.natAbs_natCast]; exact gl⟩
      · rw [if_neg h]
        exact ⟨by omega, by rw [Int.natAbs_neg, Int.natAbs_natCast]; exact gl⟩
    refine ds_retD (DE.eq (de_tup (da_cons (de_fdiv (de_v 0 rfl (.inl rfl) rfl) (de_v 2 rfl (.inl rfl) rfl) (cd _)) (da_cons (de_fdiv (de_v 1 rfl (.inl rfl) rfl) (de_v 2 rfl (.inl rfl) rfl) (cd _)) da_nil))) (fr_div hb)) hP
  · have hz : (!decide ((y : Int) = 0)) = true := by
      rw [(decide_eq_false (by omega))]
      rfl
    rw [hz]
    refine iteT ?_
    refine ds_par (i := 2) (j := 3) rfl sc__law_frac.nd rfl rfl (by decide) rfl rfl (da_cons (de_v 3 rfl (.inl rfl) rfl) (da_cons (de_mod (de_toInt rfl G.int (de_v 2 rfl (.inl rfl) rfl)) (de_v 3 rfl (.inl rfl) rfl) (by omega)) da_nil)) ?_
    refine ds_nil ⟨⟨y, x % y, rfl, ?_⟩, ?_⟩
    · rw [← hg, Nat.gcd_comm x y, Nat.gcd_rec y x, Nat.gcd_comm]
    · show (((x : Int) % (y : Int)).toNat) < ((y : Int)).toNat
      rw [← Int.natCast_emod, Int.toNat_natCast, Int.toNat_natCast]
      exact Nat.mod_lt _ (by omega)
theorem ok__law_add : Fn P w K mg base "_law_add" 3 ["_law_one", "_law_two"] (r2 HAdd.hAdd) := by
  refine fn_ok' T.d__law_add sc__law_add b__law_add (fun ds p q h ⟨x, y, e, h1, r⟩ => ⟨x, y, e, h1, h _ r⟩) (fun ds p ⟨x, y, e, _⟩ => by rw [e]; rfl) fun f cdv A outer s H E M ds Pd hr ⟨p, q, e, hc, hP⟩ => ?_
  subst e
  have mu := hc.mu
  refine DS.at (δ' := [some (fr p), some (fr q)]) ?_ rfl
  exact ds_retD (DE.eq (c2a (ok__law_frac G T) hr rfl (de_add (de_mul (de_ixT (fun _ _ => rfl) (de_v 0 rfl (.inl rfl) rfl) de_int rfl) (de_ixT (fun _ _ => rfl) (de_v 1 rfl (.inl rfl) rfl) de_int rfl) mu.nd) (de_mul (de_ixT (fun _ _ => rfl) (de_v 1 rfl (.inl rfl) rfl) de_int rfl) (de_ixT (fun _ _ => rfl) (de_v 0 rfl (.inl rfl) rfl) de_int rfl) mu.dn)) (de_mul (de_ixT (fun _ _ => rfl) (de_v 0 rfl (.inl rfl) rfl) de_int rfl) (de_ixT (fun _ _ => rfl) (de_v 1 rfl (.inl rfl) rfl) de_int rfl) mu.dd) ⟨_, _, rfl, Int.mul_ne_zero (Int.natCast_ne_zero.mpr p.den_nz) (Int.natCast_ne_zero.mpr q.den_nz), mu.s1, rfl⟩) (congrArg fr (sum_eq p q))) hP
theorem ok__law_sub : Fn P w K mg base "_law_sub" 3 ["_law_one", "_law_two"] (r2 HSub.hSub) := by
  refine fn_ok' T.d__law_sub sc__law_sub b__law_sub (fun ds p q h ⟨x, y, e, h1, r⟩ => ⟨x, y, e, h1, h _ r⟩) (fun ds p ⟨x, y, e, _⟩ => by rw [e]; rfl) fun f cdv A outer s H E M ds Pd hr ⟨p, q, e, hc, hP⟩ => ?_
  subst e
  have mu := hc.mu
  refine DS.at (δ' := [some (fr p), some (fr q)]) ?_ rfl
  exact ds_retD (DE.eq (c2a (ok__law_frac G T) hr rfl (de_sub (de_mul (de_ixT (fun _ _ => rfl) (de_v 0 rfl (.inl rfl) rfl) de_int rfl) (de_ixT (fun _ _ => rfl) (de_v 1 rfl (.inl rfl) rfl) de_int rfl) mu.nd) (de_mul (de_ixT (fun _ _ => rfl) (de_v 1 rfl (.inl rfl) rfl) de_int rfl) (de_ixT (fun _ _ => rfl) (de_v 0 rfl (.inl rfl) rfl) de_int rfl) mu.dn)) (de_mul (de_ixT (fun _ _ => rfl) (de_v 0 rfl (.inl rfl) rfl) de_int rfl) (de_ixT (fun _ _ => rfl) (de_v 1 rfl (.inl rfl) rfl) de_int rfl) mu.dd) ⟨_, _, rfl, Int.mul_ne_zero (Int.natCast_ne_zero.mpr p.den_nz) (Int.natCast_ne_zero.mpr q.den_nz), mu.s1, rfl⟩) (congrArg fr (less_eq p q))) hP
theorem ok__law_mul : Fn P w K mg base "_law_mul" 3 ["_law_one", "_law_two"] (r2 HMul.hMul) := by
  refine fn_ok' T.d__law_mul sc__law_mul b__law_mul (fun ds p q h ⟨x, y, e, h1, r⟩ => ⟨x, y, e, h1, h _ r⟩) (fun ds p ⟨x, y, e, _⟩ => by rw [e]; rfl) fun f cdv A outer s H E M ds Pd hr ⟨p, q, e, hc, hP⟩ => ?_
  subst e
  have mu := hc.mu
  refine DS.at (δ' := [some (fr p), some (fr q)]) ?_ rfl
  exact ds_retD (DE.eq (c2a (ok__law_frac G T) hr rfl (de_mul (de_ixT (fun _ _ => rfl) (de_v 0 rfl (.inl rfl) rfl) de_int rfl) (de_ixT (fun _ _ => rfl) (de_v 1 rfl (.inl rfl) rfl) de_int rfl) mu.nn) (de_mul (de_ixT (fun _ _ => rfl) (de_v 0 rfl (.inl rfl) rfl) de_int rfl) (de_ixT (fun _ _ => rfl) (de_v 1 rfl (.inl rfl) rfl) de_int rfl) mu.dd) ⟨_, _, rfl, Int.mul_ne_zero (Int.natCast_ne_zero.mpr p.den_nz) (Int.natCast_ne_zero.mpr q.den_nz), mu.s1, rfl⟩) (congrArg fr (mul_eq p q))) hP
theorem ok__law_div : Fn P w K mg base "_law_div" 3 ["_law_one", "_law_two"] rOver := by
  refine fn_ok' T.d__law_div sc__law_div b__law_div (fun ds p q h ⟨x, y, e, h1, h2, r⟩ => ⟨x, y, e, h1, h2, h _ r⟩) (fun ds p ⟨x, y, e, _⟩ => by rw [e]; rfl) fun f cdv A outer s H E M ds Pd hr ⟨p, q, e, hc, h0, hP⟩ => ?_
  subst e
  have mu := hc.mu
  refine DS.at (δ' := [some (fr p), some (fr q)]) ?_ rfl
  exact ds_retD (DE.eq (c2a (ok__law_frac G T) hr rfl (de_mul (de_ixT (fun _ _ => rfl) (de_v 0 rfl (.inl rfl) rfl) de_int rfl) (de_ixT (fun _ _ => rfl) (de_v 1 rfl (.inl rfl) rfl) de_int rfl) mu.nd) (de_mul (de_ixT (fun _ _ => rfl) (de_v 0 rfl (.inl rfl) rfl) de_int rfl) (de_ixT (fun _ _ => rfl) (de_v 1 rfl (.inl rfl) rfl) de_int rfl) mu.dn2) ⟨_, _, rfl, Int.mul_ne_zero (Int.natCast_ne_zero.mpr p.den_nz) (fun z => h0 (Rat.num_eq_zero.mp z)), mu.s2, rfl⟩) (congrArg fr (over_eq p q))) hP
end
end Ir
/-! ## IrM -/
namespace Ir
structure I12 where
  (a b c P d e f Q g j k R : Rat)
def I12.d_ (i : I12) : D := .tup [.tup [fr i.a, fr i.b, fr i.c, fr i.P], .tup [fr i.d, fr i.e, fr i.f, fr i.Q], .tup [fr i.g, fr i.j, fr i.k, fr i.R]]
structure W5 where
  (k0 k1 k2 k3 k4 : Rat)
def W5.d_ (w : W5) : D := .tup [fr w.k0, fr w.k1, fr w.k2, fr w.k3, fr w.k4]
def pr (x y : Rat) : D := .tup [fr x, fr y]
def oD : Option Rat → D
  | none => .non
  | some q => fr q
/-- a place, a heading -/
structure At where
  (H Z c s : Rat)
def ahead (i : I12) (p : At) : W5 := ⟨1 * (p.H * p.c) + i.a * (p.H * p.c) + 1 * i.P, i.b * -(p.H * p.s) + i.c * p.Z, i.b * p.Z - i.c * -(p.H * p.s), 0, 0⟩
def firstR (i : I12) (p : At) : Rat := i.e * -(p.H * p.s) + i.f * p.Z
def secondR (i : I12) (p : At) : Rat := i.k * -(p.H * p.s) - i.j * p.Z
def thirdR (i : I12) (p : At) : Rat := i.e * p.Z + -i.f * -(p.H * p.s) + -i.j * -(p.H * p.s) + -i.k * p.Z
def right (i : I12) (p : At) : W5 := ⟨-(p.H * p.s) + 1 / 2 * (firstR i p + secondR i p), i.d * (p.H * p.c) + 1 * i.Q, -(i.g * (p.H * p.c) + 1 * i.R), 1 / 2 * (firstR i p - secondR i p), 1 / 2 * thirdR i p⟩
/-- a wave plus n times another one -/
def W5.plus (w o : W5) (n : Rat) : W5 := ⟨w.k0 + n * o.k0, w.k1 + n * o.k1, w.k2 + n * o.k2, w.k3 + n * o.k3, w.k4 + n * o.k4⟩
def W5.nil : W5 := ⟨0, 0, 0, 0, 0⟩
def north (i : I12) (p : At) : W5 := (W5.nil.plus (ahead i p) p.c).plus (right i p) (-p.s)
def east (i : I12) (p : At) : W5 := (W5.nil.plus (ahead i p) p.s).plus (right i p) p.c
def W5.worth (w : W5) : Rat := w.k0 + w.k1 + w.k3
def W5.rise (w : W5) : Rat := w.k2 + 2 * w.k4
def topR (n e : W5) : Rat := n.worth * e.rise - e.worth * n.rise
def rate (n e : W5) : Option Rat := if n.worth = 0 then none else some (topR n e / (n.worth * n.worth))
def heel (i : I12) (p : At) : Option Rat := rate (north i p) (east i p)
def I12.with (i : I12) (r : Rat) : I12 := ⟨i.a, i.b, i.c, i.P, i.d, i.e, i.f, i.Q, i.g, i.j, i.k, r⟩
def magnet (i : I12) (p : At) : Option Rat := match heel (i.with 0) p, heel (i.with 1) p with
  | some r, some t => if r = t then none else some (-r / (t - r))
  | _, _ => none

class SzI (i : I12) (k : outParam Nat) : Prop where
  a_ : Sz i.a 3
  b_ : Sz i.b 3
  c_ : Sz i.c 3
  P_ : Sz i.P 3
  d_ : Sz i.d 3
  e_ : Sz i.e 3
  f_ : Sz i.f 3
  Q_ : Sz i.Q 3
  g_ : Sz i.g 3
  j_ : Sz i.j 3
  k_ : Sz i.k 3
  R_ : Sz i.R k
class SzA (p : At) : Prop where
  H : Sz p.H 3
  Z : Sz p.Z 7
  c : Sz p.c 13
  s : Sz p.s 13
instance : Sz (1 / 2) 2 := ⟨by decide +kernel, by decide +kernel⟩
section
variable {i : I12} {k : Nat} {p : At}
instance [h : SzI i k] : Sz i.a 3 := h.a_
instance [h : SzI i k] : Sz i.b 3 := h.b_
instance [h : SzI i k] : Sz i.c 3 := h.c_
instance [h : SzI i k] : Sz i.P 3 := h.P_
instance [h : SzI i k] : Sz i.d 3 := h.d_
instance [h : SzI i k] : Sz i.e 3 := h.e_
instance [h : SzI i k] : Sz i.f 3 := h.f_
instance [h : SzI i k] : Sz i.Q 3 := h.Q_
instance [h : SzI i k] : Sz i.g 3 := h.g_
instance [h : SzI i k] : Sz i.j 3 := h.j_
instance [h : SzI i k] : Sz i.k 3 := h.k_
instance [h : SzI i k] : Sz i.R k := h.R_
instance [h : SzA p] : Sz p.H 3 := h.H
instance [h : SzA p] : Sz p.Z 7 := h.Z
instance [h : SzA p] : Sz p.c 13 := h.c
instance [h : SzA p] : Sz p.s 13 := h.s
theorem SzI.with_ {r : Rat} {l : Nat} (h : SzI i k) (hr : Sz r l) : SzI (i.with r) l := ⟨h.a_, h.b_, h.c_, h.P_, h.d_, h.e_, h.f_, h.Q_, h.g_, h.j_, h.k_, hr⟩
instance [h : SzI i k] [SzA p] : Sz (ahead i p).k0 42 := by
  show Sz (1 * (p.H * p.c) + i.a * (p.H * p.c) + 1 * i.P) 42
  exact Sz.mono inferInstance (by decide)
instance [h : SzI i k] [SzA p] : Sz (ahead i p).k1 30 := by
  show Sz (i.b * -(p.H * p.s) + i.c * p.Z) 30
  exact Sz.mono inferInstance (by decide)
instance [h : SzI i k] [SzA p] : Sz (ahead i p).k2 30 := by
  show Sz (i.b * p.Z - i.c * -(p.H * p.s)) 30
  exact Sz.mono inferInstance (by decide)
instance : Sz (ahead i p).k3 1 := by
  show Sz 0 1
  infer_instance
instance : Sz (ahead i p).k4 1 := by
  show Sz 0 1
  infer_instance
instance [h : SzI i k] [SzA p] : Sz (firstR i p) 30 := by
  show Sz (i.e * -(p.H * p.s) + i.f * p.Z) 30
  exact Sz.mono inferInstance (by decide)
instance [h : SzI i k] [SzA p] : Sz (secondR i p) 30 := by
  show Sz (i.k * -(p.H * p.s) - i.j * p.Z) 30
  exact Sz.mono inferInstance (by decide)
instance [h : SzI i k] [SzA p] : Sz (thirdR i p) 62 := by
  show Sz (i.e * p.Z + -i.f * -(p.H * p.s) + -i.j * -(p.H * p.s) + -i.k * p.Z) 62
  exact Sz.mono inferInstance (by decide)
instance [h : SzI i k] [SzA p] : Sz (right i p).k0 80 := by
  show Sz (-(p.H * p.s) + 1 / 2 * (firstR i p + secondR i p)) 80
  exact Sz.mono inferInstance (by decide)
instance [h : SzI i k] [SzA p] : Sz (right i p).k1 30 := by
  show Sz (i.d * (p.H * p.c) + 1 * i.Q) 30
  exact Sz.mono inferInstance (by decide)
instance [h : SzI i k] [SzA p] : Sz (right i p).k2 (k + 25) := by
  show Sz (-(i.g * (p.H * p.c) + 1 * i.R)) (k + 25)
  exact Sz.mono inferInstance (by omega)
instance [h : SzI i k] [SzA p] : Sz (right i p).k3 65 := by
  show Sz (1 / 2 * (firstR i p - secondR i p)) 65
  exact Sz.mono inferInstance (by decide)
instance [h : SzI i k] [SzA p] : Sz (right i p).k4 65 := by
  show Sz (1 / 2 * thirdR i p) 65
  exact Sz.mono inferInstance (by decide)
instance [h : SzI i k] [SzA p] : Sz (north i p).k0 155 := by
  show Sz (0 + p.c * (ahead i p).k0 + -p.s * (right i p).k0) 155
  exact Sz.mono inferInstance (by decide)
instance [h : SzI i k] [SzA p] : Sz (north i p).k1 90 := by
  show Sz (0 + p.c * (ahead i p).k1 + -p.s * (right i p).k1) 90
  exact Sz.mono inferInstance (by decide)
instance [h : SzI i k] [SzA p] : Sz (north i p).k2 (k + 90) := by
  show Sz (0 + p.c * (ahead i p).k2 + -p.s * (right i p).k2) (k + 90)
  exact Sz.mono inferInstance (by omega)
instance [h : SzI i k] [SzA p] : Sz (north i p).k3 97 := by
  show Sz (0 + p.c * (ahead i p).k3 + -p.s * (right i p).k3) 97
  exact Sz.mono inferInstance (by decide)
instance [h : SzI i k] [SzA p] : Sz (north i p).k4 97 := by
  show Sz (0 + p.c * (ahead i p).k4 + -p.s * (right i p).k4) 97
  exact Sz.mono inferInstance (by decide)
instance [h : SzI i k] [SzA p] : Sz (east i p).k0 155 := by
  show Sz (0 + p.s * (ahead i p).k0 + p.c * (right i p).k0) 155
  exact Sz.mono inferInstance (by decide)
instance [h : SzI i k] [SzA p] : Sz (east i p).k1 90 := by
  show Sz (0 + p.s * (ahead i p).k1 + p.c * (right i p).k1) 90
  exact Sz.mono inferInstance (by decide)
instance [h : SzI i k] [SzA p] : Sz (east i p).k2 (k + 90) := by
  show Sz (0 + p.s * (ahead i p).k2 + p.c * (right i p).k2) (k + 90)
  exact Sz.mono inferInstance (by omega)
instance [h : SzI i k] [SzA p] : Sz (east i p).k3 97 := by
  show Sz (0 + p.s * (ahead i p).k3 + p.c * (right i p).k3) 97
  exact Sz.mono inferInstance (by decide)
instance [h : SzI i k] [SzA p] : Sz (east i p).k4 97 := by
  show Sz (0 + p.s * (ahead i p).k4 + p.c * (right i p).k4) 97
  exact Sz.mono inferInstance (by decide)
/-- the sizes of a heel wave -/
class SzW (w : W5) (k : outParam Nat) : Prop where
  k0 : Sz w.k0 155
  k1 : Sz w.k1 90
  k2 : Sz w.k2 (k + 90)
  k3 : Sz w.k3 97
  k4 : Sz w.k4 97
instance [SzI i k] [SzA p] : SzW (north i p) k := ⟨inferInstance, inferInstance, inferInstance, inferInstance, inferInstance⟩
instance [SzI i k] [SzA p] : SzW (east i p) k := ⟨inferInstance, inferInstance, inferInstance, inferInstance, inferInstance⟩
variable {w n e : W5}
theorem SzW.worth (h : SzW w k) : Sz w.worth 344 := by
  show Sz (w.k0 + w.k1 + w.k3) 344
  have := h.k0; have := h.k1; have := h.k3
  exact Sz.mono inferInstance (by decide)
theorem SzW.rise (h : SzW w k) : Sz w.rise (k + 190) := by
  show Sz (w.k2 + 2 * w.k4) (k + 190)
  have := h.k2; have := h.k4
  exact Sz.mono inferInstance (by omega)
instance [h : SzW w k] : Sz w.worth 344 := h.worth
instance [h : SzW w k] : Sz w.rise (k + 190) := h.rise
instance [SzW n k] [SzW e k] : Sz (topR n e) (2 * k + 1069) := by
  show Sz (n.worth * e.rise - e.worth * n.rise) _
  exact Sz.mono inferInstance (by omega)
end

open PySem
theorem eqv_fr (p q : Rat) : PyData.eqv (fr p).py (fr q).py = decide (p = q) := by
  unfold fr
  simp only [D.py, D.pys, PyData.eqv, PyData.eqvAll, Bool.and_true]
  by_cases h : p = q
  · subst h
    simp
  · rw [decide_eq_false h]
    by_cases h1 : p.num = q.num
    · by_cases h2 : (p.den : Int) = (q.den : Int)
      · exact absurd (Rat.ext h1 (Int.ofNat.inj h2)) h
      · rw [beq_eq_false_iff_ne.mpr h2, Bool.and_false]
    · rw [beq_eq_false_iff_ne.mpr h1, Bool.false_and]
theorem shaped_fr (p : Rat) : SeqAt.shaped (fr p).py = true := by
  unfold fr
  simp [D.py, D.pys, SeqAt.shaped, PyData.canLay0, PyData.canLayAll0, PyData.depth, PyData.depthAll]
theorem plain_fr (p : Rat) : (fr p).plain = true := by
  unfold fr
  simp [D.plain, D.plains]
theorem lf_fr (p : Rat) : (fr p).lf = true := by
  unfold fr
  simp [D.lf, D.lfs]
end Ir
/-! ## IrP -/
namespace Ir
open PySem.Spec PySem L2 PyProof.Rows
section
variable {X : Cx} {M : List Addr} {e e2 : Expr} {δ : Ev}
theorem dt_or2 {pos : Pos} {b : Bool} (h1 : DT X M e δ false) (h2 : DT X M e2 δ b) : DT X M (.BoolOp .Or [e, e2] pos) δ b :=
  WW.wt (ww_or (h1.mono fun x z => by rw [z, if_neg Bool.false_ne_true]; exact ww_one h2))
theorem dt_or2T {pos : Pos} (h1 : DT X M e δ true) : DT X M (.BoolOp .Or [e, e2] pos) δ true :=
  WW.wt (ww_or (h1.mono fun x z => by rw [z, if_pos rfl]))
theorem de_eqF {pos : Pos} {p q : Rat} (hu : X.A.units + 64 < cLine) (hx : DE X M e δ (fr p)) (hy : DE X M e2 δ (fr q)) : DE X M (.Compare e [.Eq] [e2] pos) δ (.bl (decide (p = q))) :=
  de_cmp (op_eqD hu) (nomark _) hx hy (o_eqD (plain_fr p) (plain_fr q) (shaped_fr p) (shaped_fr q) (eqv_fr p q))
theorem dt_eqF {pos : Pos} {p q : Rat} (hu : X.A.units + 64 < cLine) (hx : DE X M e δ (fr p)) (hy : DE X M e2 δ (fr q)) : DT X M (.Compare e [.Eq] [e2] pos) δ (decide (p = q)) :=
  dt_cmp (op_eqD hu) (nomark _) hx hy (o_eqD (plain_fr p) (plain_fr q) (shaped_fr p) (shaped_fr q) (eqv_fr p q))
theorem dt_neF {pos : Pos} {p q : Rat} (hu : X.A.units + 64 < cLine) (hx : DE X M e δ (fr p)) (hy : DE X M e2 δ (fr q)) : DT X M (.Compare e [.NotEq] [e2] pos) δ (!decide (p = q)) :=
  dt_cmp (op_neD hu) (nomark _) hx hy (o_neD (plain_fr p) (plain_fr q) (shaped_fr p) (shaped_fr q) (eqv_fr p q))
end
def r_pair : Rsp := fun ds p => ∃ x y : Rat, ds = [pr x y] ∧ p (.bl true)
def r_square : Rsp := fun ds p => ∃ x y : Rat, ds = [pr x y] ∧ Sz x 13 ∧ Sz y 13 ∧ p (fr (x * x + y * y))
def r_unit : Rsp := fun ds p => ∃ x y : Rat, ds = [pr x y] ∧ Sz x 13 ∧ Sz y 13 ∧ p (.bl (decide (x * x + y * y = 1)))
def r_ratios : Rsp := fun ds p => ∃ a b c d : Rat, ds = [.tup [fr a, fr b, fr c, fr d], .int 4] ∧ p (.bl true)
def r_rows : Rsp := fun ds p => ∃ i : I12, ds = [i.d_] ∧ p (.bl true)
/-- the strength of an iron -/
def I12.str (i : I12) : Rat := 1 + 1 / 2 * (i.a + i.e)
def r_str : Rsp := fun ds p => ∃ (i : I12) (k : Nat), ds = [i.d_] ∧ SzI i k ∧ p (fr i.str)
def r_ironed : Rsp := fun ds p => ∃ (i : I12) (k : Nat), ds = [i.d_] ∧ SzI i k ∧ p (.bl (decide (0 < i.str.num)))
def r_port : Rsp := fun ds p => ∃ x y : Rat, ds = [pr x y] ∧ p (.bl (decide (0 < x.num)))
def r_ckH : Rsp := fun ds p => ∃ x y : Rat, ds = [pr x y] ∧ Sz x 13 ∧ Sz y 13 ∧ x * x + y * y = 1 ∧ p .non
def r_ckI : Rsp := fun ds p => ∃ (i : I12) (k : Nat), ds = [i.d_] ∧ SzI i k ∧ 0 < i.str.num ∧ p .non
def r_ckP : Rsp := fun ds p => ∃ x y : Rat, ds = [pr x y] ∧ 0 < x.num ∧ p .non
section
variable {P : Program} {w : World} {K : PySem.W.Frag} {mg : Str → Option Value} {base : Heap} (G : Gs K mg) (T : Ds K mg)
include G T
theorem ok_is_pair : Fn P w K mg base "is_pair" 4 ["value"] r_pair := by
  refine fn_ok' T.d_is_pair sc_is_pair b_is_pair (fun ds p q h ⟨x, y, e, r⟩ => ⟨x, y, e, h _ r⟩) (fun ds p ⟨x, y, e, r⟩ => by rw [e]; rfl) fun f cdv A outer s H E M ds Pd hr ⟨x, y, e, hP⟩ => ?_
  subst e
  refine DS.at (δ' := [some (pr x y)]) ?_ rfl
  exact ds_retD (d := .bl true) (de_andT (de_isi "tuple" "tuple" true rfl G.isinstance (de_v 0 rfl (.inl rfl) rfl) rfl rfl G.tuple) (de_andT (de_eqI (i := 2) (j := 2) (de_len rfl G.len (de_v 0 rfl (.inl rfl) rfl) (.inl ⟨_, rfl, rfl⟩)) de_int)
    (de_andT (c1 (ok_is_ratio G T) hr rfl (de_ixT (fun _ _ => rfl) (de_v 0 rfl (.inl rfl) rfl) de_int rfl) ⟨x, rfl, rfl⟩) (de_one (c1 (ok_is_ratio G T) hr rfl (de_ixT (fun _ _ => rfl) (de_v 0 rfl (.inl rfl) rfl) de_int rfl) ⟨y, rfl, rfl⟩))))) hP
theorem ok_square_length : Fn P w K mg base "square_length" 4 ["one"] r_square := by
  refine fn_ok' T.d_square_length sc_square_length b_square_length (fun ds p q h ⟨x, y, e, h1, h2, r⟩ => ⟨x, y, e, h1, h2, h _ r⟩) (fun ds p ⟨x, y, e, r⟩ => by rw [e]; rfl) fun f cdv A outer s H E M ds Pd hr ⟨x, y, e, h1, h2, hP⟩ => ?_
  subst e
  refine DS.at (δ' := [some (pr x y)]) ?_ rfl
  exact ds_retD (c_op (ok_ratio_sum G T) hr rfl (c_op (ok_ratio_product G T) hr rfl (de_ixT (fun _ _ => rfl) (de_v 0 rfl (.inl rfl) rfl) de_int rfl) (de_ixT (fun _ _ => rfl) (de_v 0 rfl (.inl rfl) rfl) de_int rfl)) (c_op (ok_ratio_product G T) hr rfl (de_ixT (fun _ _ => rfl) (de_v 0 rfl (.inl rfl) rfl) de_int rfl) (de_ixT (fun _ _ => rfl) (de_v 0 rfl (.inl rfl) rfl) de_int rfl))) hP
theorem ok_is_unit : Fn P w K mg base "is_unit" 5 ["value"] r_unit := by
  refine fn_ok' T.d_is_unit sc_is_unit b_is_unit (fun ds p q h ⟨x, y, e, h1, h2, r⟩ => ⟨x, y, e, h1, h2, h _ r⟩) (fun ds p ⟨x, y, e, r⟩ => by rw [e]; rfl) fun f cdv A outer s H E M ds Pd hr ⟨x, y, e, h1, h2, hP⟩ => ?_
  subst e
  refine DS.at (δ' := [some (pr x y)]) ?_ rfl
  exact ds_retD (de_andT (c1 (ok_is_pair G T) hr rfl (de_v 0 rfl (.inl rfl) rfl) ⟨x, y, rfl, rfl⟩) (de_one (de_eqF hr.units (c1 (ok_square_length G T) hr rfl (de_v 0 rfl (.inl rfl) rfl) ⟨x, y, rfl, h1, h2, rfl⟩) (de_g G.one rfl)))) hP
theorem ok_are_ratios : Fn P w K mg base "are_ratios" 4 ["value", "many"] r_ratios := by
  refine fn_ok' T.d_are_ratios sc_are_ratios b_are_ratios (fun ds p q h ⟨a, b, c, d, e, r⟩ => ⟨a, b, c, d, e, h _ r⟩) (fun ds p ⟨a, b, c, d, e, r⟩ => by rw [e]; rfl) fun f cdv A outer s H E M ds Pd hr ⟨a, b, c, d, e, hP⟩ => ?_
  subst e
  refine DS.at (δ' := [some (.tup [fr a, fr b, fr c, fr d]), some (.int 4), none]) ?_ rfl
  refine ds_retD (d := .bl true) (de_andT (de_isi "tuple" "tuple" true rfl G.isinstance (de_v 0 rfl (.inl rfl) rfl) rfl rfl G.tuple) (de_andT (de_eqI (i := 4) (j := 4) (de_len rfl G.len (de_v 0 rfl (.inl rfl) rfl) (.inl ⟨_, rfl, rfl⟩)) (de_v 1 rfl (.inl rfl) rfl))
    (de_one (de_all (bs := [true, true, true, true]) rfl rfl G.all (de_lc (own := [("number", 2)]) (g := gName 2) rfl sc_are_ratios.nd (pi_tup pE) (blkOk_by (N := n_are_ratios) (sc := defScope s_are_ratios) (by decide +kernel)) (fun _ _ _ _ _ => pg_name sc_are_ratios.nd rfl (.inl rfl))
      (lc_T (ds := [fr a, fr b, fr c, fr d]) (fun n => [some (.tup [fr a, fr b, fr c, fr d]), some (.int 4), some (fr (match n with | 0 => a | 1 => b | 2 => c | _ => d))]) (de_v 0 rfl (.inl rfl) rfl) (fun z hz => ?_) rfl (by decide) rfl (fun n d y hd hy => ?_))) rfl)))) hP
  · cases hz with
    | head => rfl
    | tail _ h => cases h
  · match n, hd, hy with
    | 0, hd, hy =>
      cases hd; cases hy
      exact ⟨gd_name (.head _), fun s1 H1 C cl fp => c1 (ok_is_ratio G T) hr rfl (de_v 2 rfl (.inl rfl) rfl) ⟨_, rfl, rfl⟩⟩
    | 1, hd, hy =>
      cases hd; cases hy
      exact ⟨gd_name (.head _), fun s1 H1 C cl fp => c1 (ok_is_ratio G T) hr rfl (de_v 2 rfl (.inl rfl) rfl) ⟨_, rfl, rfl⟩⟩
    | 2, hd, hy =>
      cases hd; cases hy
      exact ⟨gd_name (.head _), fun s1 H1 C cl fp => c1 (ok_is_ratio G T) hr rfl (de_v 2 rfl (.inl rfl) rfl) ⟨_, rfl, rfl⟩⟩
    | 3, hd, hy =>
      cases hd; cases hy
      exact ⟨gd_name (.head _), fun s1 H1 C cl fp => c1 (ok_is_ratio G T) hr rfl (de_v 2 rfl (.inl rfl) rfl) ⟨_, rfl, rfl⟩⟩
    | n + 4, hd, hy => cases hd
theorem ok_is_rows : Fn P w K mg base "is_rows" 5 ["value"] r_rows := by
  refine fn_ok' T.d_is_rows sc_is_rows b_is_rows (fun ds p q h ⟨i, e, r⟩ => ⟨i, e, h _ r⟩) (fun ds p ⟨i, e, r⟩ => by rw [e]; rfl) fun f cdv A outer s H E M ds Pd hr ⟨i, e, hP⟩ => ?_
  subst e
  refine DS.at (δ' := [some i.d_, none]) ?_ rfl
  refine ds_ifF (dt_or2 (dt_not (b := true) (dt_val (de_isi "tuple" "tuple" true rfl G.isinstance (de_v 0 rfl (.inl rfl) rfl) rfl rfl G.tuple) (by intro _; rfl))) (dt_neI (i := 3) (j := 3) (de_len rfl G.len (de_v 0 rfl (.inl rfl) rfl) (.inl ⟨_, rfl, rfl⟩)) (de_g G.rows rfl))) rfl ?_
  refine ds_retD (d := .bl true) (de_all (bs := [true, true, true]) rfl rfl G.all (de_lc (own := [("row", 1)]) (g := gName 1) rfl sc_is_rows.nd (pi_tup pE) (blkOk_by (N := n_is_rows) (sc := defScope s_is_rows) (by decide +kernel)) (fun _ _ _ _ _ => pg_name sc_is_rows.nd rfl (.inl rfl))
      (lc_T (ds := [.tup [fr i.a, fr i.b, fr i.c, fr i.P], .tup [fr i.d, fr i.e, fr i.f, fr i.Q], .tup [fr i.g, fr i.j, fr i.k, fr i.R]]) (fun n => [some i.d_, some (match n with | 0 => .tup [fr i.a, fr i.b, fr i.c, fr i.P] | 1 => .tup [fr i.d, fr i.e, fr i.f, fr i.Q] | _ => .tup [fr i.g, fr i.j, fr i.k, fr i.R])]) (de_v 0 rfl (.inl rfl) rfl) (fun z hz => ?_) rfl (by decide) rfl (fun n d y hd hy => ?_))) rfl) hP
  · cases hz with
    | head => rfl
    | tail _ h => cases h
  · match n, hd, hy with
    | 0, hd, hy =>
      cases hd; cases hy
      exact ⟨gd_name (.head _), fun s1 H1 C cl fp => c2a (ok_are_ratios G T) hr rfl (de_v 1 rfl (.inl rfl) rfl) (de_g G.numbers rfl) ⟨_, _, _, _, rfl, rfl⟩⟩
    | 1, hd, hy =>
      cases hd; cases hy
      exact ⟨gd_name (.head _), fun s1 H1 C cl fp => c2a (ok_are_ratios G T) hr rfl (de_v 1 rfl (.inl rfl) rfl) (de_g G.numbers rfl) ⟨_, _, _, _, rfl, rfl⟩⟩
    | 2, hd, hy =>
      cases hd; cases hy
      exact ⟨gd_name (.head _), fun s1 H1 C cl fp => c2a (ok_are_ratios G T) hr rfl (de_v 1 rfl (.inl rfl) rfl) (de_g G.numbers rfl) ⟨_, _, _, _, rfl, rfl⟩⟩
    | n + 3, hd, hy => cases hd
theorem ok_strength_by : Fn P w K mg base "strength_by" 4 ["rows"] r_str := by
  refine fn_ok' T.d_strength_by sc_strength_by b_strength_by (fun ds p q h ⟨i, k, e, h1, r⟩ => ⟨i, k, e, h1, h _ r⟩) (fun ds p ⟨i, k, e, r⟩ => by rw [e]; rfl) fun f cdv A outer s H E M ds Pd hr ⟨i, k, e, h1, hP⟩ => ?_
  subst e
  refine DS.at (δ' := [some i.d_]) ?_ rfl
  exact ds_retD (c_op (ok_ratio_sum G T) hr rfl (de_g G.one rfl) (c_op (ok_ratio_product G T) hr rfl (de_g G.half1 rfl) (c_op (ok_ratio_sum G T) hr rfl (de_ixT (fun _ _ => rfl) (de_ixT (fun _ _ => rfl) (de_v 0 rfl (.inl rfl) rfl) de_int rfl) de_int rfl) (de_ixT (fun _ _ => rfl) (de_ixT (fun _ _ => rfl) (de_v 0 rfl (.inl rfl) rfl) de_int rfl) de_int rfl)))) hP
theorem ok_is_ironed : Fn P w K mg base "is_ironed" 6 ["value"] r_ironed := by
  refine fn_ok' T.d_is_ironed sc_is_ironed b_is_ironed (fun ds p q h ⟨i, k, e, h1, r⟩ => ⟨i, k, e, h1, h _ r⟩) (fun ds p ⟨i, k, e, r⟩ => by rw [e]; rfl) fun f cdv A outer s H E M ds Pd hr ⟨i, k, e, h1, hP⟩ => ?_
  subst e
  refine DS.at (δ' := [some i.d_]) ?_ rfl
  exact ds_retD (de_andT (c1 (ok_is_rows G T) hr rfl (de_v 0 rfl (.inl rfl) rfl) ⟨i, rfl, rfl⟩) (de_one (de_gt (de_ixT (ds := [.int i.str.num, .int (i.str.den : Int)]) (fun _ _ => rfl) (c1 (ok_strength_by G T) hr rfl (de_v 0 rfl (.inl rfl) rfl) ⟨i, k, rfl, h1, rfl⟩) de_int rfl) de_int))) hP
theorem ok_is_port : Fn P w K mg base "is_port" 5 ["value"] r_port := by
  refine fn_ok' T.d_is_port sc_is_port b_is_port (fun ds p q h ⟨x, y, e, r⟩ => ⟨x, y, e, h _ r⟩) (fun ds p ⟨x, y, e, r⟩ => by rw [e]; rfl) fun f cdv A outer s H E M ds Pd hr ⟨x, y, e, hP⟩ => ?_
  subst e
  refine DS.at (δ' := [some (pr x y)]) ?_ rfl
  exact ds_retD (de_andT (c1 (ok_is_pair G T) hr rfl (de_v 0 rfl (.inl rfl) rfl) ⟨x, y, rfl, rfl⟩) (de_one (de_gt (de_ixT (fun _ _ => rfl) (de_ixT (fun _ _ => rfl) (de_v 0 rfl (.inl rfl) rfl) de_int rfl) de_int rfl) de_int))) hP
theorem ok_check_heading : Fn P w K mg base "check_heading" 6 ["value"] r_ckH := by
  refine fn_ok' T.d_check_heading sc_check_heading b_check_heading (fun ds p q h ⟨x, y, e, h1, h2, h3, r⟩ => ⟨x, y, e, h1, h2, h3, h _ r⟩) (fun ds p ⟨x, y, e, r⟩ => by rw [e]; rfl) fun f cdv A outer s H E M ds Pd hr ⟨x, y, e, h1, h2, h3, hP⟩ => ?_
  subst e
  refine DS.at (δ' := [some (pr x y)]) ?_ rfl
  exact ds_ifF (dt_not (dt_val (c1 (ok_is_unit G T) hr rfl (de_v 0 rfl (.inl rfl) rfl) ⟨x, y, rfl, h1, h2, rfl⟩) (by intro _; rfl))) (by rw [decide_eq_true h3]; rfl) (ds_nil hP)
theorem ok_check_iron : Fn P w K mg base "check_iron" 7 ["value"] r_ckI := by
  refine fn_ok' T.d_check_iron sc_check_iron b_check_iron (fun ds p q h ⟨i, k, e, h1, h2, r⟩ => ⟨i, k, e, h1, h2, h _ r⟩) (fun ds p ⟨i, k, e, r⟩ => by rw [e]; rfl) fun f cdv A outer s H E M ds Pd hr ⟨i, k, e, h1, h2, hP⟩ => ?_
  subst e
  refine DS.at (δ' := [some i.d_]) ?_ rfl
  exact ds_ifF (dt_not (dt_val (c1 (ok_is_ironed G T) hr rfl (de_v 0 rfl (.inl rfl) rfl) ⟨i, k, rfl, h1, rfl⟩) (by intro _; rfl))) (by rw [decide_eq_true h2]; rfl) (ds_nil hP)
theorem ok_check_place : Fn P w K mg base "check_place" 6 ["value"] r_ckP := by
  refine fn_ok' T.d_check_place sc_check_place b_check_place (fun ds p q h ⟨x, y, e, h1, r⟩ => ⟨x, y, e, h1, h _ r⟩) (fun ds p ⟨x, y, e, r⟩ => by rw [e]; rfl) fun f cdv A outer s H E M ds Pd hr ⟨x, y, e, h1, hP⟩ => ?_
  subst e
  refine DS.at (δ' := [some (pr x y)]) ?_ rfl
  exact ds_ifF (dt_not (dt_val (c1 (ok_is_port G T) hr rfl (de_v 0 rfl (.inl rfl) rfl) ⟨x, y, rfl, rfl⟩) (by intro _; rfl))) (by rw [decide_eq_true h1]; rfl) (ds_nil hP)
end
end Ir
/-! ## IrR1 -/
namespace Ir
open PySem.Spec PySem L2 PyProof.Rows
def pP (p : Rat × Rat) : D := pr p.1 p.2
def spv : Rat → List (Rat × Rat) → Rat
  | a, [] => a
  | a, p :: ps => spv (a + p.1 * p.2) ps
def SpC : Rat → List (Rat × Rat) → Prop
  | _, [] => True
  | a, p :: ps => C2 p.1 p.2 ∧ C2 a (p.1 * p.2) ∧ SpC (a + p.1 * p.2) ps
theorem spv_at : ∀ {ps : List (Rat × Rat)} {a : Rat} {n : Nat} {p : Rat × Rat}, ps[n]? = some p → spv a (ps.take (n + 1)) = spv a (ps.take n) + p.1 * p.2
  | [], a, n, p, h => by simp at h
  | q :: ps, a, 0, p, h => by
    have e : q = p := Option.some.inj h
    subst e
    rfl
  | q :: ps, a, n + 1, p, h => spv_at (ps := ps) (n := n) h
theorem spC_at : ∀ {ps : List (Rat × Rat)} {a : Rat} {n : Nat} {p : Rat × Rat}, SpC a ps → ps[n]? = some p → C2 p.1 p.2 ∧ C2 (spv a (ps.take n)) (p.1 * p.2)
  | [], a, n, p, _, h => by simp at h
  | q :: ps, a, 0, p, c, h => by
    have e : q = p := Option.some.inj h
    subst e
    exact ⟨c.1, c.2.1⟩
  | q :: ps, a, n + 1, p, c, h => spC_at (ps := ps) (n := n) c.2.2 h
def r_sp : Rsp := fun ds P => ∃ ps : List (Rat × Rat), ds = [.lst (ps.map pP)] ∧ SpC 0 ps ∧ P (fr (spv 0 ps))
section
variable {X : Cx} {M : List Addr} {e : Expr} {δ : Ev} {x a : Str} {pp pos : Pos} {k n : Nat} {p1 q1 p2 q2 p3 q3 p4 q4 : Rat} {m1 n1 m2 n2 m3 n3 m4 n4 : Nat}
theorem c_sp2 (F : Fn X.prog X.w X.K X.mg X.base x k [a] r_sp) (hr : Room n X.A) (hg : Gl X x) (ha : DE X M e δ (.lst [.tup [fr p1, fr q1], .tup [fr p2, fr q2]])) [Sz p1 m1] [Sz q1 n1] [Sz p2 m2] [Sz q2 n2] (hl : m1 + n1 + m2 + n2 ≤ 8000 := by first | decide | omega) (hk : k ≤ n := by decide) (hdb : (x == ("__debug__" : Str)) = false := by decide)
    (he : starEach [e] X.env = (false, eval e X.env) :: starEach [] X.env := by rfl) (hpl : (backTo pos (starEach [] X.env)).any (·.1) = false := by rfl) : DE X M (.Call (.Name x pp) [e] [] pos) δ (fr (p1 * q1 + p2 * q2)) :=
  c1 F hr hg ha ⟨[(p1, q1), (p2, q2)], rfl, ⟨c2, c2, c2, c2, True.intro⟩, congrArg fr (show 0 + p1 * q1 + p2 * q2 = _ by rw [Rat.zero_add])⟩ hk hdb he hpl
theorem c_sp3 (F : Fn X.prog X.w X.K X.mg X.base x k [a] r_sp) (hr : Room n X.A) (hg : Gl X x) (ha : DE X M e δ (.lst [.tup [fr p1, fr q1], .tup [fr p2, fr q2], .tup [fr p3, fr q3]])) [Sz p1 m1] [Sz q1 n1] [Sz p2 m2] [Sz q2 n2] [Sz p3 m3] [Sz q3 n3] (hl : m1 + n1 + m2 + n2 + m3 + n3 ≤ 8000 := by first | decide | omega) (hk : k ≤ n := by decide) (hdb : (x == ("__debug__" : Str)) = false := by decide)
    (he : starEach [e] X.env = (false, eval e X.env) :: starEach [] X.env := by rfl) (hpl : (backTo pos (starEach [] X.env)).any (·.1) = false := by rfl) : DE X M (.Call (.Name x pp) [e] [] pos) δ (fr (p1 * q1 + p2 * q2 + p3 * q3)) :=
  c1 F hr hg ha ⟨[(p1, q1), (p2, q2), (p3, q3)], rfl, ⟨c2, c2, c2, c2, c2, c2, True.intro⟩, congrArg fr (show 0 + p1 * q1 + p2 * q2 + p3 * q3 = _ by rw [Rat.zero_add])⟩ hk hdb he hpl
theorem c_sp4 (F : Fn X.prog X.w X.K X.mg X.base x k [a] r_sp) (hr : Room n X.A) (hg : Gl X x) (ha : DE X M e δ (.lst [.tup [fr p1, fr q1], .tup [fr p2, fr q2], .tup [fr p3, fr q3], .tup [fr p4, fr q4]])) [Sz p1 m1] [Sz q1 n1] [Sz p2 m2] [Sz q2 n2] [Sz p3 m3] [Sz q3 n3] [Sz p4 m4] [Sz q4 n4] (hl : m1 + n1 + m2 + n2 + m3 + n3 + m4 + n4 ≤ 8000 := by first | decide | omega) (hk : k ≤ n := by decide) (hdb : (x == ("__debug__" : Str)) = false := by decide)
    (he : starEach [e] X.env = (false, eval e X.env) :: starEach [] X.env := by rfl) (hpl : (backTo pos (starEach [] X.env)).any (·.1) = false := by rfl) : DE X M (.Call (.Name x pp) [e] [] pos) δ (fr (p1 * q1 + p2 * q2 + p3 * q3 + p4 * q4)) :=
  c1 F hr hg ha ⟨[(p1, q1), (p2, q2), (p3, q3), (p4, q4)], rfl, ⟨c2, c2, c2, c2, c2, c2, c2, c2, True.intro⟩, congrArg fr (show 0 + p1 * q1 + p2 * q2 + p3 * q3 + p4 * q4 = _ by rw [Rat.zero_add])⟩ hk hdb he hpl
end
structure PlC (w o : W5) (n : Rat) : Prop where
  a0 : C2 n o.k0
  a1 : C2 n o.k1
  a2 : C2 n o.k2
  a3 : C2 n o.k3
  a4 : C2 n o.k4
  b0 : C2 w.k0 (n * o.k0)
  b1 : C2 w.k1 (n * o.k1)
  b2 : C2 w.k2 (n * o.k2)
  b3 : C2 w.k3 (n * o.k3)
  b4 : C2 w.k4 (n * o.k4)
def r_plus : Rsp := fun ds P => ∃ (w o : W5) (n : Rat), ds = [w.d_, o.d_, fr n] ∧ PlC w o n ∧ P (w.plus o n).d_
def r_field : Rsp := fun ds P => ∃ (H Z c s : Rat), ds = [pr H Z, pr c s] ∧ C2 H c ∧ C2 H s ∧ P (.tup [fr (H * c), fr (-(H * s)), fr Z])
def r_level : Rsp := fun ds P => ∃ (i : I12) (k : Nat) (p : At), ds = [i.d_, pr p.H p.Z, pr p.c p.s] ∧ SzI i k ∧ SzA p ∧ k ≤ 2000 ∧ P (.tup [(ahead i p).d_, (right i p).d_])
def r_waves : Rsp := fun ds P => ∃ (i : I12) (k : Nat) (p : At), ds = [i.d_, pr p.H p.Z, pr p.c p.s] ∧ SzI i k ∧ SzA p ∧ k ≤ 2000 ∧ P (.tup [(north i p).d_, (east i p).d_])
def r_up : Rsp := fun ds P => ∃ (w : W5) (k : Nat), ds = [w.d_] ∧ SzW w k ∧ k ≤ 2000 ∧ P (pr w.worth w.rise)
def r_rate : Rsp := fun ds P => ∃ (n e : W5) (k : Nat), ds = [.tup [n.d_, e.d_]] ∧ SzW n k ∧ SzW e k ∧ k ≤ 2000 ∧ P (oD (rate n e))
section
variable {P : Program} {w : World} {K : PySem.W.Frag} {mg : Str → Option Value} {base : Heap} (G : Gs K mg) (T : Ds K mg)
include G T
theorem ok_sum_of_products : Fn P w K mg base "sum_of_products" 4 ["pairs"] r_sp := by
  refine fn_ok' T.d_sum_of_products sc_sum_of_products b_sum_of_products (fun ds p q h ⟨ps, e, h1, r⟩ => ⟨ps, e, h1, h _ r⟩) (fun ds p ⟨ps, e, r⟩ => by rw [e]; rfl) fun f cdv A outer s H E M ds Pd hr ⟨ps, e, hc, hP⟩ => ?_
  subst e
  refine DS.at (δ' := [some (.lst (ps.map pP)), none, none, none]) ?_ rfl
  refine ds_setD 1 sc_sum_of_products.nd rfl (.inl rfl) (de_g G.zero rfl) ?_
  refine ds_forL (ds := ps.map pP) (fun n => [some (.lst (ps.map pP)), some (fr (spv 0 (ps.take n))), none, none]) (fun n => [some (.lst (ps.map pP)), some (fr (spv 0 (ps.take n))), ps[n]?.map (fun p => fr p.1), ps[n]?.map (fun p => fr p.2)])
    PassesOwn.never rfl (de_v 0 rfl (.inl rfl) rfl) (Less.refl _) (fun H1 n d hd => ?_) ?_
  · rw [List.getElem?_map] at hd
    cases hp : ps[n]? with
    | none => rw [hp] at hd; cases hd
    | some p =>
      rw [hp] at hd
      cases hd
      obtain ⟨k1, k2⟩ := spC_at hc hp
      refine ⟨gt_tup rfl (gts_cons (gt_name 2 sc_sum_of_products.nd rfl (.inl rfl)) (gts_cons (gt_name 3 sc_sum_of_products.nd rfl (.inl rfl)) gts_nil)), ?_⟩
      refine ds_setD 1 sc_sum_of_products.nd rfl (.inl rfl) (c2a (ok_ratio_sum G T) hr rfl (de_v 1 rfl (.inl rfl) rfl) (c2a (ok_ratio_product G T) hr rfl (de_v 2 rfl (.inl rfl) rfl) (de_v 3 rfl (.inl rfl) rfl) ⟨_, _, rfl, k1, rfl⟩) ⟨_, _, rfl, k2, rfl⟩) ?_
      refine ds_nil ?_
      rw [spv_at hp]
      exact .cons (.inl rfl) (.cons (.inl rfl) (.cons (.inr rfl) (.cons (.inr rfl) (Less.refl _))))
  · refine ds_retD (de_v 1 rfl (.inl rfl) rfl) ?_
    rw [(List.length_map _), List.take_length]
    exact hP
theorem ok_wave_sum : Fn P w K mg base "wave_sum" 4 ["wave", "other", "number"] r_plus := by
  refine fn_ok' T.d_wave_sum sc_wave_sum b_wave_sum (fun ds p q h ⟨x, y, z, e, h1, r⟩ => ⟨x, y, z, e, h1, h _ r⟩) (fun ds p ⟨x, y, z, e, r⟩ => by rw [e]; rfl) fun f cdv A outer s H E M ds Pd hr ⟨w, o, n, e, c, hP⟩ => ?_
  subst e
  refine DS.at (δ' := [some w.d_, some o.d_, some (fr n), none, none]) ?_ rfl
  refine ds_retD (d := (w.plus o n).d_) (de_tupleL rfl G.tuple (de_lc (own := [("one", 3), ("two", 4)]) (g := gTup K 2 (gCons (gName 3) (gCons (gName 4) gNil))) rfl sc_wave_sum.nd (RZ.pi_zipA rfl G.zip pA) (blkOk_by (N := n_wave_sum) (sc := defScope s_wave_sum) (by decide +kernel))
    (fun _ _ _ _ _ => pg_tup rfl (pgs_cons (pg_name sc_wave_sum.nd rfl (.inl rfl)) (pgs_cons (pg_name sc_wave_sum.nd rfl (.inl rfl)) pgs_nil)))
    (lc_Z (as := [fr w.k0, fr w.k1, fr w.k2, fr w.k3, fr w.k4]) (bs := [fr o.k0, fr o.k1, fr o.k2, fr o.k3, fr o.k4])
      (fun m => [some w.d_, some o.d_, some (fr n), some (fr (match m with | 0 => w.k0 | 1 => w.k1 | 2 => w.k2 | 3 => w.k3 | _ => w.k4)), some (fr (match m with | 0 => o.k0 | 1 => o.k1 | 2 => o.k2 | 3 => o.k3 | _ => o.k4))])
      (da_cons (de_v 0 rfl (.inl rfl) rfl) (da_cons (de_v 1 rfl (.inl rfl) rfl) da_nil)) (fun z hz => ?_) rfl rfl (Nat.le_of_ble_eq_true rfl) rfl (fun m a b y ha hb hy => ?_)))) hP
  · cases hz with
    | head => rfl
    | tail _ h => cases h with
      | head => rfl
      | tail _ h => cases h
  · match m, ha, hb, hy with
    | 0, ha, hb, hy =>
      cases ha; cases hb; cases hy
      exact ⟨gd_pair (.head _) (.tail _ (.head _)), fun s1 H1 C cl fp => c2a (ok_ratio_sum G T) hr rfl (de_v 3 rfl (.inl rfl) rfl) (c2a (ok_ratio_product G T) hr rfl (de_v 2 rfl (.inr (.inl rfl)) rfl) (de_v 4 rfl (.inl rfl) rfl) ⟨_, _, rfl, c.a0, rfl⟩) ⟨_, _, rfl, c.b0, rfl⟩⟩
    | 1, ha, hb, hy =>
      cases ha; cases hb; cases hy
      exact ⟨gd_pair (.head _) (.tail _ (.head _)), fun s1 H1 C cl fp => c2a (ok_ratio_sum G T) hr rfl (de_v 3 rfl (.inl rfl) rfl) (c2a (ok_ratio_product G T) hr rfl (de_v 2 rfl (.inr (.inl rfl)) rfl) (de_v 4 rfl (.inl rfl) rfl) ⟨_, _, rfl, c.a1, rfl⟩) ⟨_, _, rfl, c.b1, rfl⟩⟩
    | 2, ha, hb, hy =>
      cases ha; cases hb; cases hy
      exact ⟨gd_pair (.head _) (.tail _ (.head _)), fun s1 H1 C cl fp => c2a (ok_ratio_sum G T) hr rfl (de_v 3 rfl (.inl rfl) rfl) (c2a (ok_ratio_product G T) hr rfl (de_v 2 rfl (.inr (.inl rfl)) rfl) (de_v 4 rfl (.inl rfl) rfl) ⟨_, _, rfl, c.a2, rfl⟩) ⟨_, _, rfl, c.b2, rfl⟩⟩
    | 3, ha, hb, hy =>
      cases ha; cases hb; cases hy
      exact ⟨gd_pair (.head _) (.tail _ (.head _)), fun s1 H1 C cl fp => c2a (ok_ratio_sum G T) hr rfl (de_v 3 rfl (.inl rfl) rfl) (c2a (ok_ratio_product G T) hr rfl (de_v 2 rfl (.inr (.inl rfl)) rfl) (de_v 4 rfl (.inl rfl) rfl) ⟨_, _, rfl, c.a3, rfl⟩) ⟨_, _, rfl, c.b3, rfl⟩⟩
    | 4, ha, hb, hy =>
      cases ha; cases hb; cases hy
      exact ⟨gd_pair (.head _) (.tail _ (.head _)), fun s1 H1 C cl fp => c2a (ok_ratio_sum G T) hr rfl (de_v 3 rfl (.inl rfl) rfl) (c2a (ok_ratio_product G T) hr rfl (de_v 2 rfl (.inr (.inl rfl)) rfl) (de_v 4 rfl (.inl rfl) rfl) ⟨_, _, rfl, c.a4, rfl⟩) ⟨_, _, rfl, c.b4, rfl⟩⟩
    | m + 5, ha, hb, hy => cases ha
theorem ok_ship_field : Fn P w K mg base "ship_field" 4 ["place", "heading"] r_field := by
  refine fn_ok' T.d_ship_field sc_ship_field b_ship_field (fun ds p q h ⟨x, y, z, t, e, h1, h2, r⟩ => ⟨x, y, z, t, e, h1, h2, h _ r⟩) (fun ds p ⟨x, y, z, t, e, r⟩ => by rw [e]; rfl) fun f cdv A outer s0 H0 E M ds Pd hr ⟨H, Z, c, s, e, k1, k2, hP⟩ => ?_
  subst e
  refine DS.at (δ' := [some (pr H Z), some (pr c s)]) ?_ rfl
  exact ds_retD (de_tup (da_cons (c2a (ok_ratio_product G T) hr rfl (de_ixT (fun _ _ => rfl) (de_v 0 rfl (.inl rfl) rfl) de_int rfl) (de_ixT (fun _ _ => rfl) (de_v 1 rfl (.inl rfl) rfl) de_int rfl) ⟨_, _, rfl, k1, rfl⟩) (da_cons (c1 (ok_ratio_back G T) hr rfl (c2a (ok_ratio_product G T) hr rfl (de_ixT (fun _ _ => rfl) (de_v 0 rfl (.inl rfl) rfl) de_int rfl) (de_ixT (fun _ _ => rfl) (de_v 1 rfl (.inl rfl) rfl) de_int rfl) ⟨_, _, rfl, k2, rfl⟩) ⟨_, rfl, rfl⟩) (da_cons (de_ixT (fun _ _ => rfl) (de_v 0 rfl (.inl rfl) rfl) de_int rfl) da_nil)))) hP
end
end Ir
/-! ## IrR2 -/
namespace Ir
open PySem.Spec PySem L2 PyProof.Rows
section
variable {P : Program} {w : World} {K : PySem.W.Frag} {mg : Str → Option Value} {base : Heap} (G : Gs K mg) (T : Ds K mg)
include G T
theorem ok_level_waves : Fn P w K mg base "level_waves" 5 ["iron", "place", "heading"] r_level := by
  refine fn_ok' T.d_level_waves sc_level_waves b_level_waves (fun ds p q h ⟨x, y, z, e, h1, h2, h3, r⟩ => ⟨x, y, z, e, h1, h2, h3, h _ r⟩) (fun ds p ⟨x, y, z, e, r⟩ => by rw [e]; rfl) fun f cdv A outer s H E M ds Pd hr ⟨i, k, p, e, h1, h2, h3, hP⟩ => ?_
  subst e
  refine DS.at (δ' := [some i.d_, some (pr p.H p.Z), some (pr p.c p.s), none, none, none, none, none, none, none, none, none, none, none, none, none, none, none, none, none, none, none, none]) ?_ rfl
  refine ds_asgD (de_v 0 rfl (.inl rfl) rfl) (gt_tup rfl (gts_cons (gt_tup rfl (gts_cons (gt_name 3 sc_level_waves.nd rfl (.inl rfl)) (gts_cons (gt_name 4 sc_level_waves.nd rfl (.inl rfl)) (gts_cons (gt_name 5 sc_level_waves.nd rfl (.inl rfl)) (gts_cons (gt_name 6 sc_level_waves.nd rfl (.inl rfl)) gts_nil))))) (gts_cons (gt_tup rfl (gts_cons (gt_name 7 sc_level_waves.nd rfl (.inl rfl)) (gts_cons (gt_name 8 sc_level_waves.nd rfl (.inl rfl)) (gts_cons (gt_name 9 sc_level_waves.nd rfl (.inl rfl)) (gts_cons (gt_name 10 sc_level_waves.nd rfl (.inl rfl)) gts_nil))))) (gts_cons (gt_tup rfl (gts_cons (gt_name 11 sc_level_waves.nd rfl (.inl rfl)) (gts_cons (gt_name 12 sc_level_waves.nd rfl (.inl rfl)) (gts_cons (gt_name 13 sc_level_waves.nd rfl (.inl rfl)) (gts_cons (gt_name 14 sc_level_waves.nd rfl (.inl rfl)) gts_nil))))) gts_nil)))) ?_
  refine DS.at (δ' := [_, _, _, _, _, _, _, _, _, _, _, _, _, _, _, _, _, _, _, _, _, _, _]) ?_ rfl
  refine ds_asgD (c2a (ok_ship_field G T) hr rfl (de_v 1 rfl (.inl rfl) rfl) (de_v 2 rfl (.inl rfl) rfl) ⟨_, _, _, _, rfl, c2, c2, rfl⟩) (gt_tup rfl (gts_cons (gt_name 15 sc_level_waves.nd rfl (.inl rfl)) (gts_cons (gt_name 16 sc_level_waves.nd rfl (.inl rfl)) (gts_cons (gt_name 17 sc_level_waves.nd rfl (.inl rfl)) gts_nil)))) ?_
  refine DS.at (δ' := [_, _, _, _, _, _, _, _, _, _, _, _, _, _, _, _, _, _, _, _, _, _, _]) ?_ rfl
  refine ds_setD 18 sc_level_waves.nd rfl (.inl rfl) (de_tup (da_cons (c_sp3 (ok_sum_of_products G T) hr rfl (de_lst (da_cons (de_tup (da_cons (de_g G.one rfl) (da_cons (de_v 15 rfl (.inl rfl) rfl) da_nil))) (da_cons (de_tup (da_cons (de_v 3 rfl (.inl rfl) rfl) (da_cons (de_v 15 rfl (.inl rfl) rfl) da_nil))) (da_cons (de_tup (da_cons (de_g G.one rfl) (da_cons (de_v 6 rfl (.inl rfl) rfl) da_nil))) da_nil))))) (da_cons (c_sp2 (ok_sum_of_products G T) hr rfl (de_lst (da_cons (de_tup (da_cons (de_v 4 rfl (.inl rfl) rfl) (da_cons (de_v 16 rfl (.inl rfl) rfl) da_nil))) (da_cons (de_tup (da_cons (de_v 5 rfl (.inl rfl) rfl) (da_cons (de_v 17 rfl (.inl rfl) rfl) da_nil))) da_nil)))) (da_cons (c_op (ok_ratio_less G T) hr rfl (c_op (ok_ratio_product G T) hr rfl (de_v 4 rfl (.inl rfl) rfl) (de_v 17 rfl (.inl rfl) rfl)) (c_op (ok_ratio_product G T) hr rfl (de_v 5 rfl (.inl rfl) rfl) (de_v 16 rfl (.inl rfl) rfl))) (da_cons (de_g G.zero rfl) (da_cons (de_g G.zero rfl) da_nil)))))) ?_
  refine DS.at (δ' := [_, _, _, _, _, _, _, _, _, _, _, _, _, _, _, _, _, _, _, _, _, _, _]) ?_ rfl
  refine ds_setD 19 sc_level_waves.nd rfl (.inl rfl) (c_sp2 (ok_sum_of_products G T) hr rfl (de_lst (da_cons (de_tup (da_cons (de_v 8 rfl (.inl rfl) rfl) (da_cons (de_v 16 rfl (.inl rfl) rfl) da_nil))) (da_cons (de_tup (da_cons (de_v 9 rfl (.inl rfl) rfl) (da_cons (de_v 17 rfl (.inl rfl) rfl) da_nil))) da_nil)))) ?_
  refine DS.at (δ' := [_, _, _, _, _, _, _, _, _, _, _, _, _, _, _, _, _, _, _, _, _, _, _]) ?_ rfl
  refine ds_setD 20 sc_level_waves.nd rfl (.inl rfl) (c_op (ok_ratio_less G T) hr rfl (c_op (ok_ratio_product G T) hr rfl (de_v 13 rfl (.inl rfl) rfl) (de_v 16 rfl (.inl rfl) rfl)) (c_op (ok_ratio_product G T) hr rfl (de_v 12 rfl (.inl rfl) rfl) (de_v 17 rfl (.inl rfl) rfl))) ?_
  refine DS.at (δ' := [_, _, _, _, _, _, _, _, _, _, _, _, _, _, _, _, _, _, _, _, _, _, _]) ?_ rfl
  refine ds_setD 21 sc_level_waves.nd rfl (.inl rfl) (c_sp4 (ok_sum_of_products G T) hr rfl (de_lst (da_cons (de_tup (da_cons (de_v 8 rfl (.inl rfl) rfl) (da_cons (de_v 17 rfl (.inl rfl) rfl) da_nil))) (da_cons (de_tup (da_cons (c1 (ok_ratio_back G T) hr rfl (de_v 9 rfl (.inl rfl) rfl) ⟨_, rfl, rfl⟩) (da_cons (de_v 16 rfl (.inl rfl) rfl) da_nil))) (da_cons (de_tup (da_cons (c1 (ok_ratio_back G T) hr rfl (de_v 12 rfl (.inl rfl) rfl) ⟨_, rfl, rfl⟩) (da_cons (de_v 16 rfl (.inl rfl) rfl) da_nil))) (da_cons (de_tup (da_cons (c1 (ok_ratio_back G T) hr rfl (de_v 13 rfl (.inl rfl) rfl) ⟨_, rfl, rfl⟩) (da_cons (de_v 17 rfl (.inl rfl) rfl) da_nil))) da_nil)))))) ?_
  refine DS.at (δ' := [_, _, _, _, _, _, _, _, _, _, _, _, _, _, _, _, _, _, _, _, _, _, _]) ?_ rfl
  refine ds_setD 22 sc_level_waves.nd rfl (.inl rfl) (de_tup (da_cons (c_op (ok_ratio_sum G T) hr rfl (de_v 16 rfl (.inl rfl) rfl) (c_op (ok_ratio_product G T) hr rfl (de_g G.half2 rfl) (c_op (ok_ratio_sum G T) hr rfl (de_v 19 rfl (.inl rfl) rfl) (de_v 20 rfl (.inl rfl) rfl)))) (da_cons (c_sp2 (ok_sum_of_products G T) hr rfl (de_lst (da_cons (de_tup (da_cons (de_v 7 rfl (.inl rfl) rfl) (da_cons (de_v 15 rfl (.inl rfl) rfl) da_nil))) (da_cons (de_tup (da_cons (de_g G.one rfl) (da_cons (de_v 10 rfl (.inl rfl) rfl) da_nil))) da_nil)))) (da_cons (c1 (ok_ratio_back G T) hr rfl (c_sp2 (ok_sum_of_products G T) hr rfl (de_lst (da_cons (de_tup (da_cons (de_v 11 rfl (.inl rfl) rfl) (da_cons (de_v 15 rfl (.inl rfl) rfl) da_nil))) (da_cons (de_tup (da_cons (de_g G.one rfl) (da_cons (de_v 14 rfl (.inl rfl) rfl) da_nil))) da_nil)))) ⟨_, rfl, rfl⟩) (da_cons (c_op (ok_ratio_product G T) hr rfl (de_g G.half2 rfl) (c_op (ok_ratio_less G T) hr rfl (de_v 19 rfl (.inl rfl) rfl) (de_v 20 rfl (.inl rfl) rfl))) (da_cons (c_op (ok_ratio_product G T) hr rfl (de_g G.half2 rfl) (de_v 21 rfl (.inl rfl) rfl)) da_nil)))))) ?_
  refine DS.at (δ' := [_, _, _, _, _, _, _, _, _, _, _, _, _, _, _, _, _, _, _, _, _, _, _]) ?_ rfl
  refine ds_retD (de_tup (da_cons (de_v 18 rfl (.inl rfl) rfl) (da_cons (de_v 22 rfl (.inl rfl) rfl) da_nil))) ?_
  exact hP
end
end Ir
/-! ## IrR3 -/
namespace Ir
open PySem.Spec PySem L2 PyProof.Rows
section
variable {P : Program} {w : World} {K : PySem.W.Frag} {mg : Str → Option Value} {base : Heap} (G : Gs K mg) (T : Ds K mg)
include G T
theorem ok_waves_of_heel : Fn P w K mg base "waves_of_heel" 6 ["iron", "place", "heading"] r_waves := by
  refine fn_ok' T.d_waves_of_heel sc_waves_of_heel b_waves_of_heel (fun ds p q h ⟨x, y, z, e, h1, h2, h3, r⟩ => ⟨x, y, z, e, h1, h2, h3, h _ r⟩) (fun ds p ⟨x, y, z, e, r⟩ => by rw [e]; rfl) fun f cdv A outer s H E M ds Pd hr ⟨i, k, p, e, h1, h2, h3, hP⟩ => ?_
  subst e
  have a1 : PlC W5.nil (ahead i p) p.c := ⟨c2, c2, c2, c2, c2, c2 (p := 0), c2 (p := 0), c2 (p := 0), c2 (p := 0), c2 (p := 0)⟩
  have a2 : PlC W5.nil (ahead i p) p.s := ⟨c2, c2, c2, c2, c2, c2 (p := 0), c2 (p := 0), c2 (p := 0), c2 (p := 0), c2 (p := 0)⟩
  have b1 : PlC (W5.nil.plus (ahead i p) p.c) (right i p) (-p.s) := ⟨c2, c2, c2, c2, c2, c2 (p := 0 + p.c * (ahead i p).k0), c2 (p := 0 + p.c * (ahead i p).k1), c2 (p := 0 + p.c * (ahead i p).k2), c2 (p := 0 + p.c * (ahead i p).k3), c2 (p := 0 + p.c * (ahead i p).k4)⟩
  have b2 : PlC (W5.nil.plus (ahead i p) p.s) (right i p) p.c := ⟨c2, c2, c2, c2, c2, c2 (p := 0 + p.s * (ahead i p).k0), c2 (p := 0 + p.s * (ahead i p).k1), c2 (p := 0 + p.s * (ahead i p).k2), c2 (p := 0 + p.s * (ahead i p).k3), c2 (p := 0 + p.s * (ahead i p).k4)⟩
  refine DS.at (δ' := [some i.d_, some (pr p.H p.Z), some (pr p.c p.s), none, none, none, none, none]) ?_ rfl
  refine ds_asgD (c3a (ok_level_waves G T) hr rfl (de_v 0 rfl (.inl rfl) rfl) (de_v 1 rfl (.inl rfl) rfl) (de_v 2 rfl (.inl rfl) rfl) ⟨i, k, p, rfl, h1, h2, h3, rfl⟩) (gt_tup rfl (gts_cons (gt_name 3 sc_waves_of_heel.nd rfl (.inl rfl)) (gts_cons (gt_name 4 sc_waves_of_heel.nd rfl (.inl rfl)) gts_nil))) ?_
  refine DS.at (δ' := [_, _, _, _, _, _, _, _]) ?_ rfl
  refine ds_asgD (de_v 2 rfl (.inl rfl) rfl) (gt_tup rfl (gts_cons (gt_name 5 sc_waves_of_heel.nd rfl (.inl rfl)) (gts_cons (gt_name 6 sc_waves_of_heel.nd rfl (.inl rfl)) gts_nil))) ?_
  refine DS.at (δ' := [_, _, _, _, _, _, _, _]) ?_ rfl
  refine ds_setD 7 sc_waves_of_heel.nd rfl (.inl rfl) (c3a (ok_wave_sum G T) hr rfl (c3a (ok_wave_sum G T) hr rfl (de_g G.nought rfl) (de_v 3 rfl (.inl rfl) rfl) (de_v 5 rfl (.inl rfl) rfl) ⟨W5.nil, _, _, rfl, a1, rfl⟩) (de_v 4 rfl (.inl rfl) rfl) (c1 (ok_ratio_back G T) hr rfl (de_v 6 rfl (.inl rfl) rfl) ⟨_, rfl, rfl⟩) ⟨_, _, _, rfl, b1, rfl⟩) ?_
  refine DS.at (δ' := [_, _, _, _, _, _, _, _]) ?_ rfl
  exact ds_retD (de_tup (da_cons (de_v 7 rfl (.inl rfl) rfl) (da_cons (c3a (ok_wave_sum G T) hr rfl (c3a (ok_wave_sum G T) hr rfl (de_g G.nought rfl) (de_v 3 rfl (.inl rfl) rfl) (de_v 6 rfl (.inl rfl) rfl) ⟨W5.nil, _, _, rfl, a2, rfl⟩) (de_v 4 rfl (.inl rfl) rfl) (de_v 5 rfl (.inl rfl) rfl) ⟨_, _, _, rfl, b2, rfl⟩) da_nil))) hP
theorem ok_upright_parts : Fn P w K mg base "upright_parts" 4 ["wave"] r_up := by
  refine fn_ok' T.d_upright_parts sc_upright_parts b_upright_parts (fun ds p q h ⟨x, y, e, h1, h2, r⟩ => ⟨x, y, e, h1, h2, h _ r⟩) (fun ds p ⟨x, y, e, r⟩ => by rw [e]; rfl) fun f cdv A outer s H E M ds Pd hr ⟨w, k, e, h1, h2, hP⟩ => ?_
  subst e
  have := h1.k0; have := h1.k1; have := h1.k2; have := h1.k3; have := h1.k4
  refine DS.at (δ' := [some w.d_, none]) ?_ rfl
  refine ds_setD 1 sc_upright_parts.nd rfl (.inl rfl) (c_op (ok_ratio_sum G T) hr rfl (c_op (ok_ratio_sum G T) hr rfl (de_ixT (fun _ _ => rfl) (de_v 0 rfl (.inl rfl) rfl) de_int rfl) (de_ixT (fun _ _ => rfl) (de_v 0 rfl (.inl rfl) rfl) de_int rfl)) (de_ixT (fun _ _ => rfl) (de_v 0 rfl (.inl rfl) rfl) de_int rfl)) ?_
  refine DS.at (δ' := [_, _]) ?_ rfl
  refine ds_retD (de_tup (da_cons (de_v 1 rfl (.inl rfl) rfl) (da_cons (c_op (ok_ratio_sum G T) hr rfl (de_ixT (fun _ _ => rfl) (de_v 0 rfl (.inl rfl) rfl) de_int rfl) (c_op (ok_ratio_product G T) hr rfl (de_lit (q := 2) (de_tup (da_cons de_int (da_cons de_int da_nil)))) (de_ixT (fun _ _ => rfl) (de_v 0 rfl (.inl rfl) rfl) de_int rfl))) da_nil))) ?_
  exact hP
theorem ok_rate_of : Fn P w K mg base "rate_of" 5 ["waves"] r_rate := by
  refine fn_ok' T.d_rate_of sc_rate_of b_rate_of (fun ds p q h ⟨x, y, z, e, h1, h2, h3, r⟩ => ⟨x, y, z, e, h1, h2, h3, h _ r⟩) (fun ds p ⟨x, y, z, e, r⟩ => by rw [e]; rfl) fun f cdv A outer s H E M ds Pd hr ⟨n, ea, k, e, h1, h2, h3, hP⟩ => ?_
  subst e
  refine DS.at (δ' := [some (.tup [n.d_, ea.d_]), none, none, none, none, none]) ?_ rfl
  refine ds_asgD (d := .lst [pr n.worth n.rise, pr ea.worth ea.rise]) (de_lc (own := [("wave", 5)]) (g := gName 5) rfl sc_rate_of.nd (pi_tup pE) (blkOk_by (N := n_rate_of) (sc := defScope s_rate_of) (by decide +kernel)) (fun _ _ _ _ _ => pg_name sc_rate_of.nd rfl (.inl rfl))
    (lc_T (ds := [n.d_, ea.d_]) (fun m => [some (.tup [n.d_, ea.d_]), none, none, none, none, some (match m with | 0 => n.d_ | _ => ea.d_)]) (de_v 0 rfl (.inl rfl) rfl) (fun z hz => ?_) rfl (Nat.le_of_ble_eq_true rfl) rfl (fun m d y hd hy => ?_)))
    (gt_lst rfl (gts_cons (gt_tup rfl (gts_cons (gt_name 1 sc_rate_of.nd rfl (.inl rfl)) (gts_cons (gt_name 2 sc_rate_of.nd rfl (.inl rfl)) gts_nil))) (gts_cons (gt_tup rfl (gts_cons (gt_name 3 sc_rate_of.nd rfl (.inl rfl)) (gts_cons (gt_name 4 sc_rate_of.nd rfl (.inl rfl)) gts_nil))) gts_nil))) ?_
  · cases hz with
    | head => rfl
    | tail _ h => cases h
  · match m, hd, hy with
    | 0, hd, hy =>
      cases hd; cases hy
      exact ⟨gd_name (.head _), fun s1 H1 C cl fp => c1 (ok_upright_parts G T) hr rfl (de_v 5 rfl (.inl rfl) rfl) ⟨n, k, rfl, h1, h3, rfl⟩⟩
    | 1, hd, hy =>
      cases hd; cases hy
      exact ⟨gd_name (.head _), fun s1 H1 C cl fp => c1 (ok_upright_parts G T) hr rfl (de_v 5 rfl (.inl rfl) rfl) ⟨ea, k, rfl, h2, h3, rfl⟩⟩
    | m + 2, hd, hy => cases hd
  by_cases hz : n.worth = 0
  · have er : oD (rate n ea) = .non := by
      unfold rate
      rw [if_pos hz]
      rfl
    rw [er] at hP
    exact ds_ifT (dt_eqF hr.units (de_v 1 rfl (.inl rfl) rfl) (de_g G.zero rfl)) (decide_eq_true hz) (ds_retD de_non hP)
  · have er : oD (rate n ea) = fr (topR n ea / (n.worth * n.worth)) := by
      unfold rate
      rw [if_neg hz]
      rfl
    rw [er] at hP
    refine ds_ifF (dt_eqF hr.units (de_v 1 rfl (.inl rfl) rfl) (de_g G.zero rfl)) (decide_eq_false hz) ?_
    have q0 : n.worth * n.worth ≠ 0 := fun z => hz (by rcases Rat.mul_eq_zero.mp z with z | z <;> exact z)
    exact ds_retD (c_over (ok_ratio_over G T) hr rfl (c_op (ok_ratio_less G T) hr rfl (c_op (ok_ratio_product G T) hr rfl (de_v 1 rfl (.inl rfl) rfl) (de_v 4 rfl (.inl rfl) rfl)) (c_op (ok_ratio_product G T) hr rfl (de_v 3 rfl (.inl rfl) rfl) (de_v 2 rfl (.inl rfl) rfl))) (c_op (ok_ratio_product G T) hr rfl (de_v 1 rfl (.inl rfl) rfl) (de_v 1 rfl (.inl rfl) rfl)) q0) hP
end
end Ir
/-! ## IrS -/
namespace Ir
open PySem.Spec PySem L2 PyProof.Rows
/-- an iron, a place and a heading that the program takes -/
structure Good3 (i : I12) (k : Nat) (p : At) : Prop where
  si : SzI i k
  sa : SzA p
  hk : k ≤ 2000
  str : 0 < i.str.num
  far : 0 < p.H.num
  unit : p.c * p.c + p.s * p.s = 1
def r_ship : Rsp := fun ds P => ∃ (i : I12) (k : Nat) (p : At), ds = [i.d_, pr p.H p.Z, pr p.c p.s] ∧ Good3 i k p ∧ P .non
def r_heel : Rsp := fun ds P => ∃ (i : I12) (k : Nat) (p : At), ds = [i.d_, pr p.H p.Z, pr p.c p.s] ∧ Good3 i k p ∧ P (oD (heel i p))
def r_mag : Rsp := fun ds P => ∃ (i : I12) (k : Nat) (p : At), ds = [i.d_, pr p.H p.Z, pr p.c p.s] ∧ Good3 i k p ∧ P (oD (magnet i p))
theorem lf_oD (r : Option Rat) : (oD r).lf = true := by
  cases r with
  | none => rfl
  | some q => exact lf_fr q
theorem heel_none {i : I12} {p : At} (h : (north i p).worth = 0) : heel i p = none := by
  unfold heel rate
  rw [if_pos h]
theorem heel_some {i : I12} {p : At} (h : (north i p).worth ≠ 0) : heel i p = some (topR (north i p) (east i p) / ((north i p).worth * (north i p).worth)) := by
  unfold heel rate
  rw [if_neg h]
theorem worth_with (i : I12) (p : At) (r : Rat) : (north (i.with r) p).worth = (north i p).worth := rfl
section
variable {P : Program} {w : World} {K : PySem.W.Frag} {mg : Str → Option Value} {base : Heap} (G : Gs K mg) (T : Ds K mg)
include G T
theorem ok_check_ship : Fn P w K mg base "check_ship" 8 ["iron", "place", "heading"] r_ship := by
  refine fn_ok' T.d_check_ship sc_check_ship b_check_ship (fun ds p q h ⟨x, y, z, e, h1, r⟩ => ⟨x, y, z, e, h1, h _ r⟩) (fun ds p ⟨x, y, z, e, r⟩ => by rw [e]; rfl) fun f cdv A outer s H E M ds Pd hr ⟨i, k, p, e, g, hP⟩ => ?_
  subst e
  refine DS.at (δ' := [some i.d_, some (pr p.H p.Z), some (pr p.c p.s)]) ?_ rfl
  refine ds_expr (DE.we (c1 (ok_check_iron G T) hr rfl (de_v 0 rfl (.inl rfl) rfl) ⟨i, k, rfl, g.si, g.str, rfl⟩) ?_)
  refine ds_expr (DE.we (c1 (ok_check_place G T) hr rfl (de_v 1 rfl (.inl rfl) rfl) ⟨_, _, rfl, g.far, rfl⟩) ?_)
  refine ds_expr (DE.we (c1 (ok_check_heading G T) hr rfl (de_v 2 rfl (.inl rfl) rfl) ⟨_, _, rfl, g.sa.c, g.sa.s, g.unit, rfl⟩) ?_)
  exact ds_nil hP
theorem ok_magnet_of : Fn P w K mg base "magnet_of" 7 ["iron", "place", "heading"] r_mag := by
  refine fn_ok' T.d_magnet_of sc_magnet_of b_magnet_of (fun ds p q h ⟨x, y, z, e, h1, r⟩ => ⟨x, y, z, e, h1, h _ r⟩) (fun ds p ⟨x, y, z, e, r⟩ => by rw [e]; rfl) fun f cdv A outer s H E M ds Pd hr ⟨i, k, p, e, g, hP⟩ => ?_
  subst e
  have sa := g.sa
  have z0 : SzI (i.with 0) 1 := g.si.with_ inferInstance
  have z1 : SzI (i.with 1) 1 := g.si.with_ inferInstance
  refine DS.at (δ' := [some i.d_, some (pr p.H p.Z), some (pr p.c p.s), none, none, none]) ?_ rfl
  refine ds_new 3 sc_magnet_of.nd rfl (.inl rfl) fun q h0 _ => ?_
  refine DS.at (δ' := [some i.d_, some (pr p.H p.Z), some (pr p.c p.s), some (.own q []), none, none]) ?_ rfl
  refine ds_forT (ds := [fr 0, fr 1]) (fun n => [some i.d_, some (pr p.H p.Z), some (pr p.c p.s), some (.own q (match n with | 0 => [] | 1 => [oD (heel (i.with 0) p)] | _ => [oD (heel (i.with 0) p), oD (heel (i.with 1) p)])), none, none])
    (fun n => [some i.d_, some (pr p.H p.Z), some (pr p.c p.s), some (.own q (match n with | 0 => [] | 1 => [oD (heel (i.with 0) p)] | _ => [oD (heel (i.with 0) p), oD (heel (i.with 1) p)])), some (fr (match n with | 0 => 0 | _ => 1)), none])
    PassesOwn.never rfl (de_tup (da_cons (de_g G.zero rfl) (da_cons (de_g G.one rfl) da_nil))) rfl (Less.refl _) (fun n d hd => ?_) ?_
  · match n, hd with
    | 0, hd =>
      cases hd
      refine ⟨gt_name 4 sc_magnet_of.nd rfl (.inl rfl), ?_⟩
      refine ds_setD 5 sc_magnet_of.nd rfl (.inl rfl) (de_tup (da_cons (de_ixT (fun _ _ => rfl) (de_v 0 rfl (.inl rfl) rfl) de_int rfl) (da_cons (de_ixT (fun _ _ => rfl) (de_v 0 rfl (.inl rfl) rfl) de_int rfl) (da_cons (de_catT (de_slT (zl := none) (zh := some 3) (de_ixT (fun _ _ => rfl) (de_v 0 rfl (.inl rfl) rfl) de_int rfl) True.intro de_int rfl) (de_tup (da_cons (de_v 4 rfl (.inl rfl) rfl) da_nil))) da_nil)))) ?_
      refine DS.at (δ' := [some i.d_, some (pr p.H p.Z), some (pr p.c p.s), some (.own q []), some (fr 0), some (i.with 0).d_]) ?_ rfl
      refine ds_append 3 (pe_bm PySem.F.plainAttrs_list PySem.F.slot_list_append PySem.F.type_list_append mt_append (pv 3) (pa_cons pE pa_nil)) rfl h0 (by decide) rfl (c1 (ok_rate_of G T) hr rfl (c3a (ok_waves_of_heel G T) hr rfl (de_v 5 rfl (.inl rfl) rfl) (de_v 1 rfl (.inl rfl) rfl) (de_v 2 rfl (.inl rfl) rfl) ⟨i.with 0, 1, p, rfl, z0, sa, by decide, rfl⟩) ⟨_, _, 1, rfl, inferInstance, inferInstance, by decide, rfl⟩) (lf_oD _) (fun j c hj hc => ?_) ?_
      · match j, hj, hc with
        | 0, _, hc => cases hc; rfl
        | 1, _, hc => cases hc; rfl
        | 2, _, hc => cases hc; rfl
        | 3, hj, _ => exact absurd rfl hj
        | 4, _, hc => cases hc; rfl
        | 5, _, hc => cases hc; rfl
        | j + 6, _, hc => cases hc
      · exact ds_nil (.cons (.inl rfl) (.cons (.inl rfl) (.cons (.inl rfl) (.cons (.inl rfl) (.cons (.inr rfl) (.cons (.inr rfl) (Less.refl _)))))))
    | 1, hd =>
      cases hd
      refine ⟨gt_name 4 sc_magnet_of.nd rfl (.inl rfl), ?_⟩
      refine ds_setD 5 sc_magnet_of.nd rfl (.inl rfl) (de_tup (da_cons (de_ixT (fun _ _ => rfl) (de_v 0 rfl (.inl rfl) rfl) de_int rfl) (da_cons (de_ixT (fun _ _ => rfl) (de_v 0 rfl (.inl rfl) rfl) de_int rfl) (da_cons (de_catT (de_slT (zl := none) (zh := some 3) (de_ixT (fun _ _ => rfl) (de_v 0 rfl (.inl rfl) rfl) de_int rfl) True.intro de_int rfl) (de_tup (da_cons (de_v 4 rfl (.inl rfl) rfl) da_nil))) da_nil)))) ?_
      refine DS.at (δ' := [some i.d_, some (pr p.H p.Z), some (pr p.c p.s), some (.own q [oD (heel (i.with 0) p)]), some (fr 1), some (i.with 1).d_]) ?_ rfl
      refine ds_append 3 (pe_bm PySem.F.plainAttrs_list PySem.F.slot_list_append PySem.F.type_list_append mt_append (pv 3) (pa_cons pE pa_nil)) rfl h0 (Nat.le_of_ble_eq_true rfl) (by unfold D.lfs; rw [lf_oD]; rfl) (c1 (ok_rate_of G T) hr rfl (c3a (ok_waves_of_heel G T) hr rfl (de_v 5 rfl (.inl rfl) rfl) (de_v 1 rfl (.inl rfl) rfl) (de_v 2 rfl (.inl rfl) rfl) ⟨i.with 1, 1, p, rfl, z1, sa, by decide, rfl⟩) ⟨_, _, 1, rfl, inferInstance, inferInstance, by decide, rfl⟩) (lf_oD _) (fun j c hj hc => ?_) ?_
      · match j, hj, hc with
        | 0, _, hc => cases hc; rfl
        | 1, _, hc => cases hc; rfl
        | 2, _, hc => cases hc; rfl
        | 3, hj, _ => exact absurd rfl hj
        | 4, _, hc => cases hc; rfl
        | 5, _, hc => cases hc; rfl
        | j + 6, _, hc => cases hc
      · exact ds_nil (.cons (.inl rfl) (.cons (.inl rfl) (.cons (.inl rfl) (.cons (.inl rfl) (.cons (.inr rfl) (.cons (.inr rfl) (Less.refl _)))))))
    | n + 2, hd => cases hd
  · refine DS.at (δ' := [some i.d_, some (pr p.H p.Z), some (pr p.c p.s), some (.own q [oD (heel (i.with 0) p), oD (heel (i.with 1) p)]), none, none]) ?_ rfl
    by_cases hz : (north i p).worth = 0
    · have e0 : heel (i.with 0) p = none := heel_none hz
      have em : oD (magnet i p) = .non := by
        unfold magnet
        rw [e0]
        rfl
      rw [em] at hP
      rw [e0]
      exact ds_ifT (dt_or2T (DT.eq (dt_isN (de_ixL (fun _ _ => rfl) (de_vo 3 rfl (.inl rfl) rfl) de_int rfl)) rfl)) rfl (ds_retD de_non hP)
    · have e0 := heel_some (i := i.with 0) (p := p) hz
      have e1 := heel_some (i := i.with 1) (p := p) hz
      generalize hr0 : topR (north (i.with 0) p) (east (i.with 0) p) / ((north (i.with 0) p).worth * (north (i.with 0) p).worth) = r0 at e0
      generalize hr1 : topR (north (i.with 1) p) (east (i.with 1) p) / ((north (i.with 1) p).worth * (north (i.with 1) p).worth) = r1 at e1
      have s0 : Sz r0 1800 := by
        rw [← hr0]
        exact Sz.mono inferInstance (by decide)
      have s1 : Sz r1 1800 := by
        rw [← hr1]
        exact Sz.mono inferInstance (by decide)
      have em : magnet i p = if r0 = r1 then none else some (-r0 / (r1 - r0)) := by
        unfold magnet
        rw [e0, e1]
      rw [em] at hP
      rw [e0, e1]
      by_cases h01 : r0 = r1
      · rw [if_pos h01] at hP
        exact ds_ifT (dt_or2 (DT.eq (dt_isN (de_ixL (fun _ _ => rfl) (de_vo 3 rfl (.inl rfl) rfl) de_int rfl)) rfl) (dt_eqF hr.units (de_ixL (fun _ _ => rfl) (de_vo 3 rfl (.inl rfl) rfl) de_int rfl) (de_ixL (fun _ _ => rfl) (de_vo 3 rfl (.inl rfl) rfl) de_int rfl))) (decide_eq_true h01) (ds_retD de_non hP)
      · rw [if_neg h01] at hP
        refine ds_ifF (dt_or2 (DT.eq (dt_isN (de_ixL (fun _ _ => rfl) (de_vo 3 rfl (.inl rfl) rfl) de_int rfl)) rfl) (dt_eqF hr.units (de_ixL (fun _ _ => rfl) (de_vo 3 rfl (.inl rfl) rfl) de_int rfl) (de_ixL (fun _ _ => rfl) (de_vo 3 rfl (.inl rfl) rfl) de_int rfl))) (decide_eq_false h01) ?_
        have q0 : r1 - r0 ≠ 0 := fun z => h01 (by grind)
        exact ds_retD (c_over (ok_ratio_over G T) hr rfl (c1 (ok_ratio_back G T) hr rfl (de_ixL (fun _ _ => rfl) (de_vo 3 rfl (.inl rfl) rfl) de_int rfl) ⟨_, rfl, rfl⟩) (c_op (ok_ratio_less G T) hr rfl (de_ixL (fun _ _ => rfl) (de_vo 3 rfl (.inl rfl) rfl) de_int rfl) (de_ixL (fun _ _ => rfl) (de_vo 3 rfl (.inl rfl) rfl) de_int rfl)) q0) hP
theorem ok_heel_rate : Fn P w K mg base "heel_rate" 9 ["iron", "place", "heading"] r_heel := by
  refine fn_ok' T.d_heel_rate sc_heel_rate b_heel_rate (fun ds p q h ⟨x, y, z, e, h1, r⟩ => ⟨x, y, z, e, h1, h _ r⟩) (fun ds p ⟨x, y, z, e, r⟩ => by rw [e]; rfl) fun f cdv A outer s H E M ds Pd hr ⟨i, k, p, e, g, hP⟩ => ?_
  subst e
  have si := g.si
  have sa := g.sa
  refine DS.at (δ' := [some i.d_, some (pr p.H p.Z), some (pr p.c p.s)]) ?_ rfl
  refine ds_expr (DE.we (c3a (ok_check_ship G T) hr rfl (de_v 0 rfl (.inl rfl) rfl) (de_v 1 rfl (.inl rfl) rfl) (de_v 2 rfl (.inl rfl) rfl) ⟨i, k, p, rfl, g, rfl⟩) ?_)
  exact ds_retD (c1 (ok_rate_of G T) hr rfl (c3a (ok_waves_of_heel G T) hr rfl (de_v 0 rfl (.inl rfl) rfl) (de_v 1 rfl (.inl rfl) rfl) (de_v 2 rfl (.inl rfl) rfl) ⟨i, k, p, rfl, si, sa, g.hk, rfl⟩) ⟨_, _, k, rfl, inferInstance, inferInstance, g.hk, rfl⟩) hP
theorem ok_righting_magnet : Fn P w K mg base "righting_magnet" 9 ["iron", "place", "heading"] r_mag := by
  refine fn_ok' T.d_righting_magnet sc_righting_magnet b_righting_magnet (fun ds p q h ⟨x, y, z, e, h1, r⟩ => ⟨x, y, z, e, h1, h _ r⟩) (fun ds p ⟨x, y, z, e, r⟩ => by rw [e]; rfl) fun f cdv A outer s H E M ds Pd hr ⟨i, k, p, e, g, hP⟩ => ?_
  subst e
  refine DS.at (δ' := [some i.d_, some (pr p.H p.Z), some (pr p.c p.s)]) ?_ rfl
  refine ds_expr (DE.we (c3a (ok_check_ship G T) hr rfl (de_v 0 rfl (.inl rfl) rfl) (de_v 1 rfl (.inl rfl) rfl) (de_v 2 rfl (.inl rfl) rfl) ⟨i, k, p, rfl, g, rfl⟩) ?_)
  exact ds_retD (c3a (ok_magnet_of G T) hr rfl (de_v 0 rfl (.inl rfl) rfl) (de_v 1 rfl (.inl rfl) rfl) (de_v 2 rfl (.inl rfl) rfl) ⟨i, k, p, rfl, g, rfl⟩) hP
end
end Ir
/-! ## IrZ -/
namespace Ir
structure Rw where
  (x y z k : Rat)
def Rw.d_ (r : Rw) : D := .tup [fr r.x, fr r.y, fr r.z, fr r.k]
/-- a row in a ship that heels -/
def Rw.turn (r : Rw) (p q : Rat) : Rw := ⟨r.x, p * r.y + -q * r.z, q * r.y + p * r.z, r.k⟩
/-- a row times n -/
def Rw.by (r : Rw) (n : Rat) : Rw := ⟨r.x * n, r.y * n, r.z * n, r.k * n⟩
def Rw.plus (r t : Rw) (n : Rat) : Rw := ⟨r.x + t.x * n, r.y + t.y * n, r.z + t.z * n, r.k + t.k * n⟩
def I12.r1 (i : I12) : Rw := ⟨i.a, i.b, i.c, i.P⟩
def I12.r2 (i : I12) : Rw := ⟨i.d, i.e, i.f, i.Q⟩
def I12.r3 (i : I12) : Rw := ⟨i.g, i.j, i.k, i.R⟩
def lean1 (i : I12) (p q : Rat) : Rw := i.r1.turn p q
def lean2 (i : I12) (p q : Rat) : Rw := ((i.r2.turn p q).by p).plus (i.r3.turn p q) (-q)
def lean3 (i : I12) (p q : Rat) : Rw := ((i.r2.turn p q).by q).plus (i.r3.turn p q) p
/-- what a row makes of a field -/
def Rw.make (r : Rw) (f x y z : Rat) : Rat := f + r.k + r.x * x + r.y * y + r.z * z
def foreR (i : I12) (a : At) (p q : Rat) : Rat := (lean1 i p q).make (a.H * a.c) (a.H * a.c) (-(a.H * a.s)) a.Z
def asideR (i : I12) (a : At) (p q : Rat) : Rat := (lean2 i p q).make (-(a.H * a.s)) (a.H * a.c) (-(a.H * a.s)) a.Z
def partN (i : I12) (a : At) (p q : Rat) : Rat := a.c * foreR i a p q - a.s * asideR i a p q
def partE (i : I12) (a : At) (p q : Rat) : Rat := a.s * foreR i a p q + a.c * asideR i a p q
/-- the wave by its worths at five heels -/
def wave5 (here south e0 e1 slant : Rat) : W5 :=
  let k1 := (here - south) / 2
  let k2 := (e0 - e1) / 2
  let high := (here + south) / 2
  let low := (e0 + e1) / 2
  let k0 := (high + low) / 2
  let k3 := (high - low) / 2
  ⟨k0, k1, k2, k3, (slant - (k0 + k1 * (3 / 5) + k2 * (4 / 5) + k3 * (3 / 5 * (3 / 5) - 4 / 5 * (4 / 5)) + 0 * (2 * (3 / 5 * (4 / 5))))) / (24 / 25)⟩
theorem wave5_of (k0 k1 k2 k3 k4 : Rat) : wave5 (k0 + k1 + k3) (k0 - k1 + k3) (k0 + k2 - k3) (k0 - k2 - k3) (k0 + k1 * (3 / 5) + k2 * (4 / 5) + k3 * (-7 / 25) + k4 * (24 / 25)) = ⟨k0, k1, k2, k3, k4⟩ := by
  simp only [wave5, W5.mk.injEq]
  refine ⟨?_, ?_, ?_, ?_, ?_⟩ <;> grind
theorem partN_at (i : I12) (a : At) (p q : Rat) (h : p * p + q * q = 1) : partN i a p q = (north i a).k0 + (north i a).k1 * p + (north i a).k2 * q + (north i a).k3 * (p * p - q * q) + (north i a).k4 * (2 * p * q) := by
  simp only [partN, foreR, asideR, lean1, lean2, Rw.make, Rw.turn, Rw.by, Rw.plus, I12.r1, I12.r2, I12.r3, north, W5.plus, W5.nil, ahead, right, firstR, secondR, thirdR]
  grind
theorem partE_at (i : I12) (a : At) (p q : Rat) (h : p * p + q * q = 1) : partE i a p q = (east i a).k0 + (east i a).k1 * p + (east i a).k2 * q + (east i a).k3 * (p * p - q * q) + (east i a).k4 * (2 * p * q) := by
  simp only [partE, foreR, asideR, lean1, lean2, Rw.make, Rw.turn, Rw.by, Rw.plus, I12.r1, I12.r2, I12.r3, east, W5.plus, W5.nil, ahead, right, firstR, secondR, thirdR]
  grind
end Ir
/-! ## IrL1 -/
namespace Ir
open PySem.Spec PySem L2 PyProof.Rows
def totv : Rat → List Rat → Rat
  | a, [] => a
  | a, q :: qs => totv (a + q) qs
def TotC : Rat → List Rat → Prop
  | _, [] => True
  | a, q :: qs => C2 a q ∧ TotC (a + q) qs
theorem totv_at : ∀ {qs : List Rat} {a : Rat} {n : Nat} {q : Rat}, qs[n]? = some q → totv a (qs.take (n + 1)) = totv a (qs.take n) + q
  | [], a, n, p, h => by simp at h
  | q :: ps, a, 0, p, h => by
    have e : q = p := Option.some.inj h
    subst e
    rfl
  | q :: ps, a, n + 1, p, h => totv_at (qs := ps) (n := n) h
theorem totC_at : ∀ {qs : List Rat} {a : Rat} {n : Nat} {q : Rat}, TotC a qs → qs[n]? = some q → C2 (totv a (qs.take n)) q
  | [], a, n, p, _, h => by simp at h
  | q :: ps, a, 0, p, c, h => by
    have e : q = p := Option.some.inj h
    subst e
    exact c.1
  | q :: ps, a, n + 1, p, c, h => totC_at (qs := ps) (n := n) c.2 h
def r_tot : Rsp := fun ds P => ∃ qs : List Rat, ds = [.lst (qs.map fr)] ∧ TotC 0 qs ∧ P (fr (totv 0 qs))
section
variable {X : Cx} {M : List Addr} {e : Expr} {δ : Ev} {x a : Str} {pp pos : Pos} {k n : Nat} {q1 q2 q3 q4 q5 : Rat} {n1 n2 n3 n4 n5 : Nat}
theorem c_tot3 (F : Fn X.prog X.w X.K X.mg X.base x k [a] r_tot) (hr : Room n X.A) (hg : Gl X x) (ha : DE X M e δ (.lst [fr q1, fr q2, fr q3])) [Sz q1 n1] [Sz q2 n2] [Sz q3 n3] (hl : n1 + n2 + n3 ≤ 8900 := by first | decide | omega) (hk : k ≤ n := by decide) (hdb : (x == ("__debug__" : Str)) = false := by decide)
    (he : starEach [e] X.env = (false, eval e X.env) :: starEach [] X.env := by rfl) (hpl : (backTo pos (starEach [] X.env)).any (·.1) = false := by rfl) : DE X M (.Call (.Name x pp) [e] [] pos) δ (fr (q1 + q2 + q3)) :=
  c1 F hr hg ha ⟨[q1, q2, q3], rfl, ⟨c2, c2, c2, True.intro⟩, congrArg fr (show 0 + q1 + q2 + q3 = _ by rw [Rat.zero_add])⟩ hk hdb he hpl
theorem c_tot5 (F : Fn X.prog X.w X.K X.mg X.base x k [a] r_tot) (hr : Room n X.A) (hg : Gl X x) (ha : DE X M e δ (.lst [fr q1, fr q2, fr q3, fr q4, fr q5])) [Sz q1 n1] [Sz q2 n2] [Sz q3 n3] [Sz q4 n4] [Sz q5 n5] (hl : n1 + n2 + n3 + n4 + n5 ≤ 8900 := by first | decide | omega) (hk : k ≤ n := by decide) (hdb : (x == ("__debug__" : Str)) = false := by decide)
    (he : starEach [e] X.env = (false, eval e X.env) :: starEach [] X.env := by rfl) (hpl : (backTo pos (starEach [] X.env)).any (·.1) = false := by rfl) : DE X M (.Call (.Name x pp) [e] [] pos) δ (fr (q1 + q2 + q3 + q4 + q5)) :=
  c1 F hr hg ha ⟨[q1, q2, q3, q4, q5], rfl, ⟨c2, c2, c2, c2, c2, True.intro⟩, congrArg fr (show 0 + q1 + q2 + q3 + q4 + q5 = _ by rw [Rat.zero_add])⟩ hk hdb he hpl
end
theorem neg_fr (q : Rat) : D.tup [.int (0 - q.num), .int (q.den : Int)] = fr (-q) := by
  unfold fr
  rw [Rat.neg_num, Rat.neg_den, Int.zero_sub]
/-- the sizes of a row -/
class SzR (r : Rw) : Prop where
  x : Sz r.x 34
  y : Sz r.y 34
  z : Sz r.z 34
  k : Sz r.k 34
instance {r : Rw} [h : SzR r] : Sz r.x 34 := h.x
instance {r : Rw} [h : SzR r] : Sz r.y 34 := h.y
instance {r : Rw} [h : SzR r] : Sz r.z 34 := h.z
instance {r : Rw} [h : SzR r] : Sz r.k 34 := h.k
def r_by : Rsp := fun ds P => ∃ (r : Rw) (n : Rat), ds = [r.d_, fr n] ∧ SzR r ∧ Sz n 3 ∧ P (r.by n).d_
def r_rplus : Rsp := fun ds P => ∃ (r t : Rw) (n : Rat), ds = [r.d_, t.d_, fr n] ∧ SzR r ∧ SzR t ∧ Sz n 3 ∧ P (r.plus t n).d_
/-- the cosine and the sine of a half -/
def hcos (u : Rat) : Rat := Rat.divInt ((u.den : Int) * u.den - u.num * u.num) ((u.den : Int) * u.den + u.num * u.num)
def hsin (u : Rat) : Rat := Rat.divInt (2 * u.num * u.den) ((u.den : Int) * u.den + u.num * u.num)
def Hv (half : D) (p q : Rat) : Prop := (half = .non ∧ p = -1 ∧ q = 0) ∨ ∃ u, half = fr u ∧ Sz u 10 ∧ p = hcos u ∧ q = hsin u
def r_hof : Rsp := fun ds P => ∃ (half : D) (p q : Rat), ds = [half] ∧ Hv half p q ∧ P (pr p q)
theorem hden {u : Rat} : 0 < (u.den : Int) * u.den + u.num * u.num := by
  have h1 : 0 < (u.den : Int) := Int.natCast_pos.mpr u.den_pos
  have h2 : 0 < (u.den : Int) * u.den := Int.mul_pos h1 h1
  have h3 : 0 ≤ u.num * u.num := by
    rcases Int.le_total 0 u.num with h | h
    · exact Int.mul_nonneg h h
    · have := Int.mul_nonneg (Int.neg_nonneg_of_nonpos h) (Int.neg_nonneg_of_nonpos h)
      rwa [Int.neg_mul_neg] at this
  omega
section
variable {P : Program} {w : World} {K : PySem.W.Frag} {mg : Str → Option Value} {base : Heap} (G : Gs K mg) (T : Ds K mg)
include G T
theorem ok__law_total : Fn P w K mg base "_law_total" 4 ["_law_some"] r_tot := by
  refine fn_ok' T.d__law_total sc__law_total b__law_total (fun ds p q h ⟨ps, e, h1, r⟩ => ⟨ps, e, h1, h _ r⟩) (fun ds p ⟨ps, e, r⟩ => by rw [e]; rfl) fun f cdv A outer s H E M ds Pd hr ⟨qs, e, hc, hP⟩ => ?_
  subst e
  refine DS.at (δ' := [some (.lst (qs.map fr)), none, none]) ?_ rfl
  refine ds_setD 1 sc__law_total.nd rfl (.inl rfl) (de_lit (q := 0) (de_tup (da_cons de_int (da_cons de_int da_nil)))) ?_
  refine ds_forL (ds := qs.map fr) (fun n => [some (.lst (qs.map fr)), some (fr (totv 0 (qs.take n))), none]) (fun n => [some (.lst (qs.map fr)), some (fr (totv 0 (qs.take n))), qs[n]?.map fr])
    PassesOwn.never rfl (de_v 0 rfl (.inl rfl) rfl) (Less.refl _) (fun H1 n d hd => ?_) ?_
  · rw [List.getElem?_map] at hd
    cases hp : qs[n]? with
    | none => rw [hp] at hd; cases hd
    | some q =>
      rw [hp] at hd
      cases hd
      refine ⟨gt_name 2 sc__law_total.nd rfl (.inl rfl), ?_⟩
      refine ds_setD 1 sc__law_total.nd rfl (.inl rfl) (c2a (ok__law_add G T) hr rfl (de_v 1 rfl (.inl rfl) rfl) (de_v 2 rfl (.inl rfl) rfl) ⟨_, _, rfl, totC_at hc hp, rfl⟩) ?_
      refine ds_nil ?_
      rw [totv_at hp]
      exact .cons (.inl rfl) (.cons (.inl rfl) (.cons (.inr rfl) (Less.refl _)))
  · refine ds_retD (de_v 1 rfl (.inl rfl) rfl) ?_
    rw [(List.length_map _), List.take_length]
    exact hP
theorem ok__law_rows_sum : Fn P w K mg base "_law_rows_sum" 4 ["_law_one", "_law_two", "_law_by"] r_rplus := by
  refine fn_ok' T.d__law_rows_sum sc__law_rows_sum b__law_rows_sum (fun ds p q h ⟨x, y, z, e, h1, h2, h3, r⟩ => ⟨x, y, z, e, h1, h2, h3, h _ r⟩) (fun ds p ⟨x, y, z, e, r⟩ => by rw [e]; rfl) fun f cdv A outer s H E M ds Pd hr ⟨r, t, n, e, h1, h2, h3, hP⟩ => ?_
  subst e
  refine DS.at (δ' := [some r.d_, some t.d_, some (fr n), none, none]) ?_ rfl
  refine ds_retD (d := (r.plus t n).d_) (de_tupleL rfl G.tuple (de_lc (own := [("_law_here", 3), ("_law_there", 4)]) (g := gTup K 2 (gCons (gName 3) (gCons (gName 4) gNil))) rfl sc__law_rows_sum.nd (RZ.pi_zipA rfl G.zip pA) (blkOk_by (N := n__law_rows_sum) (sc := defScope s__law_rows_sum) (by decide +kernel))
    (fun _ _ _ _ _ => pg_tup rfl (pgs_cons (pg_name sc__law_rows_sum.nd rfl (.inl rfl)) (pgs_cons (pg_name sc__law_rows_sum.nd rfl (.inl rfl)) pgs_nil)))
    (lc_Z (as := [fr r.x, fr r.y, fr r.z, fr r.k]) (bs := [fr t.x, fr t.y, fr t.z, fr t.k])
      (fun m => [some r.d_, some t.d_, some (fr n), some (fr (match m with | 0 => r.x | 1 => r.y | 2 => r.z | _ => r.k)), some (fr (match m with | 0 => t.x | 1 => t.y | 2 => t.z | _ => t.k))])
      (da_cons (de_v 0 rfl (.inl rfl) rfl) (da_cons (de_v 1 rfl (.inl rfl) rfl) da_nil)) (fun z hz => ?_) rfl rfl (Nat.le_of_ble_eq_true rfl) rfl (fun m a b y ha hb hy => ?_)))) hP
  · cases hz with
    | head => rfl
    | tail _ h => cases h with
      | head => rfl
      | tail _ h => cases h
  · match m, ha, hb, hy with
    | 0, ha, hb, hy =>
      cases ha; cases hb; cases hy
      exact ⟨gd_pair (.head _) (.tail _ (.head _)), fun s1 H1 C cl fp => c_op (ok__law_add G T) hr rfl (de_v 3 rfl (.inl rfl) rfl) (c_op (ok__law_mul G T) hr rfl (de_v 4 rfl (.inl rfl) rfl) (de_v 2 rfl (.inr (.inl rfl)) rfl))⟩
    | 1, ha, hb, hy =>
      cases ha; cases hb; cases hy
      exact ⟨gd_pair (.head _) (.tail _ (.head _)), fun s1 H1 C cl fp => c_op (ok__law_add G T) hr rfl (de_v 3 rfl (.inl rfl) rfl) (c_op (ok__law_mul G T) hr rfl (de_v 4 rfl (.inl rfl) rfl) (de_v 2 rfl (.inr (.inl rfl)) rfl))⟩
    | 2, ha, hb, hy =>
      cases ha; cases hb; cases hy
      exact ⟨gd_pair (.head _) (.tail _ (.head _)), fun s1 H1 C cl fp => c_op (ok__law_add G T) hr rfl (de_v 3 rfl (.inl rfl) rfl) (c_op (ok__law_mul G T) hr rfl (de_v 4 rfl (.inl rfl) rfl) (de_v 2 rfl (.inr (.inl rfl)) rfl))⟩
    | 3, ha, hb, hy =>
      cases ha; cases hb; cases hy
      exact ⟨gd_pair (.head _) (.tail _ (.head _)), fun s1 H1 C cl fp => c_op (ok__law_add G T) hr rfl (de_v 3 rfl (.inl rfl) rfl) (c_op (ok__law_mul G T) hr rfl (de_v 4 rfl (.inl rfl) rfl) (de_v 2 rfl (.inr (.inl rfl)) rfl))⟩
    | m + 4, ha, hb, hy => cases ha
theorem ok__law_scaled : Fn P w K mg base "_law_scaled" 4 ["_law_row", "_law_by"] r_by := by
  refine fn_ok' T.d__law_scaled sc__law_scaled b__law_scaled (fun ds p q h ⟨x, z, e, h1, h3, r⟩ => ⟨x, z, e, h1, h3, h _ r⟩) (fun ds p ⟨x, z, e, r⟩ => by rw [e]; rfl) fun f cdv A outer s H E M ds Pd hr ⟨r, n, e, h1, h3, hP⟩ => ?_
  subst e
  refine DS.at (δ' := [some r.d_, some (fr n), none]) ?_ rfl
  refine ds_retD (d := (r.by n).d_) (de_tupleL rfl G.tuple (de_lc (own := [("_law_each", 2)]) (g := gName 2) rfl sc__law_scaled.nd (pi_tup pE) (blkOk_by (N := n__law_scaled) (sc := defScope s__law_scaled) (by decide +kernel)) (fun _ _ _ _ _ => pg_name sc__law_scaled.nd rfl (.inl rfl))
    (lc_T (ds := [fr r.x, fr r.y, fr r.z, fr r.k]) (fun m => [some r.d_, some (fr n), some (fr (match m with | 0 => r.x | 1 => r.y | 2 => r.z | _ => r.k))])
      (de_v 0 rfl (.inl rfl) rfl) (fun z hz => ?_) rfl (Nat.le_of_ble_eq_true rfl) rfl (fun m a y ha hy => ?_)))) hP
  · cases hz with
    | head => rfl
    | tail _ h => cases h
  · match m, ha, hy with
    | 0, ha, hy =>
      cases ha; cases hy
      exact ⟨gd_name (.head _), fun s1 H1 C cl fp => c_op (ok__law_mul G T) hr rfl (de_v 2 rfl (.inl rfl) rfl) (de_v 1 rfl (.inr (.inl rfl)) rfl)⟩
    | 1, ha, hy =>
      cases ha; cases hy
      exact ⟨gd_name (.head _), fun s1 H1 C cl fp => c_op (ok__law_mul G T) hr rfl (de_v 2 rfl (.inl rfl) rfl) (de_v 1 rfl (.inr (.inl rfl)) rfl)⟩
    | 2, ha, hy =>
      cases ha; cases hy
      exact ⟨gd_name (.head _), fun s1 H1 C cl fp => c_op (ok__law_mul G T) hr rfl (de_v 2 rfl (.inl rfl) rfl) (de_v 1 rfl (.inr (.inl rfl)) rfl)⟩
    | 3, ha, hy =>
      cases ha; cases hy
      exact ⟨gd_name (.head _), fun s1 H1 C cl fp => c_op (ok__law_mul G T) hr rfl (de_v 2 rfl (.inl rfl) rfl) (de_v 1 rfl (.inr (.inl rfl)) rfl)⟩
    | m + 4, ha, hy => cases ha
theorem ok__law_heading_of : Fn P w K mg base "_law_heading_of" 3 ["_law_half_here"] r_hof := by
  refine fn_ok' T.d__law_heading_of sc__law_heading_of b__law_heading_of (fun ds p q h ⟨x, y, z, e, h1, r⟩ => ⟨x, y, z, e, h1, h _ r⟩) (fun ds p ⟨x, y, z, e, r⟩ => by rw [e]; rfl) fun f cdv A outer s H E M ds Pd hr ⟨half, p, q, e, hv, hP⟩ => ?_
  subst e
  rcases hv with ⟨rfl, rfl, rfl⟩ | ⟨u, rfl, hu, rfl, rfl⟩
  · refine DS.at (δ' := [some .non, none, none]) ?_ rfl
    exact ds_ifT (dt_isN (de_v 0 rfl (.inl rfl) rfl)) rfl (ds_retD (de_tup (da_cons (de_lit (q := -1) (de_tup (da_cons (de_neg de_int) (da_cons de_int da_nil)))) (da_cons (de_lit (q := 0) (de_tup (da_cons de_int (da_cons de_int da_nil)))) da_nil))) hP)
  · refine DS.at (δ' := [some (fr u), none, none]) ?_ rfl
    refine ds_ifF (dt_isN (de_v 0 rfl (.inl rfl) rfl)) rfl ?_
    refine ds_asgD (de_v 0 rfl (.inl rfl) rfl) (gt_tup rfl (gts_cons (gt_name 1 sc__law_heading_of.nd rfl (.inl rfl)) (gts_cons (gt_name 2 sc__law_heading_of.nd rfl (.inl rfl)) gts_nil))) ?_
    refine DS.at (δ' := [some (fr u), some (.int u.num), some (.int (u.den : Int))]) ?_ rfl
    have n1 := hu.ok.1
    have n2 : ((u.den : Nat) : Int).natAbs < 2 ^ 10 := by rw [Int.natAbs_natCast]; exact hu.ok.2
    have m1 : CMulW (u.den : Int) u.den := wide_mul n2 n2 (by decide) (by decide) (by decide)
    have m2 : CMulW u.num u.num := wide_mul n1 n1 (by decide) (by decide) (by decide)
    have m3 : CMulW 2 u.num := wide_mul (a := 2) (by decide) n1 (by decide) (by decide) (by decide)
    have m4 : CMulW (2 * u.num) u.den := wide_mul (lt_mulI (m := 2) (by decide) n1) n2 (by decide) (by decide) (by decide)
    have b1 := lt_addI (lt_mulI n2 n2) (lt_mulI n1 n1)
    have b2 : ((u.den : Int) * u.den + u.num * u.num).natAbs < 2 ^ 9000 := lt_up b1 (by decide)
    have b0 : (u.den : Int) * u.den + u.num * u.num ≠ 0 := Int.ne_of_gt hden
    exact ds_retD (de_tup (da_cons (c2a (ok__law_frac G T) hr rfl (de_sub (de_mul (de_v 2 rfl (.inl rfl) rfl) (de_v 2 rfl (.inl rfl) rfl) m1) (de_mul (de_v 1 rfl (.inl rfl) rfl) (de_v 1 rfl (.inl rfl) rfl) m2)) (de_add (de_mul (de_v 2 rfl (.inl rfl) rfl) (de_v 2 rfl (.inl rfl) rfl) m1) (de_mul (de_v 1 rfl (.inl rfl) rfl) (de_v 1 rfl (.inl rfl) rfl) m2)) ⟨_, _, rfl, b0, b2, rfl⟩)
      (da_cons (c2a (ok__law_frac G T) hr rfl (de_mul (de_mul de_int (de_v 1 rfl (.inl rfl) rfl) m3) (de_v 2 rfl (.inl rfl) rfl) m4) (de_add (de_mul (de_v 2 rfl (.inl rfl) rfl) (de_v 2 rfl (.inl rfl) rfl) m1) (de_mul (de_v 1 rfl (.inl rfl) rfl) (de_v 1 rfl (.inl rfl) rfl) m2)) ⟨_, _, rfl, b0, b2, rfl⟩) da_nil))) hP
end
end Ir
/-! ## IrX -/
namespace Ir
open PySem.Spec PySem L2 PyProof.Rows
section
variable {X : Cx} {M : List Addr} {e e2 e3 : Expr} {es : List Expr} {δ : Ev} {H0 : Hp} {rest body : List Stmt} {N : Ev → Prop} {R : D → Prop}
theorem fresh0 {H1 : Hp} {q : Addr} (g : Good M H0 H1) (ok : Ok M H1) (hq : H1 q = none) : H0 q = none := by
  cases z : H0 q with
  | none => rfl
  | some o =>
    have := g.1 q o (ok.free hq) z
    rw [hq] at this; cases this
theorem Rep.apart {K : PySem.W.Frag} {H : Hp} {q p : Addr} {ds : List D} {v : V} (hq : H q = none) (r : Rep K M H (.own p ds) v) : p ≠ q := fun z => by
  obtain ⟨_, _, xs, s, _⟩ := r.own
  rw [z, hq] at s; cases s
/-- x, y = a, [] -/
theorem ds_parN {i j : Nat} {x y : Str} {px py pt pos p2 : Pos} {kt k2 : Nat} {pt2 : Pos} {d : D} (hc : X.calm = true) (hN : X.N.Nodup) (hi : X.N[i]? = some x) (hj : X.N[j]? = some y) (hij : i ≠ j) (hx : X.env.scope.names.lookup x = some .local) (hy : X.env.scope.names.lookup y = some .local)
    (h : DE X M e δ d) (h2 : ∀ q, H0 q = none → DS X M H0 rest ((δ.set i (some d)).set j (some (.own q []))) N R) (hw : swappedStores [.Tuple [.Name x px, .Name y py] kt pt] (.Tuple [e, .List [] p2] k2 pt2) X.env = pure (some [x, y]) := by rfl)
    (hs : swapsWithSole [.Tuple [.Name x px, .Name y py] kt pt] (.Tuple [e, .List [] p2] k2 pt2) pos.line X.env = pure false := by rfl)
    (h3 : starEach [e, .List [] p2] X.env = (false, eval e X.env) :: starEach [.List [] p2] X.env := by rfl) (h4 : starEach [.List [] p2] X.env = (false, eval (.List [] p2) X.env) :: starEach [] X.env := by rfl) : DS X M H0 (.Assign [.Tuple [.Name x px, .Name y py] kt pt] (.Tuple [e, .List [] p2] k2 pt2) pos :: rest) δ N R := by
  intro σ H E g ok en fn fr
  refine toS (pss_cons (ps_par hc hN hi hj hij hx hy (pa_cons pE (pa_cons (pe_lst pa_nil) pa_nil h4) h3) hw hs) pS) (h.go ok en fun d' v H1 p1 g1 k1 en1 r1 => ⟨Nat.zero_le _, fun q hq => ⟨v, .ref q, rfl, ?_⟩⟩)
  subst p1
  have gn : Good M H1 (upd H1 q (.lst [])) := Good.new k1 hq
  have g2 := g.trans g1
  exact h2 q (fresh0 g2 k1 hq) _ _ E (g2.trans gn) gn.ok (((en1.good k1 gn).set (Rep.good k1 gn _ _ r1)).set (rOwn (k1.free hq) upd_same Reps.nil)) (fun δ' σ' H' n g3 t3 => fn δ' σ' H' n g3 (((g1.trans gn).keepT ok).trans t3)) fr
/-- x, y, z = a, [], [] -/
theorem ds_par3N {i j l : Nat} {x y z : Str} {px py pz pt pos p2 p3 : Pos} {kt k2 : Nat} {pt2 : Pos} {d : D} (hc : X.calm = true) (hN : X.N.Nodup) (hi : X.N[i]? = some x) (hj : X.N[j]? = some y) (hl : X.N[l]? = some z) (hij : i ≠ j) (hil : i ≠ l) (hjl : j ≠ l)
    (hx : X.env.scope.names.lookup x = some .local) (hy : X.env.scope.names.lookup y = some .local) (hz : X.env.scope.names.lookup z = some .local)
    (h : DE X M e δ d) (h2 : ∀ q t, H0 q = none → (∀ (m : Nat) (p : Addr) (ds : List D), δ[m]? = some (some (.own p ds)) → p ≠ q) → DS X M H0 rest (((δ.set i (some d)).set j (some (.own q []))).set l (some (.own t []))) N R)
    (hw : swappedStores [.Tuple [.Name x px, .Name y py, .Name z pz] kt pt] (.Tuple [e, .List [] p2, .List [] p3] k2 pt2) X.env = pure (some [x, y, z]) := by rfl)
    (hs : swapsWithSole [.Tuple [.Name x px, .Name y py, .Name z pz] kt pt] (.Tuple [e, .List [] p2, .List [] p3] k2 pt2) pos.line X.env = pure false := by rfl)
    (h3 : starEach [e, .List [] p2, .List [] p3] X.env = (false, eval e X.env) :: starEach [.List [] p2, .List [] p3] X.env := by rfl) (h4 : starEach [.List [] p2, .List [] p3] X.env = (false, eval (.List [] p2) X.env) :: starEach [.List [] p3] X.env := by rfl)
    (h5 : starEach [.List [] p3] X.env = (false, eval (.List [] p3) X.env) :: starEach [] X.env := by rfl) : DS X M H0 (.Assign [.Tuple [.Name x px, .Name y py, .Name z pz] kt pt] (.Tuple [e, .List [] p2, .List [] p3] k2 pt2) pos :: rest) δ N R := by
  intro σ H E g ok en fn fr
  refine toS (pss_cons (ps_par3 hc hN hi hj hl hij hil hjl hx hy hz (pa_cons pE (pa_cons (pe_lst pa_nil) (pa_cons (pe_lst pa_nil) pa_nil h5) h4) h3) hw hs) pS) (h.go ok en fun d' v H1 p1 g1 k1 en1 r1 => ⟨Nat.zero_le _, fun q hq => ⟨Nat.zero_le _, fun t ht => ⟨v, .ref q, .ref t, rfl, ?_⟩⟩⟩)
  subst p1
  have gn : Good M H1 (upd H1 q (.lst [])) := Good.new k1 hq
  have gt : Good M (upd H1 q (.lst [])) (upd (upd H1 q (.lst [])) t (.lst [])) := Good.new gn.ok ht
  have g2 := g.trans g1
  have gg := gn.trans gt
  have rq : Rep X.K M (upd H1 q (.lst [])) (.own q []) (.ref q) := rOwn (k1.free hq) upd_same Reps.nil
  refine h2 q t (fresh0 g2 k1 hq) (fun m p ds e => ?_) _ _ E (g2.trans gg) gg.ok ((((en1.good k1 gg).set (Rep.good k1 gg _ _ r1)).set (Rep.good gn.ok gt _ _ rq)).set (rOwn (gn.ok.free ht) upd_same Reps.nil)) (fun δ' σ' H' n g3 t3 => fn δ' σ' H' n g3 (((g1.trans gg).keepT ok).trans t3)) fr
  obtain ⟨v, _, r⟩ := en1.2 m _ e
  exact Rep.apart hq r

theorem pe_kw0 {CX : CXT} {k : Nat} {f : Addr} {fd : FuncData} {ps ks : List Str} {sp : Sp} {Er : XK} {x : Str} {p pos : Pos} {kws : List Keyword} {tk : TA} {g : List Value → List Value → List Value} {gV : List V → List V → List V} (F : FnOk X.prog X.w X.K X.mg X.base CX k f fd ps sp) (hr : Room k X.A) (hg : Gl X x) (hm : X.mg x = some (.ref f)) (hk : PySem.W.keepIn X.K (.ref f) = true)
    (hb : KBn X.K fd ps 0 ks g gV) (hx : Passes CX X Er) (hkw : PK X kws tk) (hall : (backToKw pos (keywordEach kws X.env)).all (·.1.isSome) = true := by rfl) (hks : (backToKw pos (keywordEach kws X.env)).filterMap (·.1) = ks := by rfl) (hdb : (x == ("__debug__" : Str)) = false := by decide)
    (hpl : ((backTo pos (starEach [] X.env)).any (·.1) || (backToKw pos (keywordEach kws X.env)).any (·.1.isNone)) = false := by rfl) : PE X (.Call (.Name x p) [] kws pos) (tCallN 0 ks.length sp gV Er tNil tk) := by
  constructor
  intro pins s σ H Q I h
  refine (wpAny_Call_Name_kw (ld_glob I hg hm ?_ hdb))
  refine PySem.W.callWith_KW0 (h₀ := X.base) I.ok.mod.kin hk hall ?_ hpl
  refine thn (hkw.run pos pins s σ H _ I h) fun ws s2 hq => ?_
  obtain ⟨zs, H2, I2, rz, l1, l2, q2⟩ := hq
  refine ⟨I2.kIn, ?_⟩
  rw [hks]
  exact run_fnN (us := []) (vs := []) F hr hb hx I2 .nil rz l1 l2 q2
/-- f(heading = a, place = b, iron = c) of def f(iron, place, heading) -/
theorem c_kw3 {R : Rsp} {x a b c : Str} {pp pos q1 q2 q3 : Pos} {k n : Nat} {d1 d2 d3 r : D} (F : Fn X.prog X.w X.K X.mg X.base x k [a, b, c] R)
    (hkb : ∀ (f : Addr) (fd : FuncData), X.mg x = some (.ref f) → Binds X.K fd [a, b, c] [] → KBn X.K fd [a, b, c] 0 [c, b, a] (fun _ ws => match ws with | [u3, u2, u1] => [u1, u2, u3] | _ => ws) (fun _ ws => match ws with | [u3, u2, u1] => [u1, u2, u3] | _ => ws))
    (hr : Room n X.A) (hg : Gl X x) (hc : DE X M e δ d3) (hb : DE X M e2 δ d2) (ha : DE X M e3 δ d1) (hR : R [d1, d2, d3] fun z => z = r) (hk : k ≤ n := by decide) (hdb : (x == ("__debug__" : Str)) = false := by decide)
    (hall : (backToKw pos (keywordEach [⟨some c, e, q1⟩, ⟨some b, e2, q2⟩, ⟨some a, e3, q3⟩] X.env)).all (·.1.isSome) = true := by rfl) (hks : (backToKw pos (keywordEach [⟨some c, e, q1⟩, ⟨some b, e2, q2⟩, ⟨some a, e3, q3⟩] X.env)).filterMap (·.1) = [c, b, a] := by rfl)
    (hpl : ((backTo pos (starEach [] X.env)).any (·.1) || (backToKw pos (keywordEach [⟨some c, e, q1⟩, ⟨some b, e2, q2⟩, ⟨some a, e3, q3⟩] X.env)).any (·.1.isNone)) = false := by rfl) : DE X M (.Call (.Name x pp) [] [⟨some c, e, q1⟩, ⟨some b, e2, q2⟩, ⟨some a, e3, q3⟩] pos) δ r := by
  intro σ H Q ok en f
  obtain ⟨g, fd, F1, gm, kp, bd⟩ := F.ok
  refine toE (pe_kw0 F1 (hr.mono hk) hg gm kp (hkb g fd gm bd) pass0 (pk_cons pE (pk_cons pE (pk_cons pE pk_nil))) hall hks hdb hpl) (hc.go ok en fun z3 v3 H1 e1 g1 k1 en1 r1 => hb.go k1 en1 fun z2 v2 H2 e2 g2 k2 en2 r2 => ha.go k2 en2 fun z1 v1 H3 e3 g3 k3 en3 r3 => ⟨rfl, rfl, ?_⟩)
  subst e1 e2 e3
  refine ⟨M, [z1, z2, z3], k3, Reps.cons r3 (Reps.cons (Rep.good k2 g3 _ _ r2) (Reps.one (Rep.good k1 (g2.trans g3) _ _ r1))), F.mono _ _ _ (fun d hp v H4 g4 r4 => f d v H4 hp ((g1.trans (g2.trans g3)).trans g4) r4) hR⟩
end
end Ir
/-! ## IrL2 -/
namespace Ir
open PySem.Spec PySem L2 PyProof.Rows
section
variable {X : Cx} {M : List Addr} {e e2 : Expr} {es : List Expr} {δ : Ev}
/-- over a zip of two tuples, the second one the shorter -/
theorem lc_Zs {elt : Expr} {scope : Scope} {g : TG} {vs : List Nat} {as bs ys : List D} (Et : Nat → Ev) (hx : DA X M [e, e2] δ [.tup as, .tup bs]) (hw : ∀ i ∈ vs, δ[i]? = some none) (hab : bs.length ≤ as.length) (hl : ys.length = bs.length) (hl2 : ys.length ≤ 1000) (lf : D.lfs ys = true)
    (turn : ∀ (i : Nat) (a b y : D), as[i]? = some a → bs[i]? = some b → ys[i]? = some y → GD X.K M vs g (.tup [a, b]) δ (Et i) ∧ ∀ (s : Shared) (H1 : Hp) (C : Addr) (cl : List (Str × Addr)) (fp : List Addr), DE (X.blk s H1 scope (compEnvC scope cl C X.env) fp) M elt (Et i) y) :
    LC X M (RZ.iZipA X.K (tA X [e, e2])) g (tEb X scope elt) vs δ ys := by
  intro σ H Q ok en f
  refine hx.go ok en fun d v H1 p1 g1 k1 en1 r1 => ?_
  subst p1
  obtain ⟨v1, v2, ev, q1, q2⟩ := Reps.two_ r1
  obtain ⟨a, xs, e1, s1, r2⟩ := q1.tup
  obtain ⟨b, zs, e3, s2, r3⟩ := q2.tup
  refine ⟨a, b, xs, zs, by rw [ev, e1, e3], .inr ⟨s1, s2, fun Dl hD => ?_⟩⟩
  have gD : Good M H1 (upd H1 Dl (.lst [])) := Good.new k1 hD
  have n1 : Dl ∉ M := k1.free hD
  have lx := r2.len
  have lz := r3.len
  refine ⟨fun i m H' => m = zs.length - i ∧ i ≤ zs.length ∧ Good M H1 H' ∧ ∃ acc, H' Dl = some (.lst acc) ∧ Reps X.K M H' (ys.take i) acc, ⟨_, rfl, Nat.zero_le _, gD, [], upd_same, Reps.nil⟩, ?_⟩
  rintro i m H' ⟨rfl, hi, q1, acc, q2, q3⟩
  by_cases hlt : i < zs.length
  · have ha : as[i]? = some as[i] := List.getElem?_eq_getElem (by omega)
    have hb : bs[i]? = some bs[i] := List.getElem?_eq_getElem (by omega)
    have hy : ys[i]? = some ys[i] := List.getElem?_eq_getElem (by omega)
    obtain ⟨x, hx2, rx⟩ := r2.get ha
    obtain ⟨z, hz2, rz⟩ := r3.get hb
    refine .inr ⟨⟨xs, zs, x, z, SqT.good k1 q1 s1, SqT.good k1 q1 s2, hx2, hz2⟩, fun H' => Good M H1 H' ∧ ∃ acc, H' Dl = some (.lst acc) ∧ Reps X.K M H' (ys.take (i + 1)) acc, fun H' q => ⟨zs.length - (i + 1), by omega, rfl, hlt, q⟩, fun v H3 hv => ?_⟩
    obtain ⟨T, x', z', rfl, hT, rfl, f1, f2⟩ := hv
    have ex : x' = x := Option.some.inj ((f1 _ (SqT.good k1 q1 s1)).symm.trans hx2)
    have ez : z' = z := Option.some.inj ((f2 _ (SqT.good k1 q1 s2)).symm.trans hz2)
    subst ex ez
    obtain ⟨gT, rT⟩ := new_tup q1.ok hT (Reps.cons (Rep.good k1 q1 _ _ rx) (Reps.one (Rep.good k1 q1 _ _ rz)))
    obtain ⟨gd, te⟩ := turn i _ _ _ ha hb hy
    have q1' := q1.trans gT
    refine gd _ _ _ _ gT.ok ((en1.good k1 q1').wipe vs hw) rT fun σ' en' hw' => ⟨by rw [hw', wipe_wipe], fun s0 Hb C cl fp => ?_⟩
    refine te s0 Hb C cl fp σ' _ _ gT.ok en' fun y v H4 py g4 ry => ?_
    subst py
    have g5 := gT.trans g4
    exact lc_put hD k1 (q1.trans g5) (g5.1 _ _ n1 q2) (Reps.good q1.ok g5 _ _ q3) lf hy ry hl2
  · refine .inl ⟨⟨xs, zs, SqT.good k1 q1 s1, SqT.good k1 q1 s2, .inr (by omega)⟩, ?_⟩
    refine f _ H' (g1.trans q1) (rLst n1 q2 ?_)
    have e3 : ys.take i = ys := List.take_of_length_le (by omega)
    rw [e3] at q3
    exact q3
variable {H0 : Hp} {rest : List Stmt} {N : Ev → Prop} {R : D → Prop}
/-- x.append(e), where later on fewer slots are spoken of -/
theorem ds_appendL (i : Nat) {δ2 : Ev} {x : Str} {px pa pc pos : Pos} {q : Addr} {ds : List D} {d : D} (hb : PE X (.Call (.Attribute (.Name x px) "append" pa) [e] [] pc) (tBM X.K "list" rAppend (tVar i) (tCons (tE X e) tNil))) (hd : δ[i]? = some (some (.own q ds))) (hd2 : δ2[i]? = some (some (.own q ds))) (hless : Less δ δ2) (h0 : H0 q = none) (hl : ds.length ≤ 900) (lf : D.lfs ds = true) (h : DE X M e δ d) (ld : d.lf = true)
    (off : ∀ (j : Nat) (c : D), j ≠ i → δ2[j]? = some (some c) → c.off q) (h2 : DS X M H0 rest (δ2.set i (some (.own q (ds ++ [d])))) N R)
    (hs : swapsWith (.Call (.Attribute (.Name x px) "append" pa) [e] [] pc) none pos.line X.env = pure false := by rfl) :
    DS X M H0 (.Expr (.Call (.Attribute (.Name x px) "append" pa) [e] [] pc) pos :: rest) δ N R := by
  intro σ H E g ok en fn fr
  obtain ⟨v, e1, r⟩ := en.2 i _ hd
  obtain ⟨ev, nq, xs, s, r1⟩ := r.own
  refine toS (pss_cons (ps_expr hb hs) pS) ⟨v, e1, ?_⟩
  subst ev
  refine ⟨.inl ⟨rfl, _, .inl (.inl s)⟩, h.go ok en fun d' y H1 p1 g1 k1 en1 r2 => ?_⟩
  subst p1
  have s1 : H1 q = some (.lst xs) := g1.1 _ _ nq s
  have r3 := Reps.good ok g1 ds xs r1
  refine ⟨q, xs, y, rfl, rfl, s1, ?_, ?_⟩
  · rw [r1.len]
    exact small1000 (Nat.le_trans hl (by decide))
  · have t : KeepT H1 (upd H1 q (.lst (xs ++ [y]))) := KeepT.write s1
    have kq : Ok M (upd H1 q (.lst (xs ++ [y]))) := fun p hp => by
      obtain ⟨l1, l2, l3, z⟩ := k1 p hp
      exact ⟨l1, l2, l3, by rw [upd_ne (fun w => nq (by rw [← w]; exact hp))]; exact z⟩
    have g2 : Good M H0 (upd H1 q (.lst (xs ++ [y]))) := ⟨fun b o hb e => by
      rw [upd_ne (ne_of_none e h0)]
      exact (g.trans g1).1 b o hb e, kq⟩
    have en2 := en1.less hless
    refine h2 σ _ E g2 kq ⟨by rw [List.length_set]; exact en2.1, fun j c hj => ?_⟩ (fun δ' σ' H' n g2 t2 => fn δ' σ' H' n g2 (((g1.keepT ok).trans t).trans t2)) fr
    by_cases hji : i = j
    · subst hji
      have hlt : i < δ2.length := (List.getElem?_eq_some_iff.mp hd2).1
      rw [List.getElem?_set_self hlt] at hj
      have ec : D.own q (ds ++ [d']) = c := Option.some.inj (Option.some.inj hj)
      subst ec
      refine ⟨_, e1, rOwn nq upd_same ?_⟩
      exact (Reps.keepT t ds xs lf r3).append (Reps.one (Rep.keepT t _ y ld r2))
    · rw [List.getElem?_set_ne hji] at hj
      obtain ⟨w, e2, r4⟩ := en2.2 j c hj
      exact ⟨w, e2, Rep.off s1 (off j c (fun z => hji z.symm) hj) r4⟩
end
def r_worth : Rsp := fun ds P => ∃ (w : W5) (c s : Rat), ds = [w.d_, pr c s] ∧ (Sz w.k0 2300 ∧ Sz w.k1 1150 ∧ Sz w.k2 1150 ∧ Sz w.k3 2300 ∧ Sz w.k4 1) ∧ Sz c 3 ∧ Sz s 3 ∧ P (fr (w.k0 + w.k1 * c + w.k2 * s + w.k3 * (c * c - s * s) + w.k4 * (2 * (c * s))))
def r_lean : Rsp := fun ds P => ∃ (i : I12) (half : D) (p q : Rat), ds = [i.d_, half] ∧ SzI i 3 ∧ Hv half p q ∧ Sz p 3 ∧ Sz q 3 ∧ P (.tup [(lean1 i p q).d_, (lean2 i p q).d_, (lean3 i p q).d_])
def r_fld : Rsp := fun ds P => ∃ (a b c : Rw) (x y z : Rat), ds = [.tup [a.d_, b.d_, c.d_], .tup [fr x, fr y, fr z]] ∧ SzR a ∧ SzR b ∧ SzR c ∧ Sz x 16 ∧ Sz y 16 ∧ Sz z 7 ∧ P (.lst [fr (a.make x x y z), fr (b.make y x y z), fr (c.make z x y z)])
theorem lf_row (r : Rw) : r.d_.lf = true := by
  unfold Rw.d_
  simp [D.lf, D.lfs, lf_fr]
theorem szr_turn {r : Rw} {p q : Rat} [Sz r.x 3] [Sz r.y 3] [Sz r.z 3] [Sz r.k 3] [Sz p 3] [Sz q 3] : SzR (r.turn p q) := by
  refine ⟨?_, ?_, ?_, ?_⟩
  · show Sz r.x 34
    exact Sz.mono inferInstance (by decide)
  · show Sz (p * r.y + -q * r.z) 34
    exact Sz.mono inferInstance (by decide)
  · show Sz (q * r.y + p * r.z) 34
    exact Sz.mono inferInstance (by decide)
  · show Sz r.k 34
    exact Sz.mono inferInstance (by decide)
theorem szr_by {r : Rw} {p q n : Rat} [Sz r.x 3] [Sz r.y 3] [Sz r.z 3] [Sz r.k 3] [Sz p 3] [Sz q 3] [Sz n 3] : SzR ((r.turn p q).by n) := by
  refine ⟨?_, ?_, ?_, ?_⟩
  · show Sz (r.x * n) 34
    exact Sz.mono inferInstance (by decide)
  · show Sz ((p * r.y + -q * r.z) * n) 34
    exact Sz.mono inferInstance (by decide)
  · show Sz ((q * r.y + p * r.z) * n) 34
    exact Sz.mono inferInstance (by decide)
  · show Sz (r.k * n) 34
    exact Sz.mono inferInstance (by decide)
theorem szr_plus {r t : Rw} {p q n m : Rat} [Sz r.x 3] [Sz r.y 3] [Sz r.z 3] [Sz r.k 3] [Sz t.x 3] [Sz t.y 3] [Sz t.z 3] [Sz t.k 3] [Sz p 3] [Sz q 3] [Sz n 3] [Sz m 3] : SzR (((r.turn p q).by n).plus (t.turn p q) m) := by
  refine ⟨?_, ?_, ?_, ?_⟩
  · show Sz (r.x * n + t.x * m) 34
    exact Sz.mono inferInstance (by decide)
  · show Sz ((p * r.y + -q * r.z) * n + (p * t.y + -q * t.z) * m) 34
    exact Sz.mono inferInstance (by decide)
  · show Sz ((q * r.y + p * r.z) * n + (q * t.y + p * t.z) * m) 34
    exact Sz.mono inferInstance (by decide)
  · show Sz (r.k * n + t.k * m) 34
    exact Sz.mono inferInstance (by decide)
section
variable {i : I12} {k : Nat}
instance [h : SzI i k] : Sz i.r1.x 3 := h.a_
instance [h : SzI i k] : Sz i.r1.y 3 := h.b_
instance [h : SzI i k] : Sz i.r1.z 3 := h.c_
instance [h : SzI i k] : Sz i.r1.k 3 := h.P_
instance [h : SzI i k] : Sz i.r2.x 3 := h.d_
instance [h : SzI i k] : Sz i.r2.y 3 := h.e_
instance [h : SzI i k] : Sz i.r2.z 3 := h.f_
instance [h : SzI i k] : Sz i.r2.k 3 := h.Q_
instance [h : SzI i k] : Sz i.r3.x 3 := h.g_
instance [h : SzI i k] : Sz i.r3.y 3 := h.j_
instance [h : SzI i k] : Sz i.r3.z 3 := h.k_
instance [h : SzI i 3] : Sz i.r3.k 3 := h.R_
end
theorem Hv.off {half : D} {p q : Rat} {Q : Addr} (h : Hv half p q) : half.off Q := by
  rcases h with ⟨rfl, _, _⟩ | ⟨u, rfl, _⟩
  · rfl
  · rfl
section
variable {P : Program} {w : World} {K : PySem.W.Frag} {mg : Str → Option Value} {base : Heap} (G : Gs K mg) (T : Ds K mg)
include G T
theorem ok__law_worth : Fn P w K mg base "_law_worth" 5 ["_law_wave", "_law_point"] r_worth := by
  refine fn_ok' T.d__law_worth sc__law_worth b__law_worth (fun ds p q h ⟨x, y, z, e, h1, h2, h3, r⟩ => ⟨x, y, z, e, h1, h2, h3, h _ r⟩) (fun ds p ⟨x, y, z, e, r⟩ => by rw [e]; rfl) fun f cdv A outer s H E M ds Pd hr ⟨w, c, s, e, ⟨h0, h1, h2, h3, h4⟩, hc, hs, hP⟩ => ?_
  subst e
  refine DS.at (δ' := [some w.d_, some (pr c s), none, none, none, none, none]) ?_ rfl
  refine ds_asgD (de_v 1 rfl (.inl rfl) rfl) (gt_tup rfl (gts_cons (gt_name 2 sc__law_worth.nd rfl (.inl rfl)) (gts_cons (gt_name 3 sc__law_worth.nd rfl (.inl rfl)) gts_nil))) ?_
  refine DS.at (δ' := [_, _, _, _, _, _, _]) ?_ rfl
  refine ds_setD 4 sc__law_worth.nd rfl (.inl rfl) (c_op (ok__law_sub G T) hr rfl (c_op (ok__law_mul G T) hr rfl (de_v 2 rfl (.inl rfl) rfl) (de_v 2 rfl (.inl rfl) rfl)) (c_op (ok__law_mul G T) hr rfl (de_v 3 rfl (.inl rfl) rfl) (de_v 3 rfl (.inl rfl) rfl))) ?_
  refine DS.at (δ' := [_, _, _, _, _, _, _]) ?_ rfl
  refine ds_setD 5 sc__law_worth.nd rfl (.inl rfl) (c_op (ok__law_mul G T) hr rfl (de_lit (q := 2) (de_tup (da_cons de_int (da_cons de_int da_nil)))) (c_op (ok__law_mul G T) hr rfl (de_v 2 rfl (.inl rfl) rfl) (de_v 3 rfl (.inl rfl) rfl))) ?_
  refine DS.at (δ' := [_, _, _, _, _, _, _]) ?_ rfl
  refine ds_setD 6 sc__law_worth.nd rfl (.inl rfl) (de_lst (da_cons (de_ixT (fun _ _ => rfl) (de_v 0 rfl (.inl rfl) rfl) de_int rfl) (da_cons (c_op (ok__law_mul G T) hr rfl (de_ixT (fun _ _ => rfl) (de_v 0 rfl (.inl rfl) rfl) de_int rfl) (de_v 2 rfl (.inl rfl) rfl)) (da_cons (c_op (ok__law_mul G T) hr rfl (de_ixT (fun _ _ => rfl) (de_v 0 rfl (.inl rfl) rfl) de_int rfl) (de_v 3 rfl (.inl rfl) rfl)) (da_cons (c_op (ok__law_mul G T) hr rfl (de_ixT (fun _ _ => rfl) (de_v 0 rfl (.inl rfl) rfl) de_int rfl) (de_v 4 rfl (.inl rfl) rfl)) (da_cons (c_op (ok__law_mul G T) hr rfl (de_ixT (fun _ _ => rfl) (de_v 0 rfl (.inl rfl) rfl) de_int rfl) (de_v 5 rfl (.inl rfl) rfl)) da_nil)))))) ?_
  refine DS.at (δ' := [_, _, _, _, _, _, _]) ?_ rfl
  refine ds_retD (c_tot5 (ok__law_total G T) hr rfl (de_v 6 rfl (.inl rfl) rfl)) hP
theorem ok__law_leaned : Fn P w K mg base "_law_leaned" 5 ["_law_iron_here", "_law_half_here"] r_lean := by
  refine fn_ok' T.d__law_leaned sc__law_leaned b__law_leaned (fun ds p q h ⟨x, y, z, u, e, h1, h2, h3, h4, r⟩ => ⟨x, y, z, u, e, h1, h2, h3, h4, h _ r⟩) (fun ds p ⟨x, y, z, u, e, r⟩ => by rw [e]; rfl) fun f cdv A outer s H E M ds Pd hr ⟨i, half, p, q, e, hi, hv, hp, hq, hP⟩ => ?_
  subst e
  refine DS.at (δ' := [some i.d_, some half, none, none, none, none, none, none, none, none, none]) ?_ rfl
  refine ds_asgD (c1 (ok__law_heading_of G T) hr rfl (de_v 1 rfl (.inl rfl) rfl) ⟨half, p, q, rfl, hv, rfl⟩) (gt_tup rfl (gts_cons (gt_name 2 sc__law_leaned.nd rfl (.inl rfl)) (gts_cons (gt_name 3 sc__law_leaned.nd rfl (.inl rfl)) gts_nil))) ?_
  refine DS.at (δ' := [some i.d_, some half, some (fr p), some (fr q), none, none, none, none, none, none, none]) ?_ rfl
  refine ds_parN (i := 4) (j := 5) rfl sc__law_leaned.nd rfl rfl (by decide) rfl rfl (DE.eq (de_tup (da_cons (de_sub de_int (de_ixT (fun _ _ => rfl) (de_v 3 rfl (.inl rfl) rfl) de_int rfl)) (da_cons (de_ixT (fun _ _ => rfl) (de_v 3 rfl (.inl rfl) rfl) de_int rfl) da_nil))) (neg_fr _)) (fun Q h0 => ?_)
  refine DS.at (δ' := [some i.d_, some half, some (fr p), some (fr q), some (fr (-q)), some (.own Q []), none, none, none, none, none]) ?_ rfl
  refine ds_forT (ds := [i.r1.d_, i.r2.d_, i.r3.d_]) (fun n => [some i.d_, some half, some (fr p), some (fr q), some (fr (-q)), some (.own Q (match n with | 0 => [] | 1 => [(i.r1.turn p q).d_] | 2 => [(i.r1.turn p q).d_, (i.r2.turn p q).d_] | _ => [(i.r1.turn p q).d_, (i.r2.turn p q).d_, (i.r3.turn p q).d_])), none, none, none, none, none])
    (fun n => [some i.d_, some half, some (fr p), some (fr q), some (fr (-q)), some (.own Q (match n with | 0 => [] | 1 => [(i.r1.turn p q).d_] | 2 => [(i.r1.turn p q).d_, (i.r2.turn p q).d_] | _ => [(i.r1.turn p q).d_, (i.r2.turn p q).d_, (i.r3.turn p q).d_])), some (fr (match n with | 0 => i.a | 1 => i.d | _ => i.g)), some (fr (match n with | 0 => i.b | 1 => i.e | _ => i.j)), some (fr (match n with | 0 => i.c | 1 => i.f | _ => i.k)), some (fr (match n with | 0 => i.P | 1 => i.Q | _ => i.R)), none])
    PassesOwn.never rfl (de_v 0 rfl (.inl rfl) rfl) (by simp [D.lfs, lf_row]) (Less.refl _) (fun n d hd => ?_) ?_
  · match n, hd with
    | 0, hd =>
      cases hd
      refine ⟨gt_tup rfl (gts_cons (gt_name 6 sc__law_leaned.nd rfl (.inl rfl)) (gts_cons (gt_name 7 sc__law_leaned.nd rfl (.inl rfl)) (gts_cons (gt_name 8 sc__law_leaned.nd rfl (.inl rfl)) (gts_cons (gt_name 9 sc__law_leaned.nd rfl (.inl rfl)) gts_nil)))), ?_⟩
      refine DS.at (δ' := [some i.d_, some half, some (fr p), some (fr q), some (fr (-q)), some (.own Q []), some (fr i.a), some (fr i.b), some (fr i.c), some (fr i.P), none]) ?_ rfl
      refine ds_append 5 (pe_bm PySem.F.plainAttrs_list PySem.F.slot_list_append PySem.F.type_list_append mt_append (pv 5) (pa_cons pE pa_nil)) rfl h0 (Nat.le_of_ble_eq_true rfl) (by simp [D.lfs, lf_row]) (d := (i.r1.turn p q).d_) (DE.eq (de_tup (da_cons (de_v 6 rfl (.inl rfl) rfl) (da_cons (c_op (ok__law_add G T) hr rfl (c_op (ok__law_mul G T) hr rfl (de_v 2 rfl (.inl rfl) rfl) (de_v 7 rfl (.inl rfl) rfl)) (c_op (ok__law_mul G T) hr rfl (de_v 4 rfl (.inl rfl) rfl) (de_v 8 rfl (.inl rfl) rfl))) (da_cons (c_op (ok__law_add G T) hr rfl (c_op (ok__law_mul G T) hr rfl (de_v 3 rfl (.inl rfl) rfl) (de_v 7 rfl (.inl rfl) rfl)) (c_op (ok__law_mul G T) hr rfl (de_v 2 rfl (.inl rfl) rfl) (de_v 8 rfl (.inl rfl) rfl))) (da_cons (de_v 9 rfl (.inl rfl) rfl) da_nil))))) rfl) (lf_row _) (fun j c hj hc => ?_) ?_
      · match j, hj, hc with
        | 0, _, hc => cases hc; rfl
        | 1, _, hc => cases hc; exact hv.off
        | 2, _, hc => cases hc; rfl
        | 3, _, hc => cases hc; rfl
        | 4, _, hc => cases hc; rfl
        | 5, hj, _ => exact absurd rfl hj
        | 6, _, hc => cases hc; rfl
        | 7, _, hc => cases hc; rfl
        | 8, _, hc => cases hc; rfl
        | 9, _, hc => cases hc; rfl
        | 10, _, hc => cases hc
        | j + 11, _, hc => cases hc
      · exact ds_nil (.cons (.inl rfl) (.cons (.inl rfl) (.cons (.inl rfl) (.cons (.inl rfl) (.cons (.inl rfl) (.cons (.inl rfl) (.cons (.inr rfl) (.cons (.inr rfl) (.cons (.inr rfl) (.cons (.inr rfl) (Less.refl _)))))))))))
    | 1, hd =>
      cases hd
      refine ⟨gt_tup rfl (gts_cons (gt_name 6 sc__law_leaned.nd rfl (.inl rfl)) (gts_cons (gt_name 7 sc__law_leaned.nd rfl (.inl rfl)) (gts_cons (gt_name 8 sc__law_leaned.nd rfl (.inl rfl)) (gts_cons (gt_name 9 sc__law_leaned.nd rfl (.inl rfl)) gts_nil)))), ?_⟩
      refine DS.at (δ' := [some i.d_, some half, some (fr p), some (fr q), some (fr (-q)), some (.own Q [(i.r1.turn p q).d_]), some (fr i.d), some (fr i.e), some (fr i.f), some (fr i.Q), none]) ?_ rfl
      refine ds_append 5 (pe_bm PySem.F.plainAttrs_list PySem.F.slot_list_append PySem.F.type_list_append mt_append (pv 5) (pa_cons pE pa_nil)) rfl h0 (Nat.le_of_ble_eq_true rfl) (by simp [D.lfs, lf_row]) (d := (i.r2.turn p q).d_) (DE.eq (de_tup (da_cons (de_v 6 rfl (.inl rfl) rfl) (da_cons (c_op (ok__law_add G T) hr rfl (c_op (ok__law_mul G T) hr rfl (de_v 2 rfl (.inl rfl) rfl) (de_v 7 rfl (.inl rfl) rfl)) (c_op (ok__law_mul G T) hr rfl (de_v 4 rfl (.inl rfl) rfl) (de_v 8 rfl (.inl rfl) rfl))) (da_cons (c_op (ok__law_add G T) hr rfl (c_op (ok__law_mul G T) hr rfl (de_v 3 rfl (.inl rfl) rfl) (de_v 7 rfl (.inl rfl) rfl)) (c_op (ok__law_mul G T) hr rfl (de_v 2 rfl (.inl rfl) rfl) (de_v 8 rfl (.inl rfl) rfl))) (da_cons (de_v 9 rfl (.inl rfl) rfl) da_nil))))) rfl) (lf_row _) (fun j c hj hc => ?_) ?_
      · match j, hj, hc with
        | 0, _, hc => cases hc; rfl
        | 1, _, hc => cases hc; exact hv.off
        | 2, _, hc => cases hc; rfl
        | 3, _, hc => cases hc; rfl
        | 4, _, hc => cases hc; rfl
        | 5, hj, _ => exact absurd rfl hj
        | 6, _, hc => cases hc; rfl
        | 7, _, hc => cases hc; rfl
        | 8, _, hc => cases hc; rfl
        | 9, _, hc => cases hc; rfl
        | 10, _, hc => cases hc
        | j + 11, _, hc => cases hc
      · exact ds_nil (.cons (.inl rfl) (.cons (.inl rfl) (.cons (.inl rfl) (.cons (.inl rfl) (.cons (.inl rfl) (.cons (.inl rfl) (.cons (.inr rfl) (.cons (.inr rfl) (.cons (.inr rfl) (.cons (.inr rfl) (Less.refl _)))))))))))
    | 2, hd =>
      cases hd
      refine ⟨gt_tup rfl (gts_cons (gt_name 6 sc__law_leaned.nd rfl (.inl rfl)) (gts_cons (gt_name 7 sc__law_leaned.nd rfl (.inl rfl)) (gts_cons (gt_name 8 sc__law_leaned.nd rfl (.inl rfl)) (gts_cons (gt_name 9 sc__law_leaned.nd rfl (.inl rfl)) gts_nil)))), ?_⟩
      refine DS.at (δ' := [some i.d_, some half, some (fr p), some (fr q), some (fr (-q)), some (.own Q [(i.r1.turn p q).d_, (i.r2.turn p q).d_]), some (fr i.g), some (fr i.j), some (fr i.k), some (fr i.R), none]) ?_ rfl
      refine ds_append 5 (pe_bm PySem.F.plainAttrs_list PySem.F.slot_list_append PySem.F.type_list_append mt_append (pv 5) (pa_cons pE pa_nil)) rfl h0 (Nat.le_of_ble_eq_true rfl) (by simp [D.lfs, lf_row]) (d := (i.r3.turn p q).d_) (DE.eq (de_tup (da_cons (de_v 6 rfl (.inl rfl) rfl) (da_cons (c_op (ok__law_add G T) hr rfl (c_op (ok__law_mul G T) hr rfl (de_v 2 rfl (.inl rfl) rfl) (de_v 7 rfl (.inl rfl) rfl)) (c_op (ok__law_mul G T) hr rfl (de_v 4 rfl (.inl rfl) rfl) (de_v 8 rfl (.inl rfl) rfl))) (da_cons (c_op (ok__law_add G T) hr rfl (c_op (ok__law_mul G T) hr rfl (de_v 3 rfl (.inl rfl) rfl) (de_v 7 rfl (.inl rfl) rfl)) (c_op (ok__law_mul G T) hr rfl (de_v 2 rfl (.inl rfl) rfl) (de_v 8 rfl (.inl rfl) rfl))) (da_cons (de_v 9 rfl (.inl rfl) rfl) da_nil))))) rfl) (lf_row _) (fun j c hj hc => ?_) ?_
      · match j, hj, hc with
        | 0, _, hc => cases hc; rfl
        | 1, _, hc => cases hc; exact hv.off
        | 2, _, hc => cases hc; rfl
        | 3, _, hc => cases hc; rfl
        | 4, _, hc => cases hc; rfl
        | 5, hj, _ => exact absurd rfl hj
        | 6, _, hc => cases hc; rfl
        | 7, _, hc => cases hc; rfl
        | 8, _, hc => cases hc; rfl
        | 9, _, hc => cases hc; rfl
        | 10, _, hc => cases hc
        | j + 11, _, hc => cases hc
      · exact ds_nil (.cons (.inl rfl) (.cons (.inl rfl) (.cons (.inl rfl) (.cons (.inl rfl) (.cons (.inl rfl) (.cons (.inl rfl) (.cons (.inr rfl) (.cons (.inr rfl) (.cons (.inr rfl) (.cons (.inr rfl) (Less.refl _)))))))))))
    | n + 3, hd => cases hd
  · refine DS.at (δ' := [some i.d_, some half, some (fr p), some (fr q), some (fr (-q)), some (.own Q [(i.r1.turn p q).d_, (i.r2.turn p q).d_, (i.r3.turn p q).d_]), none, none, none, none, none]) ?_ rfl
    have t2 : SzR (i.r2.turn p q) := szr_turn
    have t3 : SzR (i.r3.turn p q) := szr_turn
    have b2 : SzR ((i.r2.turn p q).by p) := szr_by
    have b3 : SzR ((i.r2.turn p q).by q) := szr_by
    refine ds_setD 10 sc__law_leaned.nd rfl (.inl rfl) (d := (lean2 i p q).d_) (c3a (ok__law_rows_sum G T) hr rfl (c2a (ok__law_scaled G T) hr rfl (de_ixL (fun _ _ => rfl) (de_vo 5 rfl (.inl rfl) rfl) de_int rfl) (de_v 2 rfl (.inl rfl) rfl) ⟨i.r2.turn p q, p, rfl, t2, hp, rfl⟩) (de_ixL (fun _ _ => rfl) (de_vo 5 rfl (.inl rfl) rfl) de_int rfl) (de_v 4 rfl (.inl rfl) rfl) ⟨(i.r2.turn p q).by p, i.r3.turn p q, -q, rfl, b2, t3, inferInstance, rfl⟩) ?_
    refine DS.at (δ' := [_, _, _, _, _, _, _, _, _, _, some (lean2 i p q).d_]) ?_ rfl
    exact ds_retD (de_tup (da_cons (de_ixL (fun _ _ => rfl) (de_vo 5 rfl (.inl rfl) rfl) de_int rfl) (da_cons (de_v 10 rfl (.inl rfl) rfl) (da_cons (c3a (ok__law_rows_sum G T) hr rfl (c2a (ok__law_scaled G T) hr rfl (de_ixL (fun _ _ => rfl) (de_vo 5 rfl (.inl rfl) rfl) de_int rfl) (de_v 3 rfl (.inl rfl) rfl) ⟨i.r2.turn p q, q, rfl, t2, hq, rfl⟩) (de_ixL (fun _ _ => rfl) (de_vo 5 rfl (.inl rfl) rfl) de_int rfl) (de_v 2 rfl (.inl rfl) rfl) ⟨(i.r2.turn p q).by q, i.r3.turn p q, p, rfl, b3, t3, hp, rfl⟩) da_nil)))) hP
theorem ok__law_field : Fn P w K mg base "_law_field" 5 ["_law_iron_here", "_law_field_here"] r_fld := by
  refine fn_ok' T.d__law_field sc__law_field b__law_field (fun ds p q h ⟨a, b, c, x, y, z, e, h1, h2, h3, h4, h5, h6, r⟩ => ⟨a, b, c, x, y, z, e, h1, h2, h3, h4, h5, h6, h _ r⟩) (fun ds p ⟨a, b, c, x, y, z, e, r⟩ => by rw [e]; rfl) fun f cdv A outer s H E M ds Pd hr ⟨a, b, c, x, y, z, e, ha, hb, hc, hx, hy, hz, hP⟩ => ?_
  subst e
  refine DS.at (δ' := [some (.tup [a.d_, b.d_, c.d_]), some (.tup [fr x, fr y, fr z]), none, none, none, none, none]) ?_ rfl
  refine ds_new 2 sc__law_field.nd rfl (.inl rfl) fun Q h0 _ => ?_
  refine DS.at (δ' := [some (.tup [a.d_, b.d_, c.d_]), some (.tup [fr x, fr y, fr z]), some (.own Q []), none, none, none, none]) ?_ rfl
  refine ds_forR (n := 3) (fun n => [some (.tup [a.d_, b.d_, c.d_]), some (.tup [fr x, fr y, fr z]), some (.own Q (match n with | 0 => [] | 1 => [fr (a.make x x y z)] | 2 => [fr (a.make x x y z), fr (b.make y x y z)] | _ => [fr (a.make x x y z), fr (b.make y x y z), fr (c.make z x y z)])), none, none, none, none])
    (fun n => [some (.tup [a.d_, b.d_, c.d_]), some (.tup [fr x, fr y, fr z]), some (.own Q (match n with | 0 => [] | 1 => [fr (a.make x x y z)] | 2 => [fr (a.make x x y z), fr (b.make y x y z)] | _ => [fr (a.make x x y z), fr (b.make y x y z), fr (c.make z x y z)])), some (.int (n : Nat)), none, none, none])
    PassesOwn.never rfl rfl G.range de_int (by decide) (Less.refl _) (fun n hn => ?_) ?_
  · match n, hn with
    | 0, hn =>
      refine ⟨gt_name 3 sc__law_field.nd rfl (.inl rfl), ?_⟩
      refine DS.at (δ' := [some (.tup [a.d_, b.d_, c.d_]), some (.tup [fr x, fr y, fr z]), some (.own Q []), some (.int 0), none, none, none]) ?_ rfl
      refine ds_setLc 4 (own := [("_law_here", 5), ("_law_there", 6)]) (ys := [fr (a.x * x), fr (a.y * y), fr (a.z * z)]) (g := gTup K 2 (gCons (gName 5) (gCons (gName 6) gNil))) rfl sc__law_field.nd rfl rfl rfl (RZ.pi_zipA rfl G.zip pA) (blkOk_by (N := n__law_field) (sc := defScope s__law_field) (by decide +kernel))
        (fun _ _ _ _ _ => pg_tup rfl (pgs_cons (pg_name sc__law_field.nd rfl (.inl rfl)) (pgs_cons (pg_name sc__law_field.nd rfl (.inl rfl)) pgs_nil)))
        (lc_Zs (as := [fr a.x, fr a.y, fr a.z, fr a.k]) (bs := [fr x, fr y, fr z]) (fun m => [some (.tup [a.d_, b.d_, c.d_]), some (.tup [fr x, fr y, fr z]), some (.own Q []), some (.int 0), none, some (fr (match m with | 0 => a.x | 1 => a.y | _ => a.z)), some (fr (match m with | 0 => x | 1 => y | _ => z))])
          (da_cons (de_ixT (fun _ _ => rfl) (de_v 0 rfl (.inl rfl) rfl) (de_v 3 rfl (.inl rfl) rfl) rfl) (da_cons (de_v 1 rfl (.inl rfl) rfl) da_nil)) (fun v hv => ?_) (Nat.le_of_ble_eq_true rfl) rfl (Nat.le_of_ble_eq_true rfl) rfl (fun m a1 b1 y1 h1 h2 h3 => ?_)) ?_
      · cases hv with
        | head => rfl
        | tail _ h => cases h with
          | head => rfl
          | tail _ h => cases h
      · match m, h1, h2, h3 with
        | 0, h1, h2, h3 =>
          cases h1; cases h2; cases h3
          exact ⟨gd_pair (.head _) (.tail _ (.head _)), fun s1 H1 C cl fp => c_op (ok__law_mul G T) hr rfl (de_v 5 rfl (.inl rfl) rfl) (de_v 6 rfl (.inl rfl) rfl)⟩
        | 1, h1, h2, h3 =>
          cases h1; cases h2; cases h3
          exact ⟨gd_pair (.head _) (.tail _ (.head _)), fun s1 H1 C cl fp => c_op (ok__law_mul G T) hr rfl (de_v 5 rfl (.inl rfl) rfl) (de_v 6 rfl (.inl rfl) rfl)⟩
        | 2, h1, h2, h3 =>
          cases h1; cases h2; cases h3
          exact ⟨gd_pair (.head _) (.tail _ (.head _)), fun s1 H1 C cl fp => c_op (ok__law_mul G T) hr rfl (de_v 5 rfl (.inl rfl) rfl) (de_v 6 rfl (.inl rfl) rfl)⟩
        | m + 3, h1, h2, h3 => cases h2
      · refine DS.at (δ' := [some (.tup [a.d_, b.d_, c.d_]), some (.tup [fr x, fr y, fr z]), some (.own Q []), some (.int 0), some (.lst [fr (a.x * x), fr (a.y * y), fr (a.z * z)]), none, none]) ?_ rfl
        refine ds_appendL 2 (δ2 := [some (.tup [a.d_, b.d_, c.d_]), some (.tup [fr x, fr y, fr z]), some (.own Q []), some (.int 0), none, none, none]) (pe_bm PySem.F.plainAttrs_list PySem.F.slot_list_append PySem.F.type_list_append mt_append (pv 2) (pa_cons pE pa_nil)) rfl rfl (.cons (.inl rfl) (.cons (.inl rfl) (.cons (.inl rfl) (.cons (.inl rfl) (.cons (.inr rfl) (Less.refl _)))))) h0 (Nat.le_of_ble_eq_true rfl) (by simp [D.lfs, lf_fr]) (d := fr (a.make x x y z))
          (c_tot5 (ok__law_total G T) hr rfl (DE.eq (de_catL (de_lst (da_cons (de_ixT (fun _ _ => rfl) (de_v 1 rfl (.inl rfl) rfl) (de_v 3 rfl (.inl rfl) rfl) rfl) (da_cons (de_ixT (fun _ _ => rfl) (de_ixT (fun _ _ => rfl) (de_v 0 rfl (.inl rfl) rfl) (de_v 3 rfl (.inl rfl) rfl) rfl) de_int rfl) da_nil))) (de_v 4 rfl (.inl rfl) rfl)) rfl)) (lf_fr _) (fun j c hj hc => ?_) ?_
        · match j, hj, hc with
          | 0, _, hc => cases hc; rfl
          | 1, _, hc => cases hc; rfl
          | 2, hj, _ => exact absurd rfl hj
          | 3, _, hc => cases hc; rfl
          | 4, _, hc => cases hc
          | 5, _, hc => cases hc
          | 6, _, hc => cases hc
          | j + 7, _, hc => cases hc
        · exact ds_nil (.cons (.inl rfl) (.cons (.inl rfl) (.cons (.inl rfl) (.cons (.inr rfl) (Less.refl _)))))
    | 1, hn =>
      refine ⟨gt_name 3 sc__law_field.nd rfl (.inl rfl), ?_⟩
      refine DS.at (δ' := [some (.tup [a.d_, b.d_, c.d_]), some (.tup [fr x, fr y, fr z]), some (.own Q [fr (a.make x x y z)]), some (.int 1), none, none, none]) ?_ rfl
      refine ds_setLc 4 (own := [("_law_here", 5), ("_law_there", 6)]) (ys := [fr (b.x * x), fr (b.y * y), fr (b.z * z)]) (g := gTup K 2 (gCons (gName 5) (gCons (gName 6) gNil))) rfl sc__law_field.nd rfl rfl rfl (RZ.pi_zipA rfl G.zip pA) (blkOk_by (N := n__law_field) (sc := defScope s__law_field) (by decide +kernel))
        (fun _ _ _ _ _ => pg_tup rfl (pgs_cons (pg_name sc__law_field.nd rfl (.inl rfl)) (pgs_cons (pg_name sc__law_field.nd rfl (.inl rfl)) pgs_nil)))
        (lc_Zs (as := [fr b.x, fr b.y, fr b.z, fr b.k]) (bs := [fr x, fr y, fr z]) (fun m => [some (.tup [a.d_, b.d_, c.d_]), some (.tup [fr x, fr y, fr z]), some (.own Q [fr (a.make x x y z)]), some (.int 1), none, some (fr (match m with | 0 => b.x | 1 => b.y | _ => b.z)), some (fr (match m with | 0 => x | 1 => y | _ => z))])
          (da_cons (de_ixT (fun _ _ => rfl) (de_v 0 rfl (.inl rfl) rfl) (de_v 3 rfl (.inl rfl) rfl) rfl) (da_cons (de_v 1 rfl (.inl rfl) rfl) da_nil)) (fun v hv => ?_) (Nat.le_of_ble_eq_true rfl) rfl (Nat.le_of_ble_eq_true rfl) rfl (fun m a1 b1 y1 h1 h2 h3 => ?_)) ?_
      · cases hv with
        | head => rfl
        | tail _ h => cases h with
          | head => rfl
          | tail _ h => cases h
      · match m, h1, h2, h3 with
        | 0, h1, h2, h3 =>
          cases h1; cases h2; cases h3
          exact ⟨gd_pair (.head _) (.tail _ (.head _)), fun s1 H1 C cl fp => c_op (ok__law_mul G T) hr rfl (de_v 5 rfl (.inl rfl) rfl) (de_v 6 rfl (.inl rfl) rfl)⟩
        | 1, h1, h2, h3 =>
          cases h1; cases h2; cases h3
          exact ⟨gd_pair (.head _) (.tail _ (.head _)), fun s1 H1 C cl fp => c_op (ok__law_mul G T) hr rfl (de_v 5 rfl (.inl rfl) rfl) (de_v 6 rfl (.inl rfl) rfl)⟩
        | 2, h1, h2, h3 =>
          cases h1; cases h2; cases h3
          exact ⟨gd_pair (.head _) (.tail _ (.head _)), fun s1 H1 C cl fp => c_op (ok__law_mul G T) hr rfl (de_v 5 rfl (.inl rfl) rfl) (de_v 6 rfl (.inl rfl) rfl)⟩
        | m + 3, h1, h2, h3 => cases h2
      · refine DS.at (δ' := [some (.tup [a.d_, b.d_, c.d_]), some (.tup [fr x, fr y, fr z]), some (.own Q [fr (a.make x x y z)]), some (.int 1), some (.lst [fr (b.x * x), fr (b.y * y), fr (b.z * z)]), none, none]) ?_ rfl
        refine ds_appendL 2 (δ2 := [some (.tup [a.d_, b.d_, c.d_]), some (.tup [fr x, fr y, fr z]), some (.own Q [fr (a.make x x y z)]), some (.int 1), none, none, none]) (pe_bm PySem.F.plainAttrs_list PySem.F.slot_list_append PySem.F.type_list_append mt_append (pv 2) (pa_cons pE pa_nil)) rfl rfl (.cons (.inl rfl) (.cons (.inl rfl) (.cons (.inl rfl) (.cons (.inl rfl) (.cons (.inr rfl) (Less.refl _)))))) h0 (Nat.le_of_ble_eq_true rfl) (by simp [D.lfs, lf_fr]) (d := fr (b.make y x y z))
          (c_tot5 (ok__law_total G T) hr rfl (DE.eq (de_catL (de_lst (da_cons (de_ixT (fun _ _ => rfl) (de_v 1 rfl (.inl rfl) rfl) (de_v 3 rfl (.inl rfl) rfl) rfl) (da_cons (de_ixT (fun _ _ => rfl) (de_ixT (fun _ _ => rfl) (de_v 0 rfl (.inl rfl) rfl) (de_v 3 rfl (.inl rfl) rfl) rfl) de_int rfl) da_nil))) (de_v 4 rfl (.inl rfl) rfl)) rfl)) (lf_fr _) (fun j c hj hc => ?_) ?_
        · match j, hj, hc with
          | 0, _, hc => cases hc; rfl
          | 1, _, hc => cases hc; rfl
          | 2, hj, _ => exact absurd rfl hj
          | 3, _, hc => cases hc; rfl
          | 4, _, hc => cases hc
          | 5, _, hc => cases hc
          | 6, _, hc => cases hc
          | j + 7, _, hc => cases hc
        · exact ds_nil (.cons (.inl rfl) (.cons (.inl rfl) (.cons (.inl rfl) (.cons (.inr rfl) (Less.refl _)))))
    | 2, hn =>
      refine ⟨gt_name 3 sc__law_field.nd rfl (.inl rfl), ?_⟩
      refine DS.at (δ' := [some (.tup [a.d_, b.d_, c.d_]), some (.tup [fr x, fr y, fr z]), some (.own Q [fr (a.make x x y z), fr (b.make y x y z)]), some (.int 2), none, none, none]) ?_ rfl
      refine ds_setLc 4 (own := [("_law_here", 5), ("_law_there", 6)]) (ys := [fr (c.x * x), fr (c.y * y), fr (c.z * z)]) (g := gTup K 2 (gCons (gName 5) (gCons (gName 6) gNil))) rfl sc__law_field.nd rfl rfl rfl (RZ.pi_zipA rfl G.zip pA) (blkOk_by (N := n__law_field) (sc := defScope s__law_field) (by decide +kernel))
        (fun _ _ _ _ _ => pg_tup rfl (pgs_cons (pg_name sc__law_field.nd rfl (.inl rfl)) (pgs_cons (pg_name sc__law_field.nd rfl (.inl rfl)) pgs_nil)))
        (lc_Zs (as := [fr c.x, fr c.y, fr c.z, fr c.k]) (bs := [fr x, fr y, fr z]) (fun m => [some (.tup [a.d_, b.d_, c.d_]), some (.tup [fr x, fr y, fr z]), some (.own Q [fr (a.make x x y z), fr (b.make y x y z)]), some (.int 2), none, some (fr (match m with | 0 => c.x | 1 => c.y | _ => c.z)), some (fr (match m with | 0 => x | 1 => y | _ => z))])
          (da_cons (de_ixT (fun _ _ => rfl) (de_v 0 rfl (.inl rfl) rfl) (de_v 3 rfl (.inl rfl) rfl) rfl) (da_cons (de_v 1 rfl (.inl rfl) rfl) da_nil)) (fun v hv => ?_) (Nat.le_of_ble_eq_true rfl) rfl (Nat.le_of_ble_eq_true rfl) rfl (fun m a1 b1 y1 h1 h2 h3 => ?_)) ?_
      · cases hv with
        | head => rfl
        | tail _ h => cases h with
          | head => rfl
          | tail _ h => cases h
      · match m, h1, h2, h3 with
        | 0, h1, h2, h3 =>
          cases h1; cases h2; cases h3
          exact ⟨gd_pair (.head _) (.tail _ (.head _)), fun s1 H1 C cl fp => c_op (ok__law_mul G T) hr rfl (de_v 5 rfl (.inl rfl) rfl) (de_v 6 rfl (.inl rfl) rfl)⟩
        | 1, h1, h2, h3 =>
          cases h1; cases h2; cases h3
          exact ⟨gd_pair (.head _) (.tail _ (.head _)), fun s1 H1 C cl fp => c_op (ok__law_mul G T) hr rfl (de_v 5 rfl (.inl rfl) rfl) (de_v 6 rfl (.inl rfl) rfl)⟩
        | 2, h1, h2, h3 =>
          cases h1; cases h2; cases h3
          exact ⟨gd_pair (.head _) (.tail _ (.head _)), fun s1 H1 C cl fp => c_op (ok__law_mul G T) hr rfl (de_v 5 rfl (.inl rfl) rfl) (de_v 6 rfl (.inl rfl) rfl)⟩
        | m + 3, h1, h2, h3 => cases h2
      · refine DS.at (δ' := [some (.tup [a.d_, b.d_, c.d_]), some (.tup [fr x, fr y, fr z]), some (.own Q [fr (a.make x x y z), fr (b.make y x y z)]), some (.int 2), some (.lst [fr (c.x * x), fr (c.y * y), fr (c.z * z)]), none, none]) ?_ rfl
        refine ds_appendL 2 (δ2 := [some (.tup [a.d_, b.d_, c.d_]), some (.tup [fr x, fr y, fr z]), some (.own Q [fr (a.make x x y z), fr (b.make y x y z)]), some (.int 2), none, none, none]) (pe_bm PySem.F.plainAttrs_list PySem.F.slot_list_append PySem.F.type_list_append mt_append (pv 2) (pa_cons pE pa_nil)) rfl rfl (.cons (.inl rfl) (.cons (.inl rfl) (.cons (.inl rfl) (.cons (.inl rfl) (.cons (.inr rfl) (Less.refl _)))))) h0 (Nat.le_of_ble_eq_true rfl) (by simp [D.lfs, lf_fr]) (d := fr (c.make z x y z))
          (c_tot5 (ok__law_total G T) hr rfl (DE.eq (de_catL (de_lst (da_cons (de_ixT (fun _ _ => rfl) (de_v 1 rfl (.inl rfl) rfl) (de_v 3 rfl (.inl rfl) rfl) rfl) (da_cons (de_ixT (fun _ _ => rfl) (de_ixT (fun _ _ => rfl) (de_v 0 rfl (.inl rfl) rfl) (de_v 3 rfl (.inl rfl) rfl) rfl) de_int rfl) da_nil))) (de_v 4 rfl (.inl rfl) rfl)) rfl)) (lf_fr _) (fun j c hj hc => ?_) ?_
        · match j, hj, hc with
          | 0, _, hc => cases hc; rfl
          | 1, _, hc => cases hc; rfl
          | 2, hj, _ => exact absurd rfl hj
          | 3, _, hc => cases hc; rfl
          | 4, _, hc => cases hc
          | 5, _, hc => cases hc
          | 6, _, hc => cases hc
          | j + 7, _, hc => cases hc
        · exact ds_nil (.cons (.inl rfl) (.cons (.inl rfl) (.cons (.inl rfl) (.cons (.inr rfl) (Less.refl _)))))
    | n + 3, hn => exact absurd hn (by omega)
  · refine DS.at (δ' := [some (.tup [a.d_, b.d_, c.d_]), some (.tup [fr x, fr y, fr z]), some (.own Q [fr (a.make x x y z), fr (b.make y x y z), fr (c.make z x y z)]), none, none, none, none]) ?_ rfl
    exact ds_retD (de_vo 2 rfl (.inl rfl) rfl) hP
end
end Ir
/-! ## IrL3 -/
namespace Ir
open PySem.Spec PySem L2 PyProof.Rows
section
variable {X : Cx} {M : List Addr} {e e2 e3 e4 : Expr} {es : List Expr} {δ : Ev}
theorem c4a {R : Rsp} {x a b c a4 : Str} {pp pos : Pos} {k n : Nat} {d d2 d3 d4 r : D} (F : Fn X.prog X.w X.K X.mg X.base x k [a, b, c, a4] R) (hr : Room n X.A) (hg : Gl X x) (ha : DE X M e δ d) (hb : DE X M e2 δ d2) (hc : DE X M e3 δ d3) (h4 : DE X M e4 δ d4) (hR : R [d, d2, d3, d4] fun z => z = r) (hk : k ≤ n := by decide) (hdb : (x == ("__debug__" : Str)) = false := by decide)
    (he : starEach [e, e2, e3, e4] X.env = (false, eval e X.env) :: starEach [e2, e3, e4] X.env := by rfl) (he2 : starEach [e2, e3, e4] X.env = (false, eval e2 X.env) :: starEach [e3, e4] X.env := by rfl) (he3 : starEach [e3, e4] X.env = (false, eval e3 X.env) :: starEach [e4] X.env := by rfl) (he4 : starEach [e4] X.env = (false, eval e4 X.env) :: starEach [] X.env := by rfl) (hpl : (backTo pos (starEach [e2, e3, e4] X.env)).any (·.1) = false := by rfl) : DE X M (.Call (.Name x pp) [e, e2, e3, e4] [] pos) δ r :=
  de_call F hr hg (da_cons ha (da_cons hb (da_cons hc (da_cons h4 da_nil he4) he3) he2) he) hR hk hdb he hpl
theorem dt_or3F {pos : Pos} (h1 : DT X M e δ false) (h2 : DT X M e2 δ false) (h3 : DT X M e3 δ false) : DT X M (.BoolOp .Or [e, e2, e3] pos) δ false :=
  (ww_or (h1.mono fun x z => by
    rw [z, if_neg Bool.false_ne_true]
    exact ww_or (h2.mono fun x z => by
      rw [z, if_neg Bool.false_ne_true]
      exact ww_one h3))).wt
/-- v in a list of bools -/
theorem dt_inB {pos : Pos} {b c : Bool} {bs : List Bool} (hm : behindInMarks .In e2 = false) (hx : DE X M e δ (.bl b)) (hy : DE X M e2 δ (.lst (bs.map D.bl))) (h : inV (.bl b) (bs.map V.bl) = c) : DT X M (.Compare e [.In] [e2] pos) δ c :=
  dt_cmp op_in_seq hm hx hy fun vx vy H Q k rx ry f => by
    obtain ⟨a, xs, e1, _, s, r⟩ := ry.lst
    have ex := all_lst r
    subst ex
    rw [rx.bl]
    refine ⟨a, _, e1, .inl (.inl (.inl s)), rfl, ?_, ?_⟩
    · rw [List.all_eq_true]
      intro v hv
      obtain ⟨z, _, hz⟩ := List.mem_map.mp hv
      rw [← hz]
      rfl
    · rw [if_neg Bool.false_ne_true, h]
      exact f _ H (Good.refl k) (rBl _)
end
def r_parts : Rsp := fun ds P => ∃ (i : I12) (a : At) (half : D) (p q : Rat), ds = [i.d_, pr a.H a.Z, pr a.c a.s, half] ∧ SzI i 3 ∧ SzA a ∧ Hv half p q ∧ Sz p 3 ∧ Sz q 3 ∧ P (pr (partN i a p q) (partE i a p q))
def r_lwaves : Rsp := fun ds P => ∃ (i : I12) (a : At), ds = [i.d_, pr a.H a.Z, pr a.c a.s] ∧ SzI i 3 ∧ SzA a ∧ P (.lst [(north i a).d_, (east i a).d_])
def r_lrate : Rsp := fun ds P => ∃ (i : I12) (a : At), ds = [i.d_, pr a.H a.Z, pr a.c a.s] ∧ SzI i 3 ∧ SzA a ∧ P (oD (heel i a))
def r_with : Rsp := fun ds P => ∃ (i : I12) (r : Rat), ds = [i.d_, fr r] ∧ P (i.with r).d_
def r_isFrac : Rsp := fun ds P => ∃ (q : Rat) (k : Nat), ds = [fr q] ∧ Sz q k ∧ k ≤ 9000 ∧ P (.bl true)
theorem sz_make {r : Rw} {f x y z : Rat} {k : Nat} [SzR r] [Sz f 16] [Sz x 16] [Sz y 16] [Sz z 7] : Sz (r.make f x y z) 200 := by
  show Sz (f + r.k + r.x * x + r.y * y + r.z * z) 200
  exact Sz.mono inferInstance (by decide)
section
variable {i : I12} {a : At} {p q : Rat} [SzI i 3] [SzA a]
theorem sz1 [Sz p 3] [Sz q 3] : SzR (lean1 i p q) := szr_turn
theorem sz2 [Sz p 3] [Sz q 3] : SzR (lean2 i p q) := szr_plus
theorem sz3 [Sz p 3] [Sz q 3] : SzR (lean3 i p q) := szr_plus
theorem szF (hp : Sz p 3) (hq : Sz q 3) : Sz (foreR i a p q) 200 := by
  have := sz1 (i := i) (p := p) (q := q)
  exact sz_make (k := 0)
theorem szA (hp : Sz p 3) (hq : Sz q 3) : Sz (asideR i a p q) 200 := by
  have := sz2 (i := i) (p := p) (q := q)
  exact sz_make (k := 0)
theorem szN (hp : Sz p 3) (hq : Sz q 3) : Sz (partN i a p q) 430 := by
  have := szF (a := a) (i := i) hp hq
  have := szA (a := a) (i := i) hp hq
  show Sz (a.c * foreR i a p q - a.s * asideR i a p q) 430
  exact Sz.mono inferInstance (by decide)
theorem szE (hp : Sz p 3) (hq : Sz q 3) : Sz (partE i a p q) 430 := by
  have := szF (a := a) (i := i) hp hq
  have := szA (a := a) (i := i) hp hq
  show Sz (a.s * foreR i a p q + a.c * asideR i a p q) 430
  exact Sz.mono inferInstance (by decide)
end
theorem northW (i : I12) (a : At) : wave5 (partN i a 1 0) (partN i a (-1) 0) (partN i a 0 1) (partN i a 0 (-1)) (partN i a (3 / 5) (4 / 5)) = north i a := by
  rw [partN_at _ _ _ _ (by decide +kernel), partN_at _ _ _ _ (by decide +kernel), partN_at _ _ _ _ (by decide +kernel), partN_at _ _ _ _ (by decide +kernel), partN_at _ _ _ _ (by decide +kernel)]
  have h := wave5_of (north i a).k0 (north i a).k1 (north i a).k2 (north i a).k3 (north i a).k4
  refine Eq.trans ?_ h
  congr 1 <;> grind
theorem eastW (i : I12) (a : At) : wave5 (partE i a 1 0) (partE i a (-1) 0) (partE i a 0 1) (partE i a 0 (-1)) (partE i a (3 / 5) (4 / 5)) = east i a := by
  rw [partE_at _ _ _ _ (by decide +kernel), partE_at _ _ _ _ (by decide +kernel), partE_at _ _ _ _ (by decide +kernel), partE_at _ _ _ _ (by decide +kernel), partE_at _ _ _ _ (by decide +kernel)]
  have h := wave5_of (east i a).k0 (east i a).k1 (east i a).k2 (east i a).k3 (east i a).k4
  refine Eq.trans ?_ h
  congr 1 <;> grind
theorem hv0 : Hv (fr 0) 1 0 := .inr ⟨0, rfl, ⟨by decide +kernel, by decide +kernel⟩, by decide +kernel, by decide +kernel⟩
theorem hv1 : Hv (fr 1) 0 1 := .inr ⟨1, rfl, ⟨by decide +kernel, by decide +kernel⟩, by decide +kernel, by decide +kernel⟩
theorem hvm : Hv (fr (-1)) 0 (-1) := .inr ⟨-1, rfl, ⟨by decide +kernel, by decide +kernel⟩, by decide +kernel, by decide +kernel⟩
theorem hvh : Hv (fr (1 / 2)) (3 / 5) (4 / 5) := .inr ⟨1 / 2, rfl, ⟨by decide +kernel, by decide +kernel⟩, by decide +kernel, by decide +kernel⟩
theorem hvn : Hv .non (-1) 0 := .inl ⟨rfl, rfl, rfl⟩
theorem s0 : Sz (0 : Rat) 3 := ⟨by decide +kernel, by decide +kernel⟩
theorem s1 : Sz (1 : Rat) 3 := ⟨by decide +kernel, by decide +kernel⟩
theorem sm : Sz (-1 : Rat) 3 := ⟨by decide +kernel, by decide +kernel⟩
theorem s35 : Sz (3 / 5 : Rat) 3 := ⟨by decide +kernel, by decide +kernel⟩
theorem s45 : Sz (4 / 5 : Rat) 3 := ⟨by decide +kernel, by decide +kernel⟩
theorem lf_wave (w : W5) : w.d_.lf = true := by
  unfold W5.d_
  simp [D.lf, D.lfs, lf_fr]
instance : Sz (24 / 25) 5 := ⟨by decide +kernel, by decide +kernel⟩
section
variable {P : Program} {w : World} {K : PySem.W.Frag} {mg : Str → Option Value} {base : Heap} (G : Gs K mg) (T : Ds K mg)
include G T
theorem ok__law_lean_parts : Fn P w K mg base "_law_lean_parts" 6 ["_law_iron_here", "_law_site_here", "_law_point", "_law_half_here"] r_parts := by
  refine fn_ok' T.d__law_lean_parts sc__law_lean_parts b__law_lean_parts (fun ds p q h ⟨x, y, z, u, v, e, h1, h2, h3, h4, h5, r⟩ => ⟨x, y, z, u, v, e, h1, h2, h3, h4, h5, h _ r⟩) (fun ds p ⟨x, y, z, u, v, e, r⟩ => by rw [e]; rfl) fun f cdv A outer s H E M ds Pd hr ⟨i, a, half, p, q, e, hi, ha, hv, hp, hq, hP⟩ => ?_
  subst e
  have z1 := sz1 (i := i) (p := p) (q := q)
  have z2 := sz2 (i := i) (p := p) (q := q)
  have z3 := sz3 (i := i) (p := p) (q := q)
  have zf := szF (a := a) (i := i) hp hq
  have za := szA (a := a) (i := i) hp hq
  refine DS.at (δ' := [some i.d_, some (pr a.H a.Z), some (pr a.c a.s), some half, none, none, none, none, none]) ?_ rfl
  refine ds_asgD (de_v 2 rfl (.inl rfl) rfl) (gt_tup rfl (gts_cons (gt_name 4 sc__law_lean_parts.nd rfl (.inl rfl)) (gts_cons (gt_name 5 sc__law_lean_parts.nd rfl (.inl rfl)) gts_nil))) ?_
  refine DS.at (δ' := [_, _, _, _, _, _, _, _, _]) ?_ rfl
  refine ds_setD 6 sc__law_lean_parts.nd rfl (.inl rfl) (de_tup (da_cons (c_op (ok__law_mul G T) hr rfl (de_ixT (fun _ _ => rfl) (de_v 1 rfl (.inl rfl) rfl) de_int rfl) (de_v 4 rfl (.inl rfl) rfl)) (da_cons (DE.eq (de_tup (da_cons (de_sub de_int (de_ixT (fun _ _ => rfl) (c_op (ok__law_mul G T) hr rfl (de_ixT (fun _ _ => rfl) (de_v 1 rfl (.inl rfl) rfl) de_int rfl) (de_v 5 rfl (.inl rfl) rfl)) de_int rfl)) (da_cons (de_ixT (fun _ _ => rfl) (c_op (ok__law_mul G T) hr rfl (de_ixT (fun _ _ => rfl) (de_v 1 rfl (.inl rfl) rfl) de_int rfl) (de_v 5 rfl (.inl rfl) rfl)) de_int rfl) da_nil))) (neg_fr _)) (da_cons (de_ixT (fun _ _ => rfl) (de_v 1 rfl (.inl rfl) rfl) de_int rfl) da_nil)))) ?_
  refine DS.at (δ' := [_, _, _, _, _, _, _, _, _]) ?_ rfl
  refine ds_asgD (de_slL (zl := none) (zh := (some 2)) (es := [fr (foreR i a p q), fr (asideR i a p q)]) (c2a (ok__law_field G T) hr rfl (c2a (ok__law_leaned G T) hr rfl (de_v 0 rfl (.inl rfl) rfl) (de_v 3 rfl (.inl rfl) rfl) ⟨i, half, p, q, rfl, hi, hv, hp, hq, rfl⟩) (de_v 6 rfl (.inl rfl) rfl) ⟨lean1 i p q, lean2 i p q, lean3 i p q, a.H * a.c, -(a.H * a.s), a.Z, rfl, z1, z2, z3, inferInstance, inferInstance, inferInstance, rfl⟩) True.intro de_int rfl) (gt_lst rfl (gts_cons (gt_name 7 sc__law_lean_parts.nd rfl (.inl rfl)) (gts_cons (gt_name 8 sc__law_lean_parts.nd rfl (.inl rfl)) gts_nil))) ?_
  refine DS.at (δ' := [_, _, _, _, some (fr a.c), some (fr a.s), _, some (fr (foreR i a p q)), some (fr (asideR i a p q))]) ?_ rfl
  refine ds_retD (de_tup (da_cons (c_op (ok__law_sub G T) hr rfl (c_op (ok__law_mul G T) hr rfl (de_v 4 rfl (.inl rfl) rfl) (de_v 7 rfl (.inl rfl) rfl)) (c_op (ok__law_mul G T) hr rfl (de_v 5 rfl (.inl rfl) rfl) (de_v 8 rfl (.inl rfl) rfl))) (da_cons (c_op (ok__law_add G T) hr rfl (c_op (ok__law_mul G T) hr rfl (de_v 5 rfl (.inl rfl) rfl) (de_v 7 rfl (.inl rfl) rfl)) (c_op (ok__law_mul G T) hr rfl (de_v 4 rfl (.inl rfl) rfl) (de_v 8 rfl (.inl rfl) rfl))) da_nil))) hP
theorem ok__law_lean_waves : Fn P w K mg base "_law_lean_waves" 7 ["_law_iron_here", "_law_site_here", "_law_point"] r_lwaves := by
  refine fn_ok' T.d__law_lean_waves sc__law_lean_waves b__law_lean_waves (fun ds p q h ⟨x, y, e, h1, h2, r⟩ => ⟨x, y, e, h1, h2, h _ r⟩) (fun ds p ⟨x, y, e, r⟩ => by rw [e]; rfl) fun f cdv A outer s H E M ds Pd hr ⟨i, a, e, hi, ha, hP⟩ => ?_
  subst e
  have w35 := s35
  have w45 := s45
  refine DS.at (δ' := [some i.d_, some (pr a.H a.Z), some (pr a.c a.s), none, none, none, none, none, none, none, none, none, none, none, none, none, none, none]) ?_ rfl
  refine ds_new 3 sc__law_lean_waves.nd rfl (.inl rfl) fun Q h0 _ => ?_
  refine DS.at (δ' := [some i.d_, some (pr a.H a.Z), some (pr a.c a.s), some (.own Q []), none, none, none, none, none, none, none, none, none, none, none, none, none, none]) ?_ rfl
  refine ds_forR (n := 2) (fun n => [some i.d_, some (pr a.H a.Z), some (pr a.c a.s), some (.own Q (match n with | 0 => [] | 1 => [(north i a).d_] | _ => [(north i a).d_, (east i a).d_])), none, none, none, none, none, none, none, none, none, none, none, none, none, none])
    (fun n => [some i.d_, some (pr a.H a.Z), some (pr a.c a.s), some (.own Q (match n with | 0 => [] | 1 => [(north i a).d_] | _ => [(north i a).d_, (east i a).d_])), some (.int (n : Nat)), none, none, none, none, none, none, none, none, none, none, none, none, none])
    PassesOwn.never rfl rfl G.range de_int (by decide) (Less.refl _) (fun n hn => ?_) ?_
  · match n, hn with
    | 0, hn =>
      refine ⟨gt_name 4 sc__law_lean_waves.nd rfl (.inl rfl), ?_⟩
      have zhe : Sz (partN i a 1 0) 430 := szN s1 s0
      have zso : Sz (partN i a (-1) 0) 430 := szN sm s0
      have ze0 : Sz (partN i a 0 1) 430 := szN s0 s1
      have ze1 : Sz (partN i a 0 (-1)) 430 := szN s0 sm
      have zsl : Sz (partN i a (3 / 5) (4 / 5)) 430 := szN s35 s45
      refine DS.at (δ' := [some i.d_, some (pr a.H a.Z), some (pr a.c a.s), some (.own Q []), some (.int 0), none, none, none, none, none, none, none, none, none, none, none, none, none]) ?_ rfl
      refine ds_par3N (i := 5) (j := 6) (l := 7) rfl sc__law_lean_waves.nd rfl rfl rfl (by decide) (by decide) (by decide) rfl rfl rfl (de_ixT (fun _ _ => rfl) (c4a (ok__law_lean_parts G T) hr rfl (de_v 0 rfl (.inl rfl) rfl) (de_v 1 rfl (.inl rfl) rfl) (de_v 2 rfl (.inl rfl) rfl) (de_lit (q := 0) (de_tup (da_cons de_int (da_cons de_int da_nil)))) ⟨i, a, _, 1, 0, rfl, hi, ha, hv0, s1, s0, rfl⟩) (de_v 4 rfl (.inl rfl) rfl) rfl) (fun Q1 t1 n1 ap => ?_)
      have dis : Q ≠ Q1 := ap 3 Q _ rfl
      refine DS.at (δ' := [some i.d_, some (pr a.H a.Z), some (pr a.c a.s), some (.own Q []), some (.int 0), some (fr (partN i a 1 0)), some (.own Q1 []), some (.own t1 []), none, none, none, none, none, none, none, none, none, none]) ?_ rfl
      refine DS.less (δ' := [some i.d_, some (pr a.H a.Z), some (pr a.c a.s), some (.own Q []), some (.int 0), some (fr (partN i a 1 0)), some (.own Q1 []), none, none, none, none, none, none, none, none, none, none, none]) (.cons (.inl rfl) (.cons (.inl rfl) (.cons (.inl rfl) (.cons (.inl rfl) (.cons (.inl rfl) (.cons (.inl rfl) (.cons (.inl rfl) (.cons (.inr rfl) (Less.refl _))))))))) ?_
      refine ds_forT (ds := [fr 1, fr (-1)]) (fun n => [some i.d_, some (pr a.H a.Z), some (pr a.c a.s), some (.own Q []), some (.int 0), some (fr (partN i a 1 0)), some (.own Q1 (match n with | 0 => [] | 1 => [fr (partN i a 0 1)] | _ => [fr (partN i a 0 1), fr (partN i a 0 (-1))])), none, none, none, none, none, none, none, none, none, none, none])
        (fun n => [some i.d_, some (pr a.H a.Z), some (pr a.c a.s), some (.own Q []), some (.int 0), some (fr (partN i a 1 0)), some (.own Q1 (match n with | 0 => [] | 1 => [fr (partN i a 0 1)] | _ => [fr (partN i a 0 1), fr (partN i a 0 (-1))])), none, some (fr (match n with | 0 => 1 | _ => -1)), none, none, none, none, none, none, none, none, none])
        PassesOwn.never rfl (de_tup (da_cons (de_lit (q := 1) (de_tup (da_cons de_int (da_cons de_int da_nil)))) (da_cons (de_lit (q := -1) (de_tup (da_cons (de_neg de_int) (da_cons de_int da_nil)))) da_nil))) rfl (Less.refl _) (fun n d hd => ?_) ?_
      · match n, hd with
        | 0, hd =>
          cases hd
          refine ⟨gt_name 8 sc__law_lean_waves.nd rfl (.inl rfl), ?_⟩
          refine DS.at (δ' := [some i.d_, some (pr a.H a.Z), some (pr a.c a.s), some (.own Q []), some (.int 0), some (fr (partN i a 1 0)), some (.own Q1 []), none, some (fr (1)), none, none, none, none, none, none, none, none, none]) ?_ rfl
          refine ds_append 6 (d := fr (partN i a 0 1)) (pe_bm PySem.F.plainAttrs_list PySem.F.slot_list_append PySem.F.type_list_append mt_append (pv 6) (pa_cons pE pa_nil)) rfl n1 (Nat.le_of_ble_eq_true rfl) (by simp [D.lfs, lf_fr]) (de_ixT (fun _ _ => rfl) (c4a (ok__law_lean_parts G T) hr rfl (de_v 0 rfl (.inl rfl) rfl) (de_v 1 rfl (.inl rfl) rfl) (de_v 2 rfl (.inl rfl) rfl) (de_v 8 rfl (.inl rfl) rfl) ⟨i, a, _, 0, 1, rfl, hi, ha, hv1, s0, s1, rfl⟩) (de_v 4 rfl (.inl rfl) rfl) rfl) (lf_fr _) (fun j c hj hc => ?_) ?_
          · match j, hj, hc with
            | 0, _, hc => cases hc; exact rfl
            | 1, _, hc => cases hc; exact rfl
            | 2, _, hc => cases hc; exact rfl
            | 3, _, hc => cases hc; exact ⟨dis, rfl⟩
            | 4, _, hc => cases hc; exact rfl
            | 5, _, hc => cases hc; exact rfl
            | 6, hj, _ => exact absurd rfl hj
            | 7, _, hc => cases hc
            | 8, _, hc => cases hc; exact rfl
            | 9, _, hc => cases hc
            | 10, _, hc => cases hc
            | 11, _, hc => cases hc
            | 12, _, hc => cases hc
            | 13, _, hc => cases hc
            | 14, _, hc => cases hc
            | 15, _, hc => cases hc
            | 16, _, hc => cases hc
            | 17, _, hc => cases hc
            | j + 18, _, hc => cases hc
          · exact ds_nil (.cons (.inl rfl) (.cons (.inl rfl) (.cons (.inl rfl) (.cons (.inl rfl) (.cons (.inl rfl) (.cons (.inl rfl) (.cons (.inl rfl) (.cons (.inl rfl) (.cons (.inr rfl) (Less.refl _))))))))))
        | 1, hd =>
          cases hd
          refine ⟨gt_name 8 sc__law_lean_waves.nd rfl (.inl rfl), ?_⟩
          refine DS.at (δ' := [some i.d_, some (pr a.H a.Z), some (pr a.c a.s), some (.own Q []), some (.int 0), some (fr (partN i a 1 0)), some (.own Q1 [fr (partN i a 0 1)]), none, some (fr (-1)), none, none, none, none, none, none, none, none, none]) ?_ rfl
          refine ds_append 6 (d := fr (partN i a 0 (-1))) (pe_bm PySem.F.plainAttrs_list PySem.F.slot_list_append PySem.F.type_list_append mt_append (pv 6) (pa_cons pE pa_nil)) rfl n1 (Nat.le_of_ble_eq_true rfl) (by simp [D.lfs, lf_fr]) (de_ixT (fun _ _ => rfl) (c4a (ok__law_lean_parts G T) hr rfl (de_v 0 rfl (.inl rfl) rfl) (de_v 1 rfl (.inl rfl) rfl) (de_v 2 rfl (.inl rfl) rfl) (de_v 8 rfl (.inl rfl) rfl) ⟨i, a, _, 0, (-1), rfl, hi, ha, hvm, s0, sm, rfl⟩) (de_v 4 rfl (.inl rfl) rfl) rfl) (lf_fr _) (fun j c hj hc => ?_) ?_
          · match j, hj, hc with
            | 0, _, hc => cases hc; exact rfl
            | 1, _, hc => cases hc; exact rfl
            | 2, _, hc => cases hc; exact rfl
            | 3, _, hc => cases hc; exact ⟨dis, rfl⟩
            | 4, _, hc => cases hc; exact rfl
            | 5, _, hc => cases hc; exact rfl
            | 6, hj, _ => exact absurd rfl hj
            | 7, _, hc => cases hc
            | 8, _, hc => cases hc; exact rfl
            | 9, _, hc => cases hc
            | 10, _, hc => cases hc
            | 11, _, hc => cases hc
            | 12, _, hc => cases hc
            | 13, _, hc => cases hc
            | 14, _, hc => cases hc
            | 15, _, hc => cases hc
            | 16, _, hc => cases hc
            | 17, _, hc => cases hc
            | j + 18, _, hc => cases hc
          · exact ds_nil (.cons (.inl rfl) (.cons (.inl rfl) (.cons (.inl rfl) (.cons (.inl rfl) (.cons (.inl rfl) (.cons (.inl rfl) (.cons (.inl rfl) (.cons (.inl rfl) (.cons (.inr rfl) (Less.refl _))))))))))
        | n + 2, hd => cases hd
      · refine DS.at (δ' := [some i.d_, some (pr a.H a.Z), some (pr a.c a.s), some (.own Q []), some (.int 0), some (fr (partN i a 1 0)), some (.own Q1 [fr (partN i a 0 1), fr (partN i a 0 (-1))]), none, none, none, none, none, none, none, none, none, none, none]) ?_ rfl
        refine ds_setD 9 sc__law_lean_waves.nd rfl (.inl rfl) (de_ixT (fun _ _ => rfl) (c4a (ok__law_lean_parts G T) hr rfl (de_v 0 rfl (.inl rfl) rfl) (de_v 1 rfl (.inl rfl) rfl) (de_v 2 rfl (.inl rfl) rfl) de_non ⟨i, a, _, (-1), 0, rfl, hi, ha, hvn, sm, s0, rfl⟩) (de_v 4 rfl (.inl rfl) rfl) rfl) ?_
        refine DS.at (δ' := [some i.d_, some (pr a.H a.Z), some (pr a.c a.s), some (.own Q []), some (.int 0), some (fr (partN i a 1 0)), some (.own Q1 [fr (partN i a 0 1), fr (partN i a 0 (-1))]), none, none, some (fr (partN i a (-1) 0)), none, none, none, none, none, none, none, none]) ?_ rfl
        refine ds_setD 10 sc__law_lean_waves.nd rfl (.inl rfl) (de_ixT (fun _ _ => rfl) (c4a (ok__law_lean_parts G T) hr rfl (de_v 0 rfl (.inl rfl) rfl) (de_v 1 rfl (.inl rfl) rfl) (de_v 2 rfl (.inl rfl) rfl) (de_lit (q := 1 / 2) (de_tup (da_cons de_int (da_cons de_int da_nil)))) ⟨i, a, _, (3 / 5), (4 / 5), rfl, hi, ha, hvh, s35, s45, rfl⟩) (de_v 4 rfl (.inl rfl) rfl) rfl) ?_
        refine DS.at (δ' := [some i.d_, some (pr a.H a.Z), some (pr a.c a.s), some (.own Q []), some (.int 0), some (fr (partN i a 1 0)), some (.own Q1 [fr (partN i a 0 1), fr (partN i a 0 (-1))]), none, none, some (fr (partN i a (-1) 0)), some (fr (partN i a (3 / 5) (4 / 5))), none, none, none, none, none, none, none]) ?_ rfl
        have big := northW i a
        generalize partN i a 1 0 = he at *
        generalize partN i a (-1) 0 = so at *
        generalize partN i a 0 1 = e0 at *
        generalize partN i a 0 (-1) = e1 at *
        generalize partN i a (3 / 5) (4 / 5) = sl at *
        obtain ⟨k1, dk1⟩ : ∃ x, x = (he - so) / 2 := ⟨_, rfl⟩
        have zk1 : Sz k1 863 := by rw [dk1]; exact Sz.mono inferInstance (by decide)
        obtain ⟨k2, dk2⟩ : ∃ x, x = (e0 - e1) / 2 := ⟨_, rfl⟩
        have zk2 : Sz k2 863 := by rw [dk2]; exact Sz.mono inferInstance (by decide)
        obtain ⟨hi_, dhi_⟩ : ∃ x, x = (he + so) / 2 := ⟨_, rfl⟩
        have zhi_ : Sz hi_ 863 := by rw [dhi_]; exact Sz.mono inferInstance (by decide)
        obtain ⟨lo_, dlo_⟩ : ∃ x, x = (e0 + e1) / 2 := ⟨_, rfl⟩
        have zlo_ : Sz lo_ 863 := by rw [dlo_]; exact Sz.mono inferInstance (by decide)
        obtain ⟨k0, dk0⟩ : ∃ x, x = (hi_ + lo_) / 2 := ⟨_, rfl⟩
        have zk0 : Sz k0 1730 := by rw [dk0]; exact Sz.mono inferInstance (by decide)
        obtain ⟨k3, dk3⟩ : ∃ x, x = (hi_ - lo_) / 2 := ⟨_, rfl⟩
        have zk3 : Sz k3 1730 := by rw [dk3]; exact Sz.mono inferInstance (by decide)
        refine ds_par (i := 11) (j := 12) rfl sc__law_lean_waves.nd rfl rfl (by decide) rfl rfl (da_cons (DE.eq (c_over (ok__law_div G T) hr rfl (c_op (ok__law_sub G T) hr rfl (de_v 5 rfl (.inl rfl) rfl) (de_v 9 rfl (.inl rfl) rfl)) (de_lit (q := 2) (de_tup (da_cons de_int (da_cons de_int da_nil)))) (by decide +kernel)) (congrArg fr dk1.symm)) (da_cons (DE.eq (c_over (ok__law_div G T) hr rfl (c_op (ok__law_sub G T) hr rfl (de_ixL (fun _ _ => rfl) (de_vo 6 rfl (.inl rfl) rfl) de_int rfl) (de_ixL (fun _ _ => rfl) (de_vo 6 rfl (.inl rfl) rfl) de_int rfl)) (de_lit (q := 2) (de_tup (da_cons de_int (da_cons de_int da_nil)))) (by decide +kernel)) (congrArg fr dk2.symm)) da_nil)) ?_
        refine DS.at (δ' := [some i.d_, some (pr a.H a.Z), some (pr a.c a.s), some (.own Q []), some (.int 0), some (fr he), some (.own Q1 [fr e0, fr e1]), none, none, some (fr so), some (fr sl), some (fr k1), some (fr k2), none, none, none, none, none]) ?_ rfl
        refine ds_par (i := 13) (j := 14) rfl sc__law_lean_waves.nd rfl rfl (by decide) rfl rfl (da_cons (DE.eq (c_over (ok__law_div G T) hr rfl (c_op (ok__law_add G T) hr rfl (de_v 5 rfl (.inl rfl) rfl) (de_v 9 rfl (.inl rfl) rfl)) (de_lit (q := 2) (de_tup (da_cons de_int (da_cons de_int da_nil)))) (by decide +kernel)) (congrArg fr dhi_.symm)) (da_cons (DE.eq (c_over (ok__law_div G T) hr rfl (c_op (ok__law_add G T) hr rfl (de_ixL (fun _ _ => rfl) (de_vo 6 rfl (.inl rfl) rfl) de_int rfl) (de_ixL (fun _ _ => rfl) (de_vo 6 rfl (.inl rfl) rfl) de_int rfl)) (de_lit (q := 2) (de_tup (da_cons de_int (da_cons de_int da_nil)))) (by decide +kernel)) (congrArg fr dlo_.symm)) da_nil)) ?_
        refine DS.at (δ' := [some i.d_, some (pr a.H a.Z), some (pr a.c a.s), some (.own Q []), some (.int 0), some (fr he), some (.own Q1 [fr e0, fr e1]), none, none, some (fr so), some (fr sl), some (fr k1), some (fr k2), some (fr hi_), some (fr lo_), none, none, none]) ?_ rfl
        refine ds_par (i := 15) (j := 16) rfl sc__law_lean_waves.nd rfl rfl (by decide) rfl rfl (da_cons (DE.eq (c_over (ok__law_div G T) hr rfl (c_op (ok__law_add G T) hr rfl (de_v 13 rfl (.inl rfl) rfl) (de_v 14 rfl (.inl rfl) rfl)) (de_lit (q := 2) (de_tup (da_cons de_int (da_cons de_int da_nil)))) (by decide +kernel)) (congrArg fr dk0.symm)) (da_cons (DE.eq (c_over (ok__law_div G T) hr rfl (c_op (ok__law_sub G T) hr rfl (de_v 13 rfl (.inl rfl) rfl) (de_v 14 rfl (.inl rfl) rfl)) (de_lit (q := 2) (de_tup (da_cons de_int (da_cons de_int da_nil)))) (by decide +kernel)) (congrArg fr dk3.symm)) da_nil)) ?_
        refine DS.at (δ' := [some i.d_, some (pr a.H a.Z), some (pr a.c a.s), some (.own Q []), some (.int 0), some (fr he), some (.own Q1 [fr e0, fr e1]), none, none, some (fr so), some (fr sl), some (fr k1), some (fr k2), some (fr hi_), some (fr lo_), some (fr k0), some (fr k3), none]) ?_ rfl
        have zw : Sz (k0 + k1 * (3 / 5) + k2 * (4 / 5) + k3 * (3 / 5 * (3 / 5) - 4 / 5 * (4 / 5)) + 0 * (2 * (3 / 5 * (4 / 5)))) 5300 := Sz.mono inferInstance (by decide)
        obtain ⟨W, dW⟩ : ∃ x, x = k0 + k1 * (3 / 5) + k2 * (4 / 5) + k3 * (3 / 5 * (3 / 5) - 4 / 5 * (4 / 5)) + 0 * (2 * (3 / 5 * (4 / 5))) := ⟨_, rfl⟩
        rw [← dW] at zw
        refine ds_setD 17 sc__law_lean_waves.nd rfl (.inl rfl) (c_op (ok__law_sub G T) hr rfl (de_v 10 rfl (.inl rfl) rfl) (DE.eq (c2a (r := fr (k0 + k1 * (3 / 5) + k2 * (4 / 5) + k3 * (3 / 5 * (3 / 5) - 4 / 5 * (4 / 5)) + 0 * (2 * (3 / 5 * (4 / 5))))) (ok__law_worth G T) hr rfl (de_tup (da_cons (de_v 15 rfl (.inl rfl) rfl) (da_cons (de_v 11 rfl (.inl rfl) rfl) (da_cons (de_v 12 rfl (.inl rfl) rfl) (da_cons (de_v 16 rfl (.inl rfl) rfl) (da_cons (de_lit (q := 0) (de_tup (da_cons de_int (da_cons de_int da_nil)))) da_nil)))))) (de_tup (da_cons (de_lit (q := 3 / 5) (de_tup (da_cons de_int (da_cons de_int da_nil)))) (da_cons (de_lit (q := 4 / 5) (de_tup (da_cons de_int (da_cons de_int da_nil)))) da_nil))) ⟨⟨k0, k1, k2, k3, 0⟩, 3 / 5, 4 / 5, rfl, ⟨zk0.mono (by decide), zk1.mono (by decide), zk2.mono (by decide), zk3.mono (by decide), inferInstance⟩, s35, s45, rfl⟩) (congrArg fr dW.symm))) ?_
        refine DS.at (δ' := [some i.d_, some (pr a.H a.Z), some (pr a.c a.s), some (.own Q []), some (.int 0), some (fr he), some (.own Q1 [fr e0, fr e1]), none, none, some (fr so), some (fr sl), some (fr k1), some (fr k2), some (fr hi_), some (fr lo_), some (fr k0), some (fr k3), some (fr (sl - W))]) ?_ rfl
        have fin : D.tup [fr k0, fr k1, fr k2, fr k3, fr ((sl - W) / (24 / 25))] = (north i a).d_ := by
          rw [← big, dW, dk0, dk3, dk1, dk2, dhi_, dlo_]
          rfl
        refine ds_append 3 (d := (north i a).d_) (pe_bm PySem.F.plainAttrs_list PySem.F.slot_list_append PySem.F.type_list_append mt_append (pv 3) (pa_cons pE pa_nil)) rfl h0 (Nat.le_of_ble_eq_true rfl) (by simp [D.lfs, lf_wave]) (DE.eq (de_tup (da_cons (de_v 15 rfl (.inl rfl) rfl) (da_cons (de_v 11 rfl (.inl rfl) rfl) (da_cons (de_v 12 rfl (.inl rfl) rfl) (da_cons (de_v 16 rfl (.inl rfl) rfl) (da_cons (c_over (ok__law_div G T) hr rfl (de_v 17 rfl (.inl rfl) rfl) (de_lit (q := 24 / 25) (de_tup (da_cons de_int (da_cons de_int da_nil)))) (by decide +kernel)) da_nil)))))) fin) (lf_wave _) (fun j c hj hc => ?_) ?_
        · match j, hj, hc with
          | 0, _, hc => cases hc; exact rfl
          | 1, _, hc => cases hc; exact rfl
          | 2, _, hc => cases hc; exact rfl
          | 3, hj, _ => exact absurd rfl hj
          | 4, _, hc => cases hc; exact rfl
          | 5, _, hc => cases hc; exact rfl
          | 6, _, hc => cases hc; exact ⟨fun z => dis z.symm, rfl⟩
          | 7, _, hc => cases hc
          | 8, _, hc => cases hc
          | 9, _, hc => cases hc; exact rfl
          | 10, _, hc => cases hc; exact rfl
          | 11, _, hc => cases hc; exact rfl
          | 12, _, hc => cases hc; exact rfl
          | 13, _, hc => cases hc; exact rfl
          | 14, _, hc => cases hc; exact rfl
          | 15, _, hc => cases hc; exact rfl
          | 16, _, hc => cases hc; exact rfl
          | 17, _, hc => cases hc; exact rfl
          | j + 18, _, hc => cases hc
        · exact ds_nil (.cons (.inl rfl) (.cons (.inl rfl) (.cons (.inl rfl) (.cons (.inl rfl) (.cons (.inr rfl) (.cons (.inr rfl) (.cons (.inr rfl) (.cons (.inr rfl) (.cons (.inr rfl) (.cons (.inr rfl) (.cons (.inr rfl) (.cons (.inr rfl) (.cons (.inr rfl) (.cons (.inr rfl) (.cons (.inr rfl) (.cons (.inr rfl) (.cons (.inr rfl) (.cons (.inr rfl) (Less.refl _)))))))))))))))))))
    | 1, hn =>
      refine ⟨gt_name 4 sc__law_lean_waves.nd rfl (.inl rfl), ?_⟩
      have zhe : Sz (partE i a 1 0) 430 := szE s1 s0
      have zso : Sz (partE i a (-1) 0) 430 := szE sm s0
      have ze0 : Sz (partE i a 0 1) 430 := szE s0 s1
      have ze1 : Sz (partE i a 0 (-1)) 430 := szE s0 sm
      have zsl : Sz (partE i a (3 / 5) (4 / 5)) 430 := szE s35 s45
      refine DS.at (δ' := [some i.d_, some (pr a.H a.Z), some (pr a.c a.s), some (.own Q [(north i a).d_]), some (.int 1), none, none, none, none, none, none, none, none, none, none, none, none, none]) ?_ rfl
      refine ds_par3N (i := 5) (j := 6) (l := 7) rfl sc__law_lean_waves.nd rfl rfl rfl (by decide) (by decide) (by decide) rfl rfl rfl (de_ixT (fun _ _ => rfl) (c4a (ok__law_lean_parts G T) hr rfl (de_v 0 rfl (.inl rfl) rfl) (de_v 1 rfl (.inl rfl) rfl) (de_v 2 rfl (.inl rfl) rfl) (de_lit (q := 0) (de_tup (da_cons de_int (da_cons de_int da_nil)))) ⟨i, a, _, 1, 0, rfl, hi, ha, hv0, s1, s0, rfl⟩) (de_v 4 rfl (.inl rfl) rfl) rfl) (fun Q1 t1 n1 ap => ?_)
      have dis : Q ≠ Q1 := ap 3 Q _ rfl
      refine DS.at (δ' := [some i.d_, some (pr a.H a.Z), some (pr a.c a.s), some (.own Q [(north i a).d_]), some (.int 1), some (fr (partE i a 1 0)), some (.own Q1 []), some (.own t1 []), none, none, none, none, none, none, none, none, none, none]) ?_ rfl
      refine DS.less (δ' := [some i.d_, some (pr a.H a.Z), some (pr a.c a.s), some (.own Q [(north i a).d_]), some (.int 1), some (fr (partE i a 1 0)), some (.own Q1 []), none, none, none, none, none, none, none, none, none, none, none]) (.cons (.inl rfl) (.cons (.inl rfl) (.cons (.inl rfl) (.cons (.inl rfl) (.cons (.inl rfl) (.cons (.inl rfl) (.cons (.inl rfl) (.cons (.inr rfl) (Less.refl _))))))))) ?_
      refine ds_forT (ds := [fr 1, fr (-1)]) (fun n => [some i.d_, some (pr a.H a.Z), some (pr a.c a.s), some (.own Q [(north i a).d_]), some (.int 1), some (fr (partE i a 1 0)), some (.own Q1 (match n with | 0 => [] | 1 => [fr (partE i a 0 1)] | _ => [fr (partE i a 0 1), fr (partE i a 0 (-1))])), none, none, none, none, none, none, none, none, none, none, none])
        (fun n => [some i.d_, some (pr a.H a.Z), some (pr a.c a.s), some (.own Q [(north i a).d_]), some (.int 1), some (fr (partE i a 1 0)), some (.own Q1 (match n with | 0 => [] | 1 => [fr (partE i a 0 1)] | _ => [fr (partE i a 0 1), fr (partE i a 0 (-1))])), none, some (fr (match n with | 0 => 1 | _ => -1)), none, none, none, none, none, none, none, none, none])
        PassesOwn.never rfl (de_tup (da_cons (de_lit (q := 1) (de_tup (da_cons de_int (da_cons de_int da_nil)))) (da_cons (de_lit (q := -1) (de_tup (da_cons (de_neg de_int) (da_cons de_int da_nil)))) da_nil))) rfl (Less.refl _) (fun n d hd => ?_) ?_
      · match n, hd with
        | 0, hd =>
          cases hd
          refine ⟨gt_name 8 sc__law_lean_waves.nd rfl (.inl rfl), ?_⟩
          refine DS.at (δ' := [some i.d_, some (pr a.H a.Z), some (pr a.c a.s), some (.own Q [(north i a).d_]), some (.int 1), some (fr (partE i a 1 0)), some (.own Q1 []), none, some (fr (1)), none, none, none, none, none, none, none, none, none]) ?_ rfl
          refine ds_append 6 (d := fr (partE i a 0 1)) (pe_bm PySem.F.plainAttrs_list PySem.F.slot_list_append PySem.F.type_list_append mt_append (pv 6) (pa_cons pE pa_nil)) rfl n1 (Nat.le_of_ble_eq_true rfl) (by simp [D.lfs, lf_fr]) (de_ixT (fun _ _ => rfl) (c4a (ok__law_lean_parts G T) hr rfl (de_v 0 rfl (.inl rfl) rfl) (de_v 1 rfl (.inl rfl) rfl) (de_v 2 rfl (.inl rfl) rfl) (de_v 8 rfl (.inl rfl) rfl) ⟨i, a, _, 0, 1, rfl, hi, ha, hv1, s0, s1, rfl⟩) (de_v 4 rfl (.inl rfl) rfl) rfl) (lf_fr _) (fun j c hj hc => ?_) ?_
          · match j, hj, hc with
            | 0, _, hc => cases hc; exact rfl
            | 1, _, hc => cases hc; exact rfl
            | 2, _, hc => cases hc; exact rfl
            | 3, _, hc => cases hc; exact ⟨dis, rfl⟩
            | 4, _, hc => cases hc; exact rfl
            | 5, _, hc => cases hc; exact rfl
            | 6, hj, _ => exact absurd rfl hj
            | 7, _, hc => cases hc
            | 8, _, hc => cases hc; exact rfl
            | 9, _, hc => cases hc
            | 10, _, hc => cases hc
            | 11, _, hc => cases hc
            | 12, _, hc => cases hc
            | 13, _, hc => cases hc
            | 14, _, hc => cases hc
            | 15, _, hc => cases hc
            | 16, _, hc => cases hc
            | 17, _, hc => cases hc
            | j + 18, _, hc => cases hc
          · exact ds_nil (.cons (.inl rfl) (.cons (.inl rfl) (.cons (.inl rfl) (.cons (.inl rfl) (.cons (.inl rfl) (.cons (.inl rfl) (.cons (.inl rfl) (.cons (.inl rfl) (.cons (.inr rfl) (Less.refl _))))))))))
        | 1, hd =>
          cases hd
          refine ⟨gt_name 8 sc__law_lean_waves.nd rfl (.inl rfl), ?_⟩
          refine DS.at (δ' := [some i.d_, some (pr a.H a.Z), some (pr a.c a.s), some (.own Q [(north i a).d_]), some (.int 1), some (fr (partE i a 1 0)), some (.own Q1 [fr (partE i a 0 1)]), none, some (fr (-1)), none, none, none, none, none, none, none, none, none]) ?_ rfl
          refine ds_append 6 (d := fr (partE i a 0 (-1))) (pe_bm PySem.F.plainAttrs_list PySem.F.slot_list_append PySem.F.type_list_append mt_append (pv 6) (pa_cons pE pa_nil)) rfl n1 (Nat.le_of_ble_eq_true rfl) (by simp [D.lfs, lf_fr]) (de_ixT (fun _ _ => rfl) (c4a (ok__law_lean_parts G T) hr rfl (de_v 0 rfl (.inl rfl) rfl) (de_v 1 rfl (.inl rfl) rfl) (de_v 2 rfl (.inl rfl) rfl) (de_v 8 rfl (.inl rfl) rfl) ⟨i, a, _, 0, (-1), rfl, hi, ha, hvm, s0, sm, rfl⟩) (de_v 4 rfl (.inl rfl) rfl) rfl) (lf_fr _) (fun j c hj hc => ?_) ?_
          · match j, hj, hc with
            | 0, _, hc => cases hc; exact rfl
            | 1, _, hc => cases hc; exact rfl
            | 2, _, hc => cases hc; exact rfl
            | 3, _, hc => cases hc; exact ⟨dis, rfl⟩
            | 4, _, hc => cases hc; exact rfl
            | 5, _, hc => cases hc; exact rfl
            | 6, hj, _ => exact absurd rfl hj
            | 7, _, hc => cases hc
            | 8, _, hc => cases hc; exact rfl
            | 9, _, hc => cases hc
            | 10, _, hc => cases hc
            | 11, _, hc => cases hc
            | 12, _, hc => cases hc
            | 13, _, hc => cases hc
            | 14, _, hc => cases hc
            | 15, _, hc => cases hc
            | 16, _, hc => cases hc
            | 17, _, hc => cases hc
            | j + 18, _, hc => cases hc
          · exact ds_nil (.cons (.inl rfl) (.cons (.inl rfl) (.cons (.inl rfl) (.cons (.inl rfl) (.cons (.inl rfl) (.cons (.inl rfl) (.cons (.inl rfl) (.cons (.inl rfl) (.cons (.inr rfl) (Less.refl _))))))))))
        | n + 2, hd => cases hd
      · refine DS.at (δ' := [some i.d_, some (pr a.H a.Z), some (pr a.c a.s), some (.own Q [(north i a).d_]), some (.int 1), some (fr (partE i a 1 0)), some (.own Q1 [fr (partE i a 0 1), fr (partE i a 0 (-1))]), none, none, none, none, none, none, none, none, none, none, none]) ?_ rfl
        refine ds_setD 9 sc__law_lean_waves.nd rfl (.inl rfl) (de_ixT (fun _ _ => rfl) (c4a (ok__law_lean_parts G T) hr rfl (de_v 0 rfl (.inl rfl) rfl) (de_v 1 rfl (.inl rfl) rfl) (de_v 2 rfl (.inl rfl) rfl) de_non ⟨i, a, _, (-1), 0, rfl, hi, ha, hvn, sm, s0, rfl⟩) (de_v 4 rfl (.inl rfl) rfl) rfl) ?_
        refine DS.at (δ' := [some i.d_, some (pr a.H a.Z), some (pr a.c a.s), some (.own Q [(north i a).d_]), some (.int 1), some (fr (partE i a 1 0)), some (.own Q1 [fr (partE i a 0 1), fr (partE i a 0 (-1))]), none, none, some (fr (partE i a (-1) 0)), none, none, none, none, none, none, none, none]) ?_ rfl
        refine ds_setD 10 sc__law_lean_waves.nd rfl (.inl rfl) (de_ixT (fun _ _ => rfl) (c4a (ok__law_lean_parts G T) hr rfl (de_v 0 rfl (.inl rfl) rfl) (de_v 1 rfl (.inl rfl) rfl) (de_v 2 rfl (.inl rfl) rfl) (de_lit (q := 1 / 2) (de_tup (da_cons de_int (da_cons de_int da_nil)))) ⟨i, a, _, (3 / 5), (4 / 5), rfl, hi, ha, hvh, s35, s45, rfl⟩) (de_v 4 rfl (.inl rfl) rfl) rfl) ?_
        refine DS.at (δ' := [some i.d_, some (pr a.H a.Z), some (pr a.c a.s), some (.own Q [(north i a).d_]), some (.int 1), some (fr (partE i a 1 0)), some (.own Q1 [fr (partE i a 0 1), fr (partE i a 0 (-1))]), none, none, some (fr (partE i a (-1) 0)), some (fr (partE i a (3 / 5) (4 / 5))), none, none, none, none, none, none, none]) ?_ rfl
        have big := eastW i a
        generalize partE i a 1 0 = he at *
        generalize partE i a (-1) 0 = so at *
        generalize partE i a 0 1 = e0 at *
        generalize partE i a 0 (-1) = e1 at *
        generalize partE i a (3 / 5) (4 / 5) = sl at *
        obtain ⟨k1, dk1⟩ : ∃ x, x = (he - so) / 2 := ⟨_, rfl⟩
        have zk1 : Sz k1 863 := by rw [dk1]; exact Sz.mono inferInstance (by decide)
        obtain ⟨k2, dk2⟩ : ∃ x, x = (e0 - e1) / 2 := ⟨_, rfl⟩
        have zk2 : Sz k2 863 := by rw [dk2]; exact Sz.mono inferInstance (by decide)
        obtain ⟨hi_, dhi_⟩ : ∃ x, x = (he + so) / 2 := ⟨_, rfl⟩
        have zhi_ : Sz hi_ 863 := by rw [dhi_]; exact Sz.mono inferInstance (by decide)
        obtain ⟨lo_, dlo_⟩ : ∃ x, x = (e0 + e1) / 2 := ⟨_, rfl⟩
        have zlo_ : Sz lo_ 863 := by rw [dlo_]; exact Sz.mono inferInstance (by decide)
        obtain ⟨k0, dk0⟩ : ∃ x, x = (hi_ + lo_) / 2 := ⟨_, rfl⟩
        have zk0 : Sz k0 1730 := by rw [dk0]; exact Sz.mono inferInstance (by decide)
        obtain ⟨k3, dk3⟩ : ∃ x, x = (hi_ - lo_) / 2 := ⟨_, rfl⟩
        have zk3 : Sz k3 1730 := by rw [dk3]; exact Sz.mono inferInstance (by decide)
        refine ds_par (i := 11) (j := 12) rfl sc__law_lean_waves.nd rfl rfl (by decide) rfl rfl (da_cons (DE.eq (c_over (ok__law_div G T) hr rfl (c_op (ok__law_sub G T) hr rfl (de_v 5 rfl (.inl rfl) rfl) (de_v 9 rfl (.inl rfl) rfl)) (de_lit (q := 2) (de_tup (da_cons de_int (da_cons de_int da_nil)))) (by decide +kernel)) (congrArg fr dk1.symm)) (da_cons (DE.eq (c_over (ok__law_div G T) hr rfl (c_op (ok__law_sub G T) hr rfl (de_ixL (fun _ _ => rfl) (de_vo 6 rfl (.inl rfl) rfl) de_int rfl) (de_ixL (fun _ _ => rfl) (de_vo 6 rfl (.inl rfl) rfl) de_int rfl)) (de_lit (q := 2) (de_tup (da_cons de_int (da_cons de_int da_nil)))) (by decide +kernel)) (congrArg fr dk2.symm)) da_nil)) ?_
        refine DS.at (δ' := [some i.d_, some (pr a.H a.Z), some (pr a.c a.s), some (.own Q [(north i a).d_]), some (.int 1), some (fr he), some (.own Q1 [fr e0, fr e1]), none, none, some (fr so), some (fr sl), some (fr k1), some (fr k2), none, none, none, none, none]) ?_ rfl
        refine ds_par (i := 13) (j := 14) rfl sc__law_lean_waves.nd rfl rfl (by decide) rfl rfl (da_cons (DE.eq (c_over (ok__law_div G T) hr rfl (c_op (ok__law_add G T) hr rfl (de_v 5 rfl (.inl rfl) rfl) (de_v 9 rfl (.inl rfl) rfl)) (de_lit (q := 2) (de_tup (da_cons de_int (da_cons de_int da_nil)))) (by decide +kernel)) (congrArg fr dhi_.symm)) (da_cons (DE.eq (c_over (ok__law_div G T) hr rfl (c_op (ok__law_add G T) hr rfl (de_ixL (fun _ _ => rfl) (de_vo 6 rfl (.inl rfl) rfl) de_int rfl) (de_ixL (fun _ _ => rfl) (de_vo 6 rfl (.inl rfl) rfl) de_int rfl)) (de_lit (q := 2) (de_tup (da_cons de_int (da_cons de_int da_nil)))) (by decide +kernel)) (congrArg fr dlo_.symm)) da_nil)) ?_
        refine DS.at (δ' := [some i.d_, some (pr a.H a.Z), some (pr a.c a.s), some (.own Q [(north i a).d_]), some (.int 1), some (fr he), some (.own Q1 [fr e0, fr e1]), none, none, some (fr so), some (fr sl), some (fr k1), some (fr k2), some (fr hi_), some (fr lo_), none, none, none]) ?_ rfl
        refine ds_par (i := 15) (j := 16) rfl sc__law_lean_waves.nd rfl rfl (by decide) rfl rfl (da_cons (DE.eq (c_over (ok__law_div G T) hr rfl (c_op (ok__law_add G T) hr rfl (de_v 13 rfl (.inl rfl) rfl) (de_v 14 rfl (.inl rfl) rfl)) (de_lit (q := 2) (de_tup (da_cons de_int (da_cons de_int da_nil)))) (by decide +kernel)) (congrArg fr dk0.symm)) (da_cons (DE.eq (c_over (ok__law_div G T) hr rfl (c_op (ok__law_sub G T) hr rfl (de_v 13 rfl (.inl rfl) rfl) (de_v 14 rfl (.inl rfl) rfl)) (de_lit (q := 2) (de_tup (da_cons de_int (da_cons de_int da_nil)))) (by decide +kernel)) (congrArg fr dk3.symm)) da_nil)) ?_
        refine DS.at (δ' := [some i.d_, some (pr a.H a.Z), some (pr a.c a.s), some (.own Q [(north i a).d_]), some (.int 1), some (fr he), some (.own Q1 [fr e0, fr e1]), none, none, some (fr so), some (fr sl), some (fr k1), some (fr k2), some (fr hi_), some (fr lo_), some (fr k0), some (fr k3), none]) ?_ rfl
        have zw : Sz (k0 + k1 * (3 / 5) + k2 * (4 / 5) + k3 * (3 / 5 * (3 / 5) - 4 / 5 * (4 / 5)) + 0 * (2 * (3 / 5 * (4 / 5)))) 5300 := Sz.mono inferInstance (by decide)
        obtain ⟨W, dW⟩ : ∃ x, x = k0 + k1 * (3 / 5) + k2 * (4 / 5) + k3 * (3 / 5 * (3 / 5) - 4 / 5 * (4 / 5)) + 0 * (2 * (3 / 5 * (4 / 5))) := ⟨_, rfl⟩
        rw [← dW] at zw
        refine ds_setD 17 sc__law_lean_waves.nd rfl (.inl rfl) (c_op (ok__law_sub G T) hr rfl (de_v 10 rfl (.inl rfl) rfl) (DE.eq (c2a (r := fr (k0 + k1 * (3 / 5) + k2 * (4 / 5) + k3 * (3 / 5 * (3 / 5) - 4 / 5 * (4 / 5)) + 0 * (2 * (3 / 5 * (4 / 5))))) (ok__law_worth G T) hr rfl (de_tup (da_cons (de_v 15 rfl (.inl rfl) rfl) (da_cons (de_v 11 rfl (.inl rfl) rfl) (da_cons (de_v 12 rfl (.inl rfl) rfl) (da_cons (de_v 16 rfl (.inl rfl) rfl) (da_cons (de_lit (q := 0) (de_tup (da_cons de_int (da_cons de_int da_nil)))) da_nil)))))) (de_tup (da_cons (de_lit (q := 3 / 5) (de_tup (da_cons de_int (da_cons de_int da_nil)))) (da_cons (de_lit (q := 4 / 5) (de_tup (da_cons de_int (da_cons de_int da_nil)))) da_nil))) ⟨⟨k0, k1, k2, k3, 0⟩, 3 / 5, 4 / 5, rfl, ⟨zk0.mono (by decide), zk1.mono (by decide), zk2.mono (by decide), zk3.mono (by decide), inferInstance⟩, s35, s45, rfl⟩) (congrArg fr dW.symm))) ?_
        refine DS.at (δ' := [some i.d_, some (pr a.H a.Z), some (pr a.c a.s), some (.own Q [(north i a).d_]), some (.int 1), some (fr he), some (.own Q1 [fr e0, fr e1]), none, none, some (fr so), some (fr sl), some (fr k1), some (fr k2), some (fr hi_), some (fr lo_), some (fr k0), some (fr k3), some (fr (sl - W))]) ?_ rfl
        have fin : D.tup [fr k0, fr k1, fr k2, fr k3, fr ((sl - W) / (24 / 25))] = (east i a).d_ := by
          rw [← big, dW, dk0, dk3, dk1, dk2, dhi_, dlo_]
          rfl
        refine ds_append 3 (d := (east i a).d_) (pe_bm PySem.F.plainAttrs_list PySem.F.slot_list_append PySem.F.type_list_append mt_append (pv 3) (pa_cons pE pa_nil)) rfl h0 (Nat.le_of_ble_eq_true rfl) (by simp [D.lfs, lf_wave]) (DE.eq (de_tup (da_cons (de_v 15 rfl (.inl rfl) rfl) (da_cons (de_v 11 rfl (.inl rfl) rfl) (da_cons (de_v 12 rfl (.inl rfl) rfl) (da_cons (de_v 16 rfl (.inl rfl) rfl) (da_cons (c_over (ok__law_div G T) hr rfl (de_v 17 rfl (.inl rfl) rfl) (de_lit (q := 24 / 25) (de_tup (da_cons de_int (da_cons de_int da_nil)))) (by decide +kernel)) da_nil)))))) fin) (lf_wave _) (fun j c hj hc => ?_) ?_
        · match j, hj, hc with
          | 0, _, hc => cases hc; exact rfl
          | 1, _, hc => cases hc; exact rfl
          | 2, _, hc => cases hc; exact rfl
          | 3, hj, _ => exact absurd rfl hj
          | 4, _, hc => cases hc; exact rfl
          | 5, _, hc => cases hc; exact rfl
          | 6, _, hc => cases hc; exact ⟨fun z => dis z.symm, rfl⟩
          | 7, _, hc => cases hc
          | 8, _, hc => cases hc
          | 9, _, hc => cases hc; exact rfl
          | 10, _, hc => cases hc; exact rfl
          | 11, _, hc => cases hc; exact rfl
          | 12, _, hc => cases hc; exact rfl
          | 13, _, hc => cases hc; exact rfl
          | 14, _, hc => cases hc; exact rfl
          | 15, _, hc => cases hc; exact rfl
          | 16, _, hc => cases hc; exact rfl
          | 17, _, hc => cases hc; exact rfl
          | j + 18, _, hc => cases hc
        · exact ds_nil (.cons (.inl rfl) (.cons (.inl rfl) (.cons (.inl rfl) (.cons (.inl rfl) (.cons (.inr rfl) (.cons (.inr rfl) (.cons (.inr rfl) (.cons (.inr rfl) (.cons (.inr rfl) (.cons (.inr rfl) (.cons (.inr rfl) (.cons (.inr rfl) (.cons (.inr rfl) (.cons (.inr rfl) (.cons (.inr rfl) (.cons (.inr rfl) (.cons (.inr rfl) (.cons (.inr rfl) (Less.refl _)))))))))))))))))))
    | n + 2, hn => exact absurd hn (by omega)
  · refine DS.at (δ' := [some i.d_, some (pr a.H a.Z), some (pr a.c a.s), some (.own Q [(north i a).d_, (east i a).d_]), none, none, none, none, none, none, none, none, none, none, none, none, none, none]) ?_ rfl
    exact ds_retD (de_vo 3 rfl (.inl rfl) rfl) hP
end
end Ir
/-! ## IrL4 -/
namespace Ir
open PySem.Spec PySem L2 PyProof.Rows
section
variable {P : Program} {w : World} {K : PySem.W.Frag} {mg : Str → Option Value} {base : Heap} (G : Gs K mg) (T : Ds K mg)
include G T
theorem ok__law_rate : Fn P w K mg base "_law_rate" 8 ["_law_iron_here", "_law_site_here", "_law_point"] r_lrate := by
  refine fn_ok' T.d__law_rate sc__law_rate b__law_rate (fun ds p q h ⟨x, y, e, h1, h2, r⟩ => ⟨x, y, e, h1, h2, h _ r⟩) (fun ds p ⟨x, y, e, r⟩ => by rw [e]; rfl) fun f cdv A outer s H E M ds Pd hr ⟨i, a, e, hi, ha, hP⟩ => ?_
  subst e
  refine DS.at (δ' := [some i.d_, some (pr a.H a.Z), some (pr a.c a.s), none, none, none, none, none, none]) ?_ rfl
  refine ds_asgD (c3a (ok__law_lean_waves G T) hr rfl (de_v 0 rfl (.inl rfl) rfl) (de_v 1 rfl (.inl rfl) rfl) (de_v 2 rfl (.inl rfl) rfl) ⟨i, a, rfl, hi, ha, rfl⟩) (gt_lst rfl (gts_cons (gt_name 3 sc__law_rate.nd rfl (.inl rfl)) (gts_cons (gt_name 4 sc__law_rate.nd rfl (.inl rfl)) gts_nil))) ?_
  refine DS.at (δ' := [_, _, _, some (north i a).d_, some (east i a).d_, none, none, none, none]) ?_ rfl
  refine ds_par (i := 5) (j := 6) (d := fr (north i a).worth) (d2 := fr (east i a).worth) rfl sc__law_rate.nd rfl rfl (by decide) rfl rfl (da_cons (c_tot3 (ok__law_total G T) hr rfl (de_lst (da_cons (de_ixT (fun _ _ => rfl) (de_v 3 rfl (.inl rfl) rfl) de_int rfl) (da_cons (de_ixT (fun _ _ => rfl) (de_v 3 rfl (.inl rfl) rfl) de_int rfl) (da_cons (de_ixT (fun _ _ => rfl) (de_v 3 rfl (.inl rfl) rfl) de_int rfl) da_nil))))) (da_cons (c_tot3 (ok__law_total G T) hr rfl (de_lst (da_cons (de_ixT (fun _ _ => rfl) (de_v 4 rfl (.inl rfl) rfl) de_int rfl) (da_cons (de_ixT (fun _ _ => rfl) (de_v 4 rfl (.inl rfl) rfl) de_int rfl) (da_cons (de_ixT (fun _ _ => rfl) (de_v 4 rfl (.inl rfl) rfl) de_int rfl) da_nil))))) da_nil)) ?_
  refine DS.at (δ' := [_, _, _, some (north i a).d_, some (east i a).d_, some (fr (north i a).worth), some (fr (east i a).worth), none, none]) ?_ rfl
  by_cases hz : (north i a).worth = 0
  · have er : oD (heel i a) = .non := by
      rw [heel_none hz]
      rfl
    rw [er] at hP
    refine ds_ifT (dt_eqI (de_ixT (fun _ _ => rfl) (de_v 5 rfl (.inl rfl) rfl) de_int rfl) de_int) (decide_eq_true (Rat.num_eq_zero.mpr hz)) (ds_retD de_non hP)
  · have er : oD (heel i a) = fr (topR (north i a) (east i a) / ((north i a).worth * (north i a).worth)) := by
      rw [heel_some hz]
      rfl
    rw [er] at hP
    refine ds_ifF (dt_eqI (de_ixT (fun _ _ => rfl) (de_v 5 rfl (.inl rfl) rfl) de_int rfl) de_int) (decide_eq_false (fun z => hz (Rat.num_eq_zero.mp z))) ?_
    refine ds_setD 7 (d := fr ((north i a).worth * (east i a).rise)) sc__law_rate.nd rfl (.inl rfl) (c_op (ok__law_mul G T) hr rfl (de_v 5 rfl (.inl rfl) rfl) (c_op (ok__law_add G T) hr rfl (de_ixT (fun _ _ => rfl) (de_v 4 rfl (.inl rfl) rfl) de_int rfl) (c_op (ok__law_mul G T) hr rfl (de_lit (q := 2) (de_tup (da_cons de_int (da_cons de_int da_nil)))) (de_ixT (fun _ _ => rfl) (de_v 4 rfl (.inl rfl) rfl) de_int rfl)))) ?_
    refine DS.at (δ' := [_, _, _, some (north i a).d_, some (east i a).d_, some (fr (north i a).worth), some (fr (east i a).worth), some (fr ((north i a).worth * (east i a).rise)), none]) ?_ rfl
    refine ds_setD 8 (d := fr ((east i a).worth * (north i a).rise)) sc__law_rate.nd rfl (.inl rfl) (c_op (ok__law_mul G T) hr rfl (de_v 6 rfl (.inl rfl) rfl) (c_op (ok__law_add G T) hr rfl (de_ixT (fun _ _ => rfl) (de_v 3 rfl (.inl rfl) rfl) de_int rfl) (c_op (ok__law_mul G T) hr rfl (de_lit (q := 2) (de_tup (da_cons de_int (da_cons de_int da_nil)))) (de_ixT (fun _ _ => rfl) (de_v 3 rfl (.inl rfl) rfl) de_int rfl)))) ?_
    refine DS.at (δ' := [_, _, _, some (north i a).d_, some (east i a).d_, some (fr (north i a).worth), some (fr (east i a).worth), some (fr ((north i a).worth * (east i a).rise)), some (fr ((east i a).worth * (north i a).rise))]) ?_ rfl
    have q0 : (north i a).worth * (north i a).worth ≠ 0 := fun z => hz (by rcases Rat.mul_eq_zero.mp z with z | z <;> exact z)
    exact ds_retD (c_over (ok__law_div G T) hr rfl (c_op (ok__law_sub G T) hr rfl (de_v 7 rfl (.inl rfl) rfl) (de_v 8 rfl (.inl rfl) rfl)) (c_op (ok__law_mul G T) hr rfl (de_v 5 rfl (.inl rfl) rfl) (de_v 5 rfl (.inl rfl) rfl)) q0) hP
theorem ok__law_with : Fn P w K mg base "_law_with" 1 ["_law_iron_here", "_law_last"] r_with := by
  refine fn_ok' T.d__law_with sc__law_with b__law_with (fun ds p q h ⟨x, y, e, r⟩ => ⟨x, y, e, h _ r⟩) (fun ds p ⟨x, y, e, r⟩ => by rw [e]; rfl) fun f cdv A outer s H E M ds Pd hr ⟨i, r, e, hP⟩ => ?_
  subst e
  refine DS.at (δ' := [some i.d_, some (fr r)]) ?_ rfl
  refine ds_retD (DE.eq (de_catT (de_slT (zl := none) (zh := some 2) (de_v 0 rfl (.inl rfl) rfl) True.intro de_int rfl) (de_tup (da_cons (de_catT (de_slT (zl := none) (zh := some 3) (de_ixT (fun _ _ => rfl) (de_v 0 rfl (.inl rfl) rfl) de_int rfl) True.intro de_int rfl) (de_tup (da_cons (de_v 1 rfl (.inl rfl) rfl) da_nil))) da_nil))) rfl) hP
theorem ok__law_is_frac : Fn P w K mg base "_law_is_frac" 3 ["_law_value"] r_isFrac := by
  refine fn_ok' T.d__law_is_frac sc__law_is_frac b__law_is_frac (fun ds p q h ⟨x, y, e, h1, h2, r⟩ => ⟨x, y, e, h1, h2, h _ r⟩) (fun ds p ⟨x, y, e, r⟩ => by rw [e]; rfl) fun f cdv A outer s H E M ds Pd hr ⟨q, k, e, hq, hk, hP⟩ => ?_
  subst e
  refine DS.at (δ' := [some (fr q), none]) ?_ rfl
  refine ds_ifF (dt_or3F (dt_not (b := true) (dt_val (de_isi "tuple" "tuple" true rfl G.isinstance (de_v 0 rfl (.inl rfl) rfl) rfl rfl G.tuple) (fun _ => rfl)))
    (DT.eq (dt_neI (i := 2) (de_len rfl G.len (de_v 0 rfl (.inl rfl) rfl) (.inl ⟨_, rfl, rfl⟩)) de_int) rfl)
    (dt_inB (b := false) (bs := [true, true]) rfl de_bl (de_lc (own := [("_law_each", 1)]) (g := gName 1) rfl sc__law_is_frac.nd (pi_tup pE) (blkOk_by (N := n__law_is_frac) (sc := defScope s__law_is_frac) (by decide +kernel)) (fun _ _ _ _ _ => pg_name sc__law_is_frac.nd rfl (.inl rfl))
      (lc_T (ds := [.int q.num, .int (q.den : Int)]) (fun n => [some (fr q), some (.int (match n with | 0 => q.num | _ => (q.den : Int)))]) (de_v 0 rfl (.inl rfl) rfl) (fun z hz => ?_) rfl (Nat.le_of_ble_eq_true rfl) rfl (fun n d y hd hy => ?_))) (c := false) rfl)) rfl ?_
  · cases hz with
    | head => rfl
    | tail _ h => cases h
  · match n, hd, hy with
    | 0, hd, hy =>
      cases hd; cases hy
      exact ⟨gd_name (.head _), fun s1 H1 C cl fp => c1 (ok__law_is_whole G T) hr rfl (de_v 1 rfl (.inl rfl) rfl) ⟨_, rfl, rfl⟩⟩
    | 1, hd, hy =>
      cases hd; cases hy
      exact ⟨gd_name (.head _), fun s1 H1 C cl fp => c1 (ok__law_is_whole G T) hr rfl (de_v 1 rfl (.inl rfl) rfl) ⟨_, rfl, rfl⟩⟩
    | n + 2, hd, hy => cases hd
  have e1 : decide ((0 : Int) < (q.den : Int)) = true := decide_eq_true (Int.natCast_pos.mpr q.den_pos)
  have e2 : (q.den : Int) ≠ 0 := Int.natCast_ne_zero.mpr q.den_nz
  have e3 : ((q.den : Nat) : Int).natAbs < 2 ^ 9000 := by rw [Int.natAbs_natCast]; exact lt_up hq.ok.2 hk
  have e4 : decide (Rat.divInt q.num q.den = q) = true := decide_eq_true (Rat.num_divInt_den q)
  exact ds_retD (d := .bl true) (de_andT (DE.eq (de_gt (de_ixT (fun _ _ => rfl) (de_v 0 rfl (.inl rfl) rfl) de_int rfl) de_int) (congrArg D.bl e1))
    (de_one (DE.eq (de_eqF hr.units (c2a (ok__law_frac G T) hr rfl (de_ixT (fun _ _ => rfl) (de_v 0 rfl (.inl rfl) rfl) de_int rfl) (de_ixT (fun _ _ => rfl) (de_v 0 rfl (.inl rfl) rfl) de_int rfl) ⟨_, _, rfl, e2, e3, rfl⟩) (de_v 0 rfl (.inl rfl) rfl)) (congrArg D.bl e4)))) hP
end
end Ir
/-! ## IrG -/
namespace Ir
open PySem.Spec PySem L2 PyProof.Rows
structure FnG (P : Program) (w : World) (K : PySem.W.Frag) (mg : Str → Option Value) (base : Heap) (k : Nat) (f : Addr) (fd : FuncData) (ps : List Str) (sp : Sp) : Prop where
  many : ∀ vs H Q E, sp vs H Q E → vs.length = ps.length
  runs : ∀ (B : Around) (os : List PySem.Env) (t : Shared) (H : Hp) (as : Args) (us : List Value) (vs : List V) (Q : VK) (E : XK), Room k B → B.guards = some [] → Env0 P w K mg base B os t H → BindsTo t fd as (ps.zip us) → Vals vs us → sp vs H Q E →
    codeAny (model P w) B (.call (.ref f) as) (CR CX0 os P w H t Q E) t
section
variable {w : World} {P : Program} {mg : Str → Option Value} {K : PySem.W.Frag} {base : Heap}
theorem okG {x qual : Str} {params : Arguments} {body : List Stmt} {scope : Scope} {f : Addr} {fd : FuncData} {N ps : List Str} {k : Nat} {sp : Sp} (F : FunD K x qual params body scope [] [] f fd) (S : FnScope N ps scope) (many : ∀ vs H Q E, sp vs H Q E → vs.length = ps.length)
    (hbody : ∀ (cd : Value) (B : Around) (os : List PySem.Env) (t : Shared) (H : Hp) (vs : List V) (Q : VK) (E : XK), Room k (B.deeper (envOfC qual scope t.heap.objs.size f cd)) → B.guards = some [] → sp vs H Q E →
      ∃ z, PSs (cxOf CX0 P w K mg base N qual scope f cd B os t H E) body z ∧ z { nx := fun _ H' => Q .non H', rt := Q } (L2.start N vs) H) : FnG P w K mg base (k + 1) f fd ps sp := by
  obtain ⟨oc, od, dV, kV, doc, pm, an, cd, ct, osl, rfl, lk, inK, _, _⟩ := F.ex
  refine ⟨many, fun B os t H as us vs Q E room gd e0 bnd rel want => ?_⟩
  have long := many _ _ _ _ want
  have inH : K.In t.heap := e0.mod.kin.keeps fun b o e => (e0.bs b o e).1
  have free : t.heap.NoLimit := e0.mod.nolimit.keeps fun b o e => (e0.bs b o e).1
  have kinds : ∀ y ∈ ps.zip us, scope.names.lookup y.1 = some .local ∨ (scope.names.lookup y.1 = some .cell ∧ ((cellsFrom (t.heap.objs.size + 1) scope.names []).lookup y.1).isSome = true) := by
    rintro ⟨y, v⟩ hy
    exact (S.par y (List.of_mem_zip hy).1).elim .inl fun q => .inr ⟨q, PySem.W.cellsFrom_some _ _ _ (.inl q)⟩
  refine codeAny_call_function room.depth (inH _ _ lk) rfl S.co S.gen rfl (PySem.W.codeRec_of inH inK) (bnd _ _ _ _ (wpAny_newFunctionEnv_cells S.kind kinds fun env he t1 x => ?_))
  subst he
  refine ⟨free.keeps x.toInCall.keep, codeAny_func ?_⟩
  obtain ⟨z, hz, hq⟩ := hbody cd B os t H vs Q E (room.deeper _) gd want
  have I : Inv (cxOf CX0 P w K mg base N qual scope f cd B os t H E) [] (L2.start N vs) H t1 := inv_start S room.hd e0 long rel x
  refine wpAny_mono (hz.run [] t1 (L2.start N vs) H _ I hq) (fun fl t' hs => ?_) fun e t' hs => hs
  cases fl with
  | ret u =>
    obtain ⟨v, σ', H', J, rv, q⟩ := (hs)
    exact ⟨v, H', J.os, J.bare, J.base, J.hok, rv, q⟩
  | next =>
    obtain ⟨σ', H', J, q⟩ := hs
    exact ⟨V.non, H', J.os, J.bare, J.base, J.hok, rfl, q⟩
  | brk => exact hs.elim fun _ z => z.elim fun _ z => z.2.elim
  | cont => exact hs.elim fun _ z => z.elim fun _ z => z.2.elim
/-- such a def, over data -/
structure FnH (P : Program) (w : World) (K : PySem.W.Frag) (mg : Str → Option Value) (base : Heap) (x : Str) (k : Nat) (ps : List Str) (R : Rsp) : Prop where
  ok : ∃ f fd, FnG P w K mg base k f fd ps (spD K R) ∧ mg x = some (.ref f) ∧ PySem.W.keepIn K (.ref f) = true ∧ Binds K fd ps []
  mono : ∀ (ds : List D) (p q : D → Prop), (∀ d, p d → q d) → R ds p → R ds q
theorem fn_okH {x : Str} {st : Stmt} {N ps : List Str} {k : Nat} {R : Rsp} (G : Df K mg x st) (S : FnScope N ps (defScope st))
    (hb : ∀ (kV doc pm : Value) (an : Option Addr) (cdv ct : Value) (us : List Value), us.length = ps.length → bindArgs (PySem.W.fnOf x x (defArgs st) (defBody st) (defScope st) .none kV doc pm an cdv ct) ⟨us, []⟩ = pure (ps.zip us))
    (mono : ∀ (ds : List D) (p q : D → Prop), (∀ d, p d → q d) → R ds p → R ds q) (len : ∀ ds p, R ds p → ds.length = ps.length)
    (hbody : ∀ (f : Addr) (cdv : Value) (A : Around) (outer : List PySem.Env) (s : Shared) (H : Hp) (E : XK) (M : List Addr) (ds : List D) (Pd : D → Prop), Room k (A.deeper (envOfC x (defScope st) s.heap.objs.size f cdv)) → A.guards = some [] → R ds Pd →
      DS (cxOf CX0 P w K mg base N x (defScope st) f cdv A outer s H E).nox M H (defBody st) (startD N ds) (fun _ => Pd .non) Pd) : FnH P w K mg base x (k + 1) ps R := by
  obtain ⟨f, fd, F, gf⟩ := G
  refine ⟨⟨f, fd, okG F S (fun vs H Q E h => ?_) (fun cdv A outer s H vs Q E hr gd h => ?_), gf, F.kp, FunD.bindsN F hb⟩, mono⟩
  · obtain ⟨M, ds, _, r, q⟩ := h
    exact r.len.trans (len ds _ q)
  · obtain ⟨M, ds, ok, r, q⟩ := h
    refine ⟨_, PSs.nox pS, ?_⟩
    exact hbody f cdv A outer s H E M ds _ hr gd q _ H { nx := fun _ H' => Q .non H', rt := Q } (Good.refl ok) ok (env_start r) (fun δ' σ' H' n g _ _ => n _ H' g rNon) (fun d v H' hr' g r' => hr' v H' g r')
end
section
variable {X : Cx} {M : List Addr} {e e2 : Expr} {es : List Expr} {δ : Ev} {P : D → Prop}
theorem run_G {k : Nat} {f : Addr} {fd : FuncData} {ps : List Str} {sp : Sp} {Er : XK} {pins : List (Addr × Obj)} {σ : L2.St} {H : Hp} {s : Shared} {Q : VK} {us : List Value} {vs : List V} (F : FnG X.prog X.w X.K X.mg X.base k f fd ps sp) (hr : Room k X.A) (gd : X.A.guards = some []) (hb : Binds X.K fd ps []) (hx : Passes CX0 X Er)
    (I : Inv X pins σ H s) (r : Vals vs us) (h : sp vs H Q Er) : wpAny (model X.prog X.w) X.A (call (.ref f) us) (EP X pins σ Q) X.xe s := by
  have hl : (us ++ []).length = ps.length := by rw [List.append_nil, ← r.length]; exact F.many _ _ _ _ h
  have bb := hb s us I.kIn hl
  rw [List.append_nil] at bb
  refine wpAny_call (codeAny_mono (F.runs X.A X.stack s H ⟨us, []⟩ us vs Q Er hr gd I.env0 bb r h) fun r s' hq => ?_)
  cases r with
  | error e => exact (hx pins σ H s e s' I hq)
  | ok fl =>
    cases fl with
    | ret u => exact I.after hq
    | next => exact hq.elim
    | brk => exact hq.elim
    | cont => exact hq.elim
theorem we_callH {x : Str} {p pos : Pos} {k n : Nat} {ps : List Str} {R : Rsp} (F : FnH X.prog X.w X.K X.mg X.base x k ps R) (hr : Room n X.A) (gd : X.A.guards = some []) (hg : Gl X x) (h : WA X M (e :: es) δ fun ds => R ds P) (hk : k ≤ n := by decide) (hdb : (x == ("__debug__" : Str)) = false := by decide)
    (he : starEach (e :: es) X.env = (false, eval e X.env) :: starEach es X.env := by rfl) (hpl : (backTo pos (starEach es X.env)).any (·.1) = false := by rfl) : WE X M (.Call (.Name x p) (e :: es) [] pos) δ P := by
  intro σ H Q ok en f
  obtain ⟨g, fd, F1, gm, kp, b⟩ := F.ok
  intro pins s I
  refine wpAny_Call_Name_kw (ld_glob I hg gm ?_ hdb)
  refine PySem.W.callWith_K (h₀ := X.base) I.ok.mod.kin kp (thn ((pA (X := X) (es := e :: es)).run pos pins s σ H _ I ((h.go ok en (Q := fun vs H1 => spD X.K R vs H1 Q fun _ _ _ => False) fun ds vs H1 p1 g1 k1 en1 r1 => ?_))) fun us s1 ⟨vs, H1, I1, r, q⟩ => ⟨I1.kIn, ?_⟩) he hpl
  · exact ⟨M, ds, k1, r1, F.mono _ _ _ (fun d hp v H2 g2 r2 => f d v H2 hp (g1.trans g2) r2) p1⟩
  · exact run_G F1 (hr.mono hk) gd b pass0 I1 r q
end
end Ir
/-! ## IrY -/
namespace Ir
open PySem.Spec PySem L2 PyProof.Rows
theorem end_core {P : Program} {w : World} {K : PySem.W.Frag} {mg mb : Str → Option Value} {k : Nat} {fa a : Addr} {fd : FuncData} {x : Str} {sp : Sp} {t : Shared} {vs : List Value} {H : Hp} {ys : List V}
    (inK : K.In t.heap) (gn : t.heap.Ns mainGlobals mg) (bn : t.heap.Ns builtinsNs mb) (bb : ∀ x : Str, x ≠ "__name__" → mb x = bootBuiltins x) (free : t.heap.NoLimit) (noG : t.gens = #[])
    (at_ : t.heap.get? a = some { cls := .type "list", data := .seq vs.toArray }) (room : Room k callerA)
    (F : ∀ base : Heap, K.In base → base.Ns mainGlobals mg → FnG P w K mg base k fa fd [x] sp) (bind1 : ∀ (s : Shared) (u : Value), BindsTo s fd ⟨[u], []⟩ [(x, u)])
    (only : Only H) (sq : SqL K H a ys) (want : sp [.ref a] H (fun v _ => v = .bl true) fun _ _ _ => False) (hok : HOk P w H t.heap) (just : ∀ b, H b ≠ none → b = a) (out : H a ≠ none → K.lookup a = none) :
    codeAny (model P w) callerA (.call (.ref fa) ⟨[.ref a], []⟩) (fun r t' => r = .ok (.ret (.bool true)) ∧ OldK t.heap t'.heap ∧ t'.os = t.os ∧ AllBare t'.gens) t := by
  have noD : ∀ {b : Addr} {o : Obj} {es : Array DictEntry} {ep : Nat}, t.heap.get? b = some o → o.data = .dict es ep → H b = none := by
    intro b o es ep e d
    by_cases hb : H b = none
    · exact hb
    · have eb := just b hb
      subst eb
      rw [at_] at e
      cases e
      exact absurd (show Data.seq vs.toArray _ = Data.dict es ep from d) (by intro z; cases z)
  have ns : ∀ {b : Addr} {m : Str → Option Value}, t.heap.Ns b m → (hidT t.heap H).Ns b m := by
    rintro b m ⟨o, es, ep, e, d, r⟩
    exact ⟨o, es, ep, hidT_get e (noD e d), d, r⟩
  have inB : K.In (hidT t.heap H) := by
    intro b o e
    refine hidT_get (inK b o e) ?_
    by_cases hb : H b = none
    · exact hb
    · have eb := just b hb
      subst eb
      rw [out hb] at e
      cases e
  have md : Mod K mg (hidT t.heap H) := by
    obtain ⟨mc, c1, c2⟩ := free
    exact ⟨inB, ns gn, ⟨mb, ns bn, bb⟩, ⟨mc, ns c1, c2⟩⟩
  have e0 : Env0 P w K mg (hidT t.heap H) callerA [] t H := ⟨rfl, md, fun b o e => of_hidT e, Nat.le_of_eq (hidT_size _ _), trivial, fun b hb => (by cases hb), hok, .of_eq noG⟩
  refine codeAny_mono ((F _ inB (ns gn)).runs callerA [] t H ⟨[.ref a], []⟩ [.ref a] [.ref a] _ _ room rfl e0 (bind1 t (.ref a)) (.cons rfl .nil) want) fun r t' h => ?_
  cases r with
  | error e => exact False.elim h
  | ok fl =>
    cases fl with
    | next => exact h.elim
    | brk => exact h.elim
    | cont => exact h.elim
    | ret u =>
      obtain ⟨v, H', os, bare, un, hok', r', rfl⟩ := h
      obtain rfl : u = Value.bool true := (r')
      refine ⟨rfl, OldK.of_keep (fun b o e => ?_), os, bare⟩
      rcases only b with z | ⟨ob, xs, z⟩
      · exact un.keep b o e z (fun m => by cases m) (by simp)
      · obtain ⟨e1, _⟩ := hok b _ z
        obtain ⟨e2, _⟩ := hok' b _ (un.frzs b ob _ z)
        rw [e] at e1
        cases e1
        exact e2
theorem end_call {P : Program} {w : World} {K : PySem.W.Frag} {mg mb : Str → Option Value} {k : Nat} {fa a : Addr} {fd : FuncData} {x : Str} {sp : Sp} {t : Shared} {vs : List Value} {ns : List Int}
    (inK : K.In t.heap) (gn : t.heap.Ns mainGlobals mg) (bn : t.heap.Ns builtinsNs mb) (bb : ∀ x : Str, x ≠ "__name__" → mb x = bootBuiltins x) (free : t.heap.NoLimit) (noG : t.gens = #[])
    (at_ : t.heap.get? a = some { cls := .type "list", data := .seq vs.toArray }) (whl : IntsAre vs ns) (short : ns.length ≤ sizeLine) (room : Room k callerA)
    (F : ∀ base : Heap, K.In base → base.Ns mainGlobals mg → FnG P w K mg base k fa fd [x] sp) (bind1 : ∀ (s : Shared) (u : Value), BindsTo s fd ⟨[u], []⟩ [(x, u)])
    (want : ∀ H : Hp, Only H → SqL K H a (ns.map V.int) → sp [.ref a] H (fun v _ => v = .bl true) fun _ _ _ => False) :
    codeAny (model P w) callerA (.call (.ref fa) ⟨[.ref a], []⟩) (fun r t' => r = .ok (.ret (.bool true)) ∧ OldK t.heap t'.heap ∧ t'.os = t.os ∧ AllBare t'.gens) t := by
  have rel := vals_ints whl
  cases kept : K.lookup a with
  | some o =>
    have e := inK a o kept
    rw [at_] at e
    cases e
    have sq : SqL K (fun _ => none) a (ns.map V.int) := .inr ⟨_, vs.toArray, _, kept, rfl, rfl, rfl, by rw [List.size_toArray, whl.length]; exact short, by simpa using rel⟩
    exact end_core inK gn bn bb free noG at_ room F bind1 (fun _ => .inl rfl) sq (want _ (fun _ => .inl rfl) sq) (fun b u z => by exact absurd z (by simp)) (fun b z => (z rfl).elim) fun z => (z rfl).elim
  | none =>
    have look : ∀ b u, (if b = a then some (HO.frz { cls := .type "list", data := .seq vs.toArray } (.lst (ns.map V.int))) else none) = some u → b = a ∧ HO.frz { cls := .type "list", data := .seq vs.toArray } (.lst (ns.map V.int)) = u := by
      intro b u z
      by_cases hb : b = a
      · rw [if_pos hb] at z
        exact ⟨hb, Option.some.inj z⟩
      · rw [if_neg hb] at z
        cases z
    have on : Only fun b => if b = a then some (HO.frz { cls := .type "list", data := .seq vs.toArray } (.lst (ns.map V.int))) else none := by
      intro b
      by_cases hb : b = a
      · exact (.inr ⟨_, _, if_pos hb⟩)
      · exact .inl (if_neg hb)
    have sq : SqL K (fun b => if b = a then some (HO.frz { cls := .type "list", data := .seq vs.toArray } (.lst (ns.map V.int))) else none) a (ns.map V.int) := .inl (.inr ⟨_, if_pos rfl⟩)
    refine end_core inK gn bn bb free noG at_ room F bind1 on sq (want _ on sq) (fun b u z => ?_) (fun b z => ?_) fun _ => kept
    · obtain ⟨rfl, rfl⟩ := look b u z
      exact ⟨at_, by rw [List.length_map]; exact short, vs, _, rel, at_⟩
    · by_cases hb : b = a
      · exact hb
      · exact absurd (if_neg hb) z
end Ir
/-! ## IrN -/
namespace Ir
open PySem.Spec PySem L2 PyProof.Rows
section
variable {X : Cx} {M : List Addr} {e e2 : Expr} {es : List Expr} {δ : Ev} {P : D → Prop} {p q r : Int → Prop} {pos : Pos}
def WI (X : Cx) (M : List Addr) (e : Expr) (δ : Ev) (p : Int → Prop) : Prop := WE X M e δ fun d => ∃ i, d = .int i ∧ p i
theorem DE.wi {i : Int} (h : DE X M e δ (.int i)) (hp : p i) : WI X M e δ p := h.we ⟨i, rfl, hp⟩
theorem WI.we (h : WI X M e δ p) (h2 : ∀ i, p i → P (.int i)) : WE X M e δ P := h.mono fun d ⟨i, z, hp⟩ => by rw [z]; exact h2 i hp
theorem wi_add (h1 : WI X M e δ p) (h2 : WI X M e2 δ q) (h : ∀ i j, p i → q j → r (i + j)) : WI X M (.BinOp e .Add e2 pos) δ r :=
  we_bin op_add (h1.mono fun x ⟨i, z, hp⟩ => h2.mono fun y ⟨j, z', hq⟩ => ⟨.int (i + j), by rw [z, z']; exact o_int fun _ => rInt _, i + j, rfl, h i j hp hq⟩)
theorem wi_sub (h1 : WI X M e δ p) (h2 : WI X M e2 δ q) (h : ∀ i j, p i → q j → r (i - j)) : WI X M (.BinOp e .Sub e2 pos) δ r :=
  we_bin op_sub (h1.mono fun x ⟨i, z, hp⟩ => h2.mono fun y ⟨j, z', hq⟩ => ⟨.int (i - j), by rw [z, z']; exact o_int fun _ => rInt _, i - j, rfl, h i j hp hq⟩)
theorem wi_mul (h1 : WI X M e δ p) (h2 : WI X M e2 δ q) (hc : ∀ i j, p i → q j → CMul i j) (h : ∀ i j, p i → q j → r (i * j)) : WI X M (.BinOp e .Mult e2 pos) δ r :=
  we_bin op_mul (h1.mono fun x ⟨i, z, hp⟩ => h2.mono fun y ⟨j, z', hq⟩ => ⟨.int (i * j), by rw [z, z']; exact o_intC (hc i j hp hq) fun _ => rInt _, i * j, rfl, h i j hp hq⟩)
theorem wi_mod (h1 : WI X M e δ p) (h2 : WI X M e2 δ q) (hc : ∀ j, q j → 0 < j) (h : ∀ i j, p i → q j → r (i % j)) : WI X M (.BinOp e .Mod e2 pos) δ r :=
  we_bin op_mod (h1.mono fun x ⟨i, z, hp⟩ => h2.mono fun y ⟨j, z', hq⟩ => ⟨.int (i % j), by rw [z, z']; exact o_intC (hc j hq) fun _ => rInt _, i % j, rfl, h i j hp hq⟩)
theorem wi_fdiv (h1 : WI X M e δ p) (h2 : WI X M e2 δ q) (hc : ∀ j, q j → 0 < j ∧ j < 1073741824) (h : ∀ i j, p i → q j → r (i / j)) : WI X M (.BinOp e .FloorDiv e2 pos) δ r :=
  we_bin op_fdiv (h1.mono fun x ⟨i, z, hp⟩ => h2.mono fun y ⟨j, z', hq⟩ => ⟨.int (i / j), by rw [z, z']; exact o_intC (hc j hq) fun _ => rInt _, i / j, rfl, h i j hp hq⟩)
theorem wi_toInt {p' : Pos} (hg : Gl X "int") (hm : X.mg "int" = none) (h : WI X M e δ p)
    (he : starEach [e] X.env = (false, eval e X.env) :: starEach [] X.env := by rfl) (hpl : (backTo pos (starEach [] X.env)).any (·.1) = false := by rfl) : WI X M (.Call (.Name "int" p') [e] [] pos) δ p :=
  we_toInt hg hm (h.mono fun d ⟨i, z, hp⟩ => ⟨i, z, i, rfl, hp⟩) he hpl
theorem wt_gtI {Q : Bool → Prop} (h1 : WI X M e δ p) (h2 : WI X M e2 δ q) (h : ∀ i j, p i → q j → Q (decide (j < i))) : WT X M (.Compare e [.Gt] [e2] pos) δ Q :=
  wt_cmp op_gt (nomark _) (h1.mono fun x ⟨i, z, hp⟩ => h2.mono fun y ⟨j, z', hq⟩ => ⟨decide (j < i), by rw [z, z']; exact o_int fun _ => rBl _, h i j hp hq⟩)
/-- store[k] -/
theorem at3 {M : List Addr} {H : Hp} {s : Addr} {k : Int} (ok : Ok M H) (hs : s ∈ M) (hk : k = 0 ∨ k = 1 ∨ k = 2) : ∃ xs i, H s = some (.lst xs) ∧ atI xs k = some (.int i) := by
  obtain ⟨a, b, c, e⟩ := ok s hs
  refine ⟨[.int a, .int b, .int c], ?_⟩
  rcases hk with rfl | rfl | rfl
  · exact ⟨a, e, rfl⟩
  · exact ⟨b, e, rfl⟩
  · exact ⟨c, e, rfl⟩
theorem wi_sto {s : Addr} {k : Int} (hp : PlainIx e2) (hs : DE X M e δ (.sto s)) (hi : DE X M e2 δ (.int k)) (hk : k = 0 ∨ k = 1 ∨ k = 2) : WI X M (.Subscript e e2 pos) δ fun _ => True := by
  intro σ H Q ok en f
  refine toE (pe_ix ix_list pE pE hp) (hs.go ok en fun x vx H1 w1 g1 k1 en1 r1 => hi.go k1 en1 fun y vy H2 p2 g2 k2 en2 r2 => ?_)
  subst w1 p2
  obtain ⟨e1, m⟩ := (Rep.good k1 g2 _ vx r1).sto
  obtain ⟨xs, i, e3, e4⟩ := at3 k2 m hk
  exact ⟨s, xs, k, .int i, e1, r2.int, .inl (.inl e3), e4, f _ _ H2 ⟨i, rfl, True.intro⟩ (g1.trans g2) (rInt _)⟩
/-- store[k] = an int -/
theorem set3 {M : List Addr} {H : Hp} {s : Addr} {k : Int} {z : Int} (ok : Ok M H) (hs : s ∈ M) (hk : k = 0 ∨ k = 1 ∨ k = 2) : ∃ xs j, H s = some (.lst xs) ∧ ixN xs.length k = some j ∧ Good M H (upd H s (.lst (xs.set j (.int z)))) := by
  obtain ⟨a, b, c, e⟩ := ok s hs
  have g : ∀ i j l : Int, Good M H (upd H s (.lst [.int i, .int j, .int l])) := fun i j l => by
    refine ⟨fun d o hd e' => ?_, fun t ht => ?_⟩
    · rw [upd_ne (fun w => hd (by rw [w]; exact hs))]
      exact e'
    · by_cases hts : t = s
      · subst hts
        exact ⟨i, j, l, upd_same⟩
      · obtain ⟨i', j', l', e'⟩ := ok t ht
        exact ⟨i', j', l', by rw [upd_ne hts]; exact e'⟩
  refine ⟨[.int a, .int b, .int c], ?_⟩
  rcases hk with rfl | rfl | rfl
  · exact ⟨0, e, rfl, g z b c⟩
  · exact ⟨1, e, rfl, g a z c⟩
  · exact ⟨2, e, rfl, g a b z⟩
variable {H0 : Hp} {rest body : List Stmt} {N : Ev → Prop} {R : D → Prop}
theorem ds_sto {s : Addr} {k : Int} {v : Expr} {ps : Pos} (hs : DE X M e δ (.sto s)) (hi : DE X M e2 δ (.int k)) (hk : k = 0 ∨ k = 1 ∨ k = 2) (hv : WI X M v δ fun _ => True) (h2 : DS X M H0 rest δ N R)
    (ha : ∀ v, assign (.Subscript e e2 ps) X.env v = (do
      let ov ← holding [v] (eval e X.env)
      let iv ← holding [v, ov] (eval e2 X.env)
      standAt ps; holding [v, ov, iv] (setItem ov iv v)
      release [v, ov, iv] []) := by intro _; rfl)
    (hsw : swapsWithSole [.Subscript e e2 ps] v pos.line X.env = pure false := by rfl) (hw : swappedStores [.Subscript e e2 ps] v X.env = pure none := by rfl)
    (h1 : (assignEach [.Subscript e e2 ps] X.env).map (·.2) = [assign (.Subscript e e2 ps) X.env] := by rfl) : DS X M H0 (.Assign [.Subscript e e2 ps] v pos :: rest) δ N R := by
  intro σ H E g ok en fn fr
  refine toS (pss_cons (ps_asg pE (pg_sub pE pE set_list ha) hsw hw h1) pS) (hv.go ok en fun d w H1 p1 g1 k1 en1 r1 => hs.go k1 en1 fun x vx H2 p2 g2 k2 en2 r2 => hi.go k2 en2 fun y vy H3 p3 g3 k3 en3 r3 => ?_)
  obtain ⟨z, rfl, _⟩ := p1
  subst p2 p3
  obtain ⟨e4, m⟩ := (Rep.good k2 g3 _ vx r2).sto
  obtain ⟨xs, j, e5, e6, g4⟩ := set3 (z := z) k3 m hk
  have ew : w = .int z := r1.int
  subst ew
  have g5 := ((g1.trans g2).trans g3).trans g4
  exact ⟨s, xs, k, j, e4, r3.int, e5, e6, h2 σ _ E (g.trans g5) g5.ok (en3.good k3 g4) (fun δ' σ' H' n g6 t6 => fn δ' σ' H' n g6 ((g5.keepT ok).trans t6)) fr⟩
/-- store[0], x = a pair of ints -/
theorem ds_stoP (i : Nat) {s : Addr} {x : Str} {v : Expr} {ps px pt : Pos} {kt : Nat} {a b k : Int} (hc : X.calm = true) (hN : X.N.Nodup) (hx : X.N[i]? = some x) (hl : Loc X.env.scope x) (hs : DE X M e δ (.sto s)) (hi : DE X M e2 δ (.int k)) (hk : k = 0 ∨ k = 1 ∨ k = 2) (hv : WE X M v δ fun d => ∃ a b, d = .tup [.int a, .int b] ∧ DS X M H0 rest (δ.set i (some (.int b))) N R)
    (ha : ∀ v, assign (.Subscript e e2 ps) X.env v = (do
      let ov ← holding [v] (eval e X.env)
      let iv ← holding [v, ov] (eval e2 X.env)
      standAt ps; holding [v, ov, iv] (setItem ov iv v)
      release [v, ov, iv] []) := by intro _; rfl)
    (hf : X.fn x = true ∨ X.env.scope.names.lookup x = some .local := by first | exact .inl rfl | exact .inr rfl)
    (hn : (assignEach [.Subscript e e2 ps, .Name x px] X.env).length = 2 := by rfl) (hst : (assignEach [.Subscript e e2 ps, .Name x px] X.env).findIdx? (·.1) = none := by rfl)
    (ht1 : (assignEach [.Subscript e e2 ps, .Name x px] X.env).map (·.2) = assign (.Subscript e e2 ps) X.env :: (assignEach [.Name x px] X.env).map (·.2) := by rfl) (ht2 : (assignEach [.Name x px] X.env).map (·.2) = assign (.Name x px) X.env :: (assignEach [] X.env).map (·.2) := by rfl)
    (hsw : swapsWithSole [.Tuple [.Subscript e e2 ps, .Name x px] kt pt] v pos.line X.env = pure false := by rfl) (hw : swappedStores [.Tuple [.Subscript e e2 ps, .Name x px] kt pt] v X.env = pure none := by rfl)
    (h1 : (assignEach [.Tuple [.Subscript e e2 ps, .Name x px] kt pt] X.env).map (·.2) = [assign (.Tuple [.Subscript e e2 ps, .Name x px] kt pt) X.env] := by rfl) : DS X M H0 (.Assign [.Tuple [.Subscript e e2 ps, .Name x px] kt pt] v pos :: rest) δ N R := by
  intro σ H E g ok en fn fr
  refine toS (pss_cons (ps_asg pE (pg_tup (n := 2) hc (pgs_cons (pg_sub pE pE set_list ha) (pgs_cons (pg_name hN hx hl hf) pgs_nil ht2) ht1) hn hst) hsw hw h1) pS) (hv.go ok en fun d w H1 p1 g1 k1 en1 r1 => ?_)
  obtain ⟨a, b, rfl, h2⟩ := p1
  obtain ⟨t, xs, e3, sq, rs⟩ := r1.tup
  obtain ⟨x1, x2, e4, q1, q2⟩ := Reps.two_ rs
  refine ⟨t, xs, e3, sq, rs.len, x1, [x2], e4, ?_⟩
  refine hs.go k1 en1 fun y vy H2 p2 g2 k2 en2 r2 => hi.go k2 en2 fun y3 vy3 H3 p3 g3 k3 en3 r3 => ?_
  subst p2 p3
  obtain ⟨e5, m⟩ := (Rep.good k2 g3 _ vy r2).sto
  obtain ⟨ys, j, e6, e7, g4⟩ := set3 (z := a) k3 m hk
  have e8 : x1 = .int a := q1.int
  have e9 : x2 = .int b := q2.int
  subst e8 e9
  have g5 := ((g1.trans g2).trans g3).trans g4
  exact ⟨s, ys, k, j, e5, r3.int, e6, e7, .int b, [], rfl, rfl, h2 _ _ E (g.trans g5) g5.ok ((en3.good k3 g4).set (rInt b)) (fun δ' σ' H' n g6 t6 => fn δ' σ' H' n g6 ((g5.keepT ok).trans t6)) fr⟩
/-- for tg in range(n), by a property of the slots -/
theorem ds_forRI {tg a : Expr} {p1 pc : Pos} {n : Nat} (I : Nat → Ev → Prop) (hp : PassesOwn (model X.prog X.w) X.A X.env X.xe) (hc : X.calm = true) (hg : Gl X "range") (hm : X.mg "range" = none) (hx : DE X M a δ (.int (n : Nat))) (hn : n < 1000) (h0 : I 0 δ)
    (turn : ∀ (i : Nat) (δ1 : Ev), i < n → I i δ1 → ∃ δ2, GT X M tg (.int (i : Nat)) δ1 δ2 ∧ DS X M H0 body δ2 (fun δ' => I (i + 1) δ') R) (after : ∀ δ', I n δ' → DS X M H0 rest δ' N R)
    (hs : ∀ x, foldedSetIterable (.Call (.Name "range" p1) [a] [] pc) X.env x = pure x := by intro _; rfl) (h1 : starEach [a] X.env = [(false, eval a X.env)] := by rfl)
    (h2 : starEach [a] X.env = (false, eval a X.env) :: starEach [] X.env := by rfl) : DS X M H0 (.For tg (.Call (.Name "range" p1) [a] [] pc) body [] pos :: rest) δ N R := by
  intro σ H E g ok en fn fr
  refine toS (pss_cons (ps_for hp hc (pi_range1 hg hm (pa_cons pE pa_nil h2) h1) pG pS hs) pS) (hx.go ok en fun d v H1 p1 g1 k1 en1 r1 => ?_)
  subst p1
  refine ⟨(n : Nat), by rw [r1.int], by omega, by omega, ?_⟩
  show ∃ W : Nat → Nat → L2.St → Hp → Prop, _
  have en' : ((n : Nat) : Int).toNat = n := by omega
  rw [en']
  refine for_range (lo := 0) (n := n) (fun i σ' H' => ∃ δ', I i δ' ∧ Good M H0 H' ∧ KeepT H1 H' ∧ Env X.K M H' δ' σ') ⟨δ, h0, g.trans g1, KeepT.refl _, en1⟩ (fun i σ' H' hi q => ?_) (fun σ' H' q => ?_)
  · obtain ⟨δ1, q0, q1, q2, q3⟩ := q
    obtain ⟨δ2, gt, bd⟩ := turn i δ1 hi q0
    refine gt _ σ' H' _ q1.ok q3 (show Rep X.K M H' (.int (i : Nat)) (.int (0 + (i : Nat))) by rw [Int.zero_add]; exact rInt _) fun σ2 en2 => ?_
    exact bd σ2 H' _ q1 q1.ok en2 (fun δ' σ3 H3 l g3 t3 en3 => ⟨δ', l, g3, q2.trans t3, en3⟩) fr
  · obtain ⟨δ1, q0, q1, q2, q3⟩ := q
    exact after δ1 q0 σ' H' E q1 q1.ok q3 (fun δ' σ3 H3 n g3 t3 => fn δ' σ3 H3 n g3 (((g1.keepT ok).trans q2).trans t3)) fr
end
end Ir
/-! ## IrL5 -/
namespace Ir
open PySem.Spec PySem L2 PyProof.Rows
def r_take : Rsp := fun ds P => ∃ (s : Addr) (m : Int), ds = [.sto s, .int m] ∧ 0 < m ∧ m < 1073741824 ∧ ∀ r, 0 ≤ r → r < m → P (.int r)
def r_pick : Rsp := fun ds P => ∃ (s : Addr) (xs : List D), ds = [.sto s, .tup xs] ∧ 0 < xs.length ∧ xs.length < 1000 ∧ ∀ d ∈ xs, P d
def r_low : Rsp := fun ds P => ∃ s, ds = [.sto s] ∧ ∀ i : Int, i.natAbs ≤ 80 → P (.int i)
def r_part : Rsp := fun ds P => ∃ s, ds = [.sto s] ∧ ∀ q, Sz q 7 → P (fr q)
def r_half : Rsp := fun ds P => ∃ s, ds = [.sto s] ∧ P .non ∧ ∀ u : Rat, u.num.natAbs ≤ 80 → u.den ≤ 5 → P (fr u)
def r_heading : Rsp := fun ds P => ∃ s, ds = [.sto s] ∧ ∀ c t, Sz c 13 → Sz t 13 → c * c + t * t = 1 → P (pr c t)
def r_site : Rsp := fun ds P => ∃ s, ds = [.sto s] ∧ ∀ H Z, Sz H 3 → 0 < H.num → Sz Z 7 → P (pr H Z)
theorem atI_in {α : Type} {xs : List α} {r : Int} (h0 : 0 ≤ r) (h1 : r < xs.length) : ∃ d, atI xs r = some d ∧ d ∈ xs := by
  have hl : r.toNat < xs.length := by omega
  refine ⟨xs[r.toNat], ?_, List.getElem_mem hl⟩
  unfold atI ixN
  rw [if_pos h0, if_pos h1]
  exact List.getElem?_eq_getElem hl
section
variable {X : Cx} {M : List Addr} {e e2 : Expr} {es : List Expr} {δ : Ev} {P : D → Prop} {p q r : Int → Prop} {pos pp : Pos} {s : Addr}
theorem wiT {i : Int} (h : DE X M e δ (.int i)) : WI X M e δ fun j => j = i := h.wi rfl
theorem we_divmod {j : Int} (hg : Gl X "divmod") (hm : X.mg "divmod" = none) (hx : WI X M e δ p) (hy : DE X M e2 δ (.int j)) (hj : 0 < j ∧ j < 1073741824) (h : ∀ i, p i → P (.tup [.int (i / j), .int (i % j)]))
    (he : starEach [e, e2] X.env = (false, eval e X.env) :: starEach [e2] X.env := by rfl) (he2 : starEach [e2] X.env = (false, eval e2 X.env) :: starEach [] X.env := by rfl) (hpl : (backTo pos (starEach [e2] X.env)).any (·.1) = false := by rfl) : WE X M (.Call (.Name "divmod" pp) [e, e2] [] pos) δ P := by
  refine we_callB call_divmod hg hm (by decide +kernel) (wa_cons (hx.mono fun d ⟨i, z, hp⟩ => wa_cons (hy.we (wa_nil ⟨.tup [.int (i / j), .int (i % j)], fun vs H Q k r f => ?_, h i hp⟩)) he2) he) (by decide) (by decide) he hpl
  subst z
  obtain ⟨u, v, rfl, r1, r2⟩ := Reps.two_ r
  refine ⟨i, j, by rw [r1.int, r2.int], hj, fun q hq => ?_⟩
  obtain ⟨g, r3⟩ := new_tup k hq (Reps.cons (rInt (i / j)) (Reps.one (rInt (i % j))))
  exact f _ _ g r3
theorem we_take {x a b : Str} {k n : Nat} {m : Int} (F : Fn X.prog X.w X.K X.mg X.base x k [a, b] r_take) (hr : Room n X.A) (hg : Gl X x) (hs : DE X M e δ (.sto s)) (hm : DE X M e2 δ (.int m)) (h0 : 0 < m ∧ m < 1073741824) (h : ∀ r, 0 ≤ r → r < m → P (.int r)) (hk : k ≤ n := by decide) (hdb : (x == ("__debug__" : Str)) = false := by decide)
    (he : starEach [e, e2] X.env = (false, eval e X.env) :: starEach [e2] X.env := by rfl) (he2 : starEach [e2] X.env = (false, eval e2 X.env) :: starEach [] X.env := by rfl) (hpl : (backTo pos (starEach [e2] X.env)).any (·.1) = false := by rfl) : WE X M (.Call (.Name x pp) [e, e2] [] pos) δ P :=
  we_call F hr hg (wa_cons (hs.we (wa_cons (hm.we (wa_nil ⟨s, m, rfl, h0.1, h0.2, h⟩)) he2)) he) hk hdb he hpl
theorem we_pick {x a b : Str} {k n : Nat} {xs : List D} (F : Fn X.prog X.w X.K X.mg X.base x k [a, b] r_pick) (hr : Room n X.A) (hg : Gl X x) (hs : DE X M e δ (.sto s)) (hm : DE X M e2 δ (.tup xs)) (h0 : 0 < xs.length ∧ xs.length < 1000) (h : ∀ d ∈ xs, P d) (hk : k ≤ n := by decide) (hdb : (x == ("__debug__" : Str)) = false := by decide)
    (he : starEach [e, e2] X.env = (false, eval e X.env) :: starEach [e2] X.env := by rfl) (he2 : starEach [e2] X.env = (false, eval e2 X.env) :: starEach [] X.env := by rfl) (hpl : (backTo pos (starEach [e2] X.env)).any (·.1) = false := by rfl) : WE X M (.Call (.Name x pp) [e, e2] [] pos) δ P :=
  we_call F hr hg (wa_cons (hs.we (wa_cons (hm.we (wa_nil ⟨s, xs, rfl, h0.1, h0.2, h⟩)) he2)) he) hk hdb he hpl
end
theorem num_pos_of {q : Rat} (h : 0 < q) : 0 < q.num := by
  have e : q.num ≠ 0 := fun z => by
    rw [Rat.num_eq_zero.mp z] at h
    exact absurd h (by decide +kernel)
  have n := Rat.num_nonneg.mpr (Rat.le_of_lt h)
  omega
theorem pos_of_num {q : Rat} (h : 0 < q.num) : 0 < q := by
  rw [← Rat.num_divInt_den q, Rat.divInt_eq_div, Rat.div_def]
  exact Rat.mul_pos (Rat.intCast_pos.mpr h) (Rat.inv_pos.mpr (Rat.intCast_pos.mpr (Int.natCast_pos.mpr q.den_pos)))
theorem hunit (u : Rat) : hcos u * hcos u + hsin u * hsin u = 1 := by
  have h := hden (u := u)
  unfold hcos hsin
  rw [Rat.divInt_eq_div, Rat.divInt_eq_div, Rat.intCast_sub, Rat.intCast_add, Rat.intCast_mul, Rat.intCast_mul, Rat.intCast_mul, Rat.intCast_mul]
  have h2 : ((u.den : Int) : Rat) * ((u.den : Int) : Rat) + (u.num : Rat) * (u.num : Rat) ≠ 0 := by
    rw [← Rat.intCast_mul, ← Rat.intCast_mul, ← Rat.intCast_add]
    intro z
    have := Rat.intCast_inj.mp (z.trans Rat.intCast_zero.symm)
    omega
  generalize ((u.den : Int) : Rat) = d at *
  generalize (u.num : Rat) = n at *
  have e2 : ((2 : Int) : Rat) = 2 := by decide +kernel
  rw [e2]
  grind
theorem ints_mem {d : D} {zs : List Int} (h : d ∈ zs.map D.int) : ∃ z, d = .int z ∧ z ∈ zs := by
  obtain ⟨z, h1, h2⟩ := List.mem_map.mp h
  exact ⟨z, h2.symm, h1⟩
theorem half_sz {u : Rat} (h1 : u.num.natAbs ≤ 80) (h2 : u.den ≤ 5) : Sz u 10 ∧ Sz (hcos u) 13 ∧ Sz (hsin u) 13 := by
  have n1 : u.num.natAbs * u.num.natAbs ≤ 80 * 80 := Nat.mul_le_mul h1 h1
  have n2 : u.den * u.den ≤ 5 * 5 := Nat.mul_le_mul h2 h2
  have n3 : u.num.natAbs * u.den ≤ 80 * 5 := Nat.mul_le_mul h1 h2
  have e1 : (u.num * u.num).natAbs = u.num.natAbs * u.num.natAbs := Int.natAbs_mul ..
  have e2 : ((u.den : Int) * u.den).natAbs = u.den * u.den := by rw [Int.natAbs_mul]; rfl
  have e3 : (2 * u.num * u.den).natAbs = 2 * (u.num.natAbs * u.den) := by rw [Int.natAbs_mul, Int.natAbs_mul, Nat.mul_assoc]; rfl
  refine ⟨⟨by omega, by omega⟩, Sz.divInt ?_ ?_ (by decide), Sz.divInt ?_ ?_ (by decide)⟩
  · have := Int.natAbs_sub_le ((u.den : Int) * u.den) (u.num * u.num)
    omega
  · have := Int.natAbs_add_le ((u.den : Int) * u.den) (u.num * u.num)
    omega
  · omega
  · have := Int.natAbs_add_le ((u.den : Int) * u.den) (u.num * u.num)
    omega
section
variable {P : Program} {w : World} {K : PySem.W.Frag} {mg : Str → Option Value} {base : Heap} (G : Gs K mg) (T : Ds K mg)
include G T
theorem ok__law_take : Fn P w K mg base "_law_take" 1 ["_law_store_here", "_law_many"] r_take := by
  refine fn_ok' T.d__law_take sc__law_take b__law_take (fun ds p q h ⟨s, m, e, h1, h2, r⟩ => ⟨s, m, e, h1, h2, fun i a b => h _ (r i a b)⟩) (fun ds p ⟨s, m, e, _⟩ => by rw [e]; rfl) fun f cdv A outer sh H E M ds Pd hr ⟨s, m, e, h1, h2, hP⟩ => ?_
  subst e
  refine DS.at (δ' := [some (.sto s), some (.int m), none, none]) ?_ rfl
  refine ds_if (wt_gtI (wi_sto (fun _ _ => rfl) (de_v 0 rfl (.inl rfl) rfl) de_int (.inl rfl)) (wiT de_int) fun i j _ _ => ?_)
  by_cases hb : decide (j < i) = true
  · rw [if_pos hb]
    refine ds_stoP 2 (a := 0) (b := 0) rfl sc__law_take.nd rfl (.inl rfl) (de_v 0 rfl (.inl rfl) rfl) de_int (.inl rfl) (we_divmod rfl G.divmod (wi_sto (fun _ _ => rfl) (de_v 0 rfl (.inl rfl) rfl) de_int (.inl rfl)) (de_v 1 rfl (.inl rfl) rfl) ⟨h1, h2⟩ fun z _ => ⟨_, _, rfl, ?_⟩)
    exact ds_retD (de_v 2 rfl (.inl rfl) rfl) (hP _ (Int.emod_nonneg _ (by omega)) (Int.emod_lt_of_pos _ h1))
  · rw [if_neg hb]
    refine ds_sto (de_v 0 rfl (.inl rfl) rfl) de_int (.inr (.inr rfl)) (wi_add (wi_sto (fun _ _ => rfl) (de_v 0 rfl (.inl rfl) rfl) de_int (.inr (.inr rfl))) (wiT de_int) fun _ _ _ _ => True.intro) ?_
    refine ds_set 3 sc__law_take.nd rfl (.inl rfl) (WI.we (p := fun l => 0 ≤ l ∧ l < 2147483629) (wi_mod (p := fun _ => True) (wi_toInt rfl G.int (wi_add (p := fun _ => True) (wi_add (p := fun _ => True) (q := fun _ => True) (wi_mul (wi_sto (fun _ _ => rfl) (de_v 0 rfl (.inl rfl) rfl) de_int (.inr (.inl rfl))) (wiT de_int) (fun i j _ hj => .inr (by subst hj; decide)) fun _ _ _ _ => True.intro) (wi_mul (wi_sto (fun _ _ => rfl) (de_v 0 rfl (.inl rfl) rfl) de_int (.inr (.inr rfl))) (wiT de_int) (fun i j _ hj => .inr (by subst hj; decide)) fun _ _ _ _ => True.intro) fun _ _ _ _ => True.intro) (wiT de_int) fun _ _ _ _ => True.intro)) (wiT de_int) (fun j hj => by subst hj; decide)
      (fun i j _ hj => by subst hj; exact ⟨Int.emod_nonneg _ (by decide), Int.emod_lt_of_pos _ (by decide)⟩)) fun l hl => ?_)
    refine DS.at (δ' := [some (.sto s), some (.int m), none, some (.int l)]) ?_ rfl
    refine ds_sto (de_v 0 rfl (.inl rfl) rfl) de_int (.inr (.inl rfl)) (wi_mod (p := fun _ => True) (wi_toInt rfl G.int (wi_add (p := fun _ => True) (wi_mul (q := fun _ => True) (wiT (de_v 3 rfl (.inl rfl) rfl)) (wi_add (p := fun _ => True) (wi_mul (q := fun _ => True) (wiT de_int) (wi_fdiv (wiT (de_v 3 rfl (.inl rfl) rfl)) (wiT de_int) (fun j hj => by subst hj; decide) fun _ _ _ _ => True.intro) (fun i j hi _ => .inl (by subst hi; decide)) fun _ _ _ _ => True.intro) (wiT de_int) fun _ _ _ _ => True.intro) (fun i j hi _ => .inl (by subst hi; omega)) fun _ _ _ _ => True.intro) (wi_sto (fun _ _ => rfl) (de_v 0 rfl (.inl rfl) rfl) de_int (.inr (.inr rfl))) fun _ _ _ _ => True.intro)) (wiT de_int) (fun j hj => by subst hj; decide) fun _ _ _ _ => True.intro) ?_
    refine ds_ret (WI.we (p := fun l => 0 ≤ l ∧ l < m) (wi_mod (p := fun _ => True) (wi_toInt rfl G.int (wi_fdiv (wi_sto (fun _ _ => rfl) (de_v 0 rfl (.inl rfl) rfl) de_int (.inr (.inl rfl))) (wiT de_int) (fun j hj => by subst hj; decide) fun _ _ _ _ => True.intro)) (wiT (de_v 1 rfl (.inl rfl) rfl)) (fun j hj => by subst hj; exact h1) (fun i j _ hj => by subst hj; exact ⟨Int.emod_nonneg _ (by omega), Int.emod_lt_of_pos _ h1⟩)) fun r hr' => hP r hr'.1 hr'.2)
theorem ok__law_of : Fn P w K mg base "_law_of" 2 ["_law_store_here", "_law_some"] r_pick := by
  refine fn_ok' T.d__law_of sc__law_of b__law_of (fun ds p q h ⟨s, m, e, h1, h2, r⟩ => ⟨s, m, e, h1, h2, fun i a => h _ (r i a)⟩) (fun ds p ⟨s, m, e, _⟩ => by rw [e]; rfl) fun f cdv A outer sh H E M ds Pd hr ⟨s, xs, e, h1, h2, hP⟩ => ?_
  subst e
  refine DS.at (δ' := [some (.sto s), some (.tup xs)]) ?_ rfl
  refine ds_ret (we_ixT (fun _ _ => rfl) ((de_v 1 rfl (.inl rfl) rfl).we (we_take (ok__law_take G T) hr rfl (de_v 0 rfl (.inl rfl) rfl) (de_len rfl G.len (de_v 1 rfl (.inl rfl) rfl) (.inl ⟨_, rfl, rfl⟩)) ⟨by omega, by omega⟩ fun r h3 h4 => ?_)))
  obtain ⟨d, e1, e2⟩ := atI_in h3 h4
  exact ⟨xs, r, d, rfl, rfl, e1, hP d e2⟩
theorem ok__law_low : Fn P w K mg base "_law_low" 3 ["_law_store_here"] r_low := by
  refine fn_ok' T.d__law_low sc__law_low b__law_low (fun ds p q h ⟨s, e, r⟩ => ⟨s, e, fun i a => h _ (r i a)⟩) (fun ds p ⟨s, e, _⟩ => by rw [e]; rfl) fun f cdv A outer sh H E M ds Pd hr ⟨s, e, hP⟩ => ?_
  subst e
  refine DS.at (δ' := [some (.sto s), none]) ?_ rfl
  refine ds_set 1 sc__law_low.nd rfl (.inl rfl) (we_pick (ok__law_of G T) hr rfl (de_v 0 rfl (.inl rfl) rfl) (de_tup (ds := ([3, 3, 3, 2, 1, 5, 12, 80] : List Int).map D.int) (da_cons de_int (da_cons de_int (da_cons de_int (da_cons de_int (da_cons de_int (da_cons de_int (da_cons de_int (da_cons de_int da_nil))))))))) (by decide) fun d hd => ?_)
  obtain ⟨z, rfl, hz⟩ := ints_mem hd
  have b : 0 < z ∧ z ≤ 80 := by
    simp at hz
    omega
  refine DS.at (δ' := [some (.sto s), some (.int z)]) ?_ rfl
  have cm : CMulW 2 z := wide_mul (a := 2) (b := 7) (by decide) (by omega) (by decide) (by decide) (by decide)
  refine ds_ret (WI.we (p := fun i => i.natAbs ≤ 80) (wi_sub (p := fun i => 0 ≤ i ∧ i < 2 * z + 1) (we_take (ok__law_take G T) hr rfl (de_v 0 rfl (.inl rfl) rfl) (de_add (de_mul de_int (de_v 1 rfl (.inl rfl) rfl) cm) de_int) ⟨by omega, by omega⟩ fun r h1 h2 => ⟨r, rfl, h1, h2⟩) (wiT (de_v 1 rfl (.inl rfl) rfl)) fun i j hi hj => by subst hj; omega) fun i hi => hP i hi)
theorem ok__law_part : Fn P w K mg base "_law_part" 4 ["_law_store_here"] r_part := by
  refine fn_ok' T.d__law_part sc__law_part b__law_part (fun ds p q h ⟨s, e, r⟩ => ⟨s, e, fun i a => h _ (r i a)⟩) (fun ds p ⟨s, e, _⟩ => by rw [e]; rfl) fun f cdv A outer sh H E M ds Pd hr ⟨s, e, hP⟩ => ?_
  subst e
  refine DS.at (δ' := [some (.sto s), none]) ?_ rfl
  refine ds_set 1 sc__law_part.nd rfl (.inl rfl) (we_call (ok__law_low G T) hr rfl (wa_cons ((de_v 0 rfl (.inl rfl) rfl).we (wa_nil ⟨s, rfl, fun i hi => ?_⟩))))
  refine DS.at (δ' := [some (.sto s), some (.int i)]) ?_ rfl
  refine ds_ret (we_call (ok__law_frac G T) hr rfl (wa_cons ((de_v 1 rfl (.inl rfl) rfl).we (wa_cons (we_pick (ok__law_of G T) hr rfl (de_v 0 rfl (.inl rfl) rfl) (de_tup (ds := ([1, 1, 1, 2, 2, 3, 4, 7] : List Int).map D.int) (da_cons de_int (da_cons de_int (da_cons de_int (da_cons de_int (da_cons de_int (da_cons de_int (da_cons de_int (da_cons de_int da_nil))))))))) (by decide) fun d hd => ?_)))))
  obtain ⟨z, rfl, hz⟩ := ints_mem hd
  have b : 0 < z ∧ z ≤ 7 := by
    simp at hz
    omega
  exact wa_nil ⟨i, z, rfl, by omega, lt_up (m := 3) (by omega) (by decide), hP _ (Sz.divInt (by omega) (by omega) (by decide))⟩
theorem ok__law_half : Fn P w K mg base "_law_half" 4 ["_law_store_here"] r_half := by
  refine fn_ok' T.d__law_half sc__law_half b__law_half (fun ds p q h ⟨s, e, r0, r⟩ => ⟨s, e, h _ r0, fun i a b => h _ (r i a b)⟩) (fun ds p ⟨s, e, _⟩ => by rw [e]; rfl) fun f cdv A outer sh H E M ds Pd hr ⟨s, e, hN, hP⟩ => ?_
  subst e
  refine DS.at (δ' := [some (.sto s), none, none]) ?_ rfl
  refine ds_set 1 sc__law_half.nd rfl (.inl rfl) (we_take (ok__law_take G T) hr rfl (de_v 0 rfl (.inl rfl) rfl) de_int (by decide) fun y _ _ => ?_)
  refine DS.at (δ' := [some (.sto s), some (.int y), none]) ?_ rfl
  refine ds_if ((dt_lt (de_v 1 rfl (.inl rfl) rfl) de_int).mono fun b hb => ?_)
  cases b with
  | true =>
    refine iteT (ds_ret (we_pick (ok__law_of G T) hr rfl (de_v 0 rfl (.inl rfl) rfl) (xs := [fr 0, fr 1, .non, fr (-1), fr (1 / 2)]) (de_tup (da_cons (de_lit (q := 0) (de_tup (da_cons de_int (da_cons de_int da_nil)))) (da_cons (de_lit (q := 1) (de_tup (da_cons de_int (da_cons de_int da_nil)))) (da_cons de_non (da_cons (de_lit (q := -1) (de_tup (da_cons (de_neg de_int) (da_cons de_int da_nil)))) (da_cons (de_lit (q := 1 / 2) (de_tup (da_cons de_int (da_cons de_int da_nil)))) da_nil)))))) (by decide) fun d hd => ?_))
    simp only [List.mem_cons, List.not_mem_nil, or_false] at hd
    rcases hd with rfl | rfl | rfl | rfl | rfl
    · exact hP 0 (by decide +kernel) (by decide +kernel)
    · exact hP 1 (by decide +kernel) (by decide +kernel)
    · exact hN
    · exact hP (-1) (by decide +kernel) (by decide +kernel)
    · exact hP (1 / 2) (by decide +kernel) (by decide +kernel)
  | false =>
    refine iteF ?_
    have next : ∀ i : Int, i.natAbs ≤ 80 → DS (cxOf CX0 P w K mg base n__law_half "_law_half" (defScope s__law_half) f cdv A outer sh H E).nox M H ((defBody s__law_half).drop 3) [some (.sto s), some (.int y), some (.int i)] (fun _ => Pd .non) Pd := fun i hi => by
      refine ds_ret (we_call (ok__law_frac G T) hr rfl (wa_cons ((de_v 2 rfl (.inl rfl) rfl).we (wa_cons (we_pick (ok__law_of G T) hr rfl (de_v 0 rfl (.inl rfl) rfl) (de_tup (ds := ([1, 2, 3, 3, 4, 5] : List Int).map D.int) (da_cons de_int (da_cons de_int (da_cons de_int (da_cons de_int (da_cons de_int (da_cons de_int da_nil))))))) (by decide) fun d hd => ?_)))))
      obtain ⟨z, rfl, hz⟩ := ints_mem hd
      have b : 0 < z ∧ z ≤ 5 := by
        simp at hz
        omega
      refine wa_nil ⟨i, z, rfl, by omega, lt_up (m := 3) (by omega) (by decide), hP _ (Nat.le_trans (num_le _ _) hi) (Nat.le_trans (den_le _ _ (by omega)) (by omega))⟩
    refine ds_set 2 sc__law_half.nd rfl (.inl rfl) (we_ifExp ((dt_eqI (de_v 1 rfl (.inl rfl) rfl) de_int).mono fun b hb => ?_))
    cases b with
    | true => exact iteT (we_call (ok__law_low G T) hr rfl (wa_cons ((de_v 0 rfl (.inl rfl) rfl).we (wa_nil ⟨s, rfl, fun i hi => next i hi⟩))))
    | false => exact iteF (WI.we (p := fun i => i.natAbs ≤ 80) (wi_sub (p := fun i => 0 ≤ i ∧ i < 13) (we_take (ok__law_take G T) hr rfl (de_v 0 rfl (.inl rfl) rfl) de_int (by decide) fun r h1 h2 => ⟨r, rfl, h1, h2⟩) (wiT de_int) fun i j hi hj => by subst hj; omega) fun i hi => next i hi)
theorem ok__law_heading : Fn P w K mg base "_law_heading" 5 ["_law_store_here"] r_heading := by
  refine fn_ok' T.d__law_heading sc__law_heading b__law_heading (fun ds p q h ⟨s, e, r⟩ => ⟨s, e, fun i j a b c => h _ (r i j a b c)⟩) (fun ds p ⟨s, e, _⟩ => by rw [e]; rfl) fun f cdv A outer sh H E M ds Pd hr ⟨s, e, hP⟩ => ?_
  subst e
  refine DS.at (δ' := [some (.sto s)]) ?_ rfl
  refine ds_ret (we_call (ok__law_heading_of G T) hr rfl (wa_cons (we_call (ok__law_half G T) hr rfl (wa_cons ((de_v 0 rfl (.inl rfl) rfl).we (wa_nil ⟨s, rfl, ?_, fun u h1 h2 => ?_⟩))))))
  · exact wa_nil ⟨.non, -1, 0, rfl, .inl ⟨rfl, rfl, rfl⟩, hP _ _ ⟨by decide +kernel, by decide +kernel⟩ ⟨by decide +kernel, by decide +kernel⟩ (by decide +kernel)⟩
  · obtain ⟨b1, b2, b3⟩ := half_sz h1 h2
    exact wa_nil ⟨fr u, _, _, rfl, .inr ⟨u, rfl, b1, rfl, rfl⟩, hP _ _ b2 b3 (hunit u)⟩
theorem ok__law_site : Fn P w K mg base "_law_site" 5 ["_law_store_here"] r_site := by
  refine fn_ok' T.d__law_site sc__law_site b__law_site (fun ds p q h ⟨s, e, r⟩ => ⟨s, e, fun i j a b c => h _ (r i j a b c)⟩) (fun ds p ⟨s, e, _⟩ => by rw [e]; rfl) fun f cdv A outer sh H E M ds Pd hr ⟨s, e, hP⟩ => ?_
  subst e
  refine DS.at (δ' := [some (.sto s)]) ?_ rfl
  refine ds_ret (we_tup (wa_cons (we_call (ok__law_frac G T) hr rfl (wa_cons (WI.we (p := fun i => 0 < i ∧ i ≤ 5) (wi_add (q := fun i => 0 ≤ i ∧ i < 5) (wiT de_int) (we_take (ok__law_take G T) hr rfl (de_v 0 rfl (.inl rfl) rfl) de_int (by decide) fun r h1 h2 => ⟨r, rfl, h1, h2⟩) fun i j hi hj => by subst hi; omega) fun i hi => wa_cons (we_pick (ok__law_of G T) hr rfl (de_v 0 rfl (.inl rfl) rfl) (de_tup (ds := ([1, 1, 2] : List Int).map D.int) (da_cons de_int (da_cons de_int (da_cons de_int da_nil)))) (by decide) fun d hd => ?_))))))
  obtain ⟨z, rfl, hz⟩ := ints_mem hd
  have b : 0 < z ∧ z ≤ 2 := by
    simp at hz
    omega
  refine wa_nil ⟨i, z, rfl, by omega, lt_up (m := 3) (by omega) (by decide), ?_⟩
  refine wa_cons (we_call (ok__law_part G T) hr rfl (wa_cons ((de_v 0 rfl (.inl rfl) rfl).we (wa_nil ⟨s, rfl, fun q hq => wa_nil ⟨Nat.le_of_ble_eq_true rfl, hP _ _ (Sz.divInt (by omega) (by omega) (by decide)) ?_ hq⟩⟩))))
  have hz0 : (0 : Rat) < Rat.divInt i z := by
    rw [Rat.divInt_eq_div]
    rw [Rat.div_def]
    exact Rat.mul_pos (Rat.intCast_pos.mpr hi.1) (Rat.inv_pos.mpr (Rat.intCast_pos.mpr b.1))
  exact num_pos_of hz0
end
end Ir
/-! ## IrZ2 -/
namespace Ir
/-- what one unit of the last number adds -/
def wR (i : I12) (a : At) : Rat := (north i a).worth * -a.c - (east i a).worth * a.s
theorem east_with (i : I12) (a : At) (r : Rat) : (east (i.with r) a).worth = (east i a).worth := rfl
theorem top_with (i : I12) (a : At) (r : Rat) : topR (north (i.with r) a) (east (i.with r) a) = topR (north (i.with 0) a) (east (i.with 0) a) + r * wR i a := by
  unfold topR wR
  rw [worth_with, worth_with, east_with, east_with]
  generalize (north i a).worth = n
  generalize (east i a).worth = e
  simp only [W5.rise, north, east, W5.plus, W5.nil, ahead, right, firstR, secondR, thirdR, I12.with]
  grind
/-- the rate's line -/
def hbase (i : I12) (a : At) : Rat := topR (north (i.with 0) a) (east (i.with 0) a) / ((north i a).worth * (north i a).worth)
def hstep (i : I12) (a : At) : Rat := wR i a / ((north i a).worth * (north i a).worth)
theorem heel_with {i : I12} {a : At} (h : (north i a).worth ≠ 0) (r : Rat) : heel (i.with r) a = some (hbase i a + r * hstep i a) := by
  rw [heel_some (by rw [worth_with]; exact h), top_with, worth_with]
  unfold hbase hstep
  congr 1
  have q0 : (north i a).worth * (north i a).worth ≠ 0 := fun z => h (by rcases Rat.mul_eq_zero.mp z with z | z <;> exact z)
  generalize (north i a).worth * (north i a).worth = n at *
  grind
theorem with_self (i : I12) : i.with i.R = i := rfl
theorem heel_self {i : I12} {a : At} (h : (north i a).worth ≠ 0) : heel i a = some (hbase i a + i.R * hstep i a) := heel_with (i := i) h i.R
theorem magnet_none {i : I12} {a : At} (h : (north i a).worth = 0) : magnet i a = none := by
  unfold magnet
  rw [heel_none (i := i.with 0) (by rw [worth_with]; exact h)]
theorem magnet_flat {i : I12} {a : At} (h : (north i a).worth ≠ 0) (h2 : hstep i a = 0) : magnet i a = none := by
  unfold magnet
  rw [heel_with h, heel_with h, h2]
  show (if hbase i a + 0 * 0 = hbase i a + 1 * 0 then none else _) = _
  rw [if_pos (by grind)]
theorem magnet_some {i : I12} {a : At} (h : (north i a).worth ≠ 0) (h2 : hstep i a ≠ 0) : magnet i a = some (-hbase i a / hstep i a) := by
  unfold magnet
  rw [heel_with h, heel_with h]
  show (if hbase i a + 0 * hstep i a = hbase i a + 1 * hstep i a then none else some (-(hbase i a + 0 * hstep i a) / (hbase i a + 1 * hstep i a - (hbase i a + 0 * hstep i a)))) = _
  rw [if_neg (fun z => h2 (by grind))]
  congr 1
  have e1 : hbase i a + 0 * hstep i a = hbase i a := by grind
  have e2 : hbase i a + 1 * hstep i a - hbase i a = hstep i a := by grind
  rw [e1, e2]
/-- the told magnet as tops -/
theorem told_eq {i : I12} {a : At} (h : (north i a).worth ≠ 0) (h2 : hstep i a ≠ 0) : -hbase i a / hstep i a = -topR (north (i.with 0) a) (east (i.with 0) a) / wR i a := by
  unfold hbase hstep
  have q0 : (north i a).worth * (north i a).worth ≠ 0 := fun z => h (by rcases Rat.mul_eq_zero.mp z with z | z <;> exact z)
  have w0 : wR i a ≠ 0 := fun z => h2 (by unfold hstep; rw [z]; grind)
  generalize (north i a).worth * (north i a).worth = n at *
  generalize wR i a = w at *
  generalize topR (north (i.with 0) a) (east (i.with 0) a) = t at *
  grind
theorem heel_told {i : I12} {a : At} (h : (north i a).worth ≠ 0) (h2 : hstep i a ≠ 0) : heel (i.with (-hbase i a / hstep i a)) a = some 0 := by
  rw [heel_with h]
  congr 1
  generalize hbase i a = b at *
  generalize hstep i a = s at *
  grind
theorem heel_off {i : I12} {a : At} (h : (north i a).worth ≠ 0) (h2 : hstep i a ≠ 0) (t : Rat) : heel (i.with (-hbase i a / hstep i a + t)) a = some (t * hstep i a) := by
  rw [heel_with h]
  congr 1
  generalize hbase i a = b at *
  generalize hstep i a = s at *
  grind
theorem heel_other {i : I12} {a : At} (h : (north i a).worth ≠ 0) : (heel (i.with (i.R + 1)) a = heel i a) ↔ hstep i a = 0 := by
  rw [heel_with h, heel_self h]
  constructor
  · intro z
    have z2 := Option.some.inj z
    grind
  · intro z
    rw [z]
    congr 1
    grind
open PySem
section
variable {i : I12} {a : At} {k : Nat}
theorem sz_wR [SzI i k] [SzA a] : Sz (wR i a) 716 := by
  show Sz ((north i a).worth * -a.c - (east i a).worth * a.s) 716
  exact Sz.mono inferInstance (by decide)
theorem sz_told [h : SzI i k] [SzA a] : Sz (-topR (north (i.with 0) a) (east (i.with 0) a) / wR i a) 1790 := by
  have z0 : SzI (i.with 0) 1 := h.with_ inferInstance
  have := sz_wR (i := i) (a := a)
  exact Sz.mono inferInstance (by decide)
end
end Ir
/-! ## IrL6 -/
namespace Ir
open PySem.Spec PySem L2 PyProof.Rows
def r_iron : Rsp := fun ds P => ∃ (s : Addr) (b : Int), ds = [.sto s, .int b] ∧ 0 < b ∧ b ≤ 4 ∧ ∀ i, SzI i 3 → 0 < i.str.num → P i.d_
def Row4 (d : D) : Prop := ∃ a b c e, d = .tup [fr a, fr b, fr c, fr e] ∧ Sz a 3 ∧ Sz b 3 ∧ Sz c 3 ∧ Sz e 3
section
variable {X : Cx} {M : List Addr} {e e2 : Expr} {es : List Expr} {δ : Ev} {H0 : Hp} {rest body : List Stmt} {N : Ev → Prop} {R : D → Prop} {pos : Pos}
/-- for tg in a list that stands still, by a property of the slots -/
theorem ds_forLI {tg iter : Expr} {ds : List D} (I : Nat → Ev → Prop) (hp : PassesOwn (model X.prog X.w) X.A X.env X.xe) (hc : X.calm = true) (hx : DE X M iter δ (.lst ds)) (h0 : I 0 δ)
    (turn : ∀ (H1 : Hp) (i : Nat) (d : D) (δ1 : Ev), ds[i]? = some d → I i δ1 → ∃ δ2, GT X M tg d δ1 δ2 ∧ DS X M H1 body δ2 (fun δ' => I (i + 1) δ') R) (after : ∀ δ', I ds.length δ' → DS X M H0 rest δ' N R)
    (hs : ∀ x, foldedSetIterable iter X.env x = pure x := by intro _; rfl) : DS X M H0 (.For tg iter body [] pos :: rest) δ N R := by
  intro σ H E g ok en fn fr
  refine toS (pss_cons (ps_for hp hc (pi_list pE) pG pS hs) pS) (hx.go ok en fun d v H1 p1 g1 k1 en1 r1 => ?_)
  subst p1
  obtain ⟨a, xs, e1, na, s, r2⟩ := r1.lst
  refine ⟨a, e1, ⟨xs, .inl (.inl s)⟩, ?_⟩
  refine for_list (K := X.K) (xs := xs) (fun i σ' H' => ∃ δ', I i δ' ∧ Good M H1 H' ∧ Env X.K M H' δ' σ') ⟨δ, h0, Good.refl k1, en1⟩ (fun i σ' H' _ q => .inl (.inl (q.elim fun _ q => q.2.1.1 _ _ na s))) (fun i x σ' H' hx' q => ?_) (fun σ' H' q => ?_)
  · obtain ⟨δ1, q0, q1, q3⟩ := q
    have hlt : i < ds.length := by
      rw [← r2.len]
      exact (List.getElem?_eq_some_iff.mp hx').1
    have hd : ds[i]? = some ds[i] := List.getElem?_eq_getElem hlt
    obtain ⟨x', hx2, rx⟩ := r2.get hd
    have ex : x' = x := Option.some.inj (hx2.symm.trans hx')
    subst ex
    obtain ⟨δ2, gt, bd⟩ := turn H1 i _ δ1 hd q0
    refine gt x' σ' H' _ q1.ok q3 (Rep.good k1 q1 _ x' rx) fun σ2 en2 => ?_
    exact bd σ2 H' _ q1 q1.ok en2 (fun δ' σ3 H3 l g3 t3 en3 => ⟨δ', l, g3, en3⟩) fun d v H3 hr g3 r3 => fr d v H3 hr ((g.trans g1).trans g3) r3
  · obtain ⟨δ1, q0, q1, q3⟩ := q
    rw [r2.len] at q0
    exact after δ1 q0 σ' H' E ((g.trans g1).trans q1) q1.ok q3 (fun δ' σ3 H3 n g3 t3 => fn δ' σ3 H3 n g3 (((g1.trans q1).keepT ok).trans t3)) fr
/-- return [..], a new list -/
theorem ds_retNew {p1 : Pos} (h : WA X M es δ fun ds => ds.length ≤ 1000 ∧ ∀ p, H0 p = none → R (.own p ds)) : DS X M H0 (.Return (some (.List es p1)) pos :: rest) δ N R := by
  intro σ H E g ok en fn fr
  refine toS (pss_cons (ps_ret (pe_lst pA)) pS) (h.go ok en fun ds vs H1 p1 g1 k1 en1 r1 => ⟨?_, fun p hp => ?_⟩)
  · rw [r1.len]
    exact Nat.le_of_lt (small1000 p1.1)
  · have gn : Good M H1 (upd H1 p (.lst vs)) := Good.new k1 hp
    exact fr _ _ _ (p1.2 p (fresh0 (g.trans g1) k1 hp)) ((g.trans g1).trans gn) (rOwn (k1.free hp) upd_same (Reps.good k1 gn _ _ r1))
theorem de_pow {i j : Int} (hx : DE X M e δ (.int i)) (hy : DE X M e2 δ (.int j)) (hc : CPow i j) : DE X M (.BinOp e .Pow e2 pos) δ (.int (i ^ j.toNat)) := de_bin op_pow hx hy (o_intC hc fun _ => rInt _)
end
section
variable {P : Program} {w : World} {K : PySem.W.Frag} {mg : Str → Option Value} {base : Heap} (G : Gs K mg) (T : Ds K mg)
include G T
theorem ok__law_iron : Fn P w K mg base "_law_iron" 5 ["_law_store_here", "_law_by"] r_iron := by
  refine fn_ok' T.d__law_iron sc__law_iron b__law_iron (fun ds p q h ⟨s, m, e, h1, h2, r⟩ => ⟨s, m, e, h1, h2, fun i a b => h _ (r i a b)⟩) (fun ds p ⟨s, m, e, _⟩ => by rw [e]; rfl) fun f cdv A outer sh H E M ds Pd hr ⟨s, b, e, h1, h2, hP⟩ => ?_
  subst e
  refine DS.at (δ' := [some (.sto s), some (.int b), none, none, none, none]) ?_ rfl
  refine ds_setD 2 sc__law_iron.nd rfl (.inl rfl) (de_tup da_nil) ?_
  refine DS.at (δ' := [some (.sto s), some (.int b), some (.tup []), none, none, none]) ?_ rfl
  refine ds_forRI (n := 3) (fun n δ => ∃ (rs : List D) (x y z : Option D), δ = [some (.sto s), some (.int b), some (.tup rs), x, y, z] ∧ rs.length = n ∧ ∀ d ∈ rs, Row4 d) PassesOwn.never rfl rfl G.range de_int (by decide) ⟨[], none, none, none, rfl, rfl, fun d hd => by cases hd⟩ (fun i δ1 hi q => ?_) (fun δ1 q => ?_)
  · obtain ⟨rs, x, y, z, rfl, hl, hrs⟩ := q
    refine ⟨_, gt_name 3 sc__law_iron.nd rfl (.inl rfl), ?_⟩
    refine DS.at (δ' := [some (.sto s), some (.int b), some (.tup rs), some (.int i), y, z]) ?_ rfl
    refine ds_setD 4 sc__law_iron.nd rfl (.inl rfl) (de_tup da_nil) ?_
    refine DS.at (δ' := [some (.sto s), some (.int b), some (.tup rs), some (.int i), some (.tup []), z]) ?_ rfl
    refine ds_forRI (n := 4) (fun n δ => ∃ (qs : List Rat) (z : Option D), δ = [some (.sto s), some (.int b), some (.tup rs), some (.int i), some (.tup (qs.map fr)), z] ∧ qs.length = n ∧ ∀ q ∈ qs, Sz q 3) PassesOwn.never rfl rfl G.range de_int (by decide) ⟨[], z, rfl, rfl, fun d hd => by cases hd⟩ (fun j δ2 hj q => ?_) (fun δ2 q => ?_)
    · obtain ⟨qs, z, rfl, hq, hqs⟩ := q
      refine ⟨_, gt_name 5 sc__law_iron.nd rfl (.inl rfl), ?_⟩
      refine DS.at (δ' := [some (.sto s), some (.int b), some (.tup rs), some (.int i), some (.tup (qs.map fr)), some (.int j)]) ?_ rfl
      have fin : ∀ q, Sz q 3 → ([fr q].length ≤ 1000 ∧ ∃ d, Op2 K M (rCatA K) (.tup (qs.map fr)) (.tup [fr q]) d ∧ DS (cxOf CX0 P w K mg base n__law_iron "_law_iron" (defScope s__law_iron) f cdv A outer sh H E).nox M H [] ([some (.sto s), some (.int b), some (.tup rs), some (.int i), some (.tup (qs.map fr)), some (.int j)].set 4 (some d)) (fun δ' => ∃ (qs : List Rat) (z : Option D), δ' = [some (.sto s), some (.int b), some (.tup rs), some (.int i), some (.tup (qs.map fr)), z] ∧ qs.length = j + 1 ∧ ∀ q ∈ qs, Sz q 3) Pd) := fun q hq3 => by
        refine ⟨Nat.le_of_ble_eq_true rfl, _, o_catT (by rw [List.length_map]; show qs.length + 1 ≤ 1000; omega), ds_nil ⟨qs ++ [q], some (.int j), by rw [List.map_append]; rfl, by rw [List.length_append, hq]; rfl, fun r hr => ?_⟩⟩
        rcases List.mem_append.mp hr with h | h
        · exact hqs r h
        · rw [List.mem_singleton.mp h]
          exact hq3
      refine ds_set 4 sc__law_iron.nd rfl (.inl rfl) (we_bin op_catA ((de_v 4 rfl (.inl rfl) rfl).we (we_tup (wa_cons (we_ifExp (wt_gtI (p := fun _ => True) (we_take (ok__law_take G T) hr rfl (de_v 0 rfl (.inl rfl) rfl) de_int (by decide) fun r _ _ => ⟨r, rfl, True.intro⟩) (wiT de_int) fun u v _ _ => ?_))))))
      by_cases hb : decide (v < u) = true
      · rw [if_pos hb]
        refine we_call (ok__law_frac G T) hr rfl (wa_cons (WI.we (p := fun i => i.natAbs ≤ 3) (wi_sub (p := fun i => 0 ≤ i ∧ i < 7) (we_take (ok__law_take G T) hr rfl (de_v 0 rfl (.inl rfl) rfl) de_int (by decide) fun r h1 h2 => ⟨r, rfl, h1, h2⟩) (wiT de_int) fun i j hi hj => by subst hj; omega) fun t ht => wa_cons ((de_v 1 rfl (.inl rfl) rfl).we (wa_nil ⟨t, b, rfl, by omega, lt_up (m := 3) (by omega) (by decide), wa_nil (fin _ (Sz.divInt (by omega) (by omega) (by decide)))⟩))))
      · rw [if_neg hb]
        exact (de_lit (q := 0) (de_tup (da_cons de_int (da_cons de_int da_nil)))).we (wa_nil (fin 0 ⟨by decide +kernel, by decide +kernel⟩))
    · obtain ⟨qs, z, rfl, hq, hqs⟩ := q
      refine ds_setD 2 sc__law_iron.nd rfl (.inl rfl) (de_catT (de_v 2 rfl (.inl rfl) rfl) (de_tup (da_cons (de_v 4 rfl (.inl rfl) rfl) da_nil)) (by show rs.length + 1 ≤ 1000; omega)) ?_
      refine ds_nil ⟨rs ++ [.tup (qs.map fr)], some (.int i), some (.tup (qs.map fr)), z, rfl, by rw [List.length_append, hl]; rfl, fun d hd => ?_⟩
      rcases List.mem_append.mp hd with h | h
      · exact hrs d h
      · rw [List.mem_singleton.mp h]
        match qs, hq, hqs with
        | [q1, q2, q3, q4], _, hqs => exact ⟨q1, q2, q3, q4, rfl, hqs _ (by simp), hqs _ (by simp), hqs _ (by simp), hqs _ (by simp)⟩
  · obtain ⟨rs, x, y, z, rfl, hl, hrs⟩ := q
    obtain ⟨i, rfl, si⟩ : ∃ i : I12, rs = [.tup [fr i.a, fr i.b, fr i.c, fr i.P], .tup [fr i.d, fr i.e, fr i.f, fr i.Q], .tup [fr i.g, fr i.j, fr i.k, fr i.R]] ∧ SzI i 3 := by
      match rs, hl, hrs with
      | [r1, r2, r3], _, hrs =>
        obtain ⟨a, b, c, p, e1, z1, z2, z3, z4⟩ := hrs r1 (by simp)
        obtain ⟨d, e, f, q, e2, z5, z6, z7, z8⟩ := hrs r2 (by simp)
        obtain ⟨g, j, k, r, e3, z9, z10, z11, z12⟩ := hrs r3 (by simp)
        exact ⟨⟨a, b, c, p, d, e, f, q, g, j, k, r⟩, by rw [e1, e2, e3], ⟨z1, z2, z3, z4, z5, z6, z7, z8, z9, z10, z11, z12⟩⟩
    refine DS.at (δ' := [some (.sto s), some (.int b), some i.d_, x, y, z]) ?_ rfl
    refine ds_if (WT.mono (dt_gt (i := (2 + i.a + i.e).num) (j := 0) (de_ixT (fun _ _ => rfl) (c_tot3 (ok__law_total G T) hr rfl (de_lst (da_cons (de_lit (q := 2) (de_tup (da_cons de_int (da_cons de_int da_nil)))) (da_cons (de_ixT (fun _ _ => rfl) (de_ixT (fun _ _ => rfl) (de_v 2 rfl (.inl rfl) rfl) de_int rfl) de_int rfl) (da_cons (de_ixT (fun _ _ => rfl) (de_ixT (fun _ _ => rfl) (de_v 2 rfl (.inl rfl) rfl) de_int rfl) de_int rfl) da_nil))))) de_int rfl) de_int) fun c hc => ?_)
    by_cases hb : c = true
    · rw [if_pos hb]
      rw [hb] at hc
      have hn := pos_of_num (of_decide_eq_true hc.symm)
      refine ds_retD (de_v 2 rfl (.inl rfl) rfl) (hP i si (num_pos_of ?_))
      have e1 : i.str = 1 / 2 * (2 + i.a + i.e) := by
        unfold I12.str
        grind
      rw [e1]
      exact Rat.mul_pos (by decide +kernel) hn
    · rw [if_neg hb]
      have z13 : Sz (1 / 3 : Rat) 3 := ⟨by decide +kernel, by decide +kernel⟩
      have z00 : Sz (0 : Rat) 3 := ⟨by decide +kernel, by decide +kernel⟩
      refine ds_retD (DE.eq (de_catT (de_tup (da_cons (de_catT (de_tup (da_cons (de_lit (q := 1 / 3) (de_tup (da_cons de_int (da_cons de_int da_nil)))) da_nil)) (de_slT (zl := some 1) (zh := none) (de_ixT (fun _ _ => rfl) (de_v 2 rfl (.inl rfl) rfl) de_int rfl) de_int True.intro rfl)) da_nil)) (de_tup (da_cons (de_catT (de_catT (de_slT (zl := none) (zh := some 1) (de_ixT (fun _ _ => rfl) (de_v 2 rfl (.inl rfl) rfl) de_int rfl) True.intro de_int rfl) (de_tup (da_cons (de_lit (q := 0) (de_tup (da_cons de_int (da_cons de_int da_nil)))) da_nil))) (de_slT (zl := some 2) (zh := none) (de_ixT (fun _ _ => rfl) (de_v 2 rfl (.inl rfl) rfl) de_int rfl) de_int True.intro rfl)) (da_cons (de_ixT (fun _ _ => rfl) (de_v 2 rfl (.inl rfl) rfl) de_int rfl) da_nil))))
        (d' := (I12.mk (1 / 3) i.b i.c i.P i.d 0 i.f i.Q i.g i.j i.k i.R).d_) rfl) (hP _ ⟨z13, si.b_, si.c_, si.P_, si.d_, z00, si.f_, si.Q_, si.g_, si.j_, si.k_, si.R_⟩ ?_)
      show 0 < (1 + 1 / 2 * (1 / 3 + 0) : Rat).num
      decide +kernel
end
end Ir
/-! ## IrI -/
namespace Ir
open PySem.Spec PySem L2 PyProof.Rows
theorem map_inj_nat : ∀ {xs ys : List Char}, xs.map Char.toNat = ys.map Char.toNat → xs = ys
  | [], [], _ => rfl
  | [], _ :: _, h => by cases h
  | _ :: _, [], h => by cases h
  | x :: xs, y :: ys, h => by
    obtain ⟨h1, h2⟩ := List.cons.inj h
    have e : x = y := Char.toNat_inj.mp h1
    rw [e, map_inj_nat h2]
theorem int_tells {i j : Int} (h : (Str.ofString (toString i)).cps.toList = (Str.ofString (toString j)).cps.toList) : i = j := by
  rw [Str.ofString_eq_toList, Str.ofString_eq_toList] at h
  have h2 := String.toList_inj.mp (map_inj_nat (by simpa using h))
  exact Int.repr_injective h2
theorem cut44 : ∀ {xs ys us vs : List Nat}, 44 ∉ xs → 44 ∉ ys → xs ++ 44 :: us = ys ++ 44 :: vs → xs = ys ∧ us = vs
  | [], [], us, vs, _, _, h => ⟨rfl, (List.cons.inj h).2⟩
  | [], y :: ys, us, vs, _, hy, h => absurd (by rw [(List.cons.inj h).1]; exact List.mem_cons_self ..) hy
  | x :: xs, [], us, vs, hx, _, h => absurd (by rw [← (List.cons.inj h).1]; exact List.mem_cons_self ..) hx
  | x :: xs, y :: ys, us, vs, hx, hy, h => by
    obtain ⟨h1, h2⟩ := List.cons.inj h
    obtain ⟨h3, h4⟩ := cut44 (fun z => hx (List.mem_cons_of_mem _ z)) (fun z => hy (List.mem_cons_of_mem _ z)) h2
    exact ⟨by rw [h1, h3], h4⟩
theorem shown_pair (a b : Int) : (PyData.shown (.tuple [.int a, .int b])).cps.toList = 40 :: ((Str.ofString (toString a)).cps.toList ++ 44 :: (32 :: (Str.ofString (toString b)).cps.toList ++ [41])) := by
  have e : PyData.shown (.tuple [.int a, .int b]) = ("(" : Str) ++ ((Str.ofString (toString a)) ++ (", " : Str) ++ (Str.ofString (toString b))) ++ (")" : Str) := by
    simp only [PyData.shown, PyData.shownAll]
    rfl
  rw [e]
  show ((((("(" : Str).cps ++ ((Str.ofString (toString a)).cps ++ (", " : Str).cps ++ (Str.ofString (toString b)).cps)) ++ (")" : Str).cps) : Array Nat)).toList = _
  rw [Array.toList_append, Array.toList_append, Array.toList_append, Array.toList_append]
  have e1 : ("(" : Str).cps.toList = [40] := by decide +kernel
  have e2 : (", " : Str).cps.toList = [44, 32] := by decide +kernel
  have e3 : (")" : Str).cps.toList = [41] := by decide +kernel
  rw [e1, e2, e3]
  simp
theorem fr_tells {p q : Rat} (h : (fr p).py.shown = (fr q).py.shown) : p = q := by
  have h2 : (PyData.shown (.tuple [.int p.num, .int (p.den : Int)])).cps.toList = (PyData.shown (.tuple [.int q.num, .int (q.den : Int)])).cps.toList := by
    have e : ∀ r : Rat, (fr r).py = .tuple [.int r.num, .int (r.den : Int)] := fun r => by
      unfold fr
      simp [D.py, D.pys]
    rw [e, e] at h
    rw [h]
  rw [shown_pair, shown_pair] at h2
  obtain ⟨h3, h4⟩ := cut44 (int_text_free 44 (by decide) _) (int_text_free 44 (by decide) _) (List.cons.inj h2).2
  have h5 := List.append_cancel_right (List.cons.inj h4).2
  exact Rat.ext (int_tells h3) (Int.ofNat.inj (int_tells h5))
theorem showable_fr {q : Rat} {k : Nat} (h : Sz q k) (hk : k ≤ 1900) : (fr q).py.showable = true := by
  have e : (fr q).py = .tuple [.int q.num, .int (q.den : Int)] := by
    unfold fr
    simp [D.py, D.pys]
  have h1 := PySem.Flt.log2_lt_of h.pos h.ok.1
  have h2 := PySem.Flt.log2_lt_of h.pos h.ok.2
  rw [e]
  simp only [PyData.showable, PyData.showableAll, Bool.and_true, Bool.and_eq_true, decide_eq_true_eq, Int.natAbs_natCast]
  exact ⟨by omega, by omega⟩
end Ir
/-! ## IrK -/
namespace Ir
open PySem.Spec PySem L2 PyProof.Rows
def g3 {α : Type} : List α → List α → List α := fun _ ws => match ws with
  | [c, b, a] => [a, b, c]
  | _ => ws
abbrev p3 : List Str := ["iron", "place", "heading"]
abbrev k3 : List Str := ["heading", "place", "iron"]
structure FnK (P : Program) (w : World) (K : PySem.W.Frag) (mg : Str → Option Value) (base : Heap) (x : Str) (k : Nat) (R : Rsp) : Prop where
  ok : ∃ f fd, FnOk P w K mg base CX0 k f fd p3 (spD K R) ∧ mg x = some (.ref f) ∧ PySem.W.keepIn K (.ref f) = true ∧ Binds K fd p3 [] ∧ KBn K fd p3 0 k3 g3 g3
  mono : ∀ (ds : List D) (p q : D → Prop), (∀ d, p d → q d) → R ds p → R ds q
theorem FnK.fn {P : Program} {w : World} {K : PySem.W.Frag} {mg : Str → Option Value} {base : Heap} {x : Str} {k : Nat} {R : Rsp} (F : FnK P w K mg base x k R) : Fn P w K mg base x k p3 R := by
  obtain ⟨f, fd, h1, h2, h3, h4, _⟩ := F.ok
  exact ⟨⟨f, fd, h1, h2, h3, h4⟩, F.mono⟩
theorem g3_rel {zs : List V} {ws : List Value} (h : Vals zs ws) : ∀ (vs : List V) (us : List Value), Vals (g3 vs zs) (g3 us ws) := fun vs us => by
  match zs, ws, h with
  | [], _, .nil => exact .nil
  | [_], _, .cons a .nil => exact .cons a .nil
  | [_, _], _, .cons a (.cons b .nil) => exact .cons a (.cons b .nil)
  | [_, _, _], _, .cons a (.cons b (.cons c .nil)) => exact .cons c (.cons b (.cons a .nil))
  | _ :: _ :: _ :: _ :: _, _, .cons a (.cons b (.cons c (.cons d e))) => exact .cons a (.cons b (.cons c (.cons d e)))
theorem fn_okK {P : Program} {w : World} {K : PySem.W.Frag} {mg : Str → Option Value} {base : Heap} {x : Str} {st : Stmt} {N : List Str} {k : Nat} {R : Rsp} (F : Df K mg x st) (S : FnScope N p3 (defScope st))
    (hb : ∀ (kV doc pm : Value) (an : Option Addr) (cdv ct : Value) (us : List Value), us.length = p3.length → bindArgs (PySem.W.fnOf x x (defArgs st) (defBody st) (defScope st) .none kV doc pm an cdv ct) ⟨us, []⟩ = pure (p3.zip us))
    (hb3 : ∀ (kV doc pm : Value) (an : Option Addr) (cdv ct : Value) (c b a : Value), bindArgs (PySem.W.fnOf x x (defArgs st) (defBody st) (defScope st) .none kV doc pm an cdv ct) ⟨[], k3.zip [c, b, a]⟩ = pure (p3.zip [a, b, c]))
    (mono : ∀ (ds : List D) (p q : D → Prop), (∀ d, p d → q d) → R ds p → R ds q) (len : ∀ ds p, R ds p → ds.length = p3.length)
    (hbody : ∀ (f : Addr) (cdv : Value) (A : Around) (outer : List PySem.Env) (s : Shared) (H : Hp) (E : XK) (M : List Addr) (ds : List D) (Pd : D → Prop), Room k (A.deeper (envOfC x (defScope st) s.heap.objs.size f cdv)) → R ds Pd →
      DS (cxOf CX0 P w K mg base N x (defScope st) f cdv A outer s H E).nox M H (defBody st) (startD N ds) (fun _ => Pd .non) Pd) : FnK P w K mg base x (k + 1) R := by
  obtain ⟨f, fd, F1, gf⟩ := F
  have kb : KBn K fd p3 0 k3 g3 g3 := by
    obtain ⟨oc, od, dV, kV, doc, pm, an, cdv, ct, osl, rfl, _, _, hD, _⟩ := F1.ex
    rcases hD with ⟨_, rfl⟩ | ⟨z, _⟩
    · refine ⟨fun s us ws _ l1 l2 => ?_, fun {vs us zs ws} _ r => g3_rel r vs us⟩
      match us, ws, l1, l2 with
      | [], [c, b, a], _, _ => exact .of_eq (hb3 kV doc pm an cdv ct c b a)
    · exact absurd rfl z
  refine ⟨⟨f, fd, F1.ok S (fun vs H Q E h => ?_) (fun cdv A outer s H vs Q E hr h => ?_), gf, F1.kp, FunD.bindsN F1 hb, kb⟩, mono⟩
  · obtain ⟨M, ds, _, r, q⟩ := h
    exact r.len.trans (len ds _ q)
  · obtain ⟨M, ds, ok, r, q⟩ := h
    refine ⟨_, PSs.nox pS, ?_⟩
    exact hbody f cdv A outer s H E M ds _ hr q _ H { nx := fun _ H' => Q .non H', rt := Q } (Good.refl ok) ok (env_start r) (fun δ' σ' H' n g _ _ => n _ H' g rNon) (fun d v H' hr' g r' => hr' v H' g r')
section
variable {X : Cx} {M : List Addr} {e e2 e3 : Expr} {es : List Expr} {δ : Ev} {pos : Pos}
/-- f(heading = c, place = b, iron = a) -/
theorem c_k3 {R : Rsp} {x : Str} {pp q1 q2 q3 : Pos} {k n : Nat} {d1 d2 d3 r : D} (F : FnK X.prog X.w X.K X.mg X.base x k R)
    (hr : Room n X.A) (hg : Gl X x) (hc : DE X M e δ d3) (hb : DE X M e2 δ d2) (ha : DE X M e3 δ d1) (hR : R [d1, d2, d3] fun z => z = r) (hk : k ≤ n := by decide) (hdb : (x == ("__debug__" : Str)) = false := by decide)
    (hall : (backToKw pos (keywordEach [⟨some "heading", e, q1⟩, ⟨some "place", e2, q2⟩, ⟨some "iron", e3, q3⟩] X.env)).all (·.1.isSome) = true := by rfl) (hks : (backToKw pos (keywordEach [⟨some "heading", e, q1⟩, ⟨some "place", e2, q2⟩, ⟨some "iron", e3, q3⟩] X.env)).filterMap (·.1) = k3 := by rfl)
    (hpl : ((backTo pos (starEach [] X.env)).any (·.1) || (backToKw pos (keywordEach [⟨some "heading", e, q1⟩, ⟨some "place", e2, q2⟩, ⟨some "iron", e3, q3⟩] X.env)).any (·.1.isNone)) = false := by rfl) : DE X M (.Call (.Name x pp) [] [⟨some "heading", e, q1⟩, ⟨some "place", e2, q2⟩, ⟨some "iron", e3, q3⟩] pos) δ r := by
  intro σ H Q ok en f
  obtain ⟨g, fd, F1, gm, kp, _, bk⟩ := F.ok
  refine toE (pe_kw0 F1 (hr.mono hk) hg gm kp bk pass0 (pk_cons pE (pk_cons pE (pk_cons pE pk_nil))) hall hks hdb hpl) (hc.go ok en fun z3 v3 H1 e1 g1 k1 en1 r1 => hb.go k1 en1 fun z2 v2 H2 e2 g2 k2 en2 r2 => ha.go k2 en2 fun z1 v1 H3 e3 g3 k3 en3 r3 => ⟨rfl, rfl, ?_⟩)
  subst e1 e2 e3
  refine ⟨M, [z1, z2, z3], k3, Reps.cons r3 (Reps.cons (Rep.good k2 g3 _ _ r2) (Reps.one (Rep.good k1 (g2.trans g3) _ _ r1))), F.mono _ _ _ (fun d hp v H4 g4 r4 => f d v H4 hp ((g1.trans (g2.trans g3)).trans g4) r4) hR⟩
theorem o_eqS {K : PySem.W.Frag} {i j : Str} : Op2 K M rEq (.str i) (.str j) (.bl (decide (i = j))) := fun vx vy H Q k rx ry f => by
  rw [rx.str, ry.str]
  refine ⟨rfl, ?_⟩
  have z : decide (V.str i = V.str j) = decide (i = j) := decide_eq_decide.mpr ⟨fun h => V.str.inj h, fun h => by rw [h]⟩
  rw [z]
  exact f _ H (Good.refl k) (rBl _)
theorem o_neS {K : PySem.W.Frag} {i j : Str} : Op2 K M rNe (.str i) (.str j) (.bl (!decide (i = j))) := fun vx vy H Q k rx ry f => by
  rw [rx.str, ry.str]
  refine ⟨rfl, ?_⟩
  have z : decide (V.str i = V.str j) = decide (i = j) := decide_eq_decide.mpr ⟨fun h => V.str.inj h, fun h => by rw [h]⟩
  rw [z]
  exact f _ H (Good.refl k) (rBl _)
theorem dt_eqS {i j : Str} (hx : DE X M e δ (.str i)) (hy : DE X M e2 δ (.str j)) : DT X M (.Compare e [.Eq] [e2] pos) δ (decide (i = j)) := dt_cmp op_eq (nomark _) hx hy o_eqS
theorem dt_neS {i j : Str} (hx : DE X M e δ (.str i)) (hy : DE X M e2 δ (.str j)) : DT X M (.Compare e [.NotEq] [e2] pos) δ (!decide (i = j)) := dt_cmp op_ne (nomark _) hx hy o_neS
structure Shw (d : D) : Prop where
  plain : d.plain = true
  able : d.py.showable = true
  dict : d.py.hasDict = false
  depth : d.py.depth < 50
  len : d.py.shown.length ≤ 4000
theorem shw_non : Shw .non := by
  refine ⟨rfl, ?_, ?_, ?_, ?_⟩
  · simp [D.py, PyData.showable]
  · simp [D.py, PyData.hasDict]
  · simp [D.py, PyData.depth]
  · have e : D.py .non = .none := by simp [D.py]
    rw [e, PyProof.Rows.shownLen_none]
    decide
theorem shw_fr {q : Rat} {k : Nat} (h : Sz q k) (hk : k ≤ 1900) : Shw (fr q) := by
  have e : (fr q).py = .tuple [.int q.num, .int (q.den : Int)] := by
    unfold fr
    simp [D.py, D.pys]
  refine ⟨plain_fr q, showable_fr h hk, ?_, ?_, ?_⟩
  · rw [e]; simp [PyData.hasDict, PyData.hasDictAll]
  · rw [e]; simp [PyData.depth, PyData.depthAll]
  · have h1 := PySem.Flt.log2_lt_of h.pos h.ok.1
    have h2 : ((q.den : Nat) : Int).natAbs.log2 < k := by
      rw [Int.natAbs_natCast]
      exact PySem.Flt.log2_lt_of h.pos h.ok.2
    have l1 := PyProof.Rows.int_text_len_1921 (i := q.num) (by omega)
    have l2 := PyProof.Rows.int_text_len_1921 (i := (q.den : Int)) (by omega)
    have e2 := congrArg List.length (shown_pair q.num (q.den : Int))
    rw [e]
    have e3 : (PyData.shown (.tuple [.int q.num, .int (q.den : Int)])).length = (PyData.shown (.tuple [.int q.num, .int (q.den : Int)])).cps.toList.length := by
      rw [Array.length_toList]; rfl
    rw [e3, e2]
    simp only [List.length_cons, List.length_append, List.length_nil, Array.length_toList]
    have l1' : (Str.ofString (toString q.num)).cps.size ≤ 1921 := l1
    have l2' : (Str.ofString (toString (q.den : Int))).cps.size ≤ 1921 := l2
    omega
theorem shw_oD {r : Option Rat} (h : ∀ q, r = some q → ∃ k, Sz q k ∧ k ≤ 1900) : Shw (oD r) := by
  cases r with
  | none => exact shw_non
  | some q =>
    obtain ⟨k, h1, h2⟩ := h q rfl
    exact shw_fr h1 h2
theorem de_rep {d : D} {p : Pos} (hgd : X.A.guards = some []) (hu : X.A.units + 64 < cLine) (hg : Gl X "repr") (hm : X.mg "repr" = none) (hx : DE X M e δ d) (s : Shw d)
    (he : starEach [e] X.env = (false, eval e X.env) :: starEach [] X.env := by rfl) (hpl : (backTo pos (starEach [] X.env)).any (·.1) = false := by rfl) : DE X M (.Call (.Name "repr" p) [e] [] pos) δ (.str d.py.shown) :=
  de_repr hgd hu hg hm hx s.plain s.able s.dict (Nat.lt_of_lt_of_le s.depth (by decide)) (Nat.le_trans s.len (by decide)) he hpl
theorem de_rep2 {d d2 : D} {p : Pos} (hgd : X.A.guards = some []) (hu : X.A.units + 64 < cLine) (hg : Gl X "repr") (hm : X.mg "repr" = none) (hx : DE X M e δ (.lst [d, d2])) (s : Shw d) (s2 : Shw d2)
    (he : starEach [e] X.env = (false, eval e X.env) :: starEach [] X.env := by rfl) (hpl : (backTo pos (starEach [] X.env)).any (·.1) = false := by rfl) : DE X M (.Call (.Name "repr" p) [e] [] pos) δ (.str (D.lst [d, d2]).py.shown) := by
  have e1 : (D.lst [d, d2]).py = .list [d.py, d2.py] := by simp [D.py, D.pys]
  refine de_repr hgd hu hg hm hx ?_ ?_ ?_ ?_ ?_ he hpl
  · simp [D.plain, D.plains, s.plain, s2.plain]
  · rw [e1]; simp [PyData.showable, PyData.showableAll, s.able, s2.able]
  · rw [e1]; simp [PyData.hasDict, PyData.hasDictAll, s.dict, s2.dict]
  · rw [e1]
    have a := s.depth
    have b := s2.depth
    simp only [PyData.depthAll, PyData.depth]
    omega
  · have e2 : (PyData.shown (.list [d.py, d2.py])).cps = ("[" : Str).cps ++ d.py.shown.cps ++ (", " : Str).cps ++ d2.py.shown.cps ++ ("]" : Str).cps := by
      simp only [PyData.shown, PyData.shownAll]
      rfl
    rw [e1]
    show (PyData.shown (.list [d.py, d2.py])).cps.size ≤ sizeLine
    rw [e2, Array.size_append, Array.size_append, Array.size_append, Array.size_append]
    have a : d.py.shown.cps.size ≤ 4000 := s.len
    have b : d2.py.shown.cps.size ≤ 4000 := s2.len
    have c1 : ("[" : Str).cps.size = 1 := by decide +kernel
    have c2 : (", " : Str).cps.size = 2 := by decide +kernel
    have c3 : ("]" : Str).cps.size = 1 := by decide +kernel
    have c4 : (10000 : Nat) ≤ sizeLine := by decide
    omega
def tTb (X : Cx) (scope : Scope) (c : Expr) : TT := fun σ H Q => ∀ (s : Shared) (H1 : Hp) (C : Addr) (cl : List (Str × Addr)) (fp : List Addr), tT (X.blk s H1 scope (compEnvC scope cl C X.env) fp) c σ H Q
def tNo : TE := fun _ _ _ => False
/-- [.. for tg in a list if c], c true of no item -/
theorem de_lcNo {elt tg iter c : Expr} {scope : Scope} {own : List (Str × Nat)} {g : TG} {ds : List D} (Et : Nat → Ev) (hc : X.calm = true) (hN : X.N.Nodup) (ok : BlkOk X.N X.env.scope scope own)
    (hg : ∀ (s : Shared) (H : Hp) (C : Addr) (cl : List (Str × Addr)) (fp : List Addr), PG (X.blk s H scope (compEnvC scope cl C X.env) fp) tg g) (hx : DE X M iter δ (.lst ds)) (hw : ∀ i ∈ own.map (·.2), δ[i]? = some none)
    (turn : ∀ (i : Nat) (d : D), ds[i]? = some d → GD X.K M (own.map (·.2)) g d δ (Et i) ∧ ∀ (s : Shared) (H1 : Hp) (C : Addr) (cl : List (Str × Addr)) (fp : List Addr), DT (X.blk s H1 scope (compEnvC scope cl C X.env) fp) M c (Et i) false)
    (hs : ∀ x, foldedSetIterable iter X.env x = pure x := by intro _; rfl) : DE X M (.ListComp elt [⟨tg, iter, [c], 0⟩] scope pos) δ (.lst []) := by
  intro σ H Q k en f
  refine toE (pe_lc hc hN (pi_list pE) ok hg (fun s H1 C cl fp => pts_one (t := tTb X scope c) ⟨fun pins s1 σ1 H2 Q1 I q => q s H1 C cl fp pins s1 I⟩) (te := tNo) (fun s H1 C cl fp => ⟨fun pins s1 σ1 H2 Q1 I q => q.elim⟩) hs) ?_
  refine hx.go k en fun d v H1 p1 g1 k1 en1 r1 => ?_
  subst p1
  obtain ⟨a, xs, e1, na, s, r2⟩ := r1.lst
  refine ⟨a, e1, ⟨xs, .inl (.inl s)⟩, fun Dl hD => ?_⟩
  have n1 : Dl ∉ M := k1.free hD
  refine lc_list (K := X.K) (xs := xs) (fun i H' => Good M H1 H' ∧ H' Dl = some (.lst [])) ⟨Good.new k1 hD, upd_same⟩ (fun i H' _ q => .inl (.inl (q.1.1 _ _ na s))) (fun i x H' hx' q => ?_) (fun H' q => ?_)
  · obtain ⟨q1, q2⟩ := q
    have hlt : i < ds.length := by
      rw [← r2.len]
      exact (List.getElem?_eq_some_iff.mp hx').1
    have hd : ds[i]? = some ds[i] := List.getElem?_eq_getElem hlt
    obtain ⟨x', hx2, rx⟩ := r2.get hd
    have ex : x' = x := Option.some.inj (hx2.symm.trans hx')
    subst ex
    obtain ⟨gd, te⟩ := turn i _ hd
    refine gd x' _ H' _ q1.ok ((en1.good k1 q1).wipe _ hw) (Rep.good k1 q1 _ x' rx) fun σ' en' hw' => ⟨by rw [hw', wipe_wipe], fun s0 Hb C cl fp => ?_⟩
    refine te s0 Hb C cl fp σ' H' _ q1.ok en' fun b H4 pb g4 => ?_
    subst pb
    rw [if_neg (Bool.false_ne_true)]
    exact ⟨q1.trans g4, g4.1 _ _ n1 q2⟩
  · exact f _ _ H' rfl (g1.trans q.1) (rLst n1 q.2 Reps.nil)
/-- [elt for tg in range(n)], each elt True -/
theorem lc_R {a elt : Expr} {scope : Scope} {g : TG} {vs : List Nat} {n : Nat} (Et : Nat → Ev) (hx : DE X M a δ (.int (n : Nat))) (hn : n < 1000) (hw : ∀ i ∈ vs, δ[i]? = some none)
    (turn : ∀ (i : Nat), i < n → GD X.K M vs g (.int (i : Nat)) δ (Et i) ∧ ∀ (s : Shared) (H1 : Hp) (C : Addr) (cl : List (Str × Addr)) (fp : List Addr), DE (X.blk s H1 scope (compEnvC scope cl C X.env) fp) M elt (Et i) (.bl true)) :
    LC X M (iRng1 (tCons (tE X a) tNil)) g (tEb X scope elt) vs δ ((List.replicate n true).map D.bl) := by
  intro σ H Q ok en f
  refine hx.go ok en fun d v H1 p1 g1 k1 en1 r1 => ?_
  subst p1
  refine ⟨(n : Nat), by rw [r1.int], by omega, by omega, fun Dl hD => ?_⟩
  have en' : ((n : Nat) : Int).toNat = n := by omega
  rw [en']
  have gD : Good M H1 (upd H1 Dl (.lst [])) := Good.new k1 hD
  have n1 : Dl ∉ M := k1.free hD
  have lfs : ∀ m : Nat, D.lfs ((List.replicate m true).map D.bl) = true := fun m => by
    induction m with
    | zero => rfl
    | succ m ih =>
      rw [List.replicate_succ, List.map_cons]
      unfold D.lfs
      rw [ih]
      rfl
  refine lc_range (lo := 0) (n := n) (fun i H' => Good M H1 H' ∧ ∃ acc, H' Dl = some (.lst acc) ∧ Reps X.K M H' (((List.replicate n true).map D.bl).take i) acc) ⟨gD, [], upd_same, Reps.nil⟩ (fun i H' hi q => ?_) (fun H' q => ?_)
  · obtain ⟨q1, acc, q2, q3⟩ := q
    obtain ⟨gd, te⟩ := turn i hi
    have hy : ((List.replicate n true).map D.bl)[i]? = some (.bl true) := by
      rw [List.getElem?_map, List.getElem?_replicate, if_pos hi]
      rfl
    refine gd _ _ H' _ q1.ok ((en1.good k1 q1).wipe vs hw) (show Rep X.K M H' (.int (i : Nat)) (.int (0 + (i : Nat))) by rw [Int.zero_add]; exact rInt _) fun σ' en' hw' => ⟨by rw [hw', wipe_wipe], fun s0 Hb C cl fp => ?_⟩
    refine te s0 Hb C cl fp σ' H' _ q1.ok en' fun y v H4 py g4 ry => ?_
    subst py
    exact lc_put hD k1 (q1.trans g4) (g4.1 _ _ n1 q2) (Reps.good q1.ok g4 _ _ q3) (lfs n) hy ry (by rw [List.length_map, List.length_replicate]; omega)
  · obtain ⟨q1, acc, q2, q3⟩ := q
    refine f _ H' (g1.trans q1) (rLst n1 q2 ?_)
    have e3 : ((List.replicate n true).map D.bl).take n = (List.replicate n true).map D.bl := List.take_of_length_le (by simp)
    rw [e3] at q3
    exact q3
end
end Ir
/-! ## IrO -/
namespace Ir
open PySem.Spec PySem L2 PyProof.Rows
def spS (K : PySem.W.Frag) : Sp := fun vs H Q _ => ∃ ds, Ok [] H ∧ Reps K [] H ds vs ∧ (∃ (ns : List Int) (t : Nat), ds = [.scr ns, .int t] ∧ ns.length ≤ 63 ∧ t < 1000) ∧
  ∀ (p : Addr) (i j k : Int) (H' : Hp), Good [] H H' → H p = none → H' p = some (.lst [.int i, .int j, .int k]) → Q (.ref p) H'
section
variable {P : Program} {w : World} {K : PySem.W.Frag} {mg : Str → Option Value} {base : Heap} (G : Gs K mg) (T : Ds K mg)
include G T
theorem okK_heel_rate : FnK P w K mg base "heel_rate" 9 r_heel := by
  refine fn_okK T.d_heel_rate sc_heel_rate b_heel_rate (fun kV doc pm an cdv ct c b a => rfl) (fun ds p q h ⟨x, y, z, e, h1, r⟩ => ⟨x, y, z, e, h1, h _ r⟩) (fun ds p ⟨x, y, z, e, r⟩ => by rw [e]; rfl) fun f cdv A outer s H E M ds Pd hr ⟨i, k, p, e, g, hP⟩ => ?_
  subst e
  have si := g.si
  have sa := g.sa
  refine DS.at (δ' := [some i.d_, some (pr p.H p.Z), some (pr p.c p.s)]) ?_ rfl
  refine ds_expr (DE.we (c3a (ok_check_ship G T) hr rfl (de_v 0 rfl (.inl rfl) rfl) (de_v 1 rfl (.inl rfl) rfl) (de_v 2 rfl (.inl rfl) rfl) ⟨i, k, p, rfl, g, rfl⟩) ?_)
  exact ds_retD (c1 (ok_rate_of G T) hr rfl (c3a (ok_waves_of_heel G T) hr rfl (de_v 0 rfl (.inl rfl) rfl) (de_v 1 rfl (.inl rfl) rfl) (de_v 2 rfl (.inl rfl) rfl) ⟨i, k, p, rfl, si, sa, g.hk, rfl⟩) ⟨_, _, k, rfl, inferInstance, inferInstance, g.hk, rfl⟩) hP
theorem okK_righting_magnet : FnK P w K mg base "righting_magnet" 9 r_mag := by
  refine fn_okK T.d_righting_magnet sc_righting_magnet b_righting_magnet (fun kV doc pm an cdv ct c b a => rfl) (fun ds p q h ⟨x, y, z, e, h1, r⟩ => ⟨x, y, z, e, h1, h _ r⟩) (fun ds p ⟨x, y, z, e, r⟩ => by rw [e]; rfl) fun f cdv A outer s H E M ds Pd hr ⟨i, k, p, e, g, hP⟩ => ?_
  subst e
  refine DS.at (δ' := [some i.d_, some (pr p.H p.Z), some (pr p.c p.s)]) ?_ rfl
  refine ds_expr (DE.we (c3a (ok_check_ship G T) hr rfl (de_v 0 rfl (.inl rfl) rfl) (de_v 1 rfl (.inl rfl) rfl) (de_v 2 rfl (.inl rfl) rfl) ⟨i, k, p, rfl, g, rfl⟩) ?_)
  exact ds_retD (c3a (ok_magnet_of G T) hr rfl (de_v 0 rfl (.inl rfl) rfl) (de_v 1 rfl (.inl rfl) rfl) (de_v 2 rfl (.inl rfl) rfl) ⟨i, k, p, rfl, g, rfl⟩) hP
theorem ok__law_store : ∃ f fd, FnOk P w K mg base CX0 2 f fd ["_law_script", "_law_turn"] (spS K) ∧ mg "_law_store" = some (.ref f) ∧ PySem.W.keepIn K (.ref f) = true ∧ Binds K fd ["_law_script", "_law_turn"] [] := by
  obtain ⟨f, fd, F1, gf⟩ := T.d__law_store
  refine ⟨f, fd, F1.ok (k := 1) sc__law_store (fun vs H Q E h => ?_) (fun cdv A outer s H vs Q E hr h => ?_), gf, F1.kp, FunD.bindsN F1 b__law_store⟩
  · obtain ⟨ds, _, r, ⟨ns, t, e, _⟩, _⟩ := h
    rw [r.len, e]
    rfl
  · obtain ⟨ds, ok, r, ⟨ns, t, e, hl, ht⟩, q⟩ := h
    subst e
    refine ⟨_, PSs.nox pS, ?_⟩
    have main : DS (cxOf CX0 P w K mg base n__law_store "_law_store" (defScope s__law_store) f cdv A outer s H E).nox [] H (defBody s__law_store) (startD n__law_store [.scr ns, .int t]) (fun _ => False) (fun d => ∃ p i j k, d = .own p [.int i, .int j, .int k] ∧ H p = none) := by
      refine DS.at (δ' := [some (.scr ns), some (.int t), none, none, none]) ?_ rfl
      have next : ∀ o : Int, DS (cxOf CX0 P w K mg base n__law_store "_law_store" (defScope s__law_store) f cdv A outer s H E).nox [] H ((defBody s__law_store).drop 1) [some (.scr ns), some (.int t), some (.int o), none, none] (fun _ => False) (fun d => ∃ p i j k, d = .own p [.int i, .int j, .int k] ∧ H p = none) := fun o => by
        have c1 : CMulW 2393 (t : Int) := wide_mul (a := 12) (b := 10) (by decide) (by rw [Int.natAbs_natCast]; omega) (by decide) (by decide) (by decide)
        refine ds_setD 3 sc__law_store.nd rfl (.inl rfl) (de_add de_int (de_mul de_int (de_v 1 rfl (.inl rfl) rfl) c1)) ?_
        refine DS.at (δ' := [some (.scr ns), some (.int t), some (.int o), some (.int _), none]) ?_ rfl
        have hcut : (cutD ns none (some 10)).length ≤ 63 := by
          unfold cutD
          rw [List.length_take, List.length_drop]; omega
        refine ds_forLI (ds := (cutD ns none (some 10)).map D.int ++ [.int o]) (fun n δ => ∃ (z : Int) (x : Option D), δ = [some (.scr ns), some (.int t), some (.int o), some (.int z), x]) PassesOwn.never rfl (de_catL (de_slS (zl := none) (zh := some 10) (de_v 0 rfl (.inl rfl) rfl) True.intro de_int) (de_lst (da_cons (de_v 2 rfl (.inl rfl) rfl) da_nil)) (by rw [List.length_map]; show (cutD ns none (some 10)).length + 1 ≤ 1000; omega)) ⟨_, none, rfl⟩ (fun H1 i d δ1 hd q => ?_) (fun δ1 q => ?_)
        · obtain ⟨z, x, rfl⟩ := q
          obtain ⟨y, rfl⟩ : ∃ y : Int, d = .int y := by
            have m := List.mem_of_getElem? hd
            rcases List.mem_append.mp m with m | m
            · obtain ⟨y, _, e⟩ := List.mem_map.mp m
              exact ⟨y, e.symm⟩
            · exact ⟨o, List.mem_singleton.mp m⟩
          refine ⟨_, gt_name 4 sc__law_store.nd rfl (.inl rfl), ?_⟩
          refine DS.at (δ' := [some (.scr ns), some (.int t), some (.int o), some (.int z), some (.int y)]) ?_ rfl
          refine ds_set 3 sc__law_store.nd rfl (.inl rfl) (WI.we (p := fun _ => True) (wi_mod (p := fun _ => True) (wi_toInt rfl G.int (wi_add (p := fun _ => True) (wi_add (p := fun _ => True) (q := fun _ => True) (wi_mul (wiT (de_v 3 rfl (.inl rfl) rfl)) (wiT de_int) (fun i j _ hj => .inr (by subst hj; decide)) fun _ _ _ _ => True.intro) (wi_mod (wi_toInt rfl G.int (wiT (de_v 4 rfl (.inl rfl) rfl))) (wiT de_int) (fun j hj => by subst hj; decide) fun _ _ _ _ => True.intro) fun _ _ _ _ => True.intro) (wiT de_int) fun _ _ _ _ => True.intro)) (wiT de_int) (fun j hj => by subst hj; decide) fun _ _ _ _ => True.intro) fun z2 _ => ?_)
          exact ds_nil ⟨z2, some (.int y), rfl⟩
        · obtain ⟨z, x, rfl⟩ := q
          have pw : CPow 10 18 := ⟨by decide, by decide, by decide⟩
          refine ds_retNew (wa_cons (we_ifExp (WW.wt (ww_or (WT.mono (dt_lt (de_v 2 rfl (.inl rfl) rfl) de_int) fun b hb => ?_)))))
          cases b with
          | true => exact iteT (iteT (DE.we (de_abs rfl G.abs (de_v 2 rfl (.inl rfl) rfl)) (wa_cons ((de_v 3 rfl (.inl rfl) rfl).we (wa_cons (de_int.we (wa_nil ⟨Nat.le_of_ble_eq_true rfl, fun p hp => ⟨p, _, z, 0, rfl, hp⟩⟩)))))))
          | false =>
            refine iteF (ww_one (WT.mono (dt_ge (de_v 2 rfl (.inl rfl) rfl) (de_pow de_int de_int pw)) fun b hb => ?_))
            cases b with
            | true => exact iteT (DE.we (de_abs rfl G.abs (de_v 2 rfl (.inl rfl) rfl)) (wa_cons ((de_v 3 rfl (.inl rfl) rfl).we (wa_cons (de_int.we (wa_nil ⟨Nat.le_of_ble_eq_true rfl, fun p hp => ⟨p, _, z, 0, rfl, hp⟩⟩))))))
            | false => exact iteF (DE.we de_int (wa_cons ((de_v 3 rfl (.inl rfl) rfl).we (wa_cons (de_int.we (wa_nil ⟨Nat.le_of_ble_eq_true rfl, fun p hp => ⟨p, _, z, 0, rfl, hp⟩⟩))))))
      refine ds_set 2 sc__law_store.nd rfl (.inl rfl) (we_ifExp (WT.mono (dt_lt (de_v 1 rfl (.inl rfl) rfl) (de_len rfl G.len (de_v 0 rfl (.inl rfl) rfl) (.inr (.inr ⟨_, rfl, rfl⟩)))) fun b hb => ?_))
      cases b with
      | true =>
        have h1 : (t : Int) < ns.length := of_decide_eq_true hb.symm
        obtain ⟨j, hj, _⟩ := atI_in (xs := ns) (r := (t : Int)) (by omega) h1
        exact iteT (DE.we (de_toInt rfl G.int (de_ixS (fun _ _ => rfl) (de_v 0 rfl (.inl rfl) rfl) (de_v 1 rfl (.inl rfl) rfl) hj)) (next _))
      | false =>
        have c2 : CMulW 6235 (t : Int) := wide_mul (a := 13) (b := 10) (by decide) (by rw [Int.natAbs_natCast]; omega) (by decide) (by decide) (by decide)
        exact iteF (DE.we (de_add (de_add (de_mul de_int (de_v 1 rfl (.inl rfl) rfl) c2) de_int) (de_mod (de_toInt rfl G.int (de_sumI rfl rfl G.sum (de_slS (zl := none) (zh := some 4) (de_v 0 rfl (.inl rfl) rfl) True.intro de_int))) de_int (by decide))) (next _))
    refine main _ H { nx := fun _ H' => Q .non H', rt := Q } (Good.refl ok) ok (env_start r) (fun δ' σ' H' n g _ _ => n.elim) (fun d v H' hd g r' => ?_)
    obtain ⟨p, i, j, k, rfl, hn⟩ := hd
    obtain ⟨e1, _, xs, e2, r3⟩ := r'.own
    have e3 := ints_lst (ns := [i, j, k]) r3
    rw [e1]
    exact q p i j k H' g hn (by rw [e2, e3]; rfl)
end
end Ir
/-! ## IrRt -/
namespace Ir
open PySem.Spec PySem L2 PyProof.Rows
def r_right : Rsp := fun ds P => ∃ s, ds = [.sto s] ∧ P (.bl true)
theorem sz_heel {i : I12} {k : Nat} {a : At} [SzI i k] [SzA a] : Sz (topR (north i a) (east i a) / ((north i a).worth * (north i a).worth)) (2 * k + 1757) := Sz.mono inferInstance (by omega)
theorem shw_heel {i : I12} {k : Nat} {a : At} (h : SzI i k) (ha : SzA a) (hk : k ≤ 5) : Shw (oD (heel i a)) := by
  refine shw_oD fun q hq => ?_
  by_cases hz : (north i a).worth = 0
  · rw [heel_none hz] at hq
    cases hq
  · rw [heel_some hz] at hq
    cases hq
    exact ⟨_, sz_heel (k := k), by omega⟩
theorem shw_mag {i : I12} {k : Nat} {a : At} (h : SzI i k) (ha : SzA a) : Shw (oD (magnet i a)) := by
  refine shw_oD fun q hq => ?_
  by_cases hz : (north i a).worth = 0
  · rw [magnet_none hz] at hq
    cases hq
  · by_cases h2 : hstep i a = 0
    · rw [magnet_flat hz h2] at hq
      cases hq
    · rw [magnet_some hz h2, told_eq hz h2] at hq
      cases hq
      exact ⟨_, sz_told (k := k), by omega⟩
section
variable {X : Cx} {M : List Addr} {e e2 : Expr} {es : List Expr} {δ : Ev} {pos : Pos}
theorem de_eqNil (hu : X.A.units + 64 < cLine) (hx : DE X M e δ (.lst [])) (hy : DE X M e2 δ (.lst [])) : DE X M (.Compare e [.Eq] [e2] pos) δ (.bl true) :=
  de_cmp (op_eqD hu) (nomark _) hx hy (o_eqD (by simp [D.plain, D.plains]) (by simp [D.plain, D.plains]) (by simp [D.py, D.pys, SeqAt.shaped, PyData.canLay0, PyData.canLayAll0, PyData.depth, PyData.depthAll]) (by simp [D.py, D.pys, SeqAt.shaped, PyData.canLay0, PyData.canLayAll0, PyData.depth, PyData.depthAll]) (by simp [D.py, D.pys, PyData.eqv, PyData.eqvAll]))
end
section
variable {P : Program} {w : World} {K : PySem.W.Frag} {mg : Str → Option Value} {base : Heap} (G : Gs K mg) (T : Ds K mg)
include G T
theorem ok__law_right : FnH P w K mg base "_law_right" 10 ["_law_store_here"] r_right := by
  refine fn_okH T.d__law_right sc__law_right b__law_right (fun ds p q h ⟨s, e, r⟩ => ⟨s, e, h _ r⟩) (fun ds p ⟨s, e, _⟩ => by rw [e]; rfl) fun f cdv A outer sh H E M ds Pd hr gd ⟨s, e, hP⟩ => ?_
  subst e
  refine DS.at (δ' := [some (.sto s), none, none, none, none, none, none, none, none]) ?_ rfl
  refine ds_asg (we_tup (wa_cons (we_call (ok__law_iron G T) hr rfl (wa_cons ((de_v 0 rfl (.inl rfl) rfl).we (wa_cons (we_pick (ok__law_of G T) hr rfl (de_v 0 rfl (.inl rfl) rfl) (de_tup (ds := ([1, 2, 4] : List Int).map D.int) (da_cons de_int (da_cons de_int (da_cons de_int da_nil)))) (by decide) fun d hd => ?_)))))))
  obtain ⟨z, rfl, hz⟩ := ints_mem hd
  have hb : 0 < z ∧ z ≤ 4 := by
    simp at hz
    omega
  refine wa_nil ⟨s, z, rfl, hb.1, hb.2, fun i si str => ?_⟩
  refine wa_cons (we_call (ok__law_site G T) hr rfl (wa_cons ((de_v 0 rfl (.inl rfl) rfl).we (wa_nil ⟨s, rfl, fun Hh Z z1 z2 z3 => ?_⟩))))
  refine wa_cons (we_call (ok__law_heading G T) hr rfl (wa_cons ((de_v 0 rfl (.inl rfl) rfl).we (wa_nil ⟨s, rfl, fun c t z4 z5 z6 => ?_⟩))))
  refine wa_nil ⟨Nat.le_of_ble_eq_true rfl, _, gt_tup rfl (gts_cons (gt_name 1 sc__law_right.nd rfl (.inr rfl)) (gts_cons (gt_name 2 sc__law_right.nd rfl (.inr rfl)) (gts_cons (gt_name 3 sc__law_right.nd rfl (.inr rfl)) gts_nil))), ?_⟩
  obtain ⟨a, ha, ea1, ea2, ea3, ea4⟩ : ∃ a : At, SzA a ∧ a.H = Hh ∧ a.Z = Z ∧ a.c = c ∧ a.s = t := ⟨⟨Hh, Z, c, t⟩, ⟨z1, z3, z4, z5⟩, rfl, rfl, rfl, rfl⟩
  subst ea1 ea2 ea3 ea4
  have g3 : Good3 i 3 a := ⟨si, ha, by decide, str, z2, z6⟩
  have so : SzI (i.with (i.R + 1)) 5 := si.with_ inferInstance
  have g5 : Good3 (i.with (i.R + 1)) 5 a := ⟨so, ha, by decide, str, z2, z6⟩
  have w3 := shw_heel si ha (by decide)
  have w5 := shw_heel so ha (by decide)
  have wm := shw_mag si ha
  refine DS.at (δ' := [some (.sto s), some i.d_, some (pr a.H a.Z), some (pr a.c a.s), none, none, none, none, none]) ?_ rfl
  refine ds_setD 4 sc__law_right.nd rfl (.inl rfl) (c3a (ok__law_rate G T) hr rfl (de_v 1 rfl (.inr (.inl rfl)) rfl) (de_v 2 rfl (.inr (.inl rfl)) rfl) (de_v 3 rfl (.inr (.inl rfl)) rfl) ⟨i, a, rfl, si, ha, rfl⟩) ?_
  refine DS.at (δ' := [some (.sto s), some i.d_, some (pr a.H a.Z), some (pr a.c a.s), some (oD (heel i a)), none, none, none, none]) ?_ rfl
  refine ds_ifF (DT.eq (d' := false) (dt_neS (de_rep2 gd hr.units rfl G.repr (de_lst (da_cons (c3a (ok_heel_rate G T) hr rfl (de_v 1 rfl (.inr (.inl rfl)) rfl) (de_v 2 rfl (.inr (.inl rfl)) rfl) (de_v 3 rfl (.inr (.inl rfl)) rfl) ⟨i, 3, a, rfl, g3, rfl⟩) (da_cons (c_k3 (okK_heel_rate G T) hr rfl (de_v 3 rfl (.inr (.inl rfl)) rfl) (de_v 2 rfl (.inr (.inl rfl)) rfl) (de_v 1 rfl (.inr (.inl rfl)) rfl) ⟨i, 3, a, rfl, g3, rfl⟩) da_nil))) w3 w3) (de_rep2 gd hr.units rfl G.repr (de_lst (da_cons (de_v 4 rfl (.inl rfl) rfl) (da_cons (de_v 4 rfl (.inl rfl) rfl) da_nil))) w3 w3)) (by rw [decide_eq_true rfl]; rfl)) rfl ?_
  refine ds_setD 5 sc__law_right.nd rfl (.inr rfl) (c3a (ok_righting_magnet G T) hr rfl (de_v 1 rfl (.inr (.inl rfl)) rfl) (de_v 2 rfl (.inr (.inl rfl)) rfl) (de_v 3 rfl (.inr (.inl rfl)) rfl) ⟨i, 3, a, rfl, g3, rfl⟩) ?_
  refine DS.at (δ' := [some (.sto s), some i.d_, some (pr a.H a.Z), some (pr a.c a.s), some (oD (heel i a)), some (oD (magnet i a)), none, none, none]) ?_ rfl
  refine ds_ifF (DT.eq (d' := false) (dt_neS (de_rep gd hr.units rfl G.repr (c_k3 (okK_righting_magnet G T) hr rfl (de_v 3 rfl (.inr (.inl rfl)) rfl) (de_v 2 rfl (.inr (.inl rfl)) rfl) (de_v 1 rfl (.inr (.inl rfl)) rfl) ⟨i, 3, a, rfl, g3, rfl⟩) wm) (de_rep gd hr.units rfl G.repr (de_v 5 rfl (.inr (.inl rfl)) rfl) wm)) (by rw [decide_eq_true rfl]; rfl)) rfl ?_
  refine ds_setD 6 sc__law_right.nd rfl (.inl rfl) (c3a (ok_heel_rate G T) hr rfl (c2a (ok__law_with G T) hr rfl (de_v 1 rfl (.inr (.inl rfl)) rfl) (c_op (p := i.R) (ok__law_add G T) hr rfl (de_ixT (fun _ _ => rfl) (de_ixT (fun _ _ => rfl) (de_v 1 rfl (.inr (.inl rfl)) rfl) de_int rfl) de_int rfl) (de_lit (q := 1) (de_tup (da_cons de_int (da_cons de_int da_nil))))) ⟨i, i.R + 1, rfl, rfl⟩) (de_v 2 rfl (.inr (.inl rfl)) rfl) (de_v 3 rfl (.inr (.inl rfl)) rfl) ⟨i.with (i.R + 1), 5, a, rfl, g5, rfl⟩) ?_
  refine DS.at (δ' := [some (.sto s), some i.d_, some (pr a.H a.Z), some (pr a.c a.s), some (oD (heel i a)), some (oD (magnet i a)), some (oD (heel (i.with (i.R + 1)) a)), none, none]) ?_ rfl
  by_cases hz : (north i a).worth = 0
  · have e1 : heel i a = none := heel_none hz
    have e2 : heel (i.with (i.R + 1)) a = none := heel_none (i := i.with (i.R + 1)) hz
    have e3 : magnet i a = none := magnet_none hz
    rw [e1, e2, e3]
    refine ds_ifT (dt_or2T (DT.eq (dt_isN (de_v 4 rfl (.inl rfl) rfl)) rfl)) rfl ?_
    exact ds_retD (de_andT (DE.eq (de_isN (de_v 5 rfl (.inr (.inl rfl)) rfl)) rfl) (de_one (DE.eq (de_eqS (de_rep gd hr.units rfl G.repr (de_v 6 rfl (.inl rfl) rfl) shw_non) (de_rep gd hr.units rfl G.repr (de_v 4 rfl (.inl rfl) rfl) shw_non)) (congrArg D.bl (decide_eq_true rfl))))) hP
  · have e1 := heel_self hz
    by_cases h2 : hstep i a = 0
    · have e2 : heel (i.with (i.R + 1)) a = heel i a := (heel_other hz).mpr h2
      have e3 : magnet i a = none := magnet_flat hz h2
      rw [e2, e3]
      rw [e1] at w3 ⊢
      refine ds_ifT (dt_or2 (DT.eq (dt_isN (de_v 4 rfl (.inl rfl) rfl)) rfl) (dt_eqS (de_rep gd hr.units rfl G.repr (de_v 6 rfl (.inl rfl) rfl) w3) (de_rep gd hr.units rfl G.repr (de_v 4 rfl (.inl rfl) rfl) w3))) (decide_eq_true rfl) ?_
      exact ds_retD (de_andT (DE.eq (de_isN (de_v 5 rfl (.inr (.inl rfl)) rfl)) rfl) (de_one (DE.eq (de_eqS (de_rep gd hr.units rfl G.repr (de_v 6 rfl (.inl rfl) rfl) w3) (de_rep gd hr.units rfl G.repr (de_v 4 rfl (.inl rfl) rfl) w3)) (congrArg D.bl (decide_eq_true rfl))))) hP
    · have e2 : heel (i.with (i.R + 1)) a ≠ heel i a := fun z => h2 ((heel_other hz).mp z)
      have e4 := heel_with hz (i.R + 1)
      have e3 := magnet_some hz h2
      have tz : Sz (-hbase i a / hstep i a) 1790 := by
        rw [told_eq hz h2]
        exact sz_told (k := 3)
      have et := heel_told hz h2
      have off := heel_off hz h2
      generalize -hbase i a / hstep i a = told at *
      rw [e4] at w5 e2 ⊢
      rw [e1] at w3 e2 ⊢
      rw [e3]
      generalize hbase i a + (i.R + 1) * hstep i a = other at *
      generalize hbase i a + i.R * hstep i a = rate at *
      have tells : decide ((fr other).py.shown = (fr rate).py.shown) = false := decide_eq_false fun z => e2 (by rw [fr_tells z])
      refine ds_ifF (dt_or2 (DT.eq (dt_isN (de_v 4 rfl (.inl rfl) rfl)) rfl) (dt_eqS (de_rep gd hr.units rfl G.repr (de_v 6 rfl (.inl rfl) rfl) w5) (de_rep gd hr.units rfl G.repr (de_v 4 rfl (.inl rfl) rfl) w3))) tells ?_
      have st : SzI (i.with told) 1790 := si.with_ tz
      have gt : Good3 (i.with told) 1790 a := ⟨st, ha, by decide, str, z2, z6⟩
      refine ds_ifF (dt_or2 (dt_not (b := true) (dt_val (c1 (ok__law_is_frac G T) hr rfl (de_v 5 rfl (.inr (.inl rfl)) rfl) ⟨told, 1790, rfl, tz, by decide, rfl⟩) (fun _ => rfl))) (DT.eq (d' := false) (dt_neF hr.units (DE.eq (c3a (ok_heel_rate G T) hr rfl (c2a (ok__law_with G T) hr rfl (de_v 1 rfl (.inr (.inl rfl)) rfl) (de_v 5 rfl (.inr (.inl rfl)) rfl) ⟨i, told, rfl, rfl⟩) (de_v 2 rfl (.inr (.inl rfl)) rfl) (de_v 3 rfl (.inr (.inl rfl)) rfl) ⟨i.with told, 1790, a, rfl, gt, rfl⟩) (congrArg oD et)) (de_lit (q := 0) (de_tup (da_cons de_int (da_cons de_int da_nil))))) (by decide +kernel))) rfl ?_
      have mS : Sz (-1 / 2 : Rat) 2 := ⟨by decide +kernel, by decide +kernel⟩
      have tS : Sz (3 : Rat) 2 := ⟨by decide +kernel, by decide +kernel⟩
      have gv : ∀ v : Rat, Sz v 2 → Good3 (i.with (told + v)) 1793 a := fun v hv => ⟨si.with_ inferInstance, ha, by decide, str, z2, z6⟩
      have o1 : Sz (1 : Rat) 2 := Sz.mono inferInstance (by decide)
      refine ds_setLc 7 (own := [("_law_each", 8)]) (ys := [fr (1 * hstep i a), fr (-1 / 2 * hstep i a), fr (3 * hstep i a)]) (g := gName 8) rfl sc__law_right.nd rfl rfl rfl (pi_tup pE) (blkOk_by (N := n__law_right) (sc := defScope s__law_right) (by decide +kernel)) (fun _ _ _ _ _ => pg_name sc__law_right.nd rfl (.inl rfl))
        (lc_T (ds := [fr 1, fr (-1 / 2), fr 3]) (fun m => [some (.sto s), some i.d_, some (pr a.H a.Z), some (pr a.c a.s), some (oD (some rate)), some (oD (some told)), some (oD (some other)), none, some (fr (match m with | 0 => 1 | 1 => -1 / 2 | _ => 3))])
          (de_tup (da_cons (de_lit (q := 1) (de_tup (da_cons de_int (da_cons de_int da_nil)))) (da_cons (de_lit (q := -1 / 2) (de_tup (da_cons (de_neg de_int) (da_cons de_int da_nil)))) (da_cons (de_lit (q := 3) (de_tup (da_cons de_int (da_cons de_int da_nil)))) da_nil)))) (fun v hv => ?_) rfl (Nat.le_of_ble_eq_true rfl) rfl (fun m d y h1 h3 => ?_)) ?_
      · cases hv with
        | head => rfl
        | tail _ h => cases h
      · match m, h1, h3 with
        | 0, h1, h3 =>
          cases h1; cases h3
          exact ⟨gd_name (.head _), fun s1 H1 C cl fp => DE.eq (c3a (ok_heel_rate G T) hr rfl (c2a (ok__law_with G T) hr rfl (de_v 1 rfl (.inr (.inl rfl)) rfl) (c_op (p := told) (q := 1) (ok__law_add G T) hr rfl (de_v 5 rfl (.inr (.inl rfl)) rfl) (de_v 8 rfl (.inl rfl) rfl)) ⟨i, told + 1, rfl, rfl⟩) (de_v 2 rfl (.inr (.inl rfl)) rfl) (de_v 3 rfl (.inr (.inl rfl)) rfl) ⟨i.with (told + 1), 1793, a, rfl, gv 1 o1, rfl⟩) (congrArg oD (off 1))⟩
        | 1, h1, h3 =>
          cases h1; cases h3
          exact ⟨gd_name (.head _), fun s1 H1 C cl fp => DE.eq (c3a (ok_heel_rate G T) hr rfl (c2a (ok__law_with G T) hr rfl (de_v 1 rfl (.inr (.inl rfl)) rfl) (c_op (p := told) (q := -1 / 2) (ok__law_add G T) hr rfl (de_v 5 rfl (.inr (.inl rfl)) rfl) (de_v 8 rfl (.inl rfl) rfl)) ⟨i, told + -1 / 2, rfl, rfl⟩) (de_v 2 rfl (.inr (.inl rfl)) rfl) (de_v 3 rfl (.inr (.inl rfl)) rfl) ⟨i.with (told + -1 / 2), 1793, a, rfl, gv (-1 / 2) mS, rfl⟩) (congrArg oD (off (-1 / 2)))⟩
        | 2, h1, h3 =>
          cases h1; cases h3
          exact ⟨gd_name (.head _), fun s1 H1 C cl fp => DE.eq (c3a (ok_heel_rate G T) hr rfl (c2a (ok__law_with G T) hr rfl (de_v 1 rfl (.inr (.inl rfl)) rfl) (c_op (p := told) (q := 3) (ok__law_add G T) hr rfl (de_v 5 rfl (.inr (.inl rfl)) rfl) (de_v 8 rfl (.inl rfl) rfl)) ⟨i, told + 3, rfl, rfl⟩) (de_v 2 rfl (.inr (.inl rfl)) rfl) (de_v 3 rfl (.inr (.inl rfl)) rfl) ⟨i.with (told + 3), 1793, a, rfl, gv 3 tS, rfl⟩) (congrArg oD (off 3))⟩
        | m + 3, h1, h3 => cases h1
      refine DS.at (δ' := [some (.sto s), some i.d_, some (pr a.H a.Z), some (pr a.c a.s), some (oD (some rate)), some (oD (some told)), some (oD (some other)), some (.lst [fr (1 * hstep i a), fr (-1 / 2 * hstep i a), fr (3 * hstep i a)]), none]) ?_ rfl
      have n1 : decide (1 * hstep i a = 0) = false := decide_eq_false fun z => h2 (by grind)
      have n2 : decide (-1 / 2 * hstep i a = 0) = false := decide_eq_false fun z => h2 (by grind)
      have n3 : decide (3 * hstep i a = 0) = false := decide_eq_false fun z => h2 (by grind)
      refine ds_retD (de_eqNil hr.units (de_lcNo (own := [("_law_each", 8)]) (g := gName 8) (ds := [fr (1 * hstep i a), fr (-1 / 2 * hstep i a), fr (3 * hstep i a)]) (fun m => [some (.sto s), some i.d_, some (pr a.H a.Z), some (pr a.c a.s), some (oD (some rate)), some (oD (some told)), some (oD (some other)), some (.lst [fr (1 * hstep i a), fr (-1 / 2 * hstep i a), fr (3 * hstep i a)]), some (fr (match m with | 0 => 1 * hstep i a | 1 => -1 / 2 * hstep i a | _ => 3 * hstep i a))]) rfl sc__law_right.nd (blkOk_by (N := n__law_right) (sc := defScope s__law_right) (by decide +kernel)) (fun _ _ _ _ _ => pg_name sc__law_right.nd rfl (.inl rfl)) (de_v 7 rfl (.inl rfl) rfl) (fun v hv => ?_) (fun m d h1 => ?_)) (de_lst da_nil)) hP
      · cases hv with
        | head => rfl
        | tail _ h => cases h
      · match m, h1 with
        | 0, h1 =>
          cases h1
          exact ⟨gd_name (.head _), fun s1 H1 C cl fp => DT.eq (dt_eqF hr.units (de_v 8 rfl (.inl rfl) rfl) (de_lit (q := 0) (de_tup (da_cons de_int (da_cons de_int da_nil))))) n1⟩
        | 1, h1 =>
          cases h1
          exact ⟨gd_name (.head _), fun s1 H1 C cl fp => DT.eq (dt_eqF hr.units (de_v 8 rfl (.inl rfl) rfl) (de_lit (q := 0) (de_tup (da_cons de_int (da_cons de_int da_nil))))) n2⟩
        | 2, h1 =>
          cases h1
          exact ⟨gd_name (.head _), fun s1 H1 C cl fp => DT.eq (dt_eqF hr.units (de_v 8 rfl (.inl rfl) rfl) (de_lit (q := 0) (de_tup (da_cons de_int (da_cons de_int da_nil))))) n3⟩
        | m + 3, h1 => cases h1
end
end Ir
/-! ## IrLw -/
namespace Ir
open PySem.Spec PySem L2 PyProof.Rows
def r_law : Rsp := fun ds P => ∃ ns : List Int, ds = [.scr ns] ∧ ns.length ≤ 63 ∧ P (.bl true)
/-- _law_right of a new store -/
theorem de_right {X : Cx} {e e2 : Expr} {δ : Ev} {x y : Str} {px py pos pos2 : Pos} {k1 k2 n : Nat} {f1 : Addr} {fd1 : FuncData} {ps1 ps2 : List Str} {ns : List Int} {t : Nat}
    (F1 : FnOk X.prog X.w X.K X.mg X.base CX0 k1 f1 fd1 ps1 (spS X.K)) (gm1 : X.mg y = some (.ref f1)) (kp1 : PySem.W.keepIn X.K (.ref f1) = true) (b1 : Binds X.K fd1 ps1 []) (F2 : FnH X.prog X.w X.K X.mg X.base x k2 ps2 r_right)
    (hr : Room n X.A) (gd : X.A.guards = some []) (hgx : Gl X x) (hgy : Gl X y) (hs : DE X [] e δ (.scr ns)) (ht : DE X [] e2 δ (.int (t : Nat))) (hl : ns.length ≤ 63) (ht2 : t < 1000) (hk1 : k1 ≤ n := by decide) (hk2 : k2 ≤ n := by decide) (hdx : (x == ("__debug__" : Str)) = false := by decide) (hdy : (y == ("__debug__" : Str)) = false := by decide)
    (he : starEach [e, e2] X.env = (false, eval e X.env) :: starEach [e2] X.env := by rfl) (he2 : starEach [e2] X.env = (false, eval e2 X.env) :: starEach [] X.env := by rfl) (hpl : (backTo pos2 (starEach [e2] X.env)).any (·.1) = false := by rfl)
    (hs1 : starEach [.Call (.Name y py) [e, e2] [] pos2] X.env = (false, eval (.Call (.Name y py) [e, e2] [] pos2) X.env) :: starEach [] X.env := by rfl) (hp1 : (backTo pos (starEach [] X.env)).any (·.1) = false := by rfl) :
    DE X [] (.Call (.Name x px) [.Call (.Name y py) [e, e2] [] pos2] [] pos) δ (.bl true) := by
  intro σ H Q ok en f
  obtain ⟨f2, fd2, G2, gm2, kp2, b2⟩ := F2.ok
  intro pins s I
  refine wpAny_Call_Name_kw (ld_glob I hgx gm2 ?_ hdx)
  refine PySem.W.callWith_K (h₀ := X.base) I.ok.mod.kin kp2 (thn ((pa_cons (pe_call F1 (hr.mono hk1) hgy gm1 kp1 b1 .nil pass0 (pA (es := [e, e2])) hdy he hpl) pa_nil hs1).run pos pins s σ H (fun vs H1 => spD X.K r_right vs H1 Q fun _ _ _ => False) I ?_) fun us s1 ⟨vs, H1, I1, r, q⟩ => ⟨I1.kIn, run_G G2 (hr.mono hk2) gd b2 pass0 I1 r q⟩) hs1 hp1
  refine (da_cons hs (da_cons ht da_nil he2) he).go ok en fun ds vs H1 p1 g1 k1' en1 r1 => ?_
  subst p1
  refine ⟨[.scr ns, .int t], k1', by rw [List.append_nil]; exact r1, ⟨ns, t, rfl, hl, ht2⟩, fun p i j k H2 g2 hn e3 => ?_⟩
  refine ⟨[p], [.sto p], fun q hq => ?_, Reps.one (rSto (List.mem_singleton.mpr rfl)), p, rfl, fun v H3 g3 r3 => ?_⟩
  · rw [(List.mem_singleton.mp hq)]
    exact ⟨i, j, k, e3⟩
  · have ev : v = .bl true := r3.bl
    subst ev
    refine f _ _ H3 rfl ⟨fun b o hb e4 => ?_, fun q hq => by cases hq⟩ (rBl true)
    have e5 := g1.1 b o hb e4
    refine g3.1 b o (fun m => ?_) (g2.1 b o hb e5)
    rw [List.mem_singleton.mp m, hn] at e5
    cases e5
section
variable {P : Program} {w : World} {K : PySem.W.Frag} {mg : Str → Option Value} {base : Heap} (G : Gs K mg) (T : Ds K mg)
include G T
theorem law_body {f : Addr} {cdv : Value} {A : Around} {outer : List PySem.Env} {s : Shared} {H : Hp} {E : XK} {ns : List Int} {Pd : D → Prop} (hr : Room 10 (A.deeper (envOfC "law" (defScope s_law) s.heap.objs.size f cdv))) (gd : A.guards = some []) (hl : ns.length ≤ 63) (hP : Pd (.bl true)) :
    DS (cxOf CX0 P w K mg base n_law "law" (defScope s_law) f cdv A outer s H E).nox [] H (defBody s_law) (startD n_law [.scr ns]) (fun _ => False) Pd := by
  obtain ⟨f1, fd1, F1, gm1, kp1, b1⟩ := ok__law_store (P := P) (w := w) (base := base) G T
  refine DS.at (δ' := [some (.scr ns), none]) ?_ rfl
  have hn : max 2 (min ns.length 4) < 1000 := by omega
  refine ds_retD (de_all (bs := List.replicate (max 2 (min ns.length 4)) true) rfl rfl G.all (de_lc (own := [("_law_turn", 1)]) (wi := iRng1 (tCons (tE _ _) tNil)) (g := gName 1) rfl sc_law.nd (pi_range1 rfl G.range (pa_cons pE pa_nil)) (blkOk_by (N := n_law) (sc := defScope s_law) (by decide +kernel)) (fun _ _ _ _ _ => pg_name sc_law.nd rfl (.inl rfl))
    (lc_R (n := max 2 (min ns.length 4)) (fun m => [some (.scr ns), some (.int (m : Nat))]) (DE.eq (de_max2 rfl rfl G.max de_int (de_min2 rfl rfl G.min (de_len rfl G.len (de_v 0 rfl (.inr (.inl rfl)) rfl) (.inr (.inr ⟨_, rfl, rfl⟩))) de_int)) (congrArg D.int ?_)) hn (fun v hv => ?_) (fun m hm => ⟨gd_name (.head _), fun s1 H1 C cl fp => ?_⟩))) ?_) hP
  · repeat' split
    all_goals omega
  · cases hv with
    | head => rfl
    | tail _ h => cases h
  · exact de_right F1 gm1 kp1 b1 (ok__law_right G T) hr gd rfl rfl (de_v 0 rfl (.inr (.inl rfl)) rfl) (de_v 1 rfl (.inl rfl) rfl) hl (by omega)
  · rw [List.all_eq_true]
    intro b hb
    exact (List.mem_replicate.mp hb).2
end
end Ir
/-! ## IronHd -/
namespace IronHd
open PySem.Spec PySem L2 PyProof.Rows
abbrev prg : Program := PySem.Challenge.pw_ironships_k61_whole_heel_rates_and_right
def topS (i : Nat) : Stmt := prg.main.body.getD i (.Pass ⟨0, 0, 0, 0⟩)
abbrev s_is_whole : Stmt := topS 7
abbrev s_are_wholes : Stmt := topS 8
abbrev s_divisor_of : Stmt := topS 9
abbrev s_is_reduced : Stmt := topS 10
abbrev s_is_ratio : Stmt := topS 14
abbrev s_ratio : Stmt := topS 15
abbrev s_ratio_sum : Stmt := topS 16
abbrev s_ratio_less : Stmt := topS 17
abbrev s_ratio_product : Stmt := topS 18
abbrev s_ratio_over : Stmt := topS 19
abbrev s_ratio_back : Stmt := topS 20
abbrev s_square_length : Stmt := topS 22
abbrev s_is_pair : Stmt := topS 24
abbrev s_is_unit : Stmt := topS 25
abbrev s_are_ratios : Stmt := topS 30
abbrev s_is_rows : Stmt := topS 31
abbrev s_strength_by : Stmt := topS 32
abbrev s_is_ironed : Stmt := topS 33
abbrev s_is_port : Stmt := topS 34
abbrev s_check_heading : Stmt := topS 36
abbrev s_check_iron : Stmt := topS 37
abbrev s_check_place : Stmt := topS 38
abbrev s_wave_sum : Stmt := topS 41
abbrev s_sum_of_products : Stmt := topS 44
abbrev s_ship_field : Stmt := topS 45
abbrev s_level_waves : Stmt := topS 46
abbrev s_waves_of_heel : Stmt := topS 47
abbrev s_upright_parts : Stmt := topS 48
abbrev s_rate_of : Stmt := topS 49
abbrev s_magnet_of : Stmt := topS 50
abbrev s_check_ship : Stmt := topS 52
abbrev s_heel_rate : Stmt := topS 53
abbrev s_righting_magnet : Stmt := topS 54
abbrev s__law_store : Stmt := topS 56
abbrev s__law_take : Stmt := topS 57
abbrev s__law_of : Stmt := topS 58
abbrev s__law_frac : Stmt := topS 59
abbrev s__law_add : Stmt := topS 60
abbrev s__law_sub : Stmt := topS 61
abbrev s__law_mul : Stmt := topS 62
abbrev s__law_div : Stmt := topS 63
abbrev s__law_total : Stmt := topS 64
abbrev s__law_rows_sum : Stmt := topS 65
abbrev s__law_scaled : Stmt := topS 66
abbrev s__law_low : Stmt := topS 67
abbrev s__law_part : Stmt := topS 68
abbrev s__law_heading_of : Stmt := topS 69
abbrev s__law_half : Stmt := topS 70
abbrev s__law_heading : Stmt := topS 71
abbrev s__law_worth : Stmt := topS 72
abbrev s__law_iron : Stmt := topS 73
abbrev s__law_site : Stmt := topS 74
abbrev s__law_leaned : Stmt := topS 75
abbrev s__law_field : Stmt := topS 76
abbrev s__law_lean_parts : Stmt := topS 77
abbrev s__law_lean_waves : Stmt := topS 78
abbrev s__law_is_whole : Stmt := topS 79
abbrev s__law_is_frac : Stmt := topS 80
abbrev s__law_rate : Stmt := topS 81
abbrev s__law_with : Stmt := topS 82
abbrev s__law_right : Stmt := topS 83
abbrev s_law : Stmt := topS 84
def mkD (x : Str) (st : Stmt) : He.DefD := ⟨(x, none), x, x, defArgs st, defBody st, defScope st, [], []⟩
def fn0 : List He.DefD := [mkD "is_whole" s_is_whole, mkD "are_wholes" s_are_wholes, mkD "divisor_of" s_divisor_of, mkD "is_reduced" s_is_reduced, mkD "is_ratio" s_is_ratio, mkD "ratio" s_ratio, mkD "ratio_sum" s_ratio_sum, mkD "ratio_less" s_ratio_less, mkD "ratio_product" s_ratio_product, mkD "ratio_over" s_ratio_over, mkD "ratio_back" s_ratio_back, mkD "square_length" s_square_length, mkD "is_pair" s_is_pair, mkD "is_unit" s_is_unit, mkD "are_ratios" s_are_ratios, mkD "is_rows" s_is_rows, mkD "strength_by" s_strength_by, mkD "is_ironed" s_is_ironed, mkD "is_port" s_is_port, mkD "check_heading" s_check_heading]
def fn1 : List He.DefD := [mkD "check_iron" s_check_iron, mkD "check_place" s_check_place, mkD "wave_sum" s_wave_sum, mkD "sum_of_products" s_sum_of_products, mkD "ship_field" s_ship_field, mkD "level_waves" s_level_waves, mkD "waves_of_heel" s_waves_of_heel, mkD "upright_parts" s_upright_parts, mkD "rate_of" s_rate_of, mkD "magnet_of" s_magnet_of, mkD "check_ship" s_check_ship, mkD "heel_rate" s_heel_rate, mkD "righting_magnet" s_righting_magnet, mkD "_law_store" s__law_store, mkD "_law_take" s__law_take, mkD "_law_of" s__law_of, mkD "_law_frac" s__law_frac, mkD "_law_add" s__law_add, mkD "_law_sub" s__law_sub, mkD "_law_mul" s__law_mul]
def fn2 : List He.DefD := [mkD "_law_div" s__law_div, mkD "_law_total" s__law_total, mkD "_law_rows_sum" s__law_rows_sum, mkD "_law_scaled" s__law_scaled, mkD "_law_low" s__law_low, mkD "_law_part" s__law_part, mkD "_law_heading_of" s__law_heading_of, mkD "_law_half" s__law_half, mkD "_law_heading" s__law_heading, mkD "_law_worth" s__law_worth, mkD "_law_iron" s__law_iron, mkD "_law_site" s__law_site, mkD "_law_leaned" s__law_leaned, mkD "_law_field" s__law_field, mkD "_law_lean_parts" s__law_lean_parts, mkD "_law_lean_waves" s__law_lean_waves, mkD "_law_is_whole" s__law_is_whole, mkD "_law_is_frac" s__law_is_frac, mkD "_law_rate" s__law_rate, mkD "_law_with" s__law_with]
def fn3 : List He.DefD := [mkD "_law_right" s__law_right, mkD "law" s_law]
def fn : List He.DefD := fn0 ++ (fn1 ++ (fn2 ++ (fn3)))
def fa0 : List He.Fa := [.glo "is_whole", .glo "are_wholes", .glo "divisor_of", .glo "is_reduced", .glo "is_ratio", .glo "ratio", .glo "ratio_sum", .glo "ratio_less", .glo "ratio_product", .glo "ratio_over", .glo "ratio_back", .glo "square_length", .glo "is_pair", .glo "is_unit", .glo "are_ratios", .glo "is_rows", .glo "strength_by", .glo "is_ironed", .glo "is_port", .glo "check_heading", .glo "check_iron", .glo "check_place", .glo "wave_sum", .glo "sum_of_products", .glo "ship_field"]
def fa1 : List He.Fa := [.glo "level_waves", .glo "waves_of_heel", .glo "upright_parts", .glo "rate_of", .glo "magnet_of", .glo "check_ship", .glo "heel_rate", .glo "righting_magnet", .glo "_law_store", .glo "_law_take", .glo "_law_of", .glo "_law_frac", .glo "_law_add", .glo "_law_sub", .glo "_law_mul", .glo "_law_div", .glo "_law_total", .glo "_law_rows_sum", .glo "_law_scaled", .glo "_law_low", .glo "_law_part", .glo "_law_heading_of", .glo "_law_half", .glo "_law_heading", .glo "_law_worth"]
def fa2 : List He.Fa := [.glo "_law_iron", .glo "_law_site", .glo "_law_leaned", .glo "_law_field", .glo "_law_lean_parts", .glo "_law_lean_waves", .glo "_law_is_whole", .glo "_law_is_frac", .glo "_law_rate", .glo "_law_with", .glo "_law_right", .glo "law", .glo "ZERO", .glo "ONE", .glo "HALF_ironwork", .glo "HALF_heelwork", .glo "NOUGHT", .free "isinstance", .free "int", .free "bool", .free "tuple", .free "len", .free "all", .free "zip", .free "abs"]
def fa3 : List He.Fa := [.free "sum", .free "max", .free "min", .free "range", .free "repr", .free "divmod", .int "MANY_ROWS" 3, .int "MANY_NUMBERS" 4]
def fa : List He.Fa := fa0 ++ (fa1 ++ (fa2 ++ (fa3)))
def ex (K : PySem.W.Frag) : Bool := He.eqO (PySem.W.nsIn K mainGlobals "gcd") (some (some (.builtin "math.gcd"))) && (He.tupB K "ZERO" [.int 0, .int 1] && (He.tupB K "ONE" [.int 1, .int 1] && (He.tupB K "HALF_ironwork" [.int 1, .int 2] &&
  (He.tupB K "HALF_heelwork" [.int 1, .int 2] && He.tupB K "NOUGHT" [.glo "ZERO", .glo "ZERO", .glo "ZERO", .glo "ZERO", .glo "ZERO"]))))
abbrev R : PySem.W.OpenRow := PySem.W.OpenLaw.row PySem.Challenge.rw_ironships_k61_whole_heel_rates_and_right
abbrev hk : PySem.W.Hook := He.hookX 4 fa fn [] [] ex
def ob (s : PySem.W.SharedT) : He.AlX := He.obsX 4 fa fn [] [] ex (HandSHeadRun.getT s)
theorem ob_eq (s : PySem.W.SharedT) : ob s = hk.obs s.abs := He.obsX_eq (HandSHeadRun.getT_eq s)
def lo0 : List Str := ["CompassError", "InvalidHeading", "InvalidIron", "InvalidPlace", "is_whole", "are_wholes", "divisor_of", "is_reduced", "ZERO", "ONE", "is_ratio", "ratio", "ratio_sum", "ratio_less", "ratio_product", "ratio_over", "ratio_back", "square_length", "is_pair", "is_unit", "HALF_ironwork", "MANY_ROWS", "MANY_NUMBERS", "are_ratios", "is_rows", "strength_by", "is_ironed", "is_port", "check_heading", "check_iron"]
def lo1 : List Str := ["check_place", "NOUGHT", "wave_sum", "HALF_heelwork", "sum_of_products", "ship_field", "level_waves", "waves_of_heel", "upright_parts", "rate_of", "magnet_of", "check_ship", "heel_rate", "righting_magnet", "_law_store", "_law_take", "_law_of", "_law_frac", "_law_add", "_law_sub", "_law_mul", "_law_div", "_law_total", "_law_rows_sum", "_law_scaled", "_law_low", "_law_part", "_law_heading_of", "_law_half", "_law_heading"]
def lo2 : List Str := ["_law_worth", "_law_iron", "_law_site", "_law_leaned", "_law_field", "_law_lean_parts", "_law_lean_waves", "_law_is_whole", "_law_is_frac", "_law_rate", "_law_with", "_law_right"]
abbrev loose : List Str := lo0 ++ (lo1 ++ (lo2))
theorem run (w : World) : HandSHeadRun.RunEqI R (PySem.W.view R.prog [0, 84]) hk ob 6000 loose w := by
  unfold HandSHeadRun.RunEqI
  kernel_rfl
end IronHd
/-! ## IrEnd -/
namespace Ir
open PySem.Spec PySem L2 PyProof.Rows
section
variable {K : PySem.W.Frag} {w : World} {h : Heap} {mg : Str → Option Value} (X : K.In h) (N : h.Ns mainGlobals mg) (c : He.SaysX IronHd.fa IronHd.fn [] [] IronHd.ex w h K)
include X N c
theorem glo_of (i : Nat) {x : Str} (e : IronHd.fa[i]? = some (.glo x) := by rfl) : mg x = some (.ref (He.ga K x)) := He.glo_ok X N (c.t.d.fact i e)
theorem free_of (i : Nat) {x : Str} (e : IronHd.fa[i]? = some (.free x) := by rfl) : mg x = none := He.free_ok X N (c.t.d.fact i e)
theorem def_of (i j : Nat) {x : Str} {st : Stmt} (e : IronHd.fn[i]? = some (IronHd.mkD x st) := by rfl) (e2 : IronHd.fa[j]? = some (.glo x) := by rfl) : Df K mg x st := by
  obtain ⟨fd, F⟩ := c.t.d.def_ i e
  exact ⟨He.ga K x, fd, F, glo_of X N c j e2⟩
theorem frac_of (i : Nat) {x : Str} {q : Rat} {a b : Int} (ht : He.tupB K x [.int a, .int b] = true) (hq : q.num = a ∧ (q.den : Int) = b) (e : IronHd.fa[i]? = some (.glo x) := by rfl) : Gd K mg x (fr q) := by
  refine ⟨.ref (He.ga K x), .ref (He.ga K x), glo_of X N c i e, rfl, fun M H => ?_⟩
  unfold fr
  rw [hq.1, hq.2]
  exact rTup (He.tupB_ok ht H) (Reps.cons (rInt a) (Reps.one (rInt b)))
theorem facts_ex : He.eqO (PySem.W.nsIn K mainGlobals "gcd") (some (some (.builtin "math.gcd"))) = true ∧ He.tupB K "ZERO" [.int 0, .int 1] = true ∧ He.tupB K "ONE" [.int 1, .int 1] = true ∧ He.tupB K "HALF_ironwork" [.int 1, .int 2] = true ∧ He.tupB K "HALF_heelwork" [.int 1, .int 2] = true ∧ He.tupB K "NOUGHT" [.glo "ZERO", .glo "ZERO", .glo "ZERO", .glo "ZERO", .glo "ZERO"] = true := by
  have m := c.more
  unfold IronHd.ex at m
  simp only [Bool.and_eq_true] at m
  exact m
theorem int_of (i : Nat) {x : Str} {n : Int} (e : IronHd.fa[i]? = some (.int x n) := by rfl) : Gd K mg x (.int n) := by
  obtain ⟨t, ht⟩ := He.int_ok X N (c.t.d.fact i e)
  exact ⟨.int n, .int n t, ht, ⟨t, rfl⟩, fun M H => rInt n⟩
theorem gs_of : Gs K mg := by
  obtain ⟨m1, m2, m3, m4, m5, m6⟩ := facts_ex X N c
  exact {
    isinstance := free_of X N c 67
    int := free_of X N c 68
    bool := free_of X N c 69
    tuple := free_of X N c 70
    len := free_of X N c 71
    all := free_of X N c 72
    zip := free_of X N c 73
    abs := free_of X N c 74
    sum := free_of X N c 75
    max := free_of X N c 76
    min := free_of X N c 77
    range := free_of X N c 78
    repr := free_of X N c 79
    divmod := free_of X N c 80
    gcd := PySem.W.mg_of X N (He.eqO_ok m1)
    zero := frac_of X N c 62 m2 (by decide +kernel)
    one := frac_of X N c 63 m3 (by decide +kernel)
    half1 := frac_of X N c 64 m4 (by decide +kernel)
    half2 := frac_of X N c 65 m5 (by decide +kernel)
    nought := by
      obtain ⟨v, u, _, _, z⟩ := frac_of (q := 0) X N c 62 m2 (by decide +kernel)
      have z2 : ∀ (M : List Addr) (H : Hp), Rep K M H (fr 0) (.ref (He.ga K "ZERO")) := fun M H => by
        show Rep K M H (.tup [.int 0, .int 1]) _
        exact rTup (He.tupB_ok m2 H) (Reps.cons (rInt 0) (Reps.one (rInt 1)))
      exact ⟨.ref (He.ga K "NOUGHT"), .ref (He.ga K "NOUGHT"), glo_of X N c 66, rfl, fun M H => rTup (He.tupB_ok m6 H) (Reps.cons (z2 M H) (Reps.cons (z2 M H) (Reps.cons (z2 M H) (Reps.cons (z2 M H) (Reps.one (z2 M H))))))⟩
    rows := int_of X N c 81
    numbers := int_of X N c 82 }
theorem ds_of : Ds K mg := {
  d_is_whole := def_of X N c 0 0
  d_are_wholes := def_of X N c 1 1
  d_divisor_of := def_of X N c 2 2
  d_is_reduced := def_of X N c 3 3
  d_is_ratio := def_of X N c 4 4
  d_ratio := def_of X N c 5 5
  d_ratio_sum := def_of X N c 6 6
  d_ratio_less := def_of X N c 7 7
  d_ratio_product := def_of X N c 8 8
  d_ratio_over := def_of X N c 9 9
  d_ratio_back := def_of X N c 10 10
  d_square_length := def_of X N c 11 11
  d_is_pair := def_of X N c 12 12
  d_is_unit := def_of X N c 13 13
  d_are_ratios := def_of X N c 14 14
  d_is_rows := def_of X N c 15 15
  d_strength_by := def_of X N c 16 16
  d_is_ironed := def_of X N c 17 17
  d_is_port := def_of X N c 18 18
  d_check_heading := def_of X N c 19 19
  d_check_iron := def_of X N c 20 20
  d_check_place := def_of X N c 21 21
  d_wave_sum := def_of X N c 22 22
  d_sum_of_products := def_of X N c 23 23
  d_ship_field := def_of X N c 24 24
  d_level_waves := def_of X N c 25 25
  d_waves_of_heel := def_of X N c 26 26
  d_upright_parts := def_of X N c 27 27
  d_rate_of := def_of X N c 28 28
  d_magnet_of := def_of X N c 29 29
  d_check_ship := def_of X N c 30 30
  d_heel_rate := def_of X N c 31 31
  d_righting_magnet := def_of X N c 32 32
  d__law_store := def_of X N c 33 33
  d__law_take := def_of X N c 34 34
  d__law_of := def_of X N c 35 35
  d__law_frac := def_of X N c 36 36
  d__law_add := def_of X N c 37 37
  d__law_sub := def_of X N c 38 38
  d__law_mul := def_of X N c 39 39
  d__law_div := def_of X N c 40 40
  d__law_total := def_of X N c 41 41
  d__law_rows_sum := def_of X N c 42 42
  d__law_scaled := def_of X N c 43 43
  d__law_low := def_of X N c 44 44
  d__law_part := def_of X N c 45 45
  d__law_heading_of := def_of X N c 46 46
  d__law_half := def_of X N c 47 47
  d__law_heading := def_of X N c 48 48
  d__law_worth := def_of X N c 49 49
  d__law_iron := def_of X N c 50 50
  d__law_site := def_of X N c 51 51
  d__law_leaned := def_of X N c 52 52
  d__law_field := def_of X N c 53 53
  d__law_lean_parts := def_of X N c 54 54
  d__law_lean_waves := def_of X N c 55 55
  d__law_is_whole := def_of X N c 56 56
  d__law_is_frac := def_of X N c 57 57
  d__law_rate := def_of X N c 58 58
  d__law_with := def_of X N c 59 59
  d__law_right := def_of X N c 60 60
  d_law := def_of X N c 61 61
 }
end
def spL (K : PySem.W.Frag) : Sp := fun vs H Q _ => ∃ (a : Addr) (ns : List Int), vs = [.ref a] ∧ SqL K H a (ns.map V.int) ∧ ns.length ≤ 63 ∧ ∀ H', Q (.bl true) H'
theorem ok_law {P : Program} {w : World} {K : PySem.W.Frag} {mg : Str → Option Value} {base : Heap} {f : Addr} {fd : FuncData} (G : Gs K mg) (T : Ds K mg) (F : FunD K "law" "law" (defArgs s_law) (defBody s_law) (defScope s_law) [] [] f fd) : FnG P w K mg base 11 f fd ["_law_script"] (spL K) := by
  refine okG F sc_law (fun vs H Q E h => ?_) (fun cdv A outer s H vs Q E hr gd h => ?_)
  · obtain ⟨a, ns, e, _⟩ := h
    rw [e]
    rfl
  · obtain ⟨a, ns, rfl, sq, hl, hQ⟩ := h
    have ok : Ok [] H := fun q hq => by cases hq
    refine ⟨_, PSs.nox pS, ?_⟩
    refine law_body (Pd := fun d => d = .bl true) G T hr gd hl rfl _ H { nx := fun _ H' => Q .non H', rt := Q } (Good.refl ok) ok (env_start (Reps.one (rScr (fun m => by cases m) sq))) (fun δ' σ' H' n g _ _ => n.elim) (fun d v H' hd g r' => ?_)
    subst hd
    rw [r'.bl]
    exact hQ H'
theorem law_bind (kV doc pm : Value) (an : Option Addr) (cdv ct : Value) (us : List Value) (hl : us.length = 1) : bindArgs (PySem.W.fnOf "law" "law" (defArgs s_law) (defBody s_law) (defScope s_law) .none kV doc pm an cdv ct) ⟨us, []⟩ = pure ((["_law_script"] : List Str).zip us) := match us, hl with | [_], _ => rfl
end Ir
open PySem.Calls PySem.W PySem PyProof.Rows
theorem PySem.Challenge.cw_ironships_k61_whole_heel_rates_and_right_holds : PySem.Challenge.rw_ironships_k61_whole_heel_rates_and_right.Holds := by
  w_on; o_law
  refine HandSHeadRun.head_imp (r := OpenLaw.row PySem.Challenge.rw_ironships_k61_whole_heel_rates_and_right) (q := view (OpenLaw.row PySem.Challenge.rw_ironships_k61_whole_heel_rates_and_right).prog [0, 84]) (H := IronHd.hk) (ob := IronHd.ob) (M := 6000) (loose := IronHd.loose) (d := HandSHeadRun.topDef (OpenLaw.row PySem.Challenge.rw_ironships_k61_whole_heel_rates_and_right).prog 84) (kwd := []) IronHd.ob_eq
    IronHd.run (by kernel_rfl) (by kernel_rfl) (by kernel_rfl) (by rfl) (by first | assumption | decide +kernel) (by decide +kernel) ⟨rfl, rfl, rfl, rfl, rfl, by decide +kernel⟩ ?hw ?hc
  case hw => w_witness2
  case hc =>
    refine Att.attach_call (n := 63) rfl (by kernel_rfl) fun w s0 t mg mb fa o pm cd doc a vs ns B Y ho hd hcd hmg hobj whl short noG => ?_
    obtain ⟨K, inK, c⟩ := Y
    have hlaw : mg ("law" : PySem.Str) = some (.ref fa) := by
      have e : (HandSHeadRun.topDef (OpenLaw.row PySem.Challenge.rw_ironships_k61_whole_heel_rates_and_right).prog 84).name = ("law" : PySem.Str) := by kernel_rfl
      rw [← e]
      exact hmg
    have G := Ir.gs_of inK B.T.g c
    have T := Ir.ds_of inK B.T.g c
    obtain ⟨f, fd, F, gf⟩ := T.d_law
    have same := hlaw.symm.trans gf
    cases same
    exact Ir.end_call inK B.T.g B.T.b B.T.builtins B.T.nolimit noG hobj whl (Nat.le_trans short (by decide)) ⟨rfl, by decide, by decide⟩ (fun base _ _ => Ir.ok_law G T F) (fun s u => L2.FunD.bindsA (ps := ["_law_script"]) F Ir.law_bind s [u] rfl) (fun H on sq => ⟨a, ns, rfl, sq, short, fun _ => rfl⟩)
