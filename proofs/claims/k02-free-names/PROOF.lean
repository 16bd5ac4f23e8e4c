import PyProof.Rows.All
import Wide.All
import OpenK.AllK
import Wide.FinOn
import HandS.ForMost
import HandS.IsInst
import HandS.Defaults
import HandS.TupAny
import HandS.Deep
import HandS.Style
import HandS.More
import PySem.Challenge.RW_frostkinds_k02_free_names
set_option Elab.async false
set_option linter.all false
set_option maxRecDepth 100000
set_option maxHeartbeats 4000000
/-! Fro: pure data, a store of mutable lists, denotations, and their soundness over the hand layer. -/
namespace Fro
open PySem PySem.Spec L2

/-! ### data -/
abbrev Tx := List Nat
def sx (t : Tx) : Str := ⟨t.toArray⟩
theorem sx_inj {a b : Tx} (h : sx a = sx b) : a = b := by
  have q := congrArg (fun s : Str => s.cps.toList) h
  simpa [sx] using q

inductive Ty where
  | str | tup | lst | dct | int | bl
def Ty.nm : Ty → String
  | .str => "str" | .tup => "tuple" | .lst => "list" | .dct => "dict" | .int => "int" | .bl => "bool"
inductive D where
  | non | bl (b : Bool) | int (i : Int) | str (t : Tx) | tup (ds : List D) | lst (ds : List D) | dct (es : List (Tx × D)) | ty (n : Ty)
inductive Ob where
  | lst (ds : List D) | dct (es : List (Tx × D)) | dead
abbrev Sto := List Ob
inductive W where
  | v (d : D) | r (i : Nat) | s (ns : List Int)
inductive R (α : Type) where
  | ok (a : α) (S : Sto) | exc (c : Nat) (ds : List D) (S : Sto) | bad
def R.bind {α β : Type} (x : R α) (f : α → Sto → R β) : R β :=
  match x with
  | .ok a S => f a S
  | .exc c ds S => .exc c ds S
  | .bad => .bad
@[simp] theorem R.bind_ok {α β : Type} (a : α) (S : Sto) (f : α → Sto → R β) : (R.ok a S).bind f = f a S := rfl
@[simp] theorem R.bind_exc {α β : Type} (c : Nat) (ds : List D) (S : Sto) (f : α → Sto → R β) : (R.exc c ds S).bind f = R.exc c ds S := rfl
@[simp] theorem R.bind_bad {α β : Type} (f : α → Sto → R β) : (R.bad).bind f = R.bad := rfl

/-! ### what stands for what -/
mutual
inductive Rp (K : PySem.W.Frag) (H : Hp) (M : Addr → Prop) : D → V → Prop
  | non : Rp K H M .non .non
  | bl (b : Bool) : Rp K H M (.bl b) (.bl b)
  | int (i : Int) : Rp K H M (.int i) (.int i)
  | str (t : Tx) : Rp K H M (.str t) (.str (sx t))
  | ty (n : Ty) : Rp K H M (.ty n) (.ty n.nm)
  | tup {a : Addr} {xs : List V} {ds : List D} : SqT K H a xs → RpL K H M ds xs → Rp K H M (.tup ds) (.ref a)
  | lst {a : Addr} {xs : List V} {ds : List D} : H a = some (.lst xs) → ¬ M a → RpL K H M ds xs → Rp K H M (.lst ds) (.ref a)
  | dct {a : Addr} {kvs : List (Key × V)} {es : List (Tx × D)} : H a = some (.dK kvs) → ¬ M a → RpE K H M es kvs → Rp K H M (.dct es) (.ref a)
inductive RpL (K : PySem.W.Frag) (H : Hp) (M : Addr → Prop) : List D → List V → Prop
  | nil : RpL K H M [] []
  | cons {d : D} {ds : List D} {v : V} {vs : List V} : Rp K H M d v → RpL K H M ds vs → RpL K H M (d :: ds) (v :: vs)
inductive RpE (K : PySem.W.Frag) (H : Hp) (M : Addr → Prop) : List (Tx × D) → List (Key × V) → Prop
  | nil : RpE K H M [] []
  | cons {t : Tx} {d : D} {es : List (Tx × D)} {v : V} {kvs : List (Key × V)} : Rp K H M d v → RpE K H M es kvs → RpE K H M ((t, d) :: es) ((Sum.inr (sx t), v) :: kvs)
end

section
variable {K : PySem.W.Frag} {H H' : Hp} {M M' : Addr → Prop}
theorem sqT_mono {a : Addr} {xs : List V} (ht : ∀ b xs, H b = some (.tup xs) → H' b = some (.tup xs)) (hf : ∀ b o u, H b = some (.frz o u) → H' b = some (.frz o u)) (h : SqT K H a xs) : SqT K H' a xs := by
  rcases h with (h | ⟨o, h⟩) | h
  · exact .inl (.inl (ht _ _ h))
  · exact .inl (.inr ⟨o, hf _ _ _ h⟩)
  · exact .inr h
theorem Rp.mono (hk : ∀ b o, ¬ M b → H b = some o → H' b = some o) (ht : ∀ b xs, H b = some (.tup xs) → H' b = some (.tup xs)) (hf : ∀ b o u, H b = some (.frz o u) → H' b = some (.frz o u))
    (hm : ∀ b, M' b → M b ∨ H b = none) {d : D} {v : V} (h : Rp K H M d v) : Rp K H' M' d v := by
  have nm : ∀ {a : Addr} {o : HO}, H a = some o → ¬ M a → ¬ M' a := fun {a o} e n z => by
    rcases hm a z with q | q
    · exact n q
    · rw [e] at q; cases q
  exact Rp.rec (motive_1 := fun d v _ => Rp K H' M' d v) (motive_2 := fun ds vs _ => RpL K H' M' ds vs) (motive_3 := fun es kvs _ => RpE K H' M' es kvs)
    .non .bl .int .str .ty (fun a _ q => .tup (sqT_mono ht hf a) q) (fun e n _ q => .lst (hk _ _ n e) (nm e n) q) (fun e n _ q => .dct (hk _ _ n e) (nm e n) q)
    .nil (fun _ _ a b => .cons a b) .nil (fun _ _ a b => .cons a b) h
theorem RpL.mono (hk : ∀ b o, ¬ M b → H b = some o → H' b = some o) (ht : ∀ b xs, H b = some (.tup xs) → H' b = some (.tup xs)) (hf : ∀ b o u, H b = some (.frz o u) → H' b = some (.frz o u))
    (hm : ∀ b, M' b → M b ∨ H b = none) : ∀ {ds : List D} {vs : List V}, RpL K H M ds vs → RpL K H' M' ds vs
  | _, _, .nil => .nil
  | _, _, .cons a b => .cons (a.mono hk ht hf hm) (RpL.mono hk ht hf hm b)
theorem RpE.mono (hk : ∀ b o, ¬ M b → H b = some o → H' b = some o) (ht : ∀ b xs, H b = some (.tup xs) → H' b = some (.tup xs)) (hf : ∀ b o u, H b = some (.frz o u) → H' b = some (.frz o u))
    (hm : ∀ b, M' b → M b ∨ H b = none) : ∀ {es : List (Tx × D)} {kvs : List (Key × V)}, RpE K H M es kvs → RpE K H' M' es kvs
  | _, _, .nil => .nil
  | _, _, .cons a b => .cons (a.mono hk ht hf hm) (RpE.mono hk ht hf hm b)
theorem RpL.length : ∀ {ds : List D} {vs : List V}, RpL K H M ds vs → ds.length = vs.length
  | _, _, .nil => rfl
  | _, _, .cons _ b => by rw [List.length_cons, List.length_cons, b.length]
theorem RpL.get : ∀ {ds : List D} {vs : List V} (i : Nat) {d : D}, RpL K H M ds vs → ds[i]? = some d → ∃ v, vs[i]? = some v ∧ Rp K H M d v
  | _, _, _, _, .nil, e => by simp at e
  | _, _, 0, _, .cons a _, e => by simp at e; subst e; exact ⟨_, rfl, a⟩
  | _, _, i + 1, _, .cons _ b, e => by
    obtain ⟨v, h1, h2⟩ := RpL.get i b (by simpa using e)
    exact ⟨v, by simpa using h1, h2⟩
theorem RpL.append : ∀ {ds es : List D} {vs us : List V}, RpL K H M ds vs → RpL K H M es us → RpL K H M (ds ++ es) (vs ++ us)
  | _, _, _, _, .nil, h => h
  | _, _, _, _, .cons a b, h => .cons a (b.append h)
theorem RpL.take : ∀ {ds : List D} {vs : List V} (n : Nat), RpL K H M ds vs → RpL K H M (ds.take n) (vs.take n)
  | _, _, 0, _ => .nil
  | _, _, _ + 1, .nil => .nil
  | _, _, n + 1, .cons a b => .cons a (b.take n)
theorem RpL.drop : ∀ {ds : List D} {vs : List V} (n : Nat), RpL K H M ds vs → RpL K H M (ds.drop n) (vs.drop n)
  | _, _, 0, h => h
  | _, _, _ + 1, .nil => .nil
  | _, _, n + 1, .cons _ b => b.drop n
theorem RpL.reverse : ∀ {ds : List D} {vs : List V}, RpL K H M ds vs → RpL K H M ds.reverse vs.reverse
  | _, _, .nil => .nil
  | _, _, .cons a b => by
    rw [List.reverse_cons, List.reverse_cons]
    exact b.reverse.append (.cons a .nil)
theorem RpL.dropLast {ds : List D} {vs : List V} (h : RpL K H M ds vs) : RpL K H M ds.dropLast vs.dropLast := by
  rw [List.dropLast_eq_take, List.dropLast_eq_take, ← h.length]
  exact h.take _
theorem RpL.set : ∀ {ds : List D} {vs : List V} (i : Nat) {d : D} {v : V}, RpL K H M ds vs → Rp K H M d v → RpL K H M (ds.set i d) (vs.set i v)
  | _, _, _, _, _, .nil, _ => .nil
  | _, _, 0, _, _, .cons _ b, h => .cons h b
  | _, _, i + 1, _, _, .cons a b, h => .cons a (b.set i h)
end

/-! ### the store -/
def alive : Ob → Bool
  | .dead => false
  | _ => true
def live (ρ : List Addr) (S : Sto) : Addr → Prop := fun a => ∃ (i : Nat) (o : Ob), ρ[i]? = some a ∧ S[i]? = some o ∧ alive o = true
def RpO (K : PySem.W.Frag) (H : Hp) (M : Addr → Prop) (a : Addr) : Ob → Prop
  | .lst ds => ∃ xs, H a = some (.lst xs) ∧ RpL K H M ds xs
  | .dct es => ∃ kvs, H a = some (.dK kvs) ∧ RpE K H M es kvs
  | .dead => ∃ o, H a = some o
structure Sok (K : PySem.W.Frag) (ρ : List Addr) (S : Sto) (H : Hp) : Prop where
  len : ρ.length = S.length
  nd : ρ.Nodup
  obs : ∀ (i : Nat) (a : Addr) (o : Ob), ρ[i]? = some a → S[i]? = some o → RpO K H (live ρ S) a o
structure Fwd (ρ : List Addr) (S : Sto) (H : Hp) (ρ' : List Addr) (S' : Sto) (H' : Hp) : Prop where
  ext : ∃ more, ρ' = ρ ++ more
  keep : ∀ b o, ¬ live ρ S b → H b = some o → H' b = some o
  tups : ∀ b xs, H b = some (.tup xs) → H' b = some (.tup xs)
  frzs : ∀ b o u, H b = some (.frz o u) → H' b = some (.frz o u)
  new : ∀ b, live ρ' S' b → live ρ S b ∨ H b = none

section
variable {K : PySem.W.Frag} {ρ ρ1 ρ2 : List Addr} {S S1 S2 : Sto} {H H1 H2 : Hp}
theorem Sok.has (h : Sok K ρ S H) {a : Addr} (l : live ρ S a) : (∃ xs, H a = some (.lst xs)) ∨ ∃ kvs, H a = some (.dK kvs) := by
  obtain ⟨i, o, h1, h2, h3⟩ := l
  have q := h.obs i a o h1 h2
  cases o with
  | lst ds => obtain ⟨xs, e, _⟩ := q; exact .inl ⟨xs, e⟩
  | dct es => obtain ⟨xs, e, _⟩ := q; exact .inr ⟨xs, e⟩
  | dead => cases h3
theorem Sok.notNone (h : Sok K ρ S H) {a : Addr} (n : H a = none) : ¬ live ρ S a := fun l => by
  rcases h.has l with ⟨_, e⟩ | ⟨_, e⟩ <;> (rw [n] at e; cases e)
theorem Fwd.refl : Fwd ρ S H ρ S H := ⟨⟨[], by simp⟩, fun _ _ _ e => e, fun _ _ e => e, fun _ _ _ e => e, fun _ l => .inl l⟩
theorem Fwd.trans (a : Fwd ρ S H ρ1 S1 H1) (b : Fwd ρ1 S1 H1 ρ2 S2 H2) : Fwd ρ S H ρ2 S2 H2 where
  ext := by
    obtain ⟨m1, e1⟩ := a.ext
    obtain ⟨m2, e2⟩ := b.ext
    exact ⟨m1 ++ m2, by rw [e2, e1, List.append_assoc]⟩
  keep := fun c o n e => b.keep c o (fun l => by
    rcases a.new c l with q | q
    · exact n q
    · rw [e] at q; cases q) (a.keep c o n e)
  tups := fun c xs e => b.tups c xs (a.tups c xs e)
  frzs := fun c o u e => b.frzs c o u (a.frzs c o u e)
  new := fun c l => by
    rcases b.new c l with q | q
    · exact a.new c q
    · by_cases lv : live ρ S c
      · exact .inl lv
      · cases e : H c with
        | none => exact .inr rfl
        | some o => rw [a.keep c o lv e] at q; cases q
theorem Fwd.rp (f : Fwd ρ S H ρ1 S1 H1) {d : D} {v : V} (h : Rp K H (live ρ S) d v) : Rp K H1 (live ρ1 S1) d v := h.mono f.keep f.tups f.frzs f.new
theorem Fwd.rpL (f : Fwd ρ S H ρ1 S1 H1) {d : List D} {v : List V} (h : RpL K H (live ρ S) d v) : RpL K H1 (live ρ1 S1) d v := h.mono f.keep f.tups f.frzs f.new
theorem Fwd.rpE (f : Fwd ρ S H ρ1 S1 H1) {d : List (Tx × D)} {v : List (Key × V)} (h : RpE K H (live ρ S) d v) : RpE K H1 (live ρ1 S1) d v := h.mono f.keep f.tups f.frzs f.new
theorem Fwd.at (f : Fwd ρ S H ρ1 S1 H1) {i : Nat} {a : Addr} (e : ρ[i]? = some a) : ρ1[i]? = some a := by
  obtain ⟨m, rfl⟩ := f.ext
  have : i < ρ.length := by
    rcases Nat.lt_or_ge i ρ.length with h | h
    · exact h
    · rw [List.getElem?_eq_none h] at e; cases e
  rw [List.getElem?_append_left this]; exact e
end

/-- the script's list -/
def Scr (K : PySem.W.Frag) (H : Hp) (M : Addr → Prop) (a : Addr) (ns : List Int) : Prop :=
  (H a = some (.lst (ns.map V.int)) ∧ ¬ M a) ∨ (∃ o, H a = some (.frz o (.lst (ns.map V.int)))) ∨ SqL K (fun _ => none) a (ns.map V.int)
theorem Scr.sq {K : PySem.W.Frag} {H : Hp} {M : Addr → Prop} {a : Addr} {ns : List Int} (h : Scr K H M a ns) : SqL K H a (ns.map V.int) := by
  rcases h with ⟨h, _⟩ | ⟨o, h⟩ | h
  · exact .inl (.inl h)
  · exact .inl (.inr ⟨o, h⟩)
  · rcases h with (h | ⟨o, h⟩) | h
    · cases h
    · cases h
    · exact .inr h
theorem Scr.of {K : PySem.W.Frag} {H : Hp} {M : Addr → Prop} {a : Addr} {ns : List Int} (h : SqL K H a (ns.map V.int)) (n : ¬ M a) : Scr K H M a ns := by
  rcases h with (h | ⟨o, h⟩) | h
  · exact .inl ⟨h, n⟩
  · exact .inr (.inl ⟨o, h⟩)
  · exact .inr (.inr (.inr h))
def RpW (K : PySem.W.Frag) (ρ : List Addr) (S : Sto) (H : Hp) : W → V → Prop
  | .v d, x => Rp K H (live ρ S) d x
  | .r i, x => ∃ a, x = .ref a ∧ ρ[i]? = some a
  | .s ns, x => ∃ a, x = .ref a ∧ Scr K H (live ρ S) a ns
inductive RpWs (K : PySem.W.Frag) (ρ : List Addr) (S : Sto) (H : Hp) : List W → List V → Prop
  | nil : RpWs K ρ S H [] []
  | cons {w : W} {ws : List W} {v : V} {vs : List V} : RpW K ρ S H w v → RpWs K ρ S H ws vs → RpWs K ρ S H (w :: ws) (v :: vs)
def RpSt (K : PySem.W.Frag) (ρ : List Addr) (S : Sto) (H : Hp) (δ : List (Option W)) (σ : St) : Prop :=
  δ.length = σ.length ∧ ∀ (i : Nat) (w : W), δ[i]? = some (some w) → ∃ v, σ[i]? = some (some v) ∧ RpW K ρ S H w v
section
variable {K : PySem.W.Frag} {ρ ρ1 : List Addr} {S S1 : Sto} {H H1 : Hp}
theorem Fwd.rw (f : Fwd ρ S H ρ1 S1 H1) {w : W} {v : V} (h : RpW K ρ S H w v) : RpW K ρ1 S1 H1 w v := by
  cases w with
  | v d => exact f.rp h
  | r i => obtain ⟨a, e, q⟩ := h; exact ⟨a, e, f.at q⟩
  | s ns =>
    obtain ⟨a, e, q⟩ := h
    refine ⟨a, e, ?_⟩
    rcases q with ⟨q, n⟩ | ⟨o, q⟩ | q
    · refine .inl ⟨f.keep _ _ n q, fun l => ?_⟩
      rcases f.new _ l with z | z
      · exact n z
      · rw [q] at z; cases z
    · exact .inr (.inl ⟨o, f.frzs _ _ _ q⟩)
    · exact .inr (.inr q)
theorem Fwd.rws (f : Fwd ρ S H ρ1 S1 H1) : ∀ {ws : List W} {vs : List V}, RpWs K ρ S H ws vs → RpWs K ρ1 S1 H1 ws vs
  | _, _, .nil => .nil
  | _, _, .cons a b => .cons (f.rw a) (f.rws b)
theorem Fwd.st (f : Fwd ρ S H ρ1 S1 H1) {δ : List (Option W)} {σ : St} (h : RpSt K ρ S H δ σ) : RpSt K ρ1 S1 H1 δ σ :=
  ⟨h.1, fun i w e => let ⟨v, h1, h2⟩ := h.2 i w e; ⟨v, h1, f.rw h2⟩⟩
theorem RpWs.length : ∀ {ws : List W} {vs : List V}, RpWs K ρ S H ws vs → ws.length = vs.length
  | _, _, .nil => rfl
  | _, _, .cons _ b => by rw [List.length_cons, List.length_cons, b.length]
theorem RpWs.append : ∀ {ws ws' : List W} {vs vs' : List V}, RpWs K ρ S H ws vs → RpWs K ρ S H ws' vs' → RpWs K ρ S H (ws ++ ws') (vs ++ vs')
  | _, _, _, _, .nil, h => h
  | _, _, _, _, .cons a b, h => .cons a (b.append h)
/-- a slot is set -/
theorem RpSt.set {δ : List (Option W)} {σ : St} (h : RpSt K ρ S H δ σ) (i : Nat) {w : W} {v : V} (q : RpW K ρ S H w v) : RpSt K ρ S H (δ.set i (some w)) (σ.set i (some v)) := by
  refine ⟨by rw [List.length_set, List.length_set]; exact h.1, fun j u e => ?_⟩
  by_cases hj : i = j
  · subst hj
    by_cases hl : i < δ.length
    · rw [List.getElem?_set_self hl] at e
      cases e
      exact ⟨v, List.getElem?_set_self (by rw [← h.1]; exact hl), q⟩
    · rw [List.getElem?_eq_none (by rw [List.length_set]; omega)] at e
      cases e
  · rw [List.getElem?_set_ne hj] at e ⊢
    exact h.2 j u e
end

theorem ndx {α : Type} {l : List α} (h : l.Nodup) {i j : Nat} {x : α} (a : l[i]? = some x) (b : l[j]? = some x) : i = j :=
  let ⟨_, q1⟩ := List.getElem?_eq_some_iff.mp a
  let ⟨_, q2⟩ := List.getElem?_eq_some_iff.mp b
  (List.getElem_inj h).mp (q1.trans q2.symm)
/-! ### objects laid and changed -/
section
variable {K : PySem.W.Frag} {ρ : List Addr} {S : Sto} {H : Hp} {p : Addr} {o : HO}
/-- a new object that the store does not know -/
theorem Fwd.laid (so : Sok K ρ S H) (hp : H p = none) : Fwd ρ S H ρ S (upd H p o) where
  ext := ⟨[], by simp⟩
  keep := fun b u _ e => by rw [upd_ne (ne_of_none e hp)]; exact e
  tups := fun b u e => by rw [upd_ne (ne_of_none e hp)]; exact e
  frzs := fun b u z e => by rw [upd_ne (ne_of_none e hp)]; exact e
  new := fun b l => .inl l
theorem Sok.deadAt (so : Sok K ρ S H) {i : Nat} {a : Addr} (h1 : ρ[i]? = some a) (h2 : S[i]? = some .dead) : ¬ live ρ S a := fun ⟨j, o, q1, q2, q3⟩ => by
  have e : i = j := ndx so.nd h1 q1
  subst e
  rw [h2] at q2; cases q2; cases q3
theorem Sok.fwd {H1 : Hp} (so : Sok K ρ S H) (f : Fwd ρ S H ρ S H1) (hk : ∀ a, live ρ S a → H1 a = H a) : Sok K ρ S H1 := by
  refine ⟨so.len, so.nd, fun i a o h1 h2 => ?_⟩
  have q := so.obs i a o h1 h2
  cases o with
  | lst ds => obtain ⟨xs, e, r⟩ := q; exact ⟨xs, by rw [hk a ⟨i, _, h1, h2, rfl⟩]; exact e, f.rpL r⟩
  | dct ds => obtain ⟨xs, e, r⟩ := q; exact ⟨xs, by rw [hk a ⟨i, _, h1, h2, rfl⟩]; exact e, f.rpE r⟩
  | dead => obtain ⟨u, e⟩ := q; exact ⟨u, f.keep _ _ (so.deadAt h1 h2) e⟩
theorem Sok.laid (so : Sok K ρ S H) (hp : H p = none) : Sok K ρ S (upd H p o) :=
  so.fwd (Fwd.laid so hp) fun a l => upd_ne fun e => so.notNone hp (e ▸ l)
theorem live_append {ρ' : List Addr} {S' : Sto} (hl : ρ.length = S.length) {b : Addr} (h : live (ρ ++ ρ') (S ++ S') b) : live ρ S b ∨ live ρ' S' b := by
  obtain ⟨i, o, h1, h2, h3⟩ := h
  by_cases hi : i < ρ.length
  · rw [List.getElem?_append_left hi] at h1
    rw [List.getElem?_append_left (by omega)] at h2
    exact .inl ⟨i, o, h1, h2, h3⟩
  · rw [List.getElem?_append_right (by omega)] at h1
    rw [List.getElem?_append_right (by omega)] at h2
    exact .inr ⟨i - ρ.length, o, h1, by rw [hl]; exact h2, h3⟩
theorem live_left {ρ' : List Addr} {S' : Sto} (hl : ρ.length = S.length) {b : Addr} (h : live ρ S b) : live (ρ ++ ρ') (S ++ S') b := by
  obtain ⟨i, o, h1, h2, h3⟩ := h
  have hi : i < ρ.length := by
    rcases Nat.lt_or_ge i ρ.length with z | z
    · exact z
    · rw [List.getElem?_eq_none z] at h1; cases h1
  exact ⟨i, o, by rw [List.getElem?_append_left hi]; exact h1, by rw [List.getElem?_append_left (by omega)]; exact h2, h3⟩
theorem live_one {ob : Ob} {b : Addr} (h : live [p] [ob] b) : b = p := by
  obtain ⟨i, o, h1, _⟩ := h
  cases i with
  | zero => simpa using h1.symm
  | succ i => simp at h1
/-- a new object of the store -/
theorem Fwd.grown (so : Sok K ρ S H) (hp : H p = none) (ob : Ob) : Fwd ρ S H (ρ ++ [p]) (S ++ [ob]) (upd H p o) where
  ext := ⟨[p], rfl⟩
  keep := fun b u _ e => by rw [upd_ne (ne_of_none e hp)]; exact e
  tups := fun b u e => by rw [upd_ne (ne_of_none e hp)]; exact e
  frzs := fun b u z e => by rw [upd_ne (ne_of_none e hp)]; exact e
  new := fun b l => by
    rcases live_append so.len l with q | q
    · exact .inl q
    · rw [live_one q]; exact .inr hp
/-- the addresses of the store have something -/
theorem Sok.notIn (so : Sok K ρ S H) (hp : H p = none) : p ∉ ρ := fun h => by
  obtain ⟨i, hi⟩ := List.getElem?_of_mem h
  have hl : i < S.length := by
    rw [← so.len]
    rcases Nat.lt_or_ge i ρ.length with z | z
    · exact z
    · rw [List.getElem?_eq_none z] at hi; cases hi
  have q := so.obs i p S[i] hi (List.getElem?_eq_getElem hl)
  cases o : S[i] with
  | lst ds => rw [o] at q; obtain ⟨_, e, _⟩ := q; rw [hp] at e; cases e
  | dct ds => rw [o] at q; obtain ⟨_, e, _⟩ := q; rw [hp] at e; cases e
  | dead => rw [o] at q; obtain ⟨_, e⟩ := q; rw [hp] at e; cases e
theorem Sok.grown (so : Sok K ρ S H) (hp : H p = none) (ob : Ob) (hob : RpO K (upd H p o) (live (ρ ++ [p]) (S ++ [ob])) p ob) : Sok K (ρ ++ [p]) (S ++ [ob]) (upd H p o) := by
  have fw : Fwd ρ S H (ρ ++ [p]) (S ++ [ob]) (upd H p o) := Fwd.grown so hp ob
  refine ⟨by rw [List.length_append, List.length_append, so.len]; rfl, ?_, fun i a u h1 h2 => ?_⟩
  · rw [List.nodup_append]
    refine ⟨so.nd, by simp, fun a ha b hb e => ?_⟩
    rw [List.mem_singleton] at hb
    subst hb; subst e
    exact so.notIn hp ha
  · by_cases hi : i < ρ.length
    · rw [List.getElem?_append_left hi] at h1
      rw [List.getElem?_append_left (by rw [← so.len]; exact hi)] at h2
      have q := so.obs i a u h1 h2
      have ne : a ≠ p := fun e => so.notIn hp (e ▸ List.mem_of_getElem? h1)
      cases u with
      | lst ds => obtain ⟨xs, e, r⟩ := q; exact ⟨xs, by rw [upd_ne ne]; exact e, fw.rpL r⟩
      | dct ds => obtain ⟨xs, e, r⟩ := q; exact ⟨xs, by rw [upd_ne ne]; exact e, fw.rpE r⟩
      | dead => obtain ⟨xs, e⟩ := q; exact ⟨xs, by rw [upd_ne ne]; exact e⟩
    · rw [List.getElem?_append_right (by omega)] at h1
      rw [List.getElem?_append_right (by rw [← so.len]; omega)] at h2
      rw [so.len] at h1
      have hz : i - S.length = 0 := by
        cases hz : i - S.length with
        | zero => rfl
        | succ n => rw [hz] at h1; simp at h1
      rw [hz] at h1 h2
      simp at h1 h2
      subst h1; subst h2
      exact hob
/-- an object of the store is changed -/
theorem Fwd.changed (so : Sok K ρ S H) {i : Nat} {a : Addr} {ob ob' : Ob} (h1 : ρ[i]? = some a) (h2 : S[i]? = some ob) (h3 : alive ob = true) : Fwd ρ S H ρ (S.set i ob') (upd H a o) := by
  have lv : live ρ S a := ⟨i, ob, h1, h2, h3⟩
  have nf : ∀ b u, H b = some u → (∀ xs, u ≠ .lst xs) → (∀ kvs, u ≠ .dK kvs) → b ≠ a := fun b u e n1 n2 z => by
    subst z
    rcases so.has lv with ⟨xs, q⟩ | ⟨xs, q⟩
    · rw [e] at q; cases q; exact n1 xs rfl
    · rw [e] at q; cases q; exact n2 xs rfl
  refine ⟨⟨[], by simp⟩, fun b u n e => ?_, fun b xs e => ?_, fun b u z e => ?_, fun b l => ?_⟩
  · have nz : b ≠ a := fun z => n (by rw [z]; exact lv)
    rw [upd_ne nz]; exact e
  · rw [upd_ne (nf b _ e (fun _ z => nomatch z) (fun _ z => nomatch z))]; exact e
  · rw [upd_ne (nf b _ e (fun _ z => nomatch z) (fun _ z => nomatch z))]; exact e
  · obtain ⟨j, u, q1, q2, q3⟩ := l
    by_cases hj : i = j
    · subst hj
      rw [h1] at q1; cases q1
      exact .inl lv
    · rw [List.getElem?_set_ne hj] at q2
      exact .inl ⟨j, u, q1, q2, q3⟩
theorem Sok.changed (so : Sok K ρ S H) {i : Nat} {a : Addr} {ob ob' : Ob} (h1 : ρ[i]? = some a) (h2 : S[i]? = some ob) (h3 : alive ob = true) (hob : RpO K (upd H a o) (live ρ (S.set i ob')) a ob') : Sok K ρ (S.set i ob') (upd H a o) := by
  have fw : Fwd ρ S H ρ (S.set i ob') (upd H a o) := Fwd.changed so h1 h2 h3
  refine ⟨by rw [List.length_set]; exact so.len, so.nd, fun j b u q1 q2 => ?_⟩
  by_cases hj : i = j
  · subst hj
    have hl : i < S.length := by
      rcases Nat.lt_or_ge i S.length with z | z
      · exact z
      · rw [List.getElem?_eq_none z] at h2; cases h2
    rw [List.getElem?_set_self hl] at q2
    rw [h1] at q1
    cases q1; cases q2
    exact hob
  · rw [List.getElem?_set_ne hj] at q2
    have q := so.obs j b u q1 q2
    have ne : b ≠ a := fun e => by
      subst e
      exact hj (ndx so.nd h1 q1)
    cases u with
    | lst ds => obtain ⟨xs, e, r⟩ := q; exact ⟨xs, by rw [upd_ne ne]; exact e, fw.rpL r⟩
    | dct ds => obtain ⟨xs, e, r⟩ := q; exact ⟨xs, by rw [upd_ne ne]; exact e, fw.rpE r⟩
    | dead => obtain ⟨xs, e⟩ := q; exact ⟨xs, by rw [upd_ne ne]; exact e⟩
end
end Fro

namespace Fro
open PySem PySem.Spec L2

/-! ### what is wanted of a result -/
abbrev Slots := List (Option W)
abbrev Den (α : Type) := Slots → Sto → R α
abbrev Rl (α β : Type) := List Addr → Sto → Hp → α → β → Prop
/-- what is wanted of an exception -/
abbrev XP := L2.St → Nat → List D → Sto → List Addr → Hp → Prop
abbrev XP0 : XP := fun _ _ _ _ _ _ => False
def Post {α β : Type} (K : PySem.W.Frag) (rel : Rl α β) (ρ : List Addr) (S : Sto) (H : Hp) (r : R α) (Q : β → Hp → Prop) (E : Nat → List D → Sto → List Addr → Hp → Prop) : Prop :=
  match r with
  | .ok a S' => ∀ (b : β) (ρ' : List Addr) (H' : Hp), Fwd ρ S H ρ' S' H' → Sok K ρ' S' H' → rel ρ' S' H' a b → Q b H'
  | .exc c ds S' => ∀ (ρ' : List Addr) (H' : Hp), Fwd ρ S H ρ' S' H' → Sok K ρ' S' H' → E c ds S' ρ' H'
  | .bad => False
theorem Post.later {α β : Type} {K : PySem.W.Frag} {rel : Rl α β} {ρ ρ1 : List Addr} {S S1 : Sto} {H H1 : Hp} {r : R α} {Q : β → Hp → Prop} {E : Nat → List D → Sto → List Addr → Hp → Prop}
    (f : Fwd ρ S H ρ1 S1 H1) (h : Post K rel ρ S H r Q E) : Post K rel ρ1 S1 H1 r Q E := by
  cases r with
  | ok a S' => exact fun b ρ' H' f' so q => h b ρ' H' (f.trans f') so q
  | exc c ds S' => exact fun ρ' H' f' so => h ρ' H' (f.trans f') so
  | bad => exact h
def tG {α β : Type} (K : PySem.W.Frag) (rel : Rl α β) (E : XP) (den : Den α) : L2.St → Hp → (β → Hp → Prop) → Prop := fun σ H Q =>
  ∃ (δ : Slots) (ρ : List Addr) (S : Sto), RpSt K ρ S H δ σ ∧ Sok K ρ S H ∧ Post K rel ρ S H (den δ S) Q (E σ)
abbrev tE (K : PySem.W.Frag) (E : XP) (den : Den W) : TE := tG K (RpW K) E den
abbrev tT (K : PySem.W.Frag) (E : XP) (den : Den Bool) : TT := tG K (fun _ _ _ a b => a = b) E den
abbrev tA (K : PySem.W.Frag) (E : XP) (den : Den (List W)) : TA := tG K (RpWs K) E den
theorem tG_then {α β γ ε : Type} {K : PySem.W.Frag} {rel : Rl α β} {rel2 : Rl γ ε} {E : XP} {den : Den α} {k : α → Sto → R γ} {δ : Slots} {σ : L2.St} {ρ : List Addr} {S : Sto} {H : Hp} {Q : ε → Hp → Prop} {Q' : β → Hp → Prop}
    (st : RpSt K ρ S H δ σ) (so : Sok K ρ S H) (h : Post K rel2 ρ S H ((den δ S).bind k) Q (E σ))
    (hk : ∀ (a : α) (S1 : Sto) (b : β) (ρ1 : List Addr) (H1 : Hp), Fwd ρ S H ρ1 S1 H1 → RpSt K ρ1 S1 H1 δ σ → Sok K ρ1 S1 H1 → rel ρ1 S1 H1 a b → Post K rel2 ρ1 S1 H1 (k a S1) Q (E σ) → Q' b H1) : tG K rel E den σ H Q' := by
  refine ⟨δ, ρ, S, st, so, ?_⟩
  cases e : den δ S with
  | ok a S1 =>
    rw [e] at h
    exact fun b ρ1 H1 f so1 q => hk a S1 b ρ1 H1 f (f.st st) so1 q (Post.later f h)
  | exc c ds S1 => rw [e] at h; exact h
  | bad => rw [e] at h; exact h

/-! ### statements -/
inductive RS where
  | nx (δ : Slots) (S : Sto) | rt (w : W) (S : Sto) | bk (δ : Slots) (S : Sto) | ct (δ : Slots) (S : Sto) | xc (c : Nat) (ds : List D) (δ : Slots) (S : Sto) | bad
abbrev DenS := Slots → Sto → RS
def R.thenS {α : Type} (r : R α) (δ : Slots) (k : α → Sto → RS) : RS :=
  match r with
  | .ok a S => k a S
  | .exc c ds S => .xc c ds δ S
  | .bad => .bad
@[simp] theorem R.thenS_ok {α : Type} (a : α) (S : Sto) (δ : Slots) (f : α → Sto → RS) : (R.ok a S).thenS δ f = f a S := rfl
@[simp] theorem R.thenS_exc {α : Type} (c : Nat) (ds : List D) (S : Sto) (δ : Slots) (f : α → Sto → RS) : (R.exc c ds S : R α).thenS δ f = .xc c ds δ S := rfl
@[simp] theorem R.thenS_bad {α : Type} (δ : Slots) (f : α → Sto → RS) : (R.bad : R α).thenS δ f = .bad := rfl
def PostS (K : PySem.W.Frag) (ρ : List Addr) (S : Sto) (H : Hp) (r : RS) (D' : Ends) (E : XP) : Prop :=
  match r with
  | .nx δ S' => ∀ (σ : L2.St) (ρ' : List Addr) (H' : Hp), Fwd ρ S H ρ' S' H' → Sok K ρ' S' H' → RpSt K ρ' S' H' δ σ → D'.nx σ H'
  | .rt w S' => ∀ (v : V) (ρ' : List Addr) (H' : Hp), Fwd ρ S H ρ' S' H' → Sok K ρ' S' H' → RpW K ρ' S' H' w v → D'.rt v H'
  | .bk δ S' => ∀ (σ : L2.St) (ρ' : List Addr) (H' : Hp), Fwd ρ S H ρ' S' H' → Sok K ρ' S' H' → RpSt K ρ' S' H' δ σ → D'.bk σ H'
  | .ct δ S' => ∀ (σ : L2.St) (ρ' : List Addr) (H' : Hp), Fwd ρ S H ρ' S' H' → Sok K ρ' S' H' → RpSt K ρ' S' H' δ σ → D'.ct σ H'
  | .xc c ds δ S' => ∀ (σ : L2.St) (ρ' : List Addr) (H' : Hp), Fwd ρ S H ρ' S' H' → Sok K ρ' S' H' → RpSt K ρ' S' H' δ σ → E σ c ds S' ρ' H'
  | .bad => False
theorem PostS.later {K : PySem.W.Frag} {ρ ρ1 : List Addr} {S S1 : Sto} {H H1 : Hp} {r : RS} {D' : Ends} {E : XP} (f : Fwd ρ S H ρ1 S1 H1) (h : PostS K ρ S H r D' E) : PostS K ρ1 S1 H1 r D' E := by
  cases r with
  | nx δ S' => exact fun b ρ' H' f' so q => h b ρ' H' (f.trans f') so q
  | rt δ S' => exact fun b ρ' H' f' so q => h b ρ' H' (f.trans f') so q
  | bk δ S' => exact fun b ρ' H' f' so q => h b ρ' H' (f.trans f') so q
  | ct δ S' => exact fun b ρ' H' f' so q => h b ρ' H' (f.trans f') so q
  | xc c ds δ S' => exact fun b ρ' H' f' so q => h b ρ' H' (f.trans f') so q
  | bad => exact h
def tS (K : PySem.W.Frag) (E : XP) (den : DenS) : TS := fun D' σ H => ∃ (δ : Slots) (ρ : List Addr) (S : Sto), RpSt K ρ S H δ σ ∧ Sok K ρ S H ∧ PostS K ρ S H (den δ S) D' E
theorem tG_thenS {α β : Type} {K : PySem.W.Frag} {rel : Rl α β} {E : XP} {den : Den α} {k : α → Sto → RS} {δ : Slots} {σ : L2.St} {ρ : List Addr} {S : Sto} {H : Hp} {D' : Ends} {Q' : β → Hp → Prop}
    (st : RpSt K ρ S H δ σ) (so : Sok K ρ S H) (h : PostS K ρ S H ((den δ S).thenS δ k) D' E)
    (hk : ∀ (a : α) (S1 : Sto) (b : β) (ρ1 : List Addr) (H1 : Hp), Fwd ρ S H ρ1 S1 H1 → RpSt K ρ1 S1 H1 δ σ → Sok K ρ1 S1 H1 → rel ρ1 S1 H1 a b → PostS K ρ1 S1 H1 (k a S1) D' E → Q' b H1) : tG K rel E den σ H Q' := by
  refine ⟨δ, ρ, S, st, so, ?_⟩
  cases e : den δ S with
  | ok a S1 =>
    rw [e] at h
    exact fun b ρ1 H1 f so1 q => hk a S1 b ρ1 H1 f (f.st st) so1 q (PostS.later f h)
  | exc c ds S1 => rw [e] at h; exact fun ρ1 H1 f so1 => h σ ρ1 H1 f so1 (f.st st)
  | bad => rw [e] at h; exact h

/-! ### weaker readings -/
section
variable {X : Cx}
theorem pe_mono {e : Expr} {t t' : TE} (h : PE X e t) (w : ∀ σ H Q, t' σ H Q → t σ H Q) : PE X e t' := ⟨fun pins s σ H Q I q => h.run pins s σ H Q I (w σ H Q q)⟩
theorem pt_mono {e : Expr} {t t' : TT} (h : PT X e t) (w : ∀ σ H Q, t' σ H Q → t σ H Q) : PT X e t' := ⟨fun pins s σ H Q I q => h.run pins s σ H Q I (w σ H Q q)⟩
theorem pw_mono {e : Expr} {t t' : TT} (h : PW X e t) (w : ∀ σ H Q, t' σ H Q → t σ H Q) : PW X e t' := ⟨fun wh pins s σ H Q I q => h.run wh pins s σ H Q I (w σ H Q q)⟩
theorem pa_mono {es : List Expr} {t t' : TA} (h : PA X es t) (w : ∀ σ H Q, t' σ H Q → t σ H Q) : PA X es t' := ⟨fun pos pins s σ H Q I q => h.run pos pins s σ H Q I (w σ H Q q)⟩
theorem ps_mono {e : Stmt} {t t' : TS} (h : PS X e t) (w : ∀ D' σ H, t' D' σ H → t D' σ H) : PS X e t' := ⟨fun pins s σ H Q I q => h.run pins s σ H Q I (w Q σ H q)⟩
theorem pss_mono {e : List Stmt} {t t' : TS} (h : PSs X e t) (w : ∀ D' σ H, t' D' σ H → t D' σ H) : PSs X e t' := ⟨fun pins s σ H Q I q => h.run pins s σ H Q I (w Q σ H q)⟩
theorem pts_mono {e : List Expr} {t t' : TT} (h : PTs X e t) (w : ∀ σ H Q, t' σ H Q → t σ H Q) : PTs X e t' := ⟨fun pins s σ H Q I q => h.run pins s σ H Q I (w σ H Q q)⟩
end

/-! ### names, constants -/
def cVar (i : Nat) : Den W := fun δ S => match δ[i]? with
  | some (some w) => .ok w S
  | _ => .bad
def cC (d : D) : Den W := fun _ S => .ok (.v d) S
section
variable {X : Cx} {E : XP}
theorem de_of_var {e : Expr} {i : Nat} (h : PE X e (tVar i)) : PE X e (tE X.K E (cVar i)) := pe_mono h fun σ H Q ⟨δ, ρ, S, st, so, p⟩ => by
  unfold cVar at p
  cases q : δ[i]? with
  | none => rw [q] at p; exact p.elim
  | some o =>
    cases o with
    | none => rw [q] at p; exact p.elim
    | some w =>
      rw [q] at p
      obtain ⟨v, h1, h2⟩ := st.2 i w q
      exact ⟨v, h1, p v ρ H Fwd.refl so h2⟩
theorem de_of_c {e : Expr} {d : D} {v : V} (h : PE X e (tC v)) (r : ∀ H M, Rp X.K H M d v) : PE X e (tE X.K E (cC d)) := pe_mono h fun σ H Q ⟨δ, ρ, S, st, so, p⟩ => p v ρ H Fwd.refl so (r H _)
theorem de_var (i : Nat) {x : Str} {pos : Pos} (hN : X.N[i]? = some x := by rfl) (hv : Vis X.env.scope x := by first | exact Or.inl rfl | exact Or.inr (Or.inl rfl) | exact Or.inr (Or.inr rfl)) (hd : (x == ("__debug__" : Str)) = false := by decide)
    (hcd : (x == ("__classdict__" : Str)) = false := by decide) : PE X (.Name x pos) (tE X.K E (cVar i)) := de_of_var (pe_var hN hv hd hcd)
theorem de_int {i j pos} : PE X (.Constant (.int i) j pos) (tE X.K E (cC (.int i))) := de_of_c pe_int fun _ _ => .int i
theorem de_bl {b j pos} : PE X (.Constant (.bool b) j pos) (tE X.K E (cC (.bl b))) := de_of_c pe_bl fun _ _ => .bl b
theorem de_non {j pos} : PE X (.Constant .none j pos) (tE X.K E (cC .non)) := de_of_c pe_non fun _ _ => .non
theorem de_str (t : Tx) {x j pos} (h : x = sx t := by decide +kernel) : PE X (.Constant (.str x) j pos) (tE X.K E (cC (.str t))) := by
  subst h
  exact de_of_c pe_str fun _ _ => .str t
theorem de_glob {x : Str} {d : D} {v : V} {u : Value} {pos : Pos} (hm : X.mg x = some u) (r : RelV v u) (h : ∀ H M, Rp X.K H M d v) (hg : Gl X x := by rfl) (hd : (x == ("__debug__" : Str)) = false := by decide) :
    PE X (.Name x pos) (tE X.K E (cC d)) := de_of_c (pe_glob hg hm r hd) h
theorem de_type {x : Str} (T : Ty) {pos : Pos} (hm : X.mg x = none) (hv : bootBuiltins x = some (.type T.nm)) (hg : Gl X x := by rfl) (hn : x ≠ "__name__" := by decide) (hd : (x == ("__debug__" : Str)) = false := by decide) :
    PE X (.Name x pos) (tE X.K E (cC (.ty T))) := de_of_c (pe_bltn hg hm hv (v := .ty T.nm) rfl hn hd) fun _ _ => .ty T

/-! ### arguments -/
def cNil : Den (List W) := fun _ S => .ok [] S
def cCons (a : Den W) (b : Den (List W)) : Den (List W) := fun δ S => (a δ S).bind fun w S1 => (b δ S1).bind fun ws S2 => .ok (w :: ws) S2
theorem da_nil : PA X [] (tA X.K E cNil) := pa_mono pa_nil fun σ H Q ⟨δ, ρ, S, st, so, p⟩ => p [] ρ H Fwd.refl so .nil
end
end Fro

namespace Fro
open PySem PySem.Spec L2

section
variable {X : Cx} {E : XP}
theorem da_cons {e : Expr} {es : List Expr} {a : Den W} {b : Den (List W)} (ha : PE X e (tE X.K E a)) (hr : PA X es (tA X.K E b)) (hs : starEach (e :: es) X.env = (false, eval e X.env) :: starEach es X.env := by rfl) :
    PA X (e :: es) (tA X.K E (cCons a b)) := pa_mono (pa_cons ha hr hs) fun σ H Q ⟨δ, ρ, S, st, so, p⟩ =>
  tG_then st so p fun w S1 v ρ1 H1 f1 st1 so1 r1 p1 => tG_then st1 so1 p1 fun ws S2 vs ρ2 H2 f2 st2 so2 r2 p2 => p2 (v :: vs) ρ2 H2 Fwd.refl so2 (.cons (f2.rw r1) r2)

/-! ### displays -/
def toD : W → Option D
  | .v d => some d
  | _ => none
def toDs : List W → Option (List D)
  | [] => some []
  | w :: ws => match toD w, toDs ws with
    | some d, some ds => some (d :: ds)
    | _, _ => none
theorem toD_rp {K : PySem.W.Frag} {ρ : List Addr} {S : Sto} {H : Hp} {w : W} {v : V} {d : D} (h : RpW K ρ S H w v) (e : toD w = some d) : Rp K H (live ρ S) d v := by
  cases w with
  | v d' => cases e; exact h
  | r i => cases e
  | s ns => cases e
theorem toDs_rp {K : PySem.W.Frag} {ρ : List Addr} {S : Sto} {H : Hp} : ∀ {ws : List W} {vs : List V} {ds : List D}, RpWs K ρ S H ws vs → toDs ws = some ds → RpL K H (live ρ S) ds vs
  | _, _, ds, .nil, e => by cases e; exact .nil
  | w :: ws, _, ds, .cons a b, e => by
    unfold toDs at e
    cases q1 : toD w with
    | none => rw [q1] at e; simp at e
    | some d =>
      cases q2 : toDs ws with
      | none => rw [q1, q2] at e; simp at e
      | some ds' =>
        rw [q1, q2] at e
        cases e
        exact .cons (toD_rp a q1) (toDs_rp b q2)
theorem le1000 {n : Nat} (h : n ≤ 1000) : n ≤ sizeLine := Nat.le_of_lt (small1000 h)
def cDisp (mk : List D → Sto → R W) (a : Den (List W)) : Den W := fun δ S => (a δ S).bind fun ws S1 => match toDs ws with
  | some ds => if ds.length ≤ 1000 then mk ds S1 else .bad
  | none => .bad
def cTup (a : Den (List W)) : Den W := cDisp (fun ds S => .ok (.v (.tup ds)) S) a
def cLst (a : Den (List W)) : Den W := cDisp (fun ds S => .ok (.v (.lst ds)) S) a
def cLstM (a : Den (List W)) : Den W := cDisp (fun ds S => .ok (.r S.length) (S ++ [.lst ds])) a
theorem disp_then {mk : List D → Sto → R W} {a : Den (List W)} {σ : L2.St} {H : Hp} {Q : VK} {Q' : List V → Hp → Prop} {K : PySem.W.Frag} (h : tE K E (cDisp mk a) σ H Q)
    (hk : ∀ (ds : List D) (S1 : Sto) (vs : List V) (ρ1 : List Addr) (H1 : Hp), Sok K ρ1 S1 H1 → RpL K H1 (live ρ1 S1) ds vs → vs.length ≤ sizeLine → Post K (RpW K) ρ1 S1 H1 (mk ds S1) Q (E σ) → Q' vs H1) : tA K E a σ H Q' := by
  obtain ⟨δ, ρ, S, st, so, p⟩ := h
  refine tG_then st so p fun ws S1 vs ρ1 H1 f1 st1 so1 r1 p1 => ?_
  cases q : toDs ws with
  | none => simp only [q] at p1; exact p1.elim
  | some ds =>
    have rl := toDs_rp r1 q
    by_cases hl : ds.length ≤ 1000
    · simp only [q, if_pos hl] at p1
      exact hk ds S1 vs ρ1 H1 so1 rl (by rw [← rl.length]; exact le1000 hl) p1
    · simp only [q, if_neg hl] at p1
      exact p1.elim
theorem de_tup {es : List Expr} {k : Nat} {pos : Pos} {a : Den (List W)} (h : PA X es (tA X.K E a)) (hd : ∀ t, PA X es t → PE X (.Tuple es k pos) (tTup t) := by exact fun _ h => pe_tup h) : PE X (.Tuple es k pos) (tE X.K E (cTup a)) := pe_mono (hd _ h) fun σ H Q q =>
  disp_then q fun ds S1 vs ρ1 H1 so1 rl hl p1 => ⟨hl, fun p np => p1 (.ref p) ρ1 _ (Fwd.laid so1 np) (so1.laid np) (Rp.tup (SqT.of upd_same) ((Fwd.laid so1 np).rpL rl))⟩
theorem de_lst {es : List Expr} {pos : Pos} {a : Den (List W)} (h : PA X es (tA X.K E a)) (hd : ∀ t, PA X es t → PE X (.List es pos) (tLst t) := by exact fun _ h => pe_lst h) : PE X (.List es pos) (tE X.K E (cLst a)) := pe_mono (hd _ h) fun σ H Q q =>
  disp_then q fun ds S1 vs ρ1 H1 so1 rl hl p1 => ⟨hl, fun p np => p1 (.ref p) ρ1 _ (Fwd.laid so1 np) (so1.laid np) (Rp.lst upd_same (so1.notNone np) ((Fwd.laid so1 np).rpL rl))⟩
theorem de_lstM {es : List Expr} {pos : Pos} {a : Den (List W)} (h : PA X es (tA X.K E a)) (hd : ∀ t, PA X es t → PE X (.List es pos) (tLst t) := by exact fun _ h => pe_lst h) : PE X (.List es pos) (tE X.K E (cLstM a)) := pe_mono (hd _ h) fun σ H Q q =>
  disp_then q fun ds S1 vs ρ1 H1 so1 rl hl p1 => ⟨hl, fun p np => by
    have fw : Fwd ρ1 S1 H1 (ρ1 ++ [p]) (S1 ++ [.lst ds]) (upd H1 p (.lst vs)) := Fwd.grown so1 np _
    refine p1 (.ref p) (ρ1 ++ [p]) _ fw (so1.grown np _ ⟨vs, upd_same, fw.rpL rl⟩) ⟨p, rfl, ?_⟩
    rw [List.getElem?_append_right (by rw [so1.len]; exact Nat.le_refl _), so1.len]
    simp⟩

/-! ### tests -/
def asB (w : W) (S : Sto) : R Bool := match w with
  | .v (.bl b) => .ok b S
  | _ => .bad
def cB (a : Den W) : Den Bool := fun δ S => (a δ S).bind asB
def cAnd (a b : Den Bool) : Den Bool := fun δ S => (a δ S).bind fun c S1 => if c then b δ S1 else .ok false S1
def cOr (a b : Den Bool) : Den Bool := fun δ S => (a δ S).bind fun c S1 => if c then .ok true S1 else b δ S1
def cNot (a : Den Bool) : Den Bool := fun δ S => (a δ S).bind fun c S1 => .ok (!c) S1
def cVal (a : Den Bool) : Den W := fun δ S => (a δ S).bind fun c S1 => .ok (.v (.bl c)) S1
theorem asB_post {K : PySem.W.Frag} {ρ : List Addr} {S : Sto} {H : Hp} {w : W} {v : V} {Q : Bool → Hp → Prop} {Ex} (so : Sok K ρ S H) (r : RpW K ρ S H w v) (p : Post K (fun _ _ _ a b => a = b) ρ S H (asB w S) Q Ex) : ∃ c, v = .bl c ∧ Q c H := by
  cases w with
  | v d =>
    cases d with
    | bl b => cases r; exact ⟨b, rfl, p b ρ H Fwd.refl so rfl⟩
    | _ => exact p.elim
  | r i => exact p.elim
  | s ns => exact p.elim
theorem dt_val {e : Expr} {a : Den W} (h : PE X e (tE X.K E a)) (he : ∀ whole, isTrue e X.env whole = (do let v ← whole; standAt e.pos; holding [v] (truthy v)) := by intro _; rfl) : PT X e (tT X.K E (cB a)) :=
  pt_mono (pt_val h he) fun σ H Q ⟨δ, ρ, S, st, so, p⟩ => tG_then st so p fun w S1 v ρ1 H1 f1 st1 so1 r1 p1 => asB_post so1 r1 p1
theorem dt_not {e : Expr} {pos : Pos} {a : Den Bool} (h : PT X e (tT X.K E a)) : PT X (.UnaryOp .Not e pos) (tT X.K E (cNot a)) :=
  pt_mono (pt_not h) fun σ H Q ⟨δ, ρ, S, st, so, p⟩ => tG_then st so p fun w S1 v ρ1 H1 f1 st1 so1 r1 p1 => by cases r1; exact p1 _ ρ1 H1 Fwd.refl so1 rfl
theorem dw_and1 {e : Expr} {pos : Pos} {a : Den Bool} (h : PT X e (tT X.K E a)) : PW X (.BoolOp .And [e] pos) (tT X.K E a) := pw_and1 h
theorem dw_or1 {e : Expr} {pos : Pos} {a : Den Bool} (h : PT X e (tT X.K E a)) : PW X (.BoolOp .Or [e] pos) (tT X.K E a) := pw_or1 h
theorem dw_and {e e' : Expr} {rest : List Expr} {pos : Pos} {a b : Den Bool} (h : PT X e (tT X.K E a)) (h' : PW X (.BoolOp .And (e' :: rest) pos) (tT X.K E b)) : PW X (.BoolOp .And (e :: e' :: rest) pos) (tT X.K E (cAnd a b)) :=
  pw_mono (pw_and h h') fun σ H Q ⟨δ, ρ, S, st, so, p⟩ => tG_then st so p fun c S1 v ρ1 H1 f1 st1 so1 r1 p1 => by
    cases r1
    cases c with
    | true => rw [if_pos rfl]; exact ⟨δ, ρ1, S1, st1, so1, p1⟩
    | false => rw [if_neg Bool.false_ne_true]; exact p1 _ ρ1 H1 Fwd.refl so1 rfl
theorem dw_or {e e' : Expr} {rest : List Expr} {pos : Pos} {a b : Den Bool} (h : PT X e (tT X.K E a)) (h' : PW X (.BoolOp .Or (e' :: rest) pos) (tT X.K E b)) : PW X (.BoolOp .Or (e :: e' :: rest) pos) (tT X.K E (cOr a b)) :=
  pw_mono (pw_or h h') fun σ H Q ⟨δ, ρ, S, st, so, p⟩ => tG_then st so p fun c S1 v ρ1 H1 f1 st1 so1 r1 p1 => by
    cases r1
    cases c with
    | true => rw [if_pos rfl]; exact p1 _ ρ1 H1 Fwd.refl so1 rfl
    | false => rw [if_neg Bool.false_ne_true]; exact ⟨δ, ρ1, S1, st1, so1, p1⟩
/-- as values -/
def cAndV (a b : Den W) : Den W := fun δ S => (a δ S).bind fun w S1 => (asB w S1).bind fun c S2 => if c then b δ S2 else .ok (.v (.bl false)) S2
def cOrV (a b : Den W) : Den W := fun δ S => (a δ S).bind fun w S1 => (asB w S1).bind fun c S2 => if c then .ok (.v (.bl true)) S2 else b δ S2
def cNotV (a : Den W) : Den W := fun δ S => (a δ S).bind fun w S1 => (asB w S1).bind fun c S2 => .ok (.v (.bl (!c))) S2
theorem asB_then {K : PySem.W.Frag} {α β : Type} {rel : Rl α β} {ρ : List Addr} {S : Sto} {H : Hp} {w : W} {v : V} {k : Bool → Sto → R α} {Q : β → Hp → Prop} {Ex} (r : RpW K ρ S H w v) (p : Post K rel ρ S H ((asB w S).bind k) Q Ex) : ∃ c, v = .bl c ∧ Post K rel ρ S H (k c S) Q Ex := by
  cases w with
  | v d =>
    cases d with
    | bl b => cases r; exact ⟨b, rfl, p⟩
    | _ => exact p.elim
  | r i => exact p.elim
  | s ns => exact p.elim
theorem de_one {op : BoolOp} {e : Expr} {pos : Pos} {a : Den W} (h : PE X e (tE X.K E a)) : PE X (.BoolOp op [e] pos) (tE X.K E a) := pe_one h
theorem de_and {e e' : Expr} {rest : List Expr} {pos : Pos} {a b : Den W} (h : PE X e (tE X.K E a)) (h' : PE X (.BoolOp .And (e' :: rest) pos) (tE X.K E b)) : PE X (.BoolOp .And (e :: e' :: rest) pos) (tE X.K E (cAndV a b)) :=
  pe_mono (pe_and h h') fun σ H Q ⟨δ, ρ, S, st, so, p⟩ => tG_then st so p fun w S1 v ρ1 H1 f1 st1 so1 r1 p1 => by
    obtain ⟨c, rfl, p2⟩ := asB_then r1 p1
    refine ⟨c, rfl, ?_⟩
    cases c with
    | true => rw [if_pos rfl]; exact ⟨δ, ρ1, S1, st1, so1, p2⟩
    | false => rw [if_neg Bool.false_ne_true]; exact p2 _ ρ1 H1 Fwd.refl so1 (.bl false)
theorem de_or {e e' : Expr} {rest : List Expr} {pos : Pos} {a b : Den W} (h : PE X e (tE X.K E a)) (h' : PE X (.BoolOp .Or (e' :: rest) pos) (tE X.K E b)) : PE X (.BoolOp .Or (e :: e' :: rest) pos) (tE X.K E (cOrV a b)) :=
  pe_mono (pe_or h h') fun σ H Q ⟨δ, ρ, S, st, so, p⟩ => tG_then st so p fun w S1 v ρ1 H1 f1 st1 so1 r1 p1 => by
    obtain ⟨c, rfl, p2⟩ := asB_then r1 p1
    refine ⟨c, rfl, ?_⟩
    cases c with
    | true => rw [if_pos rfl]; exact p2 _ ρ1 H1 Fwd.refl so1 (.bl true)
    | false => rw [if_neg Bool.false_ne_true]; exact ⟨δ, ρ1, S1, st1, so1, p2⟩
theorem de_not {e : Expr} {pos : Pos} {a : Den W} (h : PE X e (tE X.K E a)) : PE X (.UnaryOp .Not e pos) (tE X.K E (cNotV a)) :=
  pe_mono (pe_not h) fun σ H Q ⟨δ, ρ, S, st, so, p⟩ => tG_then st so p fun w S1 v ρ1 H1 f1 st1 so1 r1 p1 => by
    obtain ⟨c, rfl, p2⟩ := asB_then r1 p1
    exact ⟨c, rfl, p2 _ ρ1 H1 Fwd.refl so1 (.bl _)⟩
def cIf (t : Den Bool) (a b : Den W) : Den W := fun δ S => (t δ S).bind fun c S1 => if c then a δ S1 else b δ S1
theorem de_if {c e e' : Expr} {pos : Pos} {t : Den Bool} {a b : Den W} (hc : PT X c (tT X.K E t)) (h : PE X e (tE X.K E a)) (h' : PE X e' (tE X.K E b)) : PE X (.IfExp c e e' pos) (tE X.K E (cIf t a b)) :=
  pe_mono (pe_ifExp hc h h') fun σ H Q ⟨δ, ρ, S, st, so, p⟩ => tG_then st so p fun c S1 v ρ1 H1 f1 st1 so1 r1 p1 => by
    cases r1
    cases c with
    | true => rw [if_pos rfl]; exact ⟨δ, ρ1, S1, st1, so1, p1⟩
    | false => rw [if_neg Bool.false_ne_true]; exact ⟨δ, ρ1, S1, st1, so1, p1⟩
/-- code that is never reached -/
theorem de_dead {e : Expr} : PE X e (tE X.K E fun _ _ => .bad) := ⟨fun _ _ _ _ _ _ ⟨_, _, _, _, _, p⟩ => p.elim⟩

/-! ### blocks -/
def cNx : DenS := fun δ S => .nx δ S
def cSeq (a b : DenS) : DenS := fun δ S => match a δ S with
  | .nx δ' S' => b δ' S'
  | r => r
def cBad : DenS := fun _ _ => .bad
theorem ds_dead {s : Stmt} : PS X s (tS X.K E cBad) := ⟨fun _ _ _ _ _ _ ⟨_, _, _, _, _, p⟩ => p.elim⟩
theorem dss_dead {s : List Stmt} : PSs X s (tS X.K E cBad) := ⟨fun _ _ _ _ _ _ ⟨_, _, _, _, _, p⟩ => p.elim⟩
theorem dss_nil : PSs X [] (tS X.K E cNx) := pss_mono pss_nil fun D' σ H ⟨δ, ρ, S, st, so, p⟩ => p σ ρ H Fwd.refl so st
theorem dss_one {s : Stmt} {a : DenS} (h : PS X s (tS X.K E a)) : PSs X [s] (tS X.K E a) := pss_one h
theorem dss_cons {s : Stmt} {r : List Stmt} {a b : DenS} (h : PS X s (tS X.K E a)) (h' : PSs X r (tS X.K E b)) : PSs X (s :: r) (tS X.K E (cSeq a b)) :=
  pss_mono (pss_cons h h') fun D' σ H ⟨δ, ρ, S, st, so, p⟩ => by
    refine ⟨δ, ρ, S, st, so, ?_⟩
    unfold cSeq at p
    cases q : a δ S with
    | nx δ' S' =>
      simp only [q] at p
      exact fun σ' ρ' H' f so' st' => ⟨δ', ρ', S', st', so', PostS.later f p⟩
    | rt w S' => simp only [q] at p; exact p
    | bk w S' => simp only [q] at p; exact p
    | ct w S' => simp only [q] at p; exact p
    | xc c ds w S' => simp only [q] at p; exact p
    | bad => simp only [q] at p; exact p
def cRet (a : Den W) : DenS := fun δ S => (a δ S).thenS δ fun w S1 => .rt w S1
def cRetN : DenS := fun _ S => .rt (.v .non) S
def cExpr (a : Den W) : DenS := fun δ S => (a δ S).thenS δ fun _ S1 => .nx δ S1
def cIfS (t : Den Bool) (a b : DenS) : DenS := fun δ S => (t δ S).thenS δ fun c S1 => if c then a δ S1 else b δ S1
def cBrk : DenS := fun δ S => .bk δ S
def cCt : DenS := fun δ S => .ct δ S
theorem ds_ret {e : Expr} {pos : Pos} {a : Den W} (h : PE X e (tE X.K E a)) : PS X (.Return (some e) pos) (tS X.K E (cRet a)) :=
  ps_mono (ps_ret h) fun D' σ H ⟨δ, ρ, S, st, so, p⟩ => tG_thenS st so p fun w S1 v ρ1 H1 f1 st1 so1 r1 p1 => p1 v ρ1 H1 Fwd.refl so1 r1
theorem ds_retN {pos : Pos} : PS X (.Return none pos) (tS X.K E cRetN) := ps_mono ps_retN fun D' σ H ⟨δ, ρ, S, st, so, p⟩ => p .non ρ H Fwd.refl so .non
theorem ds_expr {e : Expr} {pos : Pos} {a : Den W} (h : PE X e (tE X.K E a)) (hs : swapsWith e none pos.line X.env = pure false := by rfl) : PS X (.Expr e pos) (tS X.K E (cExpr a)) :=
  ps_mono (ps_expr h hs) fun D' σ H ⟨δ, ρ, S, st, so, p⟩ => tG_thenS st so p fun w S1 v ρ1 H1 f1 st1 so1 r1 p1 => p1 σ ρ1 H1 Fwd.refl so1 st1
theorem ds_if {c : Expr} {u u' : List Stmt} {pos : Pos} {t : Den Bool} {a b : DenS} (hc : PT X c (tT X.K E t)) (h : PSs X u (tS X.K E a)) (h' : PSs X u' (tS X.K E b)) : PS X (.If c u u' pos) (tS X.K E (cIfS t a b)) :=
  ps_mono (ps_if hc h h') fun D' σ H ⟨δ, ρ, S, st, so, p⟩ => tG_thenS st so p fun c S1 v ρ1 H1 f1 st1 so1 r1 p1 => by
    cases r1
    cases c with
    | true => rw [if_pos rfl]; exact ⟨δ, ρ1, S1, st1, so1, p1⟩
    | false => rw [if_neg Bool.false_ne_true]; exact ⟨δ, ρ1, S1, st1, so1, p1⟩
theorem ds_pass {pos : Pos} : PS X (.Pass pos) (tS X.K E cNx) := ps_mono ps_pass fun D' σ H ⟨δ, ρ, S, st, so, p⟩ => p σ ρ H Fwd.refl so st
theorem ds_brk {pos : Pos} : PS X (.Break pos) (tS X.K E cBrk) := ps_mono ps_break fun D' σ H ⟨δ, ρ, S, st, so, p⟩ => p σ ρ H Fwd.refl so st
theorem ds_ct {pos : Pos} : PS X (.Continue pos) (tS X.K E cCt) := ps_mono ps_continue fun D' σ H ⟨δ, ρ, S, st, so, p⟩ => p σ ρ H Fwd.refl so st
theorem ds_doc {x j pos pos'} : PS X (.Expr (.Constant (.str x) j pos) pos') (tS X.K E cNx) := ps_mono ps_doc fun D' σ H ⟨δ, ρ, S, st, so, p⟩ => p σ ρ H Fwd.refl so st

/-! ### targets -/
abbrev DenG := W → Slots → Sto → Option (Slots × Sto)
/-- the target's reading is served by a denotation that changes the slots ts alone -/
def GOk (K : PySem.W.Frag) (g : TG) (dg : DenG) (ts : List Nat) : Prop := ∀ (ρ : List Addr) (S : Sto) (H : Hp) (δ : Slots) (σ : L2.St) (w : W) (v : V) (Q : L2.St → Hp → Prop) (δ' : Slots) (S' : Sto),
  RpSt K ρ S H δ σ → Sok K ρ S H → RpW K ρ S H w v → dg w δ S = some (δ', S') →
  (∀ (σ' : L2.St) (ρ' : List Addr) (H' : Hp), Fwd ρ S H ρ' S' H' → Sok K ρ' S' H' → RpSt K ρ' S' H' δ' σ' → σ'.length = σ.length → (∀ j, j ∉ ts → σ'[j]? = σ[j]?) → Q σ' H') → g v σ H Q
def gN (i : Nat) : DenG := fun w δ S => some (δ.set i (some w), S)
theorem gok_name {K : PySem.W.Frag} (i : Nat) : GOk K (gName i) (gN i) [i] := fun ρ S H δ σ w v Q δ' S' st so r e h => by
  cases e
  exact h _ ρ H Fwd.refl so (st.set i r) (by rw [List.length_set]) fun j hj => List.getElem?_set_ne (fun z => hj (by rw [z]; exact List.mem_singleton.mpr rfl))
abbrev DenGs := List D → Slots → Sto → Option (Slots × Sto)
def GsOk (K : PySem.W.Frag) (g : TGs) (dg : DenGs) (ts : List Nat) : Prop := ∀ (ρ : List Addr) (S : Sto) (H : Hp) (δ : Slots) (σ : L2.St) (ds : List D) (vs : List V) (Q : L2.St → Hp → Prop) (δ' : Slots) (S' : Sto),
  RpSt K ρ S H δ σ → Sok K ρ S H → RpL K H (live ρ S) ds vs → dg ds δ S = some (δ', S') →
  (∀ (σ' : L2.St) (ρ' : List Addr) (H' : Hp), Fwd ρ S H ρ' S' H' → Sok K ρ' S' H' → RpSt K ρ' S' H' δ' σ' → σ'.length = σ.length → (∀ j, j ∉ ts → σ'[j]? = σ[j]?) → Q σ' H') → g vs σ H Q
def gsNil : DenGs := fun ds δ S => match ds with
  | [] => some (δ, S)
  | _ => none
def gsCons (a : DenG) (b : DenGs) : DenGs := fun ds δ S => match ds with
  | d :: r => match a (.v d) δ S with
    | some (δ1, S1) => b r δ1 S1
    | none => none
  | [] => none
theorem gsok_nil {K : PySem.W.Frag} : GsOk K gNil gsNil [] := fun ρ S H δ σ ds vs Q δ' S' st so r e h => by
  cases ds with
  | nil => cases e; cases r; exact ⟨rfl, h σ ρ H Fwd.refl so st rfl fun _ _ => rfl⟩
  | cons d r => cases e
theorem gsok_cons {K : PySem.W.Frag} {g : TG} {gs : TGs} {a : DenG} {b : DenGs} {t1 t2 : List Nat} (h1 : GOk K g a t1) (h2 : GsOk K gs b t2) : GsOk K (gCons g gs) (gsCons a b) (t1 ++ t2) := fun ρ S H δ σ ds vs Q δ' S' st so r e h => by
  cases r with
  | nil => cases e
  | @cons d r v vs rd rr =>
    unfold gsCons at e
    cases q : a (.v d) δ S with
    | none => simp only [q] at e; cases e
    | some z =>
      obtain ⟨δ1, S1⟩ := z
      simp only [q] at e
      exact ⟨v, vs, rfl, h1 ρ S H δ σ (.v d) v _ δ1 S1 st so rd q fun σ1 ρ1 H1 f1 so1 st1 l1 k1 => h2 ρ1 S1 H1 δ1 σ1 r vs Q δ' S' st1 so1 (f1.rpL rr) e fun σ2 ρ2 H2 f2 so2 st2 l2 k2 =>
        h σ2 ρ2 H2 (f1.trans f2) so2 st2 (l2.trans l1) fun j hj => (k2 j fun z => hj (List.mem_append_right _ z)).trans (k1 j fun z => hj (List.mem_append_left _ z))⟩
def gT (n : Nat) (b : DenGs) : DenG := fun w δ S => match w with
  | .v (.tup ds) => if ds.length = n then b ds δ S else none
  | _ => none
theorem gok_tup {K : PySem.W.Frag} {n : Nat} {gs : TGs} {b : DenGs} {ts : List Nat} (h : GsOk K gs b ts) : GOk K (gTup K n gs) (gT n b) ts := fun ρ S H δ σ w v Q δ' S' st so r e hq => by
  unfold gT at e
  cases w with
  | r i => cases e
  | s ns => cases e
  | v d =>
    cases d with
    | tup ds =>
      by_cases hl : ds.length = n
      · simp only [if_pos hl] at e
        cases r with
        | tup sq rl => exact ⟨_, _, rfl, sq, by rw [← rl.length]; exact hl, h ρ S H δ σ ds _ Q δ' S' st so rl e hq⟩
      · simp only [if_neg hl] at e; cases e
    | _ => cases e
def cAsg (a : Den W) (dg : DenG) : DenS := fun δ S => (a δ S).thenS δ fun w S1 => match dg w δ S1 with
  | some (δ', S') => .nx δ' S'
  | none => .bad
theorem asg_post {K : PySem.W.Frag} {g : TG} {dg : DenG} {ts : List Nat} (hg : GOk K g dg ts) {ρ : List Addr} {S : Sto} {H : Hp} {δ : Slots} {σ : L2.St} {w : W} {v : V} {D' : Ends} (st : RpSt K ρ S H δ σ) (so : Sok K ρ S H) (r : RpW K ρ S H w v)
    (p : PostS K ρ S H (match dg w δ S with | some (δ', S') => .nx δ' S' | none => .bad) D' E) : g v σ H D'.nx := by
  cases q : dg w δ S with
  | none => rw [q] at p; exact p.elim
  | some z =>
    obtain ⟨δ', S'⟩ := z
    rw [q] at p
    exact hg ρ S H δ σ w v _ δ' S' st so r q fun σ' ρ' H' f so' st' _ _ => p σ' ρ' H' f so' st'
theorem ds_asg {tg e : Expr} {pos : Pos} {a : Den W} {g : TG} {dg : DenG} {ts : List Nat} (he : PE X e (tE X.K E a)) (hp : PG X tg g) (hg : GOk X.K g dg ts) (hs : swapsWithSole [tg] e pos.line X.env = pure false := by rfl) (hw : swappedStores [tg] e X.env = pure none := by rfl)
    (h1 : (assignEach [tg] X.env).map (·.2) = [assign tg X.env] := by rfl) : PS X (.Assign [tg] e pos) (tS X.K E (cAsg a dg)) :=
  ps_mono (ps_asg he hp hs hw h1) fun D' σ H ⟨δ, ρ, S, st, so, p⟩ => tG_thenS st so p fun w S1 v ρ1 H1 f1 st1 so1 r1 p1 => asg_post hg st1 so1 r1 p1
theorem ds_set (i : Nat) {x : Str} {e : Expr} {pos pos' : Pos} {a : Den W} (hN : X.N.Nodup) (he : PE X e (tE X.K E a)) (hx : Loc X.env.scope x := by first | exact Or.inl rfl | exact Or.inr rfl) (hi : X.N[i]? = some x := by rfl)
    (hs : swapsWith e (some (.Name x pos')) pos.line X.env = pure false := by rfl) (hf : X.fn x = true ∨ X.env.scope.names.lookup x = some .local := by first | exact .inl rfl | exact .inr rfl | assumption) : PS X (.Assign [.Name x pos'] e pos) (tS X.K E (cAsg a (gN i))) :=
  ps_mono (ps_set hN hi hx he hs hf) fun D' σ H ⟨δ, ρ, S, st, so, p⟩ => tG_thenS st so p fun w S1 v ρ1 H1 f1 st1 so1 r1 p1 => asg_post (gok_name i) st1 so1 r1 p1
end
end Fro

namespace Fro
open PySem PySem.Spec L2

/-! ### what is walked -/
/-- an iterator that gives the data ds, one a turn, while the heap goes on -/
def Jok (K : PySem.W.Frag) : Rl (List D) It := fun ρ S H ds J => ∀ (i : Nat) (ρ' : List Addr) (S' : Sto) (H' : Hp), Fwd ρ S H ρ' S' H' → Sok K ρ' S' H' →
  (∀ d, ds[i]? = some d → J.go i H' ∧ ∀ x H'', J.yld i H' x H'' → Fwd ρ' S' H' ρ' S' H'' ∧ Sok K ρ' S' H'' ∧ Rp K H'' (live ρ' S') d x) ∧ (ds.length ≤ i → J.stop i H')
abbrev tI (K : PySem.W.Frag) (E : XP) (den : Den (List D)) : TI := tG K (Jok K) E den
theorem jok_list {K : PySem.W.Frag} {ρ : List Addr} {S : Sto} {H : Hp} {a : Addr} {xs : List V} {ds : List D} (h : H a = some (.lst xs)) (n : ¬ live ρ S a) (r : RpL K H (live ρ S) ds xs) : Jok K ρ S H ds (Itl K a) := fun i ρ' S' H' f so => by
  have sq : SqL K H' a xs := SqL.of (f.keep _ _ n h)
  have r' := f.rpL r
  refine ⟨fun d e => ?_, fun hl => ⟨xs, sq, by rw [← r.length]; exact hl⟩⟩
  obtain ⟨v, hv, rv⟩ := r'.get i e
  refine ⟨⟨xs, v, sq, hv⟩, fun x H'' y => ?_⟩
  obtain ⟨rfl, fx⟩ := y
  have ex : v = x := Option.some.inj (hv.symm.trans (fx xs sq))
  subst ex
  exact ⟨Fwd.refl, so, rv⟩
theorem jok_tup {K : PySem.W.Frag} {ρ : List Addr} {S : Sto} {H : Hp} {a : Addr} {xs : List V} {ds : List D} (h : SqT K H a xs) (r : RpL K H (live ρ S) ds xs) : Jok K ρ S H ds (Itt K a) := fun i ρ' S' H' f so => by
  have sq : SqT K H' a xs := sqT_mono f.tups f.frzs h
  have r' := f.rpL r
  refine ⟨fun d e => ?_, fun hl => ⟨xs, sq, by rw [← r.length]; exact hl⟩⟩
  obtain ⟨v, hv, rv⟩ := r'.get i e
  refine ⟨⟨xs, v, sq, hv⟩, fun x H'' y => ?_⟩
  obtain ⟨rfl, fx⟩ := y
  have ex : v = x := Option.some.inj (hv.symm.trans (fx xs sq))
  subst ex
  exact ⟨Fwd.refl, so, rv⟩
def rangeD (lo : Int) : Nat → List D
  | 0 => []
  | n + 1 => .int lo :: rangeD (lo + 1) n
theorem rangeD_length : ∀ (n : Nat) (lo : Int), (rangeD lo n).length = n
  | 0, _ => rfl
  | n + 1, lo => by
    show (rangeD (lo + 1) n).length + 1 = n + 1
    rw [rangeD_length n]
theorem rangeD_get : ∀ (n i : Nat) (lo : Int) (d : D), (rangeD lo n)[i]? = some d → i < n ∧ d = .int (lo + i)
  | 0, _, _, _, e => by simp [rangeD] at e
  | n + 1, 0, lo, d, e => by
    simp [rangeD] at e
    exact ⟨Nat.succ_pos _, by rw [← e]; simp⟩
  | n + 1, i + 1, lo, d, e => by
    have q := rangeD_get n i (lo + 1) d (by simpa [rangeD] using e)
    refine ⟨Nat.succ_lt_succ q.1, ?_⟩
    rw [q.2]
    congr 1
    omega
theorem jok_range {K : PySem.W.Frag} {ρ : List Addr} {S : Sto} {H : Hp} (lo : Int) (n : Nat) : Jok K ρ S H (rangeD lo n) (Itr lo n) := fun i ρ' S' H' f so => by
  refine ⟨fun d e => ?_, fun hl => by rw [rangeD_length] at hl; exact hl⟩
  obtain ⟨h1, rfl⟩ := rangeD_get n i lo d e
  refine ⟨h1, fun x H'' y => ?_⟩
  obtain ⟨rfl, rfl⟩ := y
  exact ⟨Fwd.refl, so, .int _⟩
section
variable {X : Cx} {E : XP} {tg : Expr}
theorem pi_mono {iter : Expr} {t t' : TI} (h : PI X tg iter t) (w : ∀ σ H Q, t' σ H Q → t σ H Q) : PI X tg iter t' := ⟨fun pins s σ H Q I q => h.run pins s σ H Q I (w σ H Q q)⟩
/-- a value that is a list; one that is a tuple -/
def asL (w : W) (S : Sto) : R (List D) := match w with
  | .v (.lst ds) => .ok ds S
  | _ => .bad
def asT (w : W) (S : Sto) : R (List D) := match w with
  | .v (.tup ds) => .ok ds S
  | _ => .bad
def itL (a : Den W) : Den (List D) := fun δ S => (a δ S).bind asL
def itT (a : Den W) : Den (List D) := fun δ S => (a δ S).bind asT
theorem di_list {e : Expr} {a : Den W} (h : PE X e (tE X.K E a)) : PI X tg e (tI X.K E (itL a)) := pi_mono (pi_list h) fun σ H Q ⟨δ, ρ, S, st, so, p⟩ => tG_then st so p fun w S1 v ρ1 H1 f1 st1 so1 r1 p1 => by
  cases w with
  | r i => exact p1.elim
  | s ns => exact p1.elim
  | v d =>
    cases d with
    | lst ds =>
      cases r1 with
      | lst e n rl => exact ⟨_, rfl, ⟨_, SqL.of e⟩, p1 _ ρ1 H1 Fwd.refl so1 (jok_list e n rl)⟩
    | _ => exact p1.elim
theorem di_tup {e : Expr} {a : Den W} (h : PE X e (tE X.K E a)) : PI X tg e (tI X.K E (itT a)) := pi_mono (pi_tup h) fun σ H Q ⟨δ, ρ, S, st, so, p⟩ => tG_then st so p fun w S1 v ρ1 H1 f1 st1 so1 r1 p1 => by
  cases w with
  | r i => exact p1.elim
  | s ns => exact p1.elim
  | v d =>
    cases d with
    | tup ds =>
      cases r1 with
      | tup e rl => exact ⟨_, rfl, ⟨_, e⟩, p1 _ ρ1 H1 Fwd.refl so1 (jok_tup e rl)⟩
    | _ => exact p1.elim
def asR (ws : List W) (S : Sto) : R (List D) := match ws with
  | [.v (.int n)] => if n < 1000000 then .ok (rangeD 0 n.toNat) S else .bad
  | _ => .bad
def itR (a : Den (List W)) : Den (List D) := fun δ S => (a δ S).bind asR
theorem asR_post {K : PySem.W.Frag} {ρ : List Addr} {S : Sto} {H : Hp} {ws : List W} {vs : List V} {Q : It → Hp → Prop} {Ex} (so : Sok K ρ S H) (r : RpWs K ρ S H ws vs) (p : Post K (Jok K) ρ S H (asR ws S) Q Ex) :
    ∃ n : Int, vs = [.int n] ∧ n < 1000000 ∧ Q (Itr 0 n.toNat) H := by
  unfold asR at p
  split at p
  · rename_i n
    cases r with
    | cons a b =>
      cases b
      cases a
      by_cases h : n < 1000000
      · rw [if_pos h] at p
        exact ⟨n, rfl, h, p _ ρ H Fwd.refl so (jok_range 0 _)⟩
      · rw [if_neg h] at p; exact p.elim
  · exact p.elim
/-- range(n): n from -2^62 on -/
def asR0 (ws : List W) (S : Sto) : R (List D) := match ws with
  | [.v (.int n)] => if 0 ≤ n ∧ n < 1000000 then .ok (rangeD 0 n.toNat) S else .bad
  | _ => .bad
def itR0 (a : Den (List W)) : Den (List D) := fun δ S => (a δ S).bind asR0
theorem di_range {e : Expr} {p pos : Pos} {a : Den (List W)} (hm : X.mg "range" = none) (h : PA X [e] (tA X.K E a)) (hg : Gl X "range" := by rfl) (hs : starEach [e] X.env = [(false, eval e X.env)] := by rfl) :
    PI X tg (.Call (.Name "range" p) [e] [] pos) (tI X.K E (itR0 a)) := pi_mono (pi_range1 hg hm h hs) fun σ H Q ⟨δ, ρ, S, st, so, p⟩ => tG_then st so p fun ws S1 vs ρ1 H1 f1 st1 so1 r1 p1 => by
  unfold asR0 at p1
  split at p1
  · rename_i n
    cases r1 with
    | cons a b =>
      cases b
      cases a
      by_cases h : 0 ≤ n ∧ n < 1000000
      · rw [if_pos h] at p1
        refine ⟨n, rfl, ?_, ?_, p1 _ ρ1 H1 Fwd.refl so1 (jok_range 0 _)⟩
        · have : (0 : Int) ≤ n := h.1
          exact Int.le_trans (by decide) this
        · exact Int.lt_trans h.2 (by decide)
      · rw [if_neg h] at p1; exact p1.elim
  · exact p1.elim

/-! ### for -/
def forL (dg : DenG) (body : DenS) : List D → Slots → Sto → RS
  | [], δ, S => .nx δ S
  | d :: ds, δ, S => match dg (.v d) δ S with
    | none => .bad
    | some (δ1, S1) => match body δ1 S1 with
      | .nx δ2 S2 => forL dg body ds δ2 S2
      | .ct δ2 S2 => forL dg body ds δ2 S2
      | .bk δ2 S2 => .nx δ2 S2
      | r => r
def cFor (it : Den (List D)) (dg : DenG) (body : DenS) : DenS := fun δ S => (it δ S).thenS δ fun ds S1 => forL dg body ds δ S1
theorem ds_for {iter : Expr} {body : List Stmt} {pos : Pos} {it : Den (List D)} {g : TG} {dg : DenG} {ts : List Nat} {b : DenS} (hp : PassesOwn (model X.prog X.w) X.A X.env X.xe) (hc : X.calm = true) (hi : PI X tg iter (tI X.K E it)) (hg : PG X tg g) (hgo : GOk X.K g dg ts)
    (hb : PSs X body (tS X.K E b)) (hs : ∀ x, foldedSetIterable iter X.env x = pure x := by intro _; rfl) : PS X (.For tg iter body [] pos) (tS X.K E (cFor it dg b)) :=
  ps_mono (ps_for hp hc hi hg hb hs) fun D' σ H ⟨δ, ρ, S, st, so, p⟩ => tG_thenS st so p fun ds S1 J ρ1 H1 f1 st1 so1 j1 p1 => by
    refine ⟨fun i m σ' H' => i + m = ds.length ∧ ∃ (δ' : Slots) (ρ' : List Addr) (S' : Sto), Fwd ρ1 S1 H1 ρ' S' H' ∧ RpSt X.K ρ' S' H' δ' σ' ∧ Sok X.K ρ' S' H' ∧ PostS X.K ρ' S' H' (forL dg b (ds.drop i) δ' S') D' E,
      ⟨ds.length, by omega, δ, ρ1, S1, Fwd.refl, st1, so1, by rw [List.drop_zero]; exact p1⟩, fun i m σ' H' hW => ?_⟩
    obtain ⟨em, δ', ρ', S', f', st', so', p'⟩ := hW
    obtain ⟨jg, js⟩ := j1 i ρ' S' H' f' so'
    by_cases hl : i < ds.length
    · have ed : ds.drop i = ds[i] :: ds.drop (i + 1) := List.drop_eq_getElem_cons hl
      rw [ed] at p'
      obtain ⟨g1, g2⟩ := jg ds[i] (List.getElem?_eq_getElem hl)
      refine .inr ⟨g1, fun σ2 H2 => ∃ (δ2 : Slots) (ρ2 : List Addr) (S2 : Sto), Fwd ρ1 S1 H1 ρ2 S2 H2 ∧ RpSt X.K ρ2 S2 H2 δ2 σ2 ∧ Sok X.K ρ2 S2 H2 ∧ PostS X.K ρ2 S2 H2 (forL dg b (ds.drop (i + 1)) δ2 S2) D' E, fun σ2 H2 ⟨δ2, ρ2, S2, a1, a2, a3, a4⟩ => ⟨m - 1, by omega, by omega, δ2, ρ2, S2, a1, a2, a3, a4⟩, fun x H3 y => ?_⟩
      obtain ⟨fy, soy, ry⟩ := g2 x H3 y
      unfold forL at p'
      cases q : dg (.v ds[i]) δ' S' with
      | none => simp only [q] at p'; exact p'.elim
      | some z =>
        obtain ⟨δ3, S3⟩ := z
        simp only [q] at p'
        refine hgo ρ' S' H3 δ' σ' (.v ds[i]) x _ δ3 S3 (fy.st st') soy ry q fun σ4 ρ4 H4 f4 so4 st4 _ _ => ?_
        have p4 := PostS.later (fy.trans f4) p'
        have f14 : Fwd ρ1 S1 H1 ρ4 S3 H4 := f'.trans (fy.trans f4)
        refine ⟨δ3, ρ4, S3, st4, so4, ?_⟩
        cases qb : b δ3 S3 with
        | nx δ5 S5 => simp only [qb] at p4; exact fun σ5 ρ5 H5 f5 so5 st5 => ⟨δ5, ρ5, S5, f14.trans f5, st5, so5, PostS.later f5 p4⟩
        | ct δ5 S5 => simp only [qb] at p4; exact fun σ5 ρ5 H5 f5 so5 st5 => ⟨δ5, ρ5, S5, f14.trans f5, st5, so5, PostS.later f5 p4⟩
        | bk δ5 S5 => simp only [qb] at p4; exact p4
        | rt w S5 => simp only [qb] at p4; exact p4
        | xc c cs w S5 => simp only [qb] at p4; exact p4
        | bad => simp only [qb] at p4; exact p4
    · refine .inl ⟨js (by omega), ?_⟩
      rw [List.drop_eq_nil_of_le (by omega)] at p'
      exact p' σ' ρ' H' Fwd.refl so' st'

/-! ### while -/
def whileN (t : Den Bool) (b : DenS) : Nat → Slots → Sto → RS
  | 0, _, _ => .bad
  | n + 1, δ, S => (t δ S).thenS δ fun c S1 => if c then (match b δ S1 with
      | .nx δ2 S2 => whileN t b n δ2 S2
      | .ct δ2 S2 => whileN t b n δ2 S2
      | .bk δ2 S2 => .nx δ2 S2
      | r => r) else .nx δ S1
def cWhile (n : Nat) (t : Den Bool) (b : DenS) : DenS := fun δ S => whileN t b n δ S
theorem ds_while {c : Expr} {body : List Stmt} {pos : Pos} {t : Den Bool} {b : DenS} (n : Nat) (hp : PassesOwn (model X.prog X.w) X.A X.env X.xe) (hc : PT X c (tT X.K E t)) (hb : PSs X body (tS X.K E b)) : PS X (.While c body [] pos) (tS X.K E (cWhile n t b)) :=
  ps_mono (ps_while hp hc hb) fun D' σ H ⟨δ, ρ, S, st, so, p⟩ => by
    refine ⟨fun m σ' H' => ∃ (δ' : Slots) (ρ' : List Addr) (S' : Sto), RpSt X.K ρ' S' H' δ' σ' ∧ Sok X.K ρ' S' H' ∧ PostS X.K ρ' S' H' (whileN t b m δ' S') D' E, ⟨n, δ, ρ, S, st, so, p⟩, fun m σ' H' hW => ?_⟩
    obtain ⟨δ', ρ', S', st', so', p'⟩ := hW
    cases m with
    | zero => exact p'.elim
    | succ m =>
      unfold whileN at p'
      refine tG_thenS st' so' p' fun c S1 v ρ1 H1 f1 st1 so1 r1 p1 => ?_
      cases r1
      cases c with
      | false => rw [if_neg Bool.false_ne_true]; exact p1 σ' ρ1 H1 Fwd.refl so1 st1
      | true =>
        rw [if_pos rfl]
        refine ⟨fun σ2 H2 => ∃ (δ2 : Slots) (ρ2 : List Addr) (S2 : Sto), RpSt X.K ρ2 S2 H2 δ2 σ2 ∧ Sok X.K ρ2 S2 H2 ∧ PostS X.K ρ2 S2 H2 (whileN t b m δ2 S2) D' E, fun σ2 H2 hN => ⟨m, Nat.lt_succ_self m, hN⟩, δ', ρ1, S1, st1, so1, ?_⟩
        have p2 : PostS X.K ρ1 S1 H1 (match b δ' S1 with
          | .nx δ2 S2 => whileN t b m δ2 S2
          | .ct δ2 S2 => whileN t b m δ2 S2
          | .bk δ2 S2 => .nx δ2 S2
          | r => r) D' E := p1
        cases qb : b δ' S1 with
        | nx δ5 S5 => simp only [qb] at p2; exact fun σ5 ρ5 H5 f5 so5 st5 => ⟨δ5, ρ5, S5, st5, so5, PostS.later f5 p2⟩
        | ct δ5 S5 => simp only [qb] at p2; exact fun σ5 ρ5 H5 f5 so5 st5 => ⟨δ5, ρ5, S5, st5, so5, PostS.later f5 p2⟩
        | bk δ5 S5 => simp only [qb] at p2; exact p2
        | rt w S5 => simp only [qb] at p2; exact p2
        | xc c cs w S5 => simp only [qb] at p2; exact p2
        | bad => simp only [qb] at p2; exact p2
end

/-! ### parts of a store -/
theorem Sok.sub {K : PySem.W.Frag} {ρ ρ1 : List Addr} {S S1 : Sto} {H : Hp} (so : Sok K ρ S H) (hl : ρ1.length = S1.length) (nd : ρ1.Nodup) (hs : ∀ (i : Nat) (a : Addr) (o : Ob), ρ1[i]? = some a → S1[i]? = some o → ∃ j : Nat, ρ[j]? = some a ∧ S[j]? = some o) :
    Sok K ρ1 S1 H ∧ ∀ b, live ρ1 S1 b → live ρ S b := by
  have lv : ∀ b, live ρ1 S1 b → live ρ S b := fun b ⟨i, o, h1, h2, h3⟩ => let ⟨j, q1, q2⟩ := hs i b o h1 h2; ⟨j, o, q1, q2, h3⟩
  refine ⟨⟨hl, nd, fun i a o h1 h2 => ?_⟩, lv⟩
  obtain ⟨j, q1, q2⟩ := hs i a o h1 h2
  have q := so.obs j a o q1 q2
  cases o with
  | lst ds => obtain ⟨xs, e, r⟩ := q; exact ⟨xs, e, r.mono (fun _ _ _ z => z) (fun _ _ z => z) (fun _ _ _ z => z) fun b l => .inl (lv b l)⟩
  | dct ds => obtain ⟨xs, e, r⟩ := q; exact ⟨xs, e, r.mono (fun _ _ _ z => z) (fun _ _ z => z) (fun _ _ _ z => z) fun b l => .inl (lv b l)⟩
  | dead => exact q
theorem Sok.take {K : PySem.W.Frag} {ρ : List Addr} {S : Sto} {H : Hp} (so : Sok K ρ S H) (n : Nat) : Sok K (ρ.take n) (S.take n) H ∧ ∀ b, live (ρ.take n) (S.take n) b → live ρ S b := by
  refine so.sub (by rw [List.length_take, List.length_take, so.len]) (so.nd.sublist (List.take_sublist _ _)) fun i a o h1 h2 => ?_
  rw [List.getElem?_take] at h1 h2
  split at h1
  · rename_i hi
    rw [if_pos hi] at h2
    exact ⟨i, h1, h2⟩
  · cases h1
theorem Rp.weak {K : PySem.W.Frag} {H : Hp} {M M' : Addr → Prop} {d : D} {v : V} (h : Rp K H M d v) (hm : ∀ b, M' b → M b) : Rp K H M' d v := h.mono (fun _ _ _ z => z) (fun _ _ z => z) (fun _ _ _ z => z) fun b l => .inl (hm b l)
theorem RpL.weak {K : PySem.W.Frag} {H : Hp} {M M' : Addr → Prop} {d : List D} {v : List V} (h : RpL K H M d v) (hm : ∀ b, M' b → M b) : RpL K H M' d v := h.mono (fun _ _ _ z => z) (fun _ _ z => z) (fun _ _ _ z => z) fun b l => .inl (hm b l)
theorem RpE.weak {K : PySem.W.Frag} {H : Hp} {M M' : Addr → Prop} {d : List (Tx × D)} {v : List (Key × V)} (h : RpE K H M d v) (hm : ∀ b, M' b → M b) : RpE K H M' d v := h.mono (fun _ _ _ z => z) (fun _ _ z => z) (fun _ _ _ z => z) fun b l => .inl (hm b l)
/-- what the store had in the end is let go; the rest as it is -/
theorem Fwd.cut {ρ ρ' : List Addr} {S S' : Sto} {H H' : Hp} (f : Fwd ρ S H ρ' S' H') (hl : ρ.length = S.length) (hl' : ρ'.length = S'.length) : Fwd ρ S H ρ (S'.take S.length) H' := by
  obtain ⟨more, e⟩ := f.ext
  refine ⟨⟨[], by simp⟩, f.keep, f.tups, f.frzs, fun b l => f.new b ?_⟩
  obtain ⟨i, o, h1, h2, h3⟩ := l
  rw [List.getElem?_take] at h2
  split at h2
  · rename_i hi
    exact ⟨i, o, by rw [e, List.getElem?_append_left (by omega)]; exact h1, h2, h3⟩
  · cases h2
end Fro

namespace Fro
open PySem PySem.Spec L2

/-! ### defs -/
inductive Rv where
  | v (d : D) | old (i : Nat) | new (ob : Ob)
abbrev FDen := List W → Sto → R Rv
def chk (n : Nat) (fd : FDen) : FDen := fun ws S => if ws.length = n then fd ws S else .bad
def PostF (K : PySem.W.Frag) (ρ : List Addr) (S : Sto) (H : Hp) (r : R Rv) (Q : VK) (E : Nat → List D → List Addr → Sto → Hp → Prop) : Prop :=
  match r with
  | .ok (.v d) S' => ∀ (v : V) (H' : Hp), Fwd ρ S H ρ S' H' → Sok K ρ S' H' → Rp K H' (live ρ S') d v → Q v H'
  | .ok (.old i) S' => ∀ (a : Addr) (H' : Hp), Fwd ρ S H ρ S' H' → Sok K ρ S' H' → ρ[i]? = some a → Q (.ref a) H'
  | .ok (.new ob) S' => ∀ (a : Addr) (H' : Hp), Fwd ρ S H (ρ ++ [a]) (S' ++ [ob]) H' → Sok K (ρ ++ [a]) (S' ++ [ob]) H' → Q (.ref a) H'
  | .exc c ds S' => ∀ (H' : Hp), Fwd ρ S H ρ S' H' → Sok K ρ S' H' → E c ds ρ S' H'
  | .bad => False
def spF (K : PySem.W.Frag) (n : Nat) (fd : FDen) : Sp := fun vs H Q _ => ∃ (ws : List W) (ρ : List Addr) (S : Sto), RpWs K ρ S H ws vs ∧ Sok K ρ S H ∧ PostF K ρ S H (chk n fd ws S) Q fun _ _ _ _ _ => False
def retv (n : Nat) (w : W) (S : Sto) : R Rv := match w with
  | .v d => .ok (.v d) (S.take n)
  | .r i => if i < n then .ok (.old i) (S.take n) else match S[i]? with
    | some ob => .ok (.new ob) (S.take n)
    | none => .bad
  | .s _ => .bad
def slots0 (n : Nat) (ws : List W) : Slots := ws.map some ++ List.replicate (n - ws.length) none
def endF (n : Nat) (r : RS) : R Rv := match r with
  | .rt w S' => retv n w S'
  | .nx _ S' => .ok (.v .non) (S'.take n)
  | .xc c ds _ S' => .exc c ds (S'.take n)
  | _ => .bad
/-- a def with n slots -/
def fdef (n : Nat) (body : DenS) : FDen := fun ws S => endF S.length (body (slots0 n ws) S)
theorem take_pre {α : Type} {l m : List α} {n : Nat} (h : l.length = n) : (l ++ m).take n = l := by
  subst h
  simp
theorem start_rp {K : PySem.W.Frag} {ρ : List Addr} {S : Sto} {H : Hp} {N : List Str} {ws : List W} {vs : List V} (h : RpWs K ρ S H ws vs) : RpSt K ρ S H (slots0 N.length ws) (L2.start N vs) := by
  refine ⟨by unfold slots0 L2.start; simp [h.length], fun i w e => ?_⟩
  unfold slots0 at e
  have hi : i < ws.length := by
    rcases Nat.lt_or_ge i ws.length with z | z
    · exact z
    · rw [List.getElem?_append_right (by rw [List.length_map]; exact z)] at e
      rw [List.getElem?_replicate] at e
      split at e <;> cases e
  rw [List.getElem?_append_left (by rw [List.length_map]; exact hi), List.getElem?_map] at e
  have e2 : ws[i]? = some w := by
    cases q : ws[i]? with
    | none => rw [q] at e; cases e
    | some u => rw [q] at e; cases e; rfl
  have get : ∀ {ws : List W} {vs : List V} (i : Nat), RpWs K ρ S H ws vs → ws[i]? = some w → ∃ v, vs[i]? = some v ∧ RpW K ρ S H w v := by
    intro ws vs i h
    induction h generalizing i with
    | nil => intro e; simp at e
    | cons a b ih =>
      cases i with
      | zero => intro e; simp at e; subst e; exact ⟨_, rfl, a⟩
      | succ i => intro e; obtain ⟨v, q1, q2⟩ := ih i (by simpa using e); exact ⟨v, by simpa using q1, q2⟩
  obtain ⟨v, q1, q2⟩ := get i h e2
  refine ⟨v, ?_, q2⟩
  unfold L2.start
  have hv : i < vs.length := by rw [← h.length]; exact hi
  rw [List.getElem?_append_left (by rw [List.length_map]; exact hv), List.getElem?_map, q1]
  rfl
section
variable {P : Program} {w : World} {K : PySem.W.Frag} {mg : Str → Option Value} {base : Heap}
theorem end_post {ρ : List Addr} {S : Sto} {H : Hp} {r : RS} {Q : VK} (so : Sok K ρ S H) (p : PostF K ρ S H (endF S.length r) Q fun _ _ _ _ _ => False) : PostS K ρ S H r { nx := fun _ H' => Q .non H', rt := Q } XP0 := by
  have cutS : ∀ {ρ' : List Addr} {S' : Sto} {H' : Hp}, Fwd ρ S H ρ' S' H' → Sok K ρ' S' H' → Fwd ρ S H ρ (S'.take S.length) H' ∧ Sok K ρ (S'.take S.length) H' ∧ ∀ b, live ρ (S'.take S.length) b → live ρ' S' b := fun {ρ' S' H'} f so' => by
    obtain ⟨more, e⟩ := f.ext
    have t := so'.take S.length
    rw [e, take_pre so.len, ← e] at t
    exact ⟨f.cut so.len so'.len, t.1, t.2⟩
  cases r with
  | nx δ S' => exact fun σ ρ' H' f so' st => let ⟨a, b, c⟩ := cutS f so'; p .non H' a b .non
  | bk δ S' => exact p.elim
  | ct δ S' => exact p.elim
  | xc c ds δ S' => exact fun σ ρ' H' f so' st => let ⟨a, b, c⟩ := cutS f so'; p H' a b
  | bad => exact p
  | rt u S' =>
    intro v ρ' H' f so' r
    obtain ⟨fc, sc, lc⟩ := cutS f so'
    cases u with
    | s ns => exact p.elim
    | v d => exact p v H' fc sc (r.weak lc)
    | r i =>
      obtain ⟨a, rfl, ea⟩ := r
      obtain ⟨more, em⟩ := f.ext
      by_cases hi : i < S.length
      · have p' : PostF K ρ S H (.ok (.old i) (S'.take S.length)) Q fun _ _ _ _ _ => False := by
          have : endF S.length (.rt (.r i) S') = .ok (.old i) (S'.take S.length) := by simp only [endF, retv, if_pos hi]
          rw [this] at p; exact p
        refine p' a H' fc sc ?_
        rw [em, List.getElem?_append_left (by rw [so.len]; exact hi)] at ea
        exact ea
      · cases qo : S'[i]? with
        | none =>
          have : endF S.length (.rt (.r i) S') = .bad := by simp only [endF, retv, if_neg hi, qo]
          rw [this] at p; exact p.elim
        | some ob =>
          have p' : PostF K ρ S H (.ok (.new ob) (S'.take S.length)) Q fun _ _ _ _ _ => False := by
            have : endF S.length (.rt (.r i) S') = .ok (.new ob) (S'.take S.length) := by simp only [endF, retv, if_neg hi, qo]
            rw [this] at p; exact p
          have hSl : S.length ≤ S'.length := by
            have := so'.len
            rw [em, List.length_append, so.len] at this
            omega
          have sub := so'.sub (ρ1 := ρ ++ [a]) (S1 := S'.take S.length ++ [ob]) (by rw [List.length_append, List.length_append, List.length_take, so.len]; simp; omega) (by
            rw [List.nodup_append]
            refine ⟨so.nd, by simp, fun x hx y hy e => ?_⟩
            rw [List.mem_singleton] at hy
            subst hy; subst e
            obtain ⟨j, hj⟩ := List.getElem?_of_mem hx
            have hjl : j < ρ.length := by
              rcases Nat.lt_or_ge j ρ.length with z | z
              · exact z
              · rw [List.getElem?_eq_none z] at hj; cases hj
            have : j = i := ndx so'.nd (by rw [em, List.getElem?_append_left hjl]; exact hj) ea
            rw [so.len] at hjl
            omega) (fun j x o h1 h2 => by
            by_cases hj : j < ρ.length
            · rw [List.getElem?_append_left hj] at h1
              rw [List.getElem?_append_left (by rw [List.length_take]; rw [so.len] at hj; omega), List.getElem?_take] at h2
              split at h2
              · exact ⟨j, by rw [em, List.getElem?_append_left hj]; exact h1, h2⟩
              · cases h2
            · rw [List.getElem?_append_right (by omega)] at h1
              rw [List.getElem?_append_right (by rw [List.length_take]; rw [so.len] at hj; omega)] at h2
              rw [show (S'.take S.length).length = ρ.length by rw [List.length_take, so.len]; omega] at h2
              have hz : j - ρ.length = 0 := by
                cases hz : j - ρ.length with
                | zero => rfl
                | succ n => rw [hz] at h1; simp at h1
              rw [hz] at h1 h2
              simp at h1 h2
              subst h1; subst h2
              exact ⟨i, ea, qo⟩)
          refine p' a H' ⟨⟨[a], rfl⟩, f.keep, f.tups, f.frzs, fun b l => f.new b (sub.2 b l)⟩ sub.1
/-- a def of the text keeps the promise that its body's denotation makes -/
theorem fn_den {x qual : Str} {st : Stmt} {f : Addr} {fd : FuncData} {N ps : List Str} {k : Nat} {body : DenS} (F : Fun K x qual st f fd) (S : FnScope N ps (defScope st))
    (hb : ∀ (cdv : Value) (A : Around) (outer : List Env) (s : Shared) (H : Hp) (E : XK), Room k (A.deeper (PyProof.Rows.envOfC qual (defScope st) s.heap.objs.size f cdv)) → PSs (cxOf CX0 P w K mg base N qual (defScope st) f cdv A outer s H E).nox (defBody st) (tS K XP0 body)) :
    FnOk P w K mg base CX0 (k + 1) f fd ps (spF K ps.length (fdef N.length body)) := by
  refine F.ok S (fun vs H Q E h => ?_) (fun cdv A outer s H vs Q E hr h => ?_)
  · obtain ⟨ws, ρ, S, r, so, p⟩ := h
    by_cases hl : ws.length = ps.length
    · rw [← r.length]; exact hl
    · unfold chk at p; rw [if_neg hl] at p; exact p.elim
  · obtain ⟨ws, ρ, S, r, so, p⟩ := h
    by_cases hl : ws.length = ps.length
    · unfold chk at p
      rw [if_pos hl] at p
      exact ⟨_, hb cdv A outer s H E hr, slots0 N.length ws, ρ, S, start_rp r, so, end_post so p⟩
    · unfold chk at p; rw [if_neg hl] at p; exact p.elim
end

/-! ### calls -/
def cRes (rv : Rv) (S : Sto) : R W := match rv with
  | .v d => .ok (.v d) S
  | .old i => .ok (.r i) S
  | .new (.lst ds) => .ok (.v (.lst ds)) S
  | .new (.dct es) => .ok (.v (.dct es)) S
  | .new .dead => .bad
def cResM (rv : Rv) (S : Sto) : R W := match rv with
  | .v d => .ok (.v d) S
  | .old i => .ok (.r i) S
  | .new ob => .ok (.r S.length) (S ++ [ob])
def cCall (n : Nat) (f : FDen) (a : Den (List W)) (dws : List W) : Den W := fun δ S => (a δ S).bind fun ws S1 => (chk n f (ws ++ dws) S1).bind cRes
def cCallM (n : Nat) (f : FDen) (a : Den (List W)) (dws : List W) : Den W := fun δ S => (a δ S).bind fun ws S1 => (chk n f (ws ++ dws) S1).bind cResM
theorem res_post {K : PySem.W.Frag} {ρ : List Addr} {S : Sto} {H : Hp} {r : R Rv} {Q : VK} (so : Sok K ρ S H) (p : Post K (RpW K) ρ S H (r.bind cRes) Q fun _ _ _ _ _ => False) : PostF K ρ S H r Q fun _ _ _ _ _ => False := by
  cases r with
  | bad => exact p
  | exc c ds S' => exact fun H' f so' => p ρ H' f so'
  | ok rv S' =>
    cases rv with
    | v d => exact fun v H' f so' r => p v ρ H' f so' r
    | old i => exact fun a H' f so' r => p (.ref a) ρ H' f so' ⟨a, rfl, r⟩
    | new ob =>
      intro a H' f so'
      have hl : ρ.length = S'.length := by
        have := so'.len
        rw [List.length_append, List.length_append] at this
        simpa using this
      have t := so'.take ρ.length
      rw [take_pre rfl, take_pre hl.symm] at t
      have fc : Fwd ρ S H ρ S' H' := ⟨⟨[], by simp⟩, f.keep, f.tups, f.frzs, fun b l => f.new b (live_left hl l)⟩
      have na : ¬ live ρ S' a := fun ⟨i, o, h1, _, _⟩ => by
        have h2 : (ρ ++ [a])[ρ.length]? = some a := by simp
        have hi : i < ρ.length := by
          rcases Nat.lt_or_ge i ρ.length with z | z
          · exact z
          · rw [List.getElem?_eq_none z] at h1; cases h1
        have : i = ρ.length := ndx so'.nd (by rw [List.getElem?_append_left hi]; exact h1) h2
        omega
      have q := so'.obs ρ.length a ob (by simp) (by rw [hl]; simp)
      cases ob with
      | lst ds => obtain ⟨xs, e, rl⟩ := q; exact p (.ref a) ρ H' fc t.1 (Rp.lst e na (rl.weak t.2))
      | dct ds => obtain ⟨xs, e, rl⟩ := q; exact p (.ref a) ρ H' fc t.1 (Rp.dct e na (rl.weak t.2))
      | dead => exact p.elim
theorem resM_post {K : PySem.W.Frag} {ρ : List Addr} {S : Sto} {H : Hp} {r : R Rv} {Q : VK} (so : Sok K ρ S H) (p : Post K (RpW K) ρ S H (r.bind cResM) Q fun _ _ _ _ _ => False) : PostF K ρ S H r Q fun _ _ _ _ _ => False := by
  cases r with
  | bad => exact p
  | exc c ds S' => exact fun H' f so' => p ρ H' f so'
  | ok rv S' =>
    cases rv with
    | v d => exact fun v H' f so' r => p v ρ H' f so' r
    | old i => exact fun a H' f so' r => p (.ref a) ρ H' f so' ⟨a, rfl, r⟩
    | new ob =>
      intro a H' f so'
      have hl : ρ.length = S'.length := by
        have := so'.len
        rw [List.length_append, List.length_append] at this
        simpa using this
      exact p (.ref a) (ρ ++ [a]) H' f so' ⟨a, rfl, by rw [← hl]; simp⟩
section
variable {X : Cx}
theorem de_call {x : Str} {p pos : Pos} {e : Expr} {es : List Expr} {a : Den (List W)} {den : FDen} {k n : Nat} {f : Addr} {fd : FuncData} {ps : List Str} {ds : List Value} {dvs : List V} {dws : List W} (F : FnOk X.prog X.w X.K X.mg X.base CX0 k f fd ps (spF X.K n den)) (hr : Room k X.A)
    (hm : X.mg x = some (.ref f)) (hk : PySem.W.keepIn X.K (.ref f) = true) (hb : Binds X.K fd ps ds) (hd : Vals dvs ds) (hw : ∀ ρ S H, RpWs X.K ρ S H dws dvs) (ha : PA X (e :: es) (tA X.K XP0 a)) (hg : Gl X x := by rfl)
    (hdb : (x == ("__debug__" : Str)) = false := by decide) (he : starEach (e :: es) X.env = (false, eval e X.env) :: starEach es X.env := by rfl) (hpl : (backTo pos (starEach es X.env)).any (·.1) = false := by rfl) :
    PE X (.Call (.Name x p) (e :: es) [] pos) (tE X.K XP0 (cCall n den a dws)) := pe_mono (pe_call F hr hg hm hk hb hd pass0 ha hdb he hpl) fun σ H Q ⟨δ, ρ, S, st, so, q⟩ => tG_then st so q fun ws S1 vs ρ1 H1 f1 st1 so1 r1 p1 => ⟨ws ++ dws, ρ1, S1, r1.append (hw _ _ _), so1, res_post so1 p1⟩
theorem de_callM {x : Str} {p pos : Pos} {e : Expr} {es : List Expr} {a : Den (List W)} {den : FDen} {k n : Nat} {f : Addr} {fd : FuncData} {ps : List Str} {ds : List Value} {dvs : List V} {dws : List W} (F : FnOk X.prog X.w X.K X.mg X.base CX0 k f fd ps (spF X.K n den)) (hr : Room k X.A)
    (hm : X.mg x = some (.ref f)) (hk : PySem.W.keepIn X.K (.ref f) = true) (hb : Binds X.K fd ps ds) (hd : Vals dvs ds) (hw : ∀ ρ S H, RpWs X.K ρ S H dws dvs) (ha : PA X (e :: es) (tA X.K XP0 a)) (hg : Gl X x := by rfl)
    (hdb : (x == ("__debug__" : Str)) = false := by decide) (he : starEach (e :: es) X.env = (false, eval e X.env) :: starEach es X.env := by rfl) (hpl : (backTo pos (starEach es X.env)).any (·.1) = false := by rfl) :
    PE X (.Call (.Name x p) (e :: es) [] pos) (tE X.K XP0 (cCallM n den a dws)) := pe_mono (pe_call F hr hg hm hk hb hd pass0 ha hdb he hpl) fun σ H Q ⟨δ, ρ, S, st, so, q⟩ => tG_then st so q fun ws S1 vs ρ1 H1 f1 st1 so1 r1 p1 => ⟨ws ++ dws, ρ1, S1, r1.append (hw _ _ _), so1, resM_post so1 p1⟩
end

/-! ### list comprehensions -/
def wipeD (δ : Slots) : List Nat → Slots
  | [] => δ
  | v :: vs => (wipeD δ vs).set v none
theorem wipeD_length (δ : Slots) : ∀ vs : List Nat, (wipeD δ vs).length = δ.length
  | [] => rfl
  | v :: vs => by
    show ((wipeD δ vs).set v none).length = _
    rw [List.length_set, wipeD_length δ vs]
theorem wipeD_some {δ : Slots} {i : Nat} {w : W} : ∀ {vs : List Nat}, (wipeD δ vs)[i]? = some (some w) → δ[i]? = some (some w) ∧ i ∉ vs
  | [], e => ⟨e, by simp⟩
  | v :: vs, e => by
    have e' : ((wipeD δ vs).set v none)[i]? = some (some w) := e
    by_cases hv : v = i
    · subst hv
      by_cases hl : v < (wipeD δ vs).length
      · rw [List.getElem?_set_self hl] at e'; cases e'
      · rw [List.getElem?_eq_none (by rw [List.length_set]; omega)] at e'; cases e'
    · rw [List.getElem?_set_ne hv] at e'
      obtain ⟨h1, h2⟩ := wipeD_some e'
      exact ⟨h1, fun z => by
        rcases List.mem_cons.mp z with q | q
        · exact hv q.symm
        · exact h2 q⟩
theorem wipe_in {σ : L2.St} {i : Nat} (hl : i < σ.length) : ∀ {vs : List Nat}, i ∈ vs → (wipe σ vs)[i]? = some none
  | v :: vs, h => by
    show ((wipe σ vs).set v none)[i]? = some none
    by_cases hv : v = i
    · subst hv
      exact List.getElem?_set_self (by rw [wipe_length]; exact hl)
    · rw [List.getElem?_set_ne hv]
      rcases List.mem_cons.mp h with q | q
      · exact absurd q.symm hv
      · exact wipe_in hl q
theorem wipe_rp {K : PySem.W.Frag} {ρ : List Addr} {S : Sto} {H : Hp} {δ : Slots} {σ : L2.St} (vs : List Nat) (h : RpSt K ρ S H δ σ) : RpSt K ρ S H (wipeD δ vs) (wipe σ vs) := by
  refine ⟨by rw [wipeD_length, wipe_length]; exact h.1, fun i w e => ?_⟩
  obtain ⟨h1, h2⟩ := wipeD_some e
  obtain ⟨v, q1, q2⟩ := h.2 i w h1
  exact ⟨v, by rw [wipe_out h2]; exact q1, q2⟩
theorem wipe_same {σ σ' : L2.St} {vs ts : List Nat} (ht : ∀ j ∈ ts, j ∈ vs) (hl : σ'.length = (wipe σ vs).length) (hk : ∀ j, j ∉ ts → σ'[j]? = (wipe σ vs)[j]?) : wipe σ' vs = wipe σ vs := by
  apply List.ext_getElem?
  intro j
  by_cases hj : j ∈ vs
  · by_cases hlt : j < σ.length
    · rw [wipe_in hlt hj, wipe_in (by rw [hl, wipe_length]; exact hlt) hj]
    · rw [List.getElem?_eq_none (by rw [wipe_length, hl, wipe_length]; omega), List.getElem?_eq_none (by rw [wipe_length]; omega)]
  · rw [wipe_out hj, hk j fun z => hj (ht j z)]
def R.noexc {α : Type} (r : R α) : R α := match r with
  | .exc _ _ _ => .bad
  | r => r
@[simp] theorem R.noexc_ok {α : Type} (a : α) (S : Sto) : (R.ok a S).noexc = R.ok a S := rfl
def compL (dg : DenG) (tt : Den Bool) (te : Den W) (n : Nat) : List D → Slots → Sto → R Unit
  | [], _, S => .ok () S
  | d :: ds, δ, S => match dg (.v d) δ S with
    | none => .bad
    | some (δ1, S1) => (tt δ1 S1).noexc.bind fun c S2 => if c then (te δ1 S2).noexc.bind fun w S3 => match w, S3[n]? with
        | .v e, some (.lst acc) => if acc.length < 1000000 then compL dg tt te n ds δ (S3.set n (.lst (acc ++ [e]))) else .bad
        | _, _ => .bad
      else compL dg tt te n ds δ S2
def cComp (it : Den (List D)) (dg : DenG) (tt : Den Bool) (te : Den W) (vs : List Nat) : Den W := fun δ S => (it δ S).bind fun ds S1 =>
  (compL dg tt te S1.length ds (wipeD δ vs) (S1 ++ [.lst []])).bind fun _ S2 => if S2.length = S1.length + 1 then (match S2[S1.length]? with
    | some (.lst acc) => .ok (.v (.lst acc)) (S2.take S1.length)
    | _ => .bad) else .bad
def cCompM (it : Den (List D)) (dg : DenG) (tt : Den Bool) (te : Den W) (vs : List Nat) : Den W := fun δ S => (it δ S).bind fun ds S1 =>
  (compL dg tt te S1.length ds (wipeD δ vs) (S1 ++ [.lst []])).bind fun _ S2 => .ok (.r S1.length) S2
section
variable {K : PySem.W.Frag} {E : XP}
theorem comp_post {it : Den (List D)} {g : TG} {dg : DenG} {ts vs : List Nat} {tt : Den Bool} {te : Den W} (hg : GOk K g dg ts) (ht : ∀ j ∈ ts, j ∈ vs) {kf : Sto → Sto → R W} {σ : L2.St} {H : Hp} {Q : VK}
    (hkf : ∀ (ρ1 ρ2 : List Addr) (S1 S2 : Sto) (H1 H2 : Hp) (D' : Addr), Sok K ρ1 S1 H1 → H1 D' = none → Fwd ρ1 S1 H1 ρ2 S2 H2 → Sok K ρ2 S2 H2 → ρ2[S1.length]? = some D' → Post K (RpW K) ρ1 S1 H1 (kf S1 S2) Q (E σ) → Q (.ref D') H2)
    (h : tE K E (fun δ S => (it δ S).bind fun ds S1 => (compL dg tt te S1.length ds (wipeD δ vs) (S1 ++ [.lst []])).bind fun _ S2 => kf S1 S2) σ H Q) : tLc (tI K E it) g (tT K XP0 tt) (tE K XP0 te) vs σ H Q := by
  obtain ⟨δ, ρ, S, st, so, p⟩ := h
  refine tG_then st so p fun ds S1 J ρ1 H1 f1 st1 so1 j1 p1 => fun D' nD => ?_
  have fg : Fwd ρ1 S1 H1 (ρ1 ++ [D']) (S1 ++ [.lst []]) (upd H1 D' (.lst [])) := Fwd.grown so1 nD _
  have sg : Sok K (ρ1 ++ [D']) (S1 ++ [.lst []]) (upd H1 D' (.lst [])) := so1.grown nD _ ⟨[], upd_same, .nil⟩
  refine ⟨fun i m H' => i + m = ds.length ∧ ∃ (ρ' : List Addr) (S' : Sto), Fwd ρ1 S1 H1 ρ' S' H' ∧ ρ'[S1.length]? = some D' ∧ Sok K ρ' S' H' ∧ Post K (RpW K) ρ1 S1 H1 ((compL dg tt te S1.length (ds.drop i) (wipeD δ vs) S').bind fun _ S2 => kf S1 S2) Q (E σ),
    ⟨ds.length, by omega, _, _, fg, by rw [← so1.len]; simp, sg, by rw [List.drop_zero]; exact p1⟩, fun i m H' hW => ?_⟩
  obtain ⟨em, ρ', S', f', ed, so', p'⟩ := hW
  obtain ⟨jg, js⟩ := j1 i ρ' S' H' f' so'
  by_cases hl : i < ds.length
  · have edr : ds.drop i = ds[i] :: ds.drop (i + 1) := List.drop_eq_getElem_cons hl
    rw [edr] at p'
    obtain ⟨g1, g2⟩ := jg ds[i] (List.getElem?_eq_getElem hl)
    refine .inr ⟨g1, fun H2 => ∃ (ρ2 : List Addr) (S2 : Sto), Fwd ρ1 S1 H1 ρ2 S2 H2 ∧ ρ2[S1.length]? = some D' ∧ Sok K ρ2 S2 H2 ∧ Post K (RpW K) ρ1 S1 H1 ((compL dg tt te S1.length (ds.drop (i + 1)) (wipeD δ vs) S2).bind fun _ S2 => kf S1 S2) Q (E σ),
      fun H2 ⟨ρ2, S2, a1, a2, a3, a4⟩ => ⟨m - 1, by omega, by omega, ρ2, S2, a1, a2, a3, a4⟩, fun x H3 y => ?_⟩
    obtain ⟨fy, soy, ry⟩ := g2 x H3 y
    unfold compL at p'
    cases q : dg (.v ds[i]) (wipeD δ vs) S' with
    | none => simp only [q] at p'; exact p'.elim
    | some z =>
      obtain ⟨δ3, S3⟩ := z
      simp only [q] at p'
      have f3 : Fwd ρ1 S1 H1 ρ' S' H3 := f'.trans fy
      refine hg ρ' S' H3 (wipeD δ vs) (wipe σ vs) (.v ds[i]) x _ δ3 S3 (wipe_rp vs (f3.st st1)) soy ry q fun σ4 ρ4 H4 f4 so4 st4 l4 k4 => ?_
      refine ⟨wipe_same ht l4 k4, δ3, ρ4, S3, st4, so4, ?_⟩
      have f14 : Fwd ρ1 S1 H1 ρ4 S3 H4 := f3.trans f4
      have e4 : ρ4[S1.length]? = some D' := f4.at ed
      cases qt : tt δ3 S3 with
      | bad => rw [qt] at p'; exact p'.elim
      | exc c cs S5 => rw [qt] at p'; exact p'.elim
      | ok c S5 =>
        rw [qt] at p'
        intro b ρ5 H5 f5 so5 rb
        cases rb
        have f15 := f14.trans f5
        have e5 := f5.at e4
        cases c with
        | false =>
          rw [if_neg Bool.false_ne_true]
          exact ⟨ρ5, S5, f15, e5, so5, p'⟩
        | true =>
          rw [if_pos rfl]
          refine ⟨δ3, ρ5, S5, f5.st st4, so5, ?_⟩
          have p5 : Post K (RpW K) ρ1 S1 H1 (((te δ3 S5).noexc.bind fun w S3 => match w, S3[S1.length]? with
            | .v e, some (.lst acc) => if acc.length < 1000000 then compL dg tt te S1.length (ds.drop (i + 1)) (wipeD δ vs) (S3.set S1.length (.lst (acc ++ [e]))) else .bad
            | _, _ => .bad).bind fun _ S2 => kf S1 S2) Q (E σ) := p'
          cases qe : te δ3 S5 with
          | bad => rw [qe] at p5; exact p5.elim
          | exc c cs S6 => rw [qe] at p5; exact p5.elim
          | ok w S6 =>
            rw [qe] at p5
            intro y6 ρ6 H6 f6 so6 r6
            have f16 := f15.trans f6
            have e6 := f6.at e5
            cases w with
            | r j => exact p5.elim
            | s ns => exact p5.elim
            | v e =>
              cases qn : S6[S1.length]? with
              | none => simp only [R.noexc_ok, R.bind_ok, qn] at p5; exact p5.elim
              | some ob =>
                cases ob with
                | dct es => simp only [R.noexc_ok, R.bind_ok, qn] at p5; exact p5.elim
                | dead => simp only [R.noexc_ok, R.bind_ok, qn] at p5; exact p5.elim
                | lst acc =>
                  simp only [R.noexc_ok, R.bind_ok, qn] at p5
                  obtain ⟨xs, ex, rl⟩ := so6.obs _ _ _ e6 qn
                  by_cases ha : acc.length < 1000000
                  · simp only [if_pos ha] at p5
                    refine ⟨xs, ex, by rw [← rl.length]; exact Nat.lt_trans ha (by decide), ?_⟩
                    have fc : Fwd ρ6 S6 H6 ρ6 (S6.set S1.length (.lst (acc ++ [e]))) (upd H6 D' (.lst (xs ++ [y6]))) := Fwd.changed so6 e6 qn rfl
                    exact ⟨ρ6, _, f16.trans fc, e6, so6.changed e6 qn rfl ⟨_, upd_same, (fc.rpL rl).append (.cons (fc.rp r6) .nil)⟩, p5⟩
                  · simp only [if_neg ha] at p5; exact p5.elim
  · refine .inl ⟨js (by omega), ?_⟩
    rw [List.drop_eq_nil_of_le (by omega)] at p'
    exact hkf ρ1 ρ' S1 S' H1 H' D' so1 nD f' so' ed p'
end
section
variable {X : Cx} {E : XP}
theorem de_comp {elt tg iter : Expr} {ifs : List Expr} {scope : Scope} {own : List (Str × Nat)} {pos : Pos} {it : Den (List D)} {g : TG} {dg : DenG} {ts : List Nat} {tt : Den Bool} {te : Den W} (hc : X.calm = true) (hN : X.N.Nodup) (hi : PI X tg iter (tI X.K E it)) (hgo : GOk X.K g dg ts) (ok : blkC X.N X.env.scope scope own = true)
    (hg : ∀ (s : Shared) (H : Hp) (C : Addr) (cl : List (Str × Addr)) (fp : List Addr), PG (X.blk s H scope (compEnvC scope cl C X.env) fp) tg g) (ht : ∀ (s : Shared) (H : Hp) (C : Addr) (cl : List (Str × Addr)) (fp : List Addr), PTs (X.blk s H scope (compEnvC scope cl C X.env) fp) ifs (tT X.K XP0 tt))
    (he : ∀ (s : Shared) (H : Hp) (C : Addr) (cl : List (Str × Addr)) (fp : List Addr), PE (X.blk s H scope (compEnvC scope cl C X.env) fp) elt (tE X.K XP0 te)) (hs : ∀ x, foldedSetIterable iter X.env x = pure x := by intro _; rfl) (hts : ∀ j ∈ ts, j ∈ own.map (·.2) := by decide) :
    PE X (.ListComp elt [⟨tg, iter, ifs, 0⟩] scope pos) (tE X.K E (cComp it dg tt te (own.map (·.2)))) := pe_mono (pe_lc hc hN hi (blkOk_by ok) hg ht he hs) fun σ H Q h => by
  refine comp_post hgo hts (kf := fun S1 S2 => if S2.length = S1.length + 1 then (match S2[S1.length]? with
    | some (.lst acc) => .ok (.v (.lst acc)) (S2.take S1.length)
    | _ => .bad) else .bad) (fun ρ1 ρ2 S1 S2 H1 H2 D' so1 nD f so2 e p => ?_) h
  by_cases hl : S2.length = S1.length + 1
  · simp only [if_pos hl] at p
    cases q : S2[S1.length]? with
    | none => rw [q] at p; exact p.elim
    | some ob =>
      cases ob with
      | dct es => rw [q] at p; exact p.elim
      | dead => rw [q] at p; exact p.elim
      | lst acc =>
        rw [q] at p
        obtain ⟨xs, ex, rl⟩ := so2.obs _ _ _ e q
        obtain ⟨more, em⟩ := f.ext
        have t := so2.take S1.length
        rw [em, take_pre so1.len, ← em] at t
        refine p (.ref D') ρ1 H2 (f.cut so1.len so2.len) t.1 (Rp.lst ex (fun l => so1.notIn nD ?_) (rl.weak t.2))
        obtain ⟨j, o, h1, _, _⟩ := l
        exact List.mem_of_getElem? h1
  · simp only [if_neg hl] at p; exact p.elim
theorem de_compM {elt tg iter : Expr} {ifs : List Expr} {scope : Scope} {own : List (Str × Nat)} {pos : Pos} {it : Den (List D)} {g : TG} {dg : DenG} {ts : List Nat} {tt : Den Bool} {te : Den W} (hc : X.calm = true) (hN : X.N.Nodup) (hi : PI X tg iter (tI X.K E it)) (hgo : GOk X.K g dg ts) (ok : blkC X.N X.env.scope scope own = true)
    (hg : ∀ (s : Shared) (H : Hp) (C : Addr) (cl : List (Str × Addr)) (fp : List Addr), PG (X.blk s H scope (compEnvC scope cl C X.env) fp) tg g) (ht : ∀ (s : Shared) (H : Hp) (C : Addr) (cl : List (Str × Addr)) (fp : List Addr), PTs (X.blk s H scope (compEnvC scope cl C X.env) fp) ifs (tT X.K XP0 tt))
    (he : ∀ (s : Shared) (H : Hp) (C : Addr) (cl : List (Str × Addr)) (fp : List Addr), PE (X.blk s H scope (compEnvC scope cl C X.env) fp) elt (tE X.K XP0 te)) (hs : ∀ x, foldedSetIterable iter X.env x = pure x := by intro _; rfl) (hts : ∀ j ∈ ts, j ∈ own.map (·.2) := by decide) :
    PE X (.ListComp elt [⟨tg, iter, ifs, 0⟩] scope pos) (tE X.K E (cCompM it dg tt te (own.map (·.2)))) := pe_mono (pe_lc hc hN hi (blkOk_by ok) hg ht he hs) fun σ H Q h => by
  refine comp_post hgo hts (kf := fun S1 S2 => .ok (.r S1.length) S2) (fun ρ1 ρ2 S1 S2 H1 H2 D' so1 nD f so2 e p => ?_) h
  exact p (.ref D') ρ2 H2 f so2 ⟨D', rfl, e⟩
theorem blk_by {N : List Str} {sc scope : Scope} {own : List (Str × Nat)} (h : blkC N sc scope own = true) : blkC N sc scope own = true := h
def cYes : Den Bool := fun _ S => .ok true S
theorem dts_nil : PTs X [] (tT X.K E cYes) := pts_mono pts_nil fun σ H Q ⟨δ, ρ, S, st, so, p⟩ => p true ρ H Fwd.refl so rfl
theorem dts_one {c : Expr} {t : Den Bool} (h : PT X c (tT X.K E t)) : PTs X [c] (tT X.K E t) := pts_one h
end
end Fro

namespace Fro
open PySem PySem.Spec L2

/-! ### what is read of a value -/
def rd (S : Sto) : W → Option D
  | .v d => some d
  | .r i => match S[i]? with
    | some (.lst ds) => some (.lst ds)
    | some (.dct es) => some (.dct es)
    | _ => none
  | .s _ => none
inductive Rq (K : PySem.W.Frag) (H : Hp) (M : Addr → Prop) : D → V → Prop
  | of {d : D} {v : V} : Rp K H M d v → Rq K H M d v
  | lst {a : Addr} {xs : List V} {ds : List D} : H a = some (.lst xs) → RpL K H M ds xs → Rq K H M (.lst ds) (.ref a)
  | dct {a : Addr} {kvs : List (Key × V)} {es : List (Tx × D)} : H a = some (.dK kvs) → RpE K H M es kvs → Rq K H M (.dct es) (.ref a)
section
variable {K : PySem.W.Frag} {ρ : List Addr} {S : Sto} {H : Hp} {M : Addr → Prop} {v : V}
theorem rd_ok {w : W} {d : D} (so : Sok K ρ S H) (r : RpW K ρ S H w v) (e : rd S w = some d) : Rq K H (live ρ S) d v := by
  cases w with
  | v d' => cases e; exact .of r
  | s ns => cases e
  | r i =>
    obtain ⟨a, rfl, ea⟩ := r
    unfold rd at e
    cases q : S[i]? with
    | none => simp only [q] at e; cases e
    | some ob =>
      cases ob with
      | lst ds =>
        simp only [q] at e
        cases e
        obtain ⟨xs, ex, rl⟩ := so.obs i a _ ea q
        exact .lst ex rl
      | dct ds =>
        simp only [q] at e
        cases e
        obtain ⟨xs, ex, rl⟩ := so.obs i a _ ea q
        exact .dct ex rl
      | dead => simp only [q] at e; cases e
theorem Rq.int {i : Int} (h : Rq K H M (.int i) v) : v = .int i := by cases h with | of h => cases h; rfl
theorem Rq.bl {i : Bool} (h : Rq K H M (.bl i) v) : v = .bl i := by cases h with | of h => cases h; rfl
theorem Rq.str {i : Tx} (h : Rq K H M (.str i) v) : v = .str (sx i) := by cases h with | of h => cases h; rfl
theorem Rq.non (h : Rq K H M .non v) : v = .non := by cases h with | of h => cases h; rfl
theorem Rq.ty {i : Ty} (h : Rq K H M (.ty i) v) : v = .ty i.nm := by cases h with | of h => cases h; rfl
theorem Rq.tup {ds : List D} (h : Rq K H M (.tup ds) v) : ∃ a xs, v = .ref a ∧ SqT K H a xs ∧ RpL K H M ds xs := by cases h with | of h => cases h with | tup a b => exact ⟨_, _, rfl, a, b⟩
theorem Rq.lstE {ds : List D} (h : Rq K H M (.lst ds) v) : ∃ a xs, v = .ref a ∧ H a = some (.lst xs) ∧ RpL K H M ds xs := by
  cases h with
  | of h => cases h with | lst a n b => exact ⟨_, _, rfl, a, b⟩
  | lst a b => exact ⟨_, _, rfl, a, b⟩
theorem Rq.dctE {es : List (Tx × D)} (h : Rq K H M (.dct es) v) : ∃ a kvs, v = .ref a ∧ H a = some (.dK kvs) ∧ RpE K H M es kvs := by
  cases h with
  | of h => cases h with | dct a n b => exact ⟨_, _, rfl, a, b⟩
  | dct a b => exact ⟨_, _, rfl, a, b⟩
end

/-! ### operators -/
/-- what follows an operation on data that keeps the store -/
def Nxt (K : PySem.W.Frag) (ρ : List Addr) (S : Sto) (H : Hp) (d : D) (Q : VK) : Prop := ∀ (v : V) (H' : Hp), Fwd ρ S H ρ S H' → Sok K ρ S H' → Rp K H' (live ρ S) d v → Q v H'
def G2 (K : PySem.W.Frag) (r : R2) (g : D → D → Option D) : Prop := ∀ (ρ : List Addr) (S : Sto) (H : Hp) (d e z : D) (x y : V) (Q : VK), Sok K ρ S H → Rq K H (live ρ S) d x → Rq K H (live ρ S) e y → g d e = some z → Nxt K ρ S H z Q → r x y H Q
def ap2 (g : D → D → Option D) (x y : W) (S : Sto) : R W := match rd S x, rd S y with
  | some d, some e => (match g d e with
    | some r => .ok (.v r) S
    | none => .bad)
  | _, _ => .bad
def op2 (g : D → D → Option D) (a b : Den W) : Den W := fun δ S => (a δ S).bind fun x S1 => (b δ S1).bind fun y S2 => ap2 g x y S2
section
variable {K : PySem.W.Frag} {ρ : List Addr} {S : Sto} {H : Hp}
theorem ap2_post {r : R2} {g : D → D → Option D} (hg : G2 K r g) {w u : W} {x y : V} {Q : VK} {Ex} (so : Sok K ρ S H) (rw1 : RpW K ρ S H w x) (rw2 : RpW K ρ S H u y) (p : Post K (RpW K) ρ S H (ap2 g w u S) Q Ex) : r x y H Q := by
  unfold ap2 at p
  cases q1 : rd S w with
  | none => simp only [q1] at p; exact p.elim
  | some d =>
    cases q2 : rd S u with
    | none => simp only [q1, q2] at p; exact p.elim
    | some e =>
      cases q3 : g d e with
      | none => simp only [q1, q2, q3] at p; exact p.elim
      | some z =>
        simp only [q1, q2, q3] at p
        exact hg ρ S H d e z x y Q so (rd_ok so rw1 q1) (rd_ok so rw2 q2) q3 fun v H' f so' rp => p v ρ H' f so' rp
end
section
variable {X : Cx} {E : XP} {e e' : Expr} {pos : Pos} {a b : Den W}
theorem op2_then {r : R2} {g : D → D → Option D} (hg : G2 X.K r g) {σ : L2.St} {H : Hp} {Q : VK} (h : tE X.K E (op2 g a b) σ H Q) : tOp r (tE X.K E a) (tE X.K E b) σ H Q := by
  obtain ⟨δ, ρ, S, st, so, p⟩ := h
  exact tG_then st so p fun w S1 x ρ1 H1 f1 st1 so1 r1 p1 => tG_then st1 so1 p1 fun u S2 y ρ2 H2 f2 st2 so2 r2 p2 => ap2_post hg so2 (f2.rw r1) r2 p2
theorem de_bin {op : Operator} {r : R2} {g : D → D → Option D} (ho : OpR X (binaryOp op) r) (hg : G2 X.K r g) (ha : PE X e (tE X.K E a)) (hb : PE X e' (tE X.K E b)) : PE X (.BinOp e op e' pos) (tE X.K E (op2 g a b)) :=
  pe_mono (pe_op ho ha hb) fun σ H Q h => op2_then hg h
theorem de_cmp {op : CmpOp} {r : R2} {g : D → D → Option D} (ho : OpR X (compareOp op) r) (hg : G2 X.K r g) (ha : PE X e (tE X.K E a)) (hb : PE X e' (tE X.K E b)) (hm : behindInMarks op e' = false := by first | exact nobehind _ (by decide) (by decide) | rfl) : PE X (.Compare e [op] [e'] pos) (tE X.K E (op2 g a b)) :=
  pe_mono (pe_cmpR ho ha hb hm) fun σ H Q h => op2_then hg h
theorem dt_cmp {op : CmpOp} {r : R2} {g : D → D → Option D} (ho : OpR X (compareOp op) r) (hg : G2 X.K r g) (ha : PE X e (tE X.K E a)) (hb : PE X e' (tE X.K E b)) (hm : behindInMarks op e' = false := by first | exact nobehind _ (by decide) (by decide) | rfl) : PT X (.Compare e [op] [e'] pos) (tT X.K E (cB (op2 g a b))) :=
  pt_mono (pt_cmpR ho ha hb hm) fun σ H Q ⟨δ, ρ, S, st, so, p⟩ => op2_then hg (tG_then st so p fun w S1 v ρ1 H1 f1 st1 so1 r1 p1 => asB_post so1 r1 p1)
/-- a op b op' c -/
def cChain (g g' : D → D → Option D) (a b c : Den W) : Den W := fun δ S => (a δ S).bind fun x S1 => (b δ S1).bind fun y S2 => (ap2 g x y S2).bind fun z S3 => (asB z S3).bind fun k S4 => if k then (c δ S4).bind fun u S5 => ap2 g' y u S5 else .ok (.v (.bl false)) S4
theorem chain_then {r r' : R2} {g g' : D → D → Option D} {c : Den W} (hg : G2 X.K r g) (hg' : G2 X.K r' g') {σ : L2.St} {H : Hp} {Q : VK} (h : tE X.K E (cChain g g' a b c) σ H Q) : tChain r r' (tE X.K E a) (tE X.K E b) (tE X.K E c) σ H Q := by
  obtain ⟨δ, ρ, S, st, so, p⟩ := h
  refine tG_then st so p fun w S1 x ρ1 H1 f1 st1 so1 r1 p1 => tG_then st1 so1 p1 fun u S2 y ρ2 H2 f2 st2 so2 r2 p2 => ?_
  have rx := f2.rw r1
  unfold ap2 at p2
  cases q1 : rd S2 w with
  | none => simp only [q1] at p2; exact p2.elim
  | some d =>
    cases q2 : rd S2 u with
    | none => simp only [q1, q2] at p2; exact p2.elim
    | some e =>
      cases q3 : g d e with
      | none => simp only [q1, q2, q3] at p2; exact p2.elim
      | some z =>
        simp only [q1, q2, q3, R.bind_ok] at p2
        refine hg ρ2 S2 H2 d e z x y _ so2 (rd_ok so2 rx q1) (rd_ok so2 r2 q2) q3 fun v H3 f3 so3 rp => ?_
        obtain ⟨k, rfl, p4⟩ := asB_then (w := .v z) rp (Post.later f3 p2)
        refine ⟨k, rfl, ?_⟩
        cases k with
        | false => rw [if_neg Bool.false_ne_true]; exact p4 _ ρ2 H3 Fwd.refl so3 (.bl false)
        | true =>
          rw [if_pos rfl]
          exact tG_then (f3.st st2) so3 p4 fun u2 S5 v5 ρ5 H5 f5 st5 so5 r5 p5 => ap2_post hg' so5 (f5.rw (f3.rw r2)) r5 p5
theorem de_chain {op op' : CmpOp} {r r' : R2} {g g' : D → D → Option D} {e'' : Expr} {c : Den W} (ho : OpR X (compareOp op) r) (ho' : OpR X (compareOp op') r') (hg : G2 X.K r g) (hg' : G2 X.K r' g') (ha : PE X e (tE X.K E a)) (hb : PE X e' (tE X.K E b)) (hc : PE X e'' (tE X.K E c))
    (hm : lastMarks [op, op'] [e', e''] = false := by with_unfolding_all rfl) : PE X (.Compare e [op, op'] [e', e''] pos) (tE X.K E (cChain g g' a b c)) := pe_mono (pe_chain ho ho' ha hb hc hm) fun σ H Q h => chain_then hg hg' h
theorem dt_chain {op op' : CmpOp} {r r' : R2} {g g' : D → D → Option D} {e'' : Expr} {c : Den W} (ho : OpR X (compareOp op) r) (ho' : OpR X (compareOp op') r') (hg : G2 X.K r g) (hg' : G2 X.K r' g') (ha : PE X e (tE X.K E a)) (hb : PE X e' (tE X.K E b)) (hc : PE X e'' (tE X.K E c))
    (hm : lastMarks [op, op'] [e', e''] = false := by with_unfolding_all rfl) : PT X (.Compare e [op, op'] [e', e''] pos) (tT X.K E (cB (cChain g g' a b c))) := pt_mono (pt_chain ho ho' ha hb hc hm) fun σ H Q ⟨δ, ρ, S, st, so, p⟩ => chain_then hg hg' (tG_then st so p fun w S1 v ρ1 H1 f1 st1 so1 r1 p1 => asB_post so1 r1 p1)
end

/-! ### data laid -/
section
variable {K : PySem.W.Frag} {ρ : List Addr} {S : Sto} {H : Hp} {Q : VK}
theorem nxt_lst {ds : List D} {xs : List V} (so : Sok K ρ S H) (r : RpL K H (live ρ S) ds xs) (n : Nxt K ρ S H (.lst ds) Q) (p : Addr) (np : H p = none) : Q (.ref p) (upd H p (.lst xs)) :=
  n _ _ (Fwd.laid so np) (so.laid np) (.lst upd_same (so.notNone np) ((Fwd.laid so np).rpL r))
theorem nxt_tup {ds : List D} {xs : List V} (so : Sok K ρ S H) (r : RpL K H (live ρ S) ds xs) (n : Nxt K ρ S H (.tup ds) Q) (p : Addr) (np : H p = none) : Q (.ref p) (upd H p (.tup xs)) :=
  n _ _ (Fwd.laid so np) (so.laid np) (.tup (SqT.of upd_same) ((Fwd.laid so np).rpL r))
theorem nxt_here {d : D} {v : V} (so : Sok K ρ S H) (r : Rp K H (live ρ S) d v) (n : Nxt K ρ S H d Q) : Q v H := n v H Fwd.refl so r
end

/-! ### ints -/
def gI (g : Int → Int → D) : D → D → Option D := fun d e => match d, e with
  | .int i, .int j => some (g i j)
  | _, _ => none
theorem g2_int {K : PySem.W.Frag} {h : Int → Int → V} {g : Int → Int → D} (hr : ∀ i j H M, Rp K H M (g i j) (h i j)) : G2 K (rI0 h) (gI g) := fun ρ S H d e z x y Q so rx ry q n => by
  unfold gI at q
  split at q
  · cases q
    exact ⟨_, _, rx.int, ry.int, nxt_here so (hr _ _ _ _) n⟩
  · cases q
def gIc (C : Int → Int → Prop) [∀ i j, Decidable (C i j)] (g : Int → Int → D) : D → D → Option D := fun d e => match d, e with
  | .int i, .int j => if C i j then some (g i j) else none
  | _, _ => none
theorem g2_intC {K : PySem.W.Frag} {C C' : Int → Int → Prop} [∀ i j, Decidable (C' i j)] {h : Int → Int → V} {g : Int → Int → D} (hc : ∀ i j, C' i j → C i j) (hr : ∀ i j H M, Rp K H M (g i j) (h i j)) : G2 K (rI C h) (gIc C' g) := fun ρ S H d e z x y Q so rx ry q n => by
  unfold gIc at q
  split at q
  · rename_i i j
    by_cases hC : C' i j
    · rw [if_pos hC] at q
      cases q
      exact ⟨_, _, rx.int, ry.int, hc _ _ hC, nxt_here so (hr _ _ _ _) n⟩
    · rw [if_neg hC] at q; cases q
  · cases q
abbrev gLt := gI fun i j => .bl (decide (i < j))
abbrev gLe := gI fun i j => .bl (decide (i ≤ j))
abbrev gGt := gI fun i j => .bl (decide (j < i))
abbrev gGe := gI fun i j => .bl (decide (j ≤ i))
abbrev gSub := gI fun i j => .int (i - j)
abbrev gDiv := gIc (fun _ j => 0 < j ∧ j < 1073741824) fun i j => .int (i / j)
abbrev gMod := gIc (fun _ j => 0 < j) fun i j => .int (i % j)
abbrev gPow := gIc (fun i j => 0 ≤ j ∧ j ≤ 1000000 ∧ i.natAbs < 18446744073709551616) fun i j => .int (i ^ j.toNat)
section
variable {X : Cx} {K : PySem.W.Frag}
theorem g2_lt : G2 K (rI0 fun i j => .bl (decide (i < j))) gLt := g2_int fun _ _ _ _ => .bl _
theorem g2_le : G2 K (rI0 fun i j => .bl (decide (i ≤ j))) gLe := g2_int fun _ _ _ _ => .bl _
theorem g2_gt : G2 K (rI0 fun i j => .bl (decide (j < i))) gGt := g2_int fun _ _ _ _ => .bl _
theorem g2_ge : G2 K (rI0 fun i j => .bl (decide (j ≤ i))) gGe := g2_int fun _ _ _ _ => .bl _
theorem g2_sub : G2 K (rI0 fun i j => .int (i - j)) gSub := g2_int fun _ _ _ _ => .int _
theorem g2_div : G2 K (rI CDiv fun i j => .int (i / j)) gDiv := g2_intC (fun _ _ h => h) fun _ _ _ _ => .int _
theorem g2_mod : G2 K (rI (fun _ j => 0 < j) fun i j => .int (i % j)) gMod := g2_intC (fun _ _ h => h) fun _ _ _ _ => .int _
theorem g2_pow : G2 K (rI CPow fun i j => .int (i ^ j.toNat)) gPow := g2_intC (fun _ _ h => ⟨h.1, h.2.1, Nat.lt_of_lt_of_le h.2.2 (by decide)⟩) fun _ _ _ _ => .int _
end
theorem lt_line {n : Nat} (h : n ≤ 1000000) : n ≤ sizeLine := Nat.le_trans h (by decide)
theorem sx_length (t : Tx) : (sx t).length = t.length := by simp [sx, Str.length]
theorem sx_append (t u : Tx) : sx t ++ sx u = sx (t ++ u) := by
  show Str.append _ _ = _
  simp [Str.append, sx]

/-! ### + -/
def gAdd : D → D → Option D := fun d e => match d, e with
  | .int i, .int j => some (.int (i + j))
  | .str t, .str u => if t.length + u.length ≤ 1000000 then some (.str (t ++ u)) else none
  | .lst ds, .lst es => if ds.length + es.length ≤ 1000000 then some (.lst (ds ++ es)) else none
  | .tup ds, .tup es => if ds.length + es.length ≤ 1000000 then some (.tup (ds ++ es)) else none
  | _, _ => none
def rAddA (K : PySem.W.Frag) : R2 := fun x y H Q => ((rI0 (fun i j => .int (i + j)) x y H Q ∨ (∃ i j, x = .str i ∧ y = .str j ∧ i.length + j.length ≤ sizeLine ∧ Q (.str (i ++ j)) H)) ∨ rCat x y H Q) ∨ rCatA K x y H Q
theorem op_addA {X : Cx} : OpR X (binaryOp .Add) (rAddA X.K) := ((op_add.or op_add_str).or op_cat).or op_catA
theorem g2_add {K : PySem.W.Frag} : G2 K (rAddA K) gAdd := fun ρ S H d e z x y Q so rx ry q n => by
  unfold gAdd at q
  split at q
  · cases q
    exact .inl (.inl (.inl ⟨_, _, rx.int, ry.int, nxt_here so (.int _) n⟩))
  · rename_i t u
    by_cases h : t.length + u.length ≤ 1000000
    · rw [if_pos h] at q
      cases q
      refine .inl (.inl (.inr ⟨_, _, rx.str, ry.str, by rw [sx_length, sx_length]; exact lt_line h, ?_⟩))
      rw [sx_append]
      exact nxt_here so (.str _) n
    · rw [if_neg h] at q; cases q
  · rename_i ds es
    by_cases h : ds.length + es.length ≤ 1000000
    · rw [if_pos h] at q
      cases q
      obtain ⟨a, xs, rfl, ha, ra⟩ := rx.lstE
      obtain ⟨b, ys, rfl, hb, rb⟩ := ry.lstE
      exact .inl (.inr ⟨a, b, xs, ys, rfl, rfl, ha, hb, by rw [← ra.length, ← rb.length]; exact lt_line h, nxt_lst so (ra.append rb) n⟩)
    · rw [if_neg h] at q; cases q
  · rename_i ds es
    by_cases h : ds.length + es.length ≤ 1000000
    · rw [if_pos h] at q
      cases q
      obtain ⟨a, xs, rfl, ha, ra⟩ := rx.tup
      obtain ⟨b, ys, rfl, hb, rb⟩ := ry.tup
      refine .inr ⟨a, b, xs, ys, rfl, rfl, ha, hb, by rw [← ra.length, ← rb.length]; exact lt_line h, fun e => ?_, fun _ e => ?_, fun _ _ => nxt_tup so (ra.append rb) n⟩
      · subst e
        cases ra
        exact nxt_here so (.tup hb rb) n
      · subst e
        cases rb
        rw [List.append_nil] at n
        exact nxt_here so (.tup ha ra) n
    · rw [if_neg h] at q; cases q
  · cases q

/-! ### times -/
def gMul : D → D → Option D := fun d e => match d, e with
  | .int i, .int j => if (-18446744073709551616 < i ∧ i < 18446744073709551616) ∨ (-18446744073709551616 < j ∧ j < 18446744073709551616) then some (.int (i * j)) else none
  | .lst ds, .int k => if k ≤ 1000 ∧ -1000 ≤ k ∧ ds.length ≤ 1000 then some (.lst (List.replicate k.toNat ds).flatten) else none
  | _, _ => none
def rMulA : R2 := fun x y H Q => rI CMul (fun i j => .int (i * j)) x y H Q ∨ rRep x y H Q
theorem op_mulA {X : Cx} : OpR X (binaryOp .Mult) rMulA := op_mul.or op_rep
theorem rpL_rep {K : PySem.W.Frag} {H : Hp} {M : Addr → Prop} {ds : List D} {xs : List V} (h : RpL K H M ds xs) : ∀ n : Nat, RpL K H M (List.replicate n ds).flatten (List.replicate n xs).flatten
  | 0 => .nil
  | n + 1 => by
    rw [List.replicate_succ, List.replicate_succ, List.flatten_cons, List.flatten_cons]
    exact h.append (rpL_rep h n)
theorem g2_mul {K : PySem.W.Frag} : G2 K rMulA gMul := fun ρ S H d e z x y Q so rx ry q n => by
  unfold gMul at q
  split at q
  · rename_i i j
    split at q
    · rename_i h
      cases q
      exact .inl ⟨_, _, rx.int, ry.int, by
        rcases h with h | h
        · exact .inl ⟨by have := h.1; omega, by have := h.2; omega⟩
        · exact .inr ⟨by have := h.1; omega, by have := h.2; omega⟩, nxt_here so (.int _) n⟩
    · cases q
  · rename_i ds k
    split at q
    · rename_i h
      cases q
      obtain ⟨a, xs, rfl, ha, ra⟩ := rx.lstE
      refine .inr ⟨a, k, xs, rfl, ry.int, ha, by have := h.2.1; omega, by have := h.1; omega, ?_, nxt_lst so (rpL_rep ra _) n⟩
      rw [← ra.length]
      have h1 : k.toNat ≤ 1000 := by have := h.1; omega
      exact lt_line (Nat.le_trans (Nat.mul_le_mul h.2.2 h1) (by decide))
    · cases q
  · cases q
end Fro

namespace Fro
open PySem PySem.Spec L2

/-! ### subscripts -/
def gIx : D → D → Option D := fun d e => match d, e with
  | .tup ds, .int i => atI ds i
  | .lst ds, .int i => atI ds i
  | .str t, .int i => if t.length ≤ 1000000 then (atI t i).map fun c => .str [c] else none
  | _, _ => none
def apIx (x y : W) (S : Sto) : R W := match x, y with
  | .s ns, .v (.int i) => (match atI ns i with
    | some n => .ok (.v (.int n)) S
    | none => .bad)
  | _, _ => ap2 gIx x y S
def cIx (a b : Den W) : Den W := fun δ S => (a δ S).bind fun x S1 => (b δ S1).bind fun y S2 => apIx x y S2
theorem rpL_at {K : PySem.W.Frag} {H : Hp} {M : Addr → Prop} {ds : List D} {xs : List V} {i : Int} {d : D} (h : RpL K H M ds xs) (e : atI ds i = some d) : ∃ v, atI xs i = some v ∧ Rp K H M d v := by
  unfold atI at e ⊢
  rw [← h.length]
  cases q : ixN ds.length i with
  | none => rw [q] at e; cases e
  | some j =>
    rw [q] at e
    exact h.get j e
theorem g2_ix {K : PySem.W.Frag} : G2 K (rIx K) gIx := fun ρ S H d e z x y Q so rx ry q n => by
  unfold gIx at q
  split at q
  · obtain ⟨a, xs, rfl, ha, ra⟩ := rx.tup
    obtain ⟨v, hv, rv⟩ := rpL_at ra q
    exact .inr (.inl ⟨a, xs, _, v, rfl, ry.int, ha, hv, nxt_here so rv n⟩)
  · obtain ⟨a, xs, rfl, ha, ra⟩ := rx.lstE
    obtain ⟨v, hv, rv⟩ := rpL_at ra q
    exact .inl ⟨a, xs, _, v, rfl, ry.int, SqL.of ha, hv, nxt_here so rv n⟩
  · rename_i t i
    by_cases h : t.length ≤ 1000000
    · rw [if_pos h] at q
      cases qc : atI t i with
      | none => rw [qc] at q; cases q
      | some c =>
        rw [qc] at q
        cases q
        exact .inr (.inr ⟨_, i, c, rx.str, ry.int, by rw [sx_length]; exact lt_line h, by simpa [sx] using qc, nxt_here so (.str [c]) n⟩)
    · rw [if_neg h] at q; cases q
  · cases q
theorem apIx_post {K : PySem.W.Frag} {ρ : List Addr} {S : Sto} {H : Hp} {w u : W} {x y : V} {Q : VK} {Ex} (so : Sok K ρ S H) (r1 : RpW K ρ S H w x) (r2 : RpW K ρ S H u y) (p : Post K (RpW K) ρ S H (apIx w u S) Q Ex) : rIx K x y H Q := by
  unfold apIx at p
  split at p
  · rename_i ns i
    obtain ⟨a, rfl, sc⟩ := r1
    cases r2
    cases q : atI ns i with
    | none => rw [q] at p; exact p.elim
    | some m =>
      rw [q] at p
      refine .inl ⟨a, ns.map V.int, i, .int m, rfl, rfl, sc.sq, ?_, p _ ρ H Fwd.refl so (.int m)⟩
      unfold atI at q ⊢
      rw [List.length_map]
      cases qj : ixN ns.length i with
      | none => rw [qj] at q; cases q
      | some j =>
        rw [qj] at q
        show (ns.map V.int)[j]? = some (.int m)
        rw [List.getElem?_map, show ns[j]? = some m from q]
        rfl
  · exact ap2_post g2_ix so r1 r2 p
theorem de_ix {X : Cx} {E : XP} {e e' : Expr} {pos : Pos} {a b : Den W} (ha : PE X e (tE X.K E a)) (hb : PE X e' (tE X.K E b)) (hs : PlainIx e' := by exact fun _ _ => rfl) : PE X (.Subscript e e' pos) (tE X.K E (cIx a b)) :=
  pe_mono (pe_ix ix_seq ha hb hs) fun σ H Q ⟨δ, ρ, S, st, so, p⟩ => tG_then st so p fun w S1 x ρ1 H1 f1 st1 so1 r1 p1 => tG_then st1 so1 p1 fun u S2 y ρ2 H2 f2 st2 so2 r2 p2 => apIx_post so2 (f2.rw r1) r2 p2

/-! ### == -/
mutual
def deq : D → D → Bool
  | .non, .non => true
  | .bl a, .bl b => a == b
  | .bl a, .int j => (if a then 1 else 0) == j
  | .int i, .bl b => i == (if b then 1 else 0)
  | .int i, .int j => i == j
  | .str x, .str y => x == y
  | .lst xs, .lst ys => deqL xs ys
  | .tup xs, .tup ys => deqL xs ys
  | _, _ => false
def deqL : List D → List D → Bool
  | [], [] => true
  | x :: xs, y :: ys => deq x y && deqL xs ys
  | _, _ => false
end
mutual
def okD : D → Bool
  | .non => true
  | .bl _ => true
  | .int _ => true
  | .str t => t.all fun c => decide (c < 1114112)
  | .tup ds => okDL ds
  | .lst ds => okDL ds
  | .dct _ => false
  | .ty _ => false
def okDL : List D → Bool
  | [] => true
  | d :: ds => okD d && okDL ds
end
mutual
def dep : D → Nat
  | .tup ds => depL ds + 1
  | .lst ds => depL ds + 1
  | .non => 0
  | .bl _ => 0
  | .int _ => 0
  | .str _ => 0
  | .dct _ => 0
  | .ty _ => 0
def depL : List D → Nat
  | [] => 0
  | d :: ds => max (dep d) (depL ds)
end
mutual
def py : D → PyData
  | .non => .none
  | .bl b => .bool b
  | .int i => .int i
  | .str t => .str (sx t)
  | .tup ds => .tuple (pyL ds)
  | .lst ds => .list (pyL ds)
  | .dct _ => .none
  | .ty _ => .none
def pyL : List D → List PyData
  | [] => []
  | d :: ds => py d :: pyL ds
end
mutual
theorem py_can : ∀ d : D, okD d = true → (py d).canLay0 = true
  | .non, _ => by simp only [py, PyData.canLay0]
  | .bl _, _ => by simp only [py, PyData.canLay0]
  | .int _, _ => by simp only [py, PyData.canLay0]
  | .str t, h => by
    simp only [okD] at h
    simp only [py, PyData.canLay0, PyData.strOk, sx]
    rw [← Array.all_toList]
    exact h
  | .tup ds, h => by
    simp only [py, PyData.canLay0]
    exact pyL_can ds (by simpa [okD] using h)
  | .lst ds, h => by
    simp only [py, PyData.canLay0]
    exact pyL_can ds (by simpa [okD] using h)
  | .dct _, h => by simp [okD] at h
  | .ty _, h => by simp [okD] at h
theorem pyL_can : ∀ ds : List D, okDL ds = true → PyData.canLayAll0 (pyL ds) = true
  | [], _ => by simp only [pyL, PyData.canLayAll0]
  | d :: ds, h => by
    have h' : okD d = true ∧ okDL ds = true := by simpa [okDL] using h
    simp only [pyL, PyData.canLayAll0, py_can d h'.1, pyL_can ds h'.2, Bool.and_self]
end
mutual
theorem py_dep : ∀ d : D, (py d).depth = dep d
  | .non => by simp only [py, PyData.depth, dep]
  | .bl _ => by simp only [py, PyData.depth, dep]
  | .int _ => by simp only [py, PyData.depth, dep]
  | .str _ => by simp only [py, PyData.depth, dep]
  | .tup ds => by simp only [py, PyData.depth, dep, pyL_dep ds]
  | .lst ds => by simp only [py, PyData.depth, dep, pyL_dep ds]
  | .dct _ => by simp only [py, PyData.depth, dep]
  | .ty _ => by simp only [py, PyData.depth, dep]
theorem pyL_dep : ∀ ds : List D, PyData.depthAll (pyL ds) = depL ds
  | [] => by simp only [pyL, PyData.depthAll, depL]
  | d :: ds => by simp only [pyL, PyData.depthAll, depL, py_dep d, pyL_dep ds]
end
theorem sx_beq (a b : Tx) : (sx a == sx b) = (a == b) := by
  by_cases h : a = b
  · subst h; simp
  · rw [beq_eq_false_iff_ne.mpr h, beq_eq_false_iff_ne.mpr fun e => h (sx_inj e)]
mutual
theorem py_eqv : ∀ d e : D, okD d = true → okD e = true → PyData.eqv (py d) (py e) = deq d e
  | .non, e, _, h => by cases e <;> simp_all [py, PyData.eqv, deq, okD]
  | .bl _, e, _, h => by cases e <;> simp_all [py, PyData.eqv, deq, okD]
  | .int _, e, _, h => by cases e <;> simp_all [py, PyData.eqv, deq, okD]
  | .str t, e, _, h => by
    cases e with
    | str u => simp only [py, PyData.eqv, deq, sx_beq]
    | _ => simp_all [py, PyData.eqv, deq, okD]
  | .tup ds, e, h1, h => by
    cases e with
    | tup es => simp only [py, PyData.eqv, deq]; exact pyL_eqv ds es (by simpa [okD] using h1) (by simpa [okD] using h)
    | _ => simp_all [py, PyData.eqv, deq, okD]
  | .lst ds, e, h1, h => by
    cases e with
    | lst es => simp only [py, PyData.eqv, deq]; exact pyL_eqv ds es (by simpa [okD] using h1) (by simpa [okD] using h)
    | _ => simp_all [py, PyData.eqv, deq, okD]
  | .dct _, _, h, _ => by simp [okD] at h
  | .ty _, _, h, _ => by simp [okD] at h
theorem pyL_eqv : ∀ ds es : List D, okDL ds = true → okDL es = true → PyData.eqvAll (pyL ds) (pyL es) = deqL ds es
  | [], [], _, _ => by simp only [pyL, PyData.eqvAll, deqL]
  | [], _ :: _, _, _ => by simp only [pyL, PyData.eqvAll, deqL]
  | _ :: _, [], _, _ => by simp only [pyL, PyData.eqvAll, deqL]
  | d :: ds, e :: es, h1, h2 => by
    have a1 : okD d = true ∧ okDL ds = true := by simpa [okDL] using h1
    have a2 : okD e = true ∧ okDL es = true := by simpa [okDL] using h2
    simp only [pyL, PyData.eqvAll, deqL, py_eqv d e a1.1 a2.1, pyL_eqv ds es a1.2 a2.2]
end
section
variable {K : PySem.W.Frag} {H : Hp} {M : Addr → Prop}
theorem rp_dp {d : D} {v : V} (h : Rp K H M d v) : okD d = true → Dp K H v (py d) :=
  Rp.rec (motive_1 := fun d v _ => okD d = true → Dp K H v (py d)) (motive_2 := fun ds vs _ => okDL ds = true → DpAll K H vs (pyL ds)) (motive_3 := fun _ _ _ => True)
    (fun _ => by simp only [py]; exact .non) (fun b _ => by simp only [py]; exact .bl b) (fun b _ => by simp only [py]; exact .int b) (fun b _ => by simp only [py]; exact .str _) (fun b h => by simp [okD] at h)
    (fun sq _ ih h => by simp only [py]; exact .tup sq (ih (by simpa [okD] using h))) (fun e n _ ih h => by simp only [py]; exact .lst (SqL.of e) (ih (by simpa [okD] using h))) (fun _ _ _ _ h => by simp [okD] at h)
    (fun _ => by simp only [pyL]; exact .nil) (fun {d ds v vs} _ _ ih1 ih2 h => by
      have a : okD d = true ∧ okDL ds = true := by simpa [okDL] using h
      simp only [pyL]; exact .cons (ih1 a.1) (ih2 a.2)) trivial (fun _ _ _ _ => trivial) h
theorem rpL_dp : ∀ {ds : List D} {vs : List V}, RpL K H M ds vs → okDL ds = true → DpAll K H vs (pyL ds)
  | _, _, .nil, _ => by simp only [pyL]; exact .nil
  | d :: ds, _, .cons a b, h => by
    have q : okD d = true ∧ okDL ds = true := by simpa [okDL] using h
    simp only [pyL]; exact .cons (rp_dp a q.1) (rpL_dp b q.2)
theorem rq_dp {d : D} {v : V} (h : Rq K H M d v) (ok : okD d = true) : Dp K H v (py d) := by
  cases h with
  | of h => exact rp_dp h ok
  | lst e r => simp only [py]; exact .lst (SqL.of e) (rpL_dp r (by simpa [okD] using ok))
  | dct e r => simp [okD] at ok
end
def gEq : D → D → Option D := fun d e => if (okD d && okD e && decide (min (dep d) (dep e) ≤ 64)) = true then some (.bl (deq d e)) else none
def gNe : D → D → Option D := fun d e => if (okD d && okD e && decide (min (dep d) (dep e) ≤ 64)) = true then some (.bl (!deq d e)) else none
def rEqM (K : PySem.W.Frag) (neg : Bool) : R2 := fun x y H Q => ∃ d e, Dp K H x d ∧ Dp K H y e ∧ d.canLay0 = true ∧ e.canLay0 = true ∧ min d.depth e.depth ≤ 64 ∧ Q (.bl (if neg = true then !PyData.eqv d e else PyData.eqv d e)) H
theorem hu64 {A : Around} {k : Nat} (hr : Room k A) : A.units + 64 < cLine := by have := hr.un; omega
section
variable {X : Cx} {k : Nat}
theorem op_eqM (hr : Room k X.A) : OpR X (compareOp .Eq) (rEqM X.K false) := by
  intro pins s σ H x y v u Q I rx ry h
  obtain ⟨d, e, hd, he, sd, se, hm, q⟩ := h
  obtain ⟨as, r1⟩ := Dp.reads I d x v hd rx
  obtain ⟨bs, r2⟩ := Dp.reads I e y u he ry
  exact SeqAt.compareEq_reads r1 r2 sd se (by have := hu64 hr; omega) ⟨.bl _, H, I, rfl, q⟩
theorem op_neM (hr : Room k X.A) : OpR X (compareOp .NotEq) (rEqM X.K true) := by
  intro pins s σ H x y v u Q I rx ry h
  obtain ⟨d, e, hd, he, sd, se, hm, q⟩ := h
  obtain ⟨as, r1⟩ := Dp.reads I d x v hd rx
  obtain ⟨bs, r2⟩ := Dp.reads I e y u he ry
  exact SeqAt.compareNe_reads r1 r2 sd se (by have := hu64 hr; omega) ⟨.bl _, H, I, rfl, q⟩
theorem g2_eq {K : PySem.W.Frag} : G2 K (rEqM K false) gEq := fun ρ S H d e z x y Q so rx ry q n => by
  unfold gEq at q
  split at q
  · rename_i h
    cases q
    simp only [Bool.and_eq_true, decide_eq_true_eq] at h
    refine ⟨py d, py e, rq_dp rx h.1.1, rq_dp ry h.1.2, py_can d h.1.1, py_can e h.1.2, by rw [py_dep, py_dep]; exact h.2, ?_⟩
    rw [if_neg Bool.false_ne_true, py_eqv d e h.1.1 h.1.2]
    exact nxt_here so (.bl _) n
  · cases q
theorem g2_ne {K : PySem.W.Frag} : G2 K (rEqM K true) gNe := fun ρ S H d e z x y Q so rx ry q n => by
  unfold gNe at q
  split at q
  · rename_i h
    cases q
    simp only [Bool.and_eq_true, decide_eq_true_eq] at h
    refine ⟨py d, py e, rq_dp rx h.1.1, rq_dp ry h.1.2, py_can d h.1.1, py_can e h.1.2, by rw [py_dep, py_dep]; exact h.2, ?_⟩
    rw [if_pos rfl, py_eqv d e h.1.1 h.1.2]
    exact nxt_here so (.bl _) n
  · cases q
end

/-! ### in -/
def flatD : D → Bool
  | .non => true
  | .bl _ => true
  | .int _ => true
  | .str _ => true
  | _ => false
def gInB (d e : D) : Option Bool := match e with
  | .tup es => if (flatD d && es.all flatD) = true then some (es.any fun y => deq y d) else none
  | .lst es => if (flatD d && es.all flatD) = true then some (es.any fun y => deq y d) else none
  | .str t => (match d with
    | .str [c] => some (decide (c ∈ t))
    | _ => none)
  | _ => none
def gIn : D → D → Option D := fun d e => (gInB d e).map .bl
def gNotIn : D → D → Option D := fun d e => (gInB d e).map fun b => .bl (!b)
def rInA (K : PySem.W.Frag) (neg : Bool) : R2 := fun x y H Q => rIn K neg x y H Q ∨ ∃ (c : Nat) (z : Str), x = .str ⟨#[c]⟩ ∧ y = .str z ∧ Q (.bl (if neg then !decide (c ∈ z.cps.toList) else decide (c ∈ z.cps.toList))) H
theorem op_inA {X : Cx} : OpR X (compareOp .In) (rInA X.K false) := by
  intro pins s σ H x y v u Q I rx ry h
  rcases h with h | h
  · exact op_in_seq pins s σ H x y v u Q I rx ry h
  · exact op_in_sign pins s σ H x y v u Q I rx ry h
theorem op_notInA {X : Cx} : OpR X (compareOp .NotIn) (rInA X.K true) := by
  intro pins s σ H x y v u Q I rx ry h
  rcases h with h | h
  · exact op_notIn_seq pins s σ H x y v u Q I rx ry h
  · exact op_notIn_sign pins s σ H x y v u Q I rx ry h
section
variable {K : PySem.W.Frag} {H : Hp} {M : Addr → Prop}
theorem rq_flat {d : D} {v : V} (h : Rq K H M d v) (f : flatD d = true) : flatV v = true := by
  cases d with
  | non => rw [h.non]; rfl
  | bl b => rw [h.bl]; rfl
  | int b => rw [h.int]; rfl
  | str b => rw [h.str]; rfl
  | _ => cases f
theorem eqV_deq {d e : D} {v u : V} (h : Rq K H M d v) (h' : Rq K H M e u) (f : flatD d = true) (f' : flatD e = true) : eqV v u = deq d e := by
  cases d with
  | non => cases e with
    | non => rw [h.non, h'.non]; rfl
    | bl b => rw [h.non, h'.bl]; rfl
    | int b => rw [h.non, h'.int]; rfl
    | str b => rw [h.non, h'.str]; rfl
    | _ => cases f'
  | bl c => cases e with
    | non => rw [h.bl, h'.non]; rfl
    | bl b => rw [h.bl, h'.bl]; rfl
    | int b => rw [h.bl, h'.int]; rfl
    | str b => rw [h.bl, h'.str]; rfl
    | _ => cases f'
  | int c => cases e with
    | non => rw [h.int, h'.non]; rfl
    | bl b => rw [h.int, h'.bl]; rfl
    | int b => rw [h.int, h'.int]; rfl
    | str b => rw [h.int, h'.str]; rfl
    | _ => cases f'
  | str c => cases e with
    | non => rw [h.str, h'.non]; rfl
    | bl b => rw [h.str, h'.bl]; rfl
    | int b => rw [h.str, h'.int]; rfl
    | str b => rw [h.str, h'.str]; show (sx c == sx b) = _; rw [sx_beq]; simp only [deq]
    | _ => cases f'
  | _ => cases f
theorem rpL_flat : ∀ {ds : List D} {vs : List V}, RpL K H M ds vs → ds.all flatD = true → vs.all flatV = true
  | _, _, .nil, _ => rfl
  | d :: ds, v :: vs, .cons a b, h => by
    rw [List.all_cons, Bool.and_eq_true] at h ⊢
    exact ⟨rq_flat (.of a) h.1, rpL_flat b h.2⟩
theorem rpL_in {d : D} {x : V} (hx : Rq K H M d x) (fx : flatD d = true) : ∀ {ds : List D} {vs : List V}, RpL K H M ds vs → ds.all flatD = true → inV x vs = ds.any fun y => deq y d
  | _, _, .nil, _ => rfl
  | e :: ds, v :: vs, .cons a b, h => by
    rw [List.all_cons, Bool.and_eq_true] at h
    have ih := rpL_in hx fx b h.2
    unfold inV at ih ⊢
    rw [List.any_cons, List.any_cons, ih, eqV_deq (.of a) hx h.1 fx]
end
theorem in_post {K : PySem.W.Frag} {ρ : List Addr} {S : Sto} {H : Hp} {d e : D} {x y : V} {b : Bool} {Q : VK} (neg : Bool) (rx : Rq K H (live ρ S) d x) (ry : Rq K H (live ρ S) e y) (q : gInB d e = some b) (n : Q (.bl (if neg then !b else b)) H) : rInA K neg x y H Q := by
  unfold gInB at q
  split at q
  · rename_i es
    split at q
    · rename_i h
      cases q
      rw [Bool.and_eq_true] at h
      obtain ⟨a, xs, rfl, ha, ra⟩ := ry.tup
      refine .inl ⟨a, xs, rfl, .inr ha, rq_flat rx h.1, rpL_flat ra h.2, ?_⟩
      rw [rpL_in rx h.1 ra h.2]; exact n
    · cases q
  · rename_i es
    split at q
    · rename_i h
      cases q
      rw [Bool.and_eq_true] at h
      obtain ⟨a, xs, rfl, ha, ra⟩ := ry.lstE
      refine .inl ⟨a, xs, rfl, .inl (SqL.of ha), rq_flat rx h.1, rpL_flat ra h.2, ?_⟩
      rw [rpL_in rx h.1 ra h.2]; exact n
    · cases q
  · split at q
    · rename_i t c
      cases q
      refine .inr ⟨c, _, rx.str, ry.str, ?_⟩
      have e : ∀ t : Tx, decide (c ∈ (sx t).cps.toList) = decide (c ∈ t) := fun t => by
        have e1 : (sx t).cps.toList = t := by simp [sx]
        rw [e1]
      rw [e]
      exact n
    · cases q
  · cases q
theorem g2_in {K : PySem.W.Frag} : G2 K (rInA K false) gIn := fun ρ S H d e z x y Q so rx ry q n => by
  unfold gIn at q
  cases qb : gInB d e with
  | none => rw [qb] at q; cases q
  | some b => rw [qb] at q; cases q; exact in_post false rx ry qb (nxt_here so (.bl b) n)
theorem g2_notIn {K : PySem.W.Frag} : G2 K (rInA K true) gNotIn := fun ρ S H d e z x y Q so rx ry q n => by
  unfold gNotIn at q
  cases qb : gInB d e with
  | none => rw [qb] at q; cases q
  | some b => rw [qb] at q; cases q; exact in_post true rx ry qb (nxt_here so (.bl (!b)) n)

/-! ### is None -/
def isNon : D → Bool
  | .non => true
  | _ => false
def gIs : D → D → Option D := fun d e => match e with
  | .non => some (.bl (isNon d))
  | _ => none
def gIsNot : D → D → Option D := fun d e => match e with
  | .non => some (.bl (!isNon d))
  | _ => none
theorem rq_isNon {K : PySem.W.Frag} {H : Hp} {M : Addr → Prop} {d : D} {v : V} (h : Rq K H M d v) : decide (v = .non) = isNon d := by
  cases d with
  | non => rw [h.non]; rfl
  | bl b => rw [h.bl]; rfl
  | int b => rw [h.int]; rfl
  | str b => rw [h.str]; rfl
  | ty b => rw [h.ty]; rfl
  | tup ds => obtain ⟨_, _, rfl, _⟩ := h.tup; rfl
  | lst ds => obtain ⟨_, _, rfl, _⟩ := h.lstE; rfl
  | dct ds => obtain ⟨_, _, rfl, _⟩ := h.dctE; rfl
theorem g2_is {K : PySem.W.Frag} : G2 K (fun x y H Q => y = .non ∧ Q (.bl (decide (x = .non))) H) gIs := fun ρ S H d e z x y Q so rx ry q n => by
  unfold gIs at q
  split at q
  · cases q
    refine ⟨ry.non, ?_⟩
    rw [rq_isNon rx]; exact nxt_here so (.bl _) n
  · cases q
theorem g2_isNot {K : PySem.W.Frag} : G2 K (fun x y H Q => y = .non ∧ Q (.bl (!decide (x = .non))) H) gIsNot := fun ρ S H d e z x y Q so rx ry q n => by
  unfold gIsNot at q
  split at q
  · cases q
    refine ⟨ry.non, ?_⟩
    rw [rq_isNon rx]; exact nxt_here so (.bl _) n
  · cases q
end Fro

namespace Fro
open PySem PySem.Spec L2

/-! ### built-in functions by data -/
def rdAll (S : Sto) : List W → Option (List D)
  | [] => some []
  | w :: ws => match rd S w, rdAll S ws with
    | some d, some ds => some (d :: ds)
    | _, _ => none
inductive RqL (K : PySem.W.Frag) (H : Hp) (M : Addr → Prop) : List D → List V → Prop
  | nil : RqL K H M [] []
  | cons {d : D} {ds : List D} {v : V} {vs : List V} : Rq K H M d v → RqL K H M ds vs → RqL K H M (d :: ds) (v :: vs)
theorem rdAll_ok {K : PySem.W.Frag} {ρ : List Addr} {S : Sto} {H : Hp} (so : Sok K ρ S H) : ∀ {ws : List W} {vs : List V} {ds : List D}, RpWs K ρ S H ws vs → rdAll S ws = some ds → RqL K H (live ρ S) ds vs
  | _, _, ds, .nil, e => by cases e; exact .nil
  | w :: ws, _, ds, .cons a b, e => by
    unfold rdAll at e
    cases q1 : rd S w with
    | none => rw [q1] at e; simp at e
    | some d =>
      cases q2 : rdAll S ws with
      | none => rw [q1, q2] at e; simp at e
      | some ds' =>
        rw [q1, q2] at e
        cases e
        exact .cons (rd_ok so a q1) (rdAll_ok so b q2)
def GN (K : PySem.W.Frag) (r : List V → Hp → VK → Prop) (g : List D → Option D) : Prop := ∀ (ρ : List Addr) (S : Sto) (H : Hp) (ds : List D) (z : D) (xs : List V) (Q : VK), Sok K ρ S H → RqL K H (live ρ S) ds xs → g ds = some z → Nxt K ρ S H z Q → r xs H Q
def apN (g : List D → Option D) (ws : List W) (S : Sto) : R W := match rdAll S ws with
  | some ds => (match g ds with
    | some r => .ok (.v r) S
    | none => .bad)
  | none => .bad
def cBlt (g : List D → Option D) (a : Den (List W)) : Den W := fun δ S => (a δ S).bind fun ws S1 => apN g ws S1
theorem apN_post {K : PySem.W.Frag} {ρ : List Addr} {S : Sto} {H : Hp} {r : List V → Hp → VK → Prop} {g : List D → Option D} (hg : GN K r g) {ws : List W} {xs : List V} {Q : VK} {Ex} (so : Sok K ρ S H) (rw1 : RpWs K ρ S H ws xs) (p : Post K (RpW K) ρ S H (apN g ws S) Q Ex) : r xs H Q := by
  unfold apN at p
  cases q1 : rdAll S ws with
  | none => simp only [q1] at p; exact p.elim
  | some ds =>
    cases q3 : g ds with
    | none => simp only [q1, q3] at p; exact p.elim
    | some z =>
      simp only [q1, q3] at p
      exact hg ρ S H ds z xs Q so (rdAll_ok so rw1 q1) q3 fun v H' f so' rp => p v ρ H' f so' rp
section
variable {X : Cx} {E : XP} {x : Str} {p pos : Pos} {e : Expr} {es : List Expr} {a : Den (List W)} {r : List V → Hp → VK → Prop} {g : List D → Option D}
theorem de_blt {id : String} (hc : CallR X (.builtin id) r) (hg : GN X.K r g) (hm : X.mg x = none) (hv : bootBuiltins x = some (.builtin id)) (ha : PA X (e :: es) (tA X.K E a)) (hgl : Gl X x := by rfl) (hn : x ≠ "__name__" := by decide) (hdb : (x == ("__debug__" : Str)) = false := by decide)
    (he : starEach (e :: es) X.env = (false, eval e X.env) :: starEach es X.env := by rfl) (hpl : (backTo pos (starEach es X.env)).any (·.1) = false := by rfl) : PE X (.Call (.Name x p) (e :: es) [] pos) (tE X.K E (cBlt g a)) :=
  pe_mono (pe_callB hc hgl hm hv ha hn hdb he hpl) fun σ H Q ⟨δ, ρ, S, st, so, q⟩ => tG_then st so q fun ws S1 vs ρ1 H1 f1 st1 so1 r1 p1 => apN_post hg so1 r1 p1
theorem de_bty {T : String} (hc : CallR X (.type T) r) (hg : GN X.K r g) (hm : X.mg x = none) (hv : bootBuiltins x = some (.type T)) (ha : PA X (e :: es) (tA X.K E a)) (hgl : Gl X x := by rfl) (hn : x ≠ "__name__" := by decide) (hdb : (x == ("__debug__" : Str)) = false := by decide)
    (he : starEach (e :: es) X.env = (false, eval e X.env) :: starEach es X.env := by rfl) (hpl : (backTo pos (starEach es X.env)).any (·.1) = false := by rfl) : PE X (.Call (.Name x p) (e :: es) [] pos) (tE X.K E (cBlt g a)) :=
  pe_mono (pe_callTy hc hgl hm hv ha hn hdb he hpl) fun σ H Q ⟨δ, ρ, S, st, so, q⟩ => tG_then st so q fun ws S1 vs ρ1 H1 f1 st1 so1 r1 p1 => apN_post hg so1 r1 p1
end
/-- len -/
def gLen : List D → Option D := fun ds => match ds with
  | [.lst es] => some (.int es.length)
  | [.tup es] => some (.int es.length)
  | [.str t] => if t.length ≤ 1000000 then some (.int t.length) else none
  | _ => none
def apLen (ws : List W) (S : Sto) : R W := match ws with
  | [.s ns] => .ok (.v (.int ns.length)) S
  | _ => apN gLen ws S
def cLen (a : Den (List W)) : Den W := fun δ S => (a δ S).bind fun ws S1 => apLen ws S1
theorem gn_len {K : PySem.W.Frag} : GN K (fun xs H Q => ∃ x n, xs = [x] ∧ LenV K x H n ∧ Q (.int n) H) gLen := fun ρ S H ds z xs Q so rx q n => by
  unfold gLen at q
  split at q
  · cases q
    cases rx with
    | cons a b =>
      cases b
      obtain ⟨p, ys, rfl, hy, ry⟩ := a.lstE
      exact ⟨_, ys.length, rfl, .inl ⟨ys, SqL.of hy, rfl⟩, by rw [← ry.length]; exact nxt_here so (.int _) n⟩
  · cases q
    cases rx with
    | cons a b =>
      cases b
      obtain ⟨p, ys, rfl, hy, ry⟩ := a.tup
      exact ⟨_, ys.length, rfl, .inr ⟨ys, hy, rfl⟩, by rw [← ry.length]; exact nxt_here so (.int _) n⟩
  · rename_i t
    split at q
    · rename_i h
      cases q
      cases rx with
      | cons a b =>
        cases b
        rw [a.str]
        exact ⟨_, t.length, rfl, ⟨by rw [sx_length]; exact lt_line h, (sx_length t).symm⟩, nxt_here so (.int _) n⟩
    · cases q
  · cases q
theorem de_len {X : Cx} {E : XP} {p pos : Pos} {e : Expr} {a : Den (List W)} (hm : X.mg "len" = none) (ha : PA X [e] (tA X.K E a)) (hgl : Gl X "len" := by rfl)
    (he : starEach [e] X.env = (false, eval e X.env) :: starEach [] X.env := by rfl) (hpl : (backTo pos (starEach [] X.env)).any (·.1) = false := by rfl) : PE X (.Call (.Name "len" p) [e] [] pos) (tE X.K E (cLen a)) :=
  pe_mono (pe_callB call_len hgl hm PySem.boot_len ha (by decide) (by decide) he hpl) fun σ H Q ⟨δ, ρ, S, st, so, q⟩ => tG_then st so q fun ws S1 vs ρ1 H1 f1 st1 so1 r1 p1 => by
    unfold apLen at p1
    split at p1
    · rename_i ns
      cases r1 with
      | cons a b =>
        cases b
        obtain ⟨c, rfl, sc⟩ := a
        exact ⟨_, ns.length, rfl, .inl ⟨_, sc.sq, by rw [List.length_map]⟩, p1 _ ρ1 H1 Fwd.refl so1 (.int _)⟩
    · exact apN_post gn_len so1 r1 p1
/-- isinstance -/
def tyOf : D → Option String
  | .non => some "NoneType"
  | .bl _ => some "bool"
  | .int _ => some "int"
  | .str _ => some "str"
  | .tup _ => some "tuple"
  | .lst _ => some "list"
  | .dct _ => some "dict"
  | .ty _ => none
def isiD (d : D) (T : Ty) : Option Bool := match d, T with
  | .str _, .str => some true
  | .tup _, .tup => some true
  | .lst _, .lst => some true
  | .dct _, .dct => some true
  | .int _, .int => some true
  | .bl _, .bl => some true
  | .bl _, .int => some true
  | .ty _, _ => none
  | _, _ => some false
theorem isiD_kit {d : D} {T : Ty} {b : Bool} (h : isiD d T = some b) : ∃ t, tyOf d = some t ∧ kitB t T.nm = some b := by
  cases d <;> cases T <;> first | (cases h; exact ⟨_, rfl, by decide +kernel⟩) | (cases h)
theorem rq_ty {K : PySem.W.Frag} {H : Hp} {M : Addr → Prop} {d : D} {v : V} {t : String} (h : Rq K H M d v) (e : tyOf d = some t) : TyX K H v (.type t) := by
  cases d with
  | non => cases e; rw [h.non]; exact .base .non
  | bl b => cases e; rw [h.bl]; exact .base (.bl b)
  | int b => cases e; rw [h.int]; exact .base (.int b)
  | str b => cases e; rw [h.str]; exact .base (.str _)
  | ty b => cases e
  | tup ds =>
    cases e
    obtain ⟨a, xs, rfl, sq, _⟩ := h.tup
    rcases sq with (sq | ⟨o, sq⟩) | ⟨o, its, n, l, c, _⟩
    · exact .base (.tup sq)
    · exact .fTuple sq
    · exact .kTuple l c
  | lst ds => cases e; obtain ⟨a, xs, rfl, sq, _⟩ := h.lstE; exact .base (.lst sq)
  | dct ds => cases e; obtain ⟨a, xs, rfl, sq, _⟩ := h.dctE; exact .base (.dK sq)
def gIsi : List D → Option D := fun ds => match ds with
  | [d, .ty T] => (isiD d T).map .bl
  | _ => none
theorem gn_isi {K : PySem.W.Frag} : GN K (rIsi K) gIsi := fun ρ S H ds z xs Q so rx q n => by
  unfold gIsi at q
  split at q
  · rename_i d T
    cases qb : isiD d T with
    | none => rw [qb] at q; cases q
    | some b =>
      rw [qb] at q
      cases q
      obtain ⟨t, h1, h2⟩ := isiD_kit qb
      cases rx with
      | cons r1 r2 =>
        cases r2 with
        | cons r2 r3 =>
          cases r3
          rw [r2.ty]
          exact ⟨_, _, .type t, .type T.nm, b, rfl, .ty _, rq_ty r1 h1, kit_ty h2, nxt_here so (.bl b) n⟩
  · cases q
/-- all, any -/
def blL : List D → Option (List Bool)
  | [] => some []
  | .bl b :: ds => (blL ds).map (b :: ·)
  | _ :: _ => none
theorem blL_rp {K : PySem.W.Frag} {H : Hp} {M : Addr → Prop} : ∀ {ds : List D} {bs : List Bool} {vs : List V}, blL ds = some bs → RpL K H M ds vs → vs = bs.map V.bl
  | [], bs, _, e, .nil => by cases e; rfl
  | d :: ds, bs, _, e, .cons a b => by
    cases d with
    | bl c =>
      cases a
      unfold blL at e
      cases q : blL ds with
      | none => rw [q] at e; cases e
      | some cs =>
        rw [q] at e
        cases e
        rw [blL_rp q b]
        rfl
    | _ => cases e
def gAll : List D → Option D := fun ds => match ds with
  | [.lst es] => (blL es).map fun bs => .bl (bs.all id)
  | _ => none
def gAny : List D → Option D := fun ds => match ds with
  | [.lst es] => (blL es).map fun bs => .bl (bs.any id)
  | _ => none
theorem gn_all {K : PySem.W.Frag} : GN K (rAll K) gAll := fun ρ S H ds z xs Q so rx q n => by
  unfold gAll at q
  split at q
  · rename_i es
    cases qb : blL es with
    | none => rw [qb] at q; cases q
    | some bs =>
      rw [qb] at q
      cases q
      cases rx with
      | cons r1 r2 =>
        cases r2
        obtain ⟨a, ys, rfl, ha, ra⟩ := r1.lstE
        rw [blL_rp qb ra] at ha
        exact ⟨a, bs, rfl, SqL.of ha, nxt_here so (.bl _) n⟩
  · cases q
theorem gn_any {K : PySem.W.Frag} : GN K (rAny K) gAny := fun ρ S H ds z xs Q so rx q n => by
  unfold gAny at q
  split at q
  · rename_i es
    cases qb : blL es with
    | none => rw [qb] at q; cases q
    | some bs =>
      rw [qb] at q
      cases q
      cases rx with
      | cons r1 r2 =>
        cases r2
        obtain ⟨a, ys, rfl, ha, ra⟩ := r1.lstE
        rw [blL_rp qb ra] at ha
        exact ⟨a, bs, rfl, SqL.of ha, nxt_here so (.bl _) n⟩
  · cases q
/-- int, max, min -/
def gInt : List D → Option D := fun ds => match ds with
  | [.int i] => some (.int i)
  | [.bl b] => some (.int (if b then 1 else 0))
  | _ => none
theorem gn_int {K : PySem.W.Frag} : GN K (fun xs H Q => (∃ i, xs = [.int i] ∧ Q (.int i) H) ∨ ∃ k, xs = [.bl k] ∧ Q (.int (if k then 1 else 0)) H) gInt := fun ρ S H ds z xs Q so rx q n => by
  unfold gInt at q
  split at q
  · cases q
    cases rx with
    | cons r1 r2 => cases r2; exact .inl ⟨_, by rw [r1.int], nxt_here so (.int _) n⟩
  · cases q
    cases rx with
    | cons r1 r2 => cases r2; exact .inr ⟨_, by rw [r1.bl], nxt_here so (.int _) n⟩
  · cases q
def gMax2 : List D → Option D := fun ds => match ds with
  | [.int i, .int j] => some (.int (if j > i then j else i))
  | _ => none
def gMin2 : List D → Option D := fun ds => match ds with
  | [.int i, .int j] => some (.int (if j < i then j else i))
  | _ => none
theorem gn_max2 {K : PySem.W.Frag} : GN K (fun xs H Q => ∃ i j, xs = [.int i, .int j] ∧ Q (.int (if j > i then j else i)) H) gMax2 := fun ρ S H ds z xs Q so rx q n => by
  unfold gMax2 at q
  split at q
  · cases q
    cases rx with
    | cons r1 r2 => cases r2 with
      | cons r2 r3 => cases r3; exact ⟨_, _, by rw [r1.int, r2.int], nxt_here so (.int _) n⟩
  · cases q
theorem gn_min2 {K : PySem.W.Frag} : GN K (fun xs H Q => ∃ i j, xs = [.int i, .int j] ∧ Q (.int (if j < i then j else i)) H) gMin2 := fun ρ S H ds z xs Q so rx q n => by
  unfold gMin2 at q
  split at q
  · cases q
    cases rx with
    | cons r1 r2 => cases r2 with
      | cons r2 r3 => cases r3; exact ⟨_, _, by rw [r1.int, r2.int], nxt_here so (.int _) n⟩
  · cases q

/-! ### methods of lists of the store -/
def isRL (x : W) (S : Sto) : Option (Nat × List D) := match x with
  | .r i => (match S[i]? with
    | some (.lst ds) => some (i, ds)
    | _ => none)
  | _ => none
theorem isRL_ok {K : PySem.W.Frag} {ρ : List Addr} {S : Sto} {H : Hp} {w : W} {v : V} {i : Nat} {ds : List D} (so : Sok K ρ S H) (r : RpW K ρ S H w v) (e : isRL w S = some (i, ds)) : ∃ a xs, w = .r i ∧ v = .ref a ∧ ρ[i]? = some a ∧ S[i]? = some (.lst ds) ∧ H a = some (.lst xs) ∧ RpL K H (live ρ S) ds xs := by
  unfold isRL at e
  split at e
  · rename_i j
    split at e
    · rename_i ds' q
      cases e
      obtain ⟨a, rfl, ea⟩ := r
      obtain ⟨xs, ex, rl⟩ := so.obs i a _ ea q
      exact ⟨a, xs, rfl, rfl, ea, q, ex, rl⟩
    · cases e
  · cases e
def cMth (a : Den W) (k : Nat → Slots → Sto → R W) : Den W := fun δ S => (a δ S).bind fun x S1 => match isRL x S1 with
  | some (i, _) => k i δ S1
  | none => .bad
def apAppend (i : Nat) (y : W) (S : Sto) : R W := match isRL (.r i) S, toD y with
  | some (_, ds), some d => if ds.length < 1000000 then .ok (.v .non) (S.set i (.lst (ds ++ [d]))) else .bad
  | _, _ => .bad
def cAppend (a b : Den W) : Den W := cMth a fun i δ S1 => (b δ S1).bind fun y S2 => apAppend i y S2
def apExtend (i : Nat) (y : W) (S : Sto) : R W := match isRL (.r i) S, rd S y with
  | some (_, ds), some (.lst es) => if ds.length + es.length ≤ 1000000 then .ok (.v .non) (S.set i (.lst (ds ++ es))) else .bad
  | _, _ => .bad
def cExtend (a b : Den W) : Den W := cMth a fun i δ S1 => (b δ S1).bind fun y S2 => apExtend i y S2
def apPop (i : Nat) (S : Sto) : R W := match isRL (.r i) S with
  | some (_, ds) => (match ds[ds.length - 1]? with
    | some d => .ok (.v d) (S.set i (.lst ds.dropLast))
    | none => .bad)
  | _ => .bad
def cPop (a : Den W) : Den W := cMth a fun i _ S1 => apPop i S1
section
variable {K : PySem.W.Frag} {ρ : List Addr} {S : Sto} {H : Hp} {i : Nat} {v : V} {Q : VK} {Ex : Nat → List D → Sto → List Addr → Hp → Prop}
theorem append_post {y : W} {u : V} (so : Sok K ρ S H) (r : RpW K ρ S H (.r i) v) (r2 : RpW K ρ S H y u) (p : Post K (RpW K) ρ S H (apAppend i y S) Q Ex) : rAppend v [u] H Q := by
  unfold apAppend at p
  split at p
  · rename_i j ds d q1 q2
    obtain ⟨a, xs, e1, rfl, ea, es, ex, rl⟩ := isRL_ok so r q1
    cases e1
    split at p
    · rename_i hl
      refine ⟨a, xs, u, rfl, rfl, ex, by rw [← rl.length]; exact Nat.lt_trans hl (by decide), ?_⟩
      have fc : Fwd ρ S H ρ (S.set i (.lst (ds ++ [d]))) (upd H a (.lst (xs ++ [u]))) := Fwd.changed so ea es rfl
      exact p .non ρ _ fc (so.changed ea es rfl ⟨_, upd_same, (fc.rpL rl).append (.cons (fc.rp (toD_rp r2 q2)) .nil)⟩) .non
    · exact p.elim
  · exact p.elim
theorem extend_post {y : W} {u : V} (so : Sok K ρ S H) (r : RpW K ρ S H (.r i) v) (r2 : RpW K ρ S H y u) (p : Post K (RpW K) ρ S H (apExtend i y S) Q Ex) : rExtend v [u] H Q := by
  unfold apExtend at p
  split at p
  · rename_i j ds es0 q1 q2
    obtain ⟨a, xs, e1, rfl, ea, es, ex, rl⟩ := isRL_ok so r q1
    cases e1
    obtain ⟨b, ys, rfl, hb, rb⟩ := (rd_ok so r2 q2).lstE
    split at p
    · rename_i hl
      refine ⟨a, b, xs, ys, rfl, rfl, ex, hb, by rw [← rl.length, ← rb.length]; exact lt_line hl, ?_⟩
      have fc : Fwd ρ S H ρ (S.set i (.lst (ds ++ es0))) (upd H a (.lst (xs ++ ys))) := Fwd.changed so ea es rfl
      exact p .non ρ _ fc (so.changed ea es rfl ⟨_, upd_same, (fc.rpL rl).append (fc.rpL rb)⟩) .non
    · exact p.elim
  · exact p.elim
theorem pop_post (so : Sok K ρ S H) (r : RpW K ρ S H (.r i) v) (p : Post K (RpW K) ρ S H (apPop i S) Q Ex) : rPop v [] H Q := by
  unfold apPop at p
  split at p
  · rename_i j ds q1
    obtain ⟨a, xs, e1, rfl, ea, es, ex, rl⟩ := isRL_ok so r q1
    cases e1
    split at p
    · rename_i d qd
      obtain ⟨y, hy, ry⟩ := rl.get _ qd
      refine ⟨a, xs, y, rfl, rfl, ex, by rw [← rl.length]; exact hy, ?_⟩
      have fc : Fwd ρ S H ρ (S.set i (.lst ds.dropLast)) (upd H a (.lst xs.dropLast)) := Fwd.changed so ea es rfl
      exact p y ρ _ fc (so.changed ea es rfl ⟨_, upd_same, (fc.rpL rl).dropLast⟩) (fc.rp ry)
    · exact p.elim
  · exact p.elim
end
section
variable {X : Cx} {E : XP} {o e : Expr} {apos cpos : Pos} {a b : Den W}
theorem mth_then {k : Nat → Slots → Sto → R W} {σ : L2.St} {H : Hp} {Q : VK} {Q' : VK} (h : tE X.K E (cMth a k) σ H Q)
    (hk : ∀ (δ : Slots) (i : Nat) (S1 : Sto) (v : V) (ρ1 : List Addr) (H1 : Hp), RpSt X.K ρ1 S1 H1 δ σ → Sok X.K ρ1 S1 H1 → RpW X.K ρ1 S1 H1 (.r i) v → tyV X.K "list" v H1 → Post X.K (RpW X.K) ρ1 S1 H1 (k i δ S1) Q (E σ) → Q' v H1) : tE X.K E a σ H Q' := by
  obtain ⟨δ, ρ, S, st, so, p⟩ := h
  refine tG_then st so p fun x S1 v ρ1 H1 f1 st1 so1 r1 p1 => ?_
  cases q : isRL x S1 with
  | none => simp only [q] at p1; exact p1.elim
  | some z =>
    obtain ⟨i, ds⟩ := z
    simp only [q] at p1
    obtain ⟨c, xs, rfl, rfl, ea, es, ex, rl⟩ := isRL_ok so1 r1 q
    exact hk δ i S1 _ ρ1 H1 st1 so1 r1 (.inl ⟨rfl, xs, SqL.of ex⟩) p1
theorem de_append (ha : PE X o (tE X.K E a)) (hb : PE X e (tE X.K E b)) (hs : starEach [e] X.env = (false, eval e X.env) :: starEach [] X.env := by rfl)
    (hd : ∀ to t, PE X o to → PA X [e] t → PE X (.Call (.Attribute o "append" apos) [e] [] cpos) (tBM X.K "list" rAppend to t) := by exact fun _ _ ho h => pe_bm PySem.F.plainAttrs_list PySem.F.slot_list_append PySem.F.type_list_append mt_append ho h) :
    PE X (.Call (.Attribute o "append" apos) [e] [] cpos) (tE X.K E (cAppend a b)) :=
  pe_mono (hd _ _ ha (pa_cons hb pa_nil hs)) fun σ H Q h => mth_then h fun δ i S1 v ρ1 H1 st1 so1 r1 ty p1 => ⟨ty, tG_then st1 so1 p1 fun y S2 u ρ2 H2 f2 st2 so2 r2 p2 => append_post so2 (f2.rw r1) r2 p2⟩
theorem de_extend (ha : PE X o (tE X.K E a)) (hb : PE X e (tE X.K E b)) (hs : starEach [e] X.env = (false, eval e X.env) :: starEach [] X.env := by rfl)
    (hd : ∀ to t, PE X o to → PA X [e] t → PE X (.Call (.Attribute o "extend" apos) [e] [] cpos) (tBM X.K "list" rExtend to t) := by exact fun _ _ ho h => pe_bm PySem.F.plainAttrs_list PySem.F.slot_list_extend PySem.F.type_list_extend mt_extend ho h) :
    PE X (.Call (.Attribute o "extend" apos) [e] [] cpos) (tE X.K E (cExtend a b)) :=
  pe_mono (hd _ _ ha (pa_cons hb pa_nil hs)) fun σ H Q h => mth_then h fun δ i S1 v ρ1 H1 st1 so1 r1 ty p1 => ⟨ty, tG_then st1 so1 p1 fun y S2 u ρ2 H2 f2 st2 so2 r2 p2 => extend_post so2 (f2.rw r1) r2 p2⟩
theorem de_pop (ha : PE X o (tE X.K E a)) (hbase : attributeBase o "pop" X.env (eval o X.env) = eval o X.env := by rfl) (hline : (apos.endLine == cpos.line) = true := by rfl) :
    PE X (.Call (.Attribute o "pop" apos) [] [] cpos) (tE X.K E (cPop a)) :=
  pe_mono (pe_bm0 PySem.F.plainAttrs_list PySem.F.slot_list_pop PySem.F.type_list_pop mt_pop ha hbase hline) fun σ H Q h => mth_then h fun δ i S1 v ρ1 H1 st1 so1 r1 ty p1 => ⟨ty, pop_post so1 r1 p1⟩
end

/-! ### a list's place is stored -/
def gSubD (a b : Den W) : DenG := fun w δ S => match a δ S with
  | .ok x S1 => (match b δ S1 with
    | .ok (.v (.int k)) S2 => (match isRL x S2, toD w with
      | some (i, ds), some d => (match ixN ds.length k with
        | some j => some (δ, S2.set i (.lst (ds.set j d)))
        | none => none)
      | _, _ => none)
    | _ => none)
  | _ => none
theorem gok_sub {K : PySem.W.Frag} {a b : Den W} : GOk K (L2.gSub (tE K XP0 a) (tE K XP0 b) rSetL) (gSubD a b) [] := fun ρ S H δ σ w v Q δ' S' st so r e h => by
  unfold gSubD at e
  cases qa : a δ S with
  | bad => simp only [qa] at e; cases e
  | exc c cs S1 => simp only [qa] at e; cases e
  | ok x S1 =>
    simp only [qa] at e
    refine ⟨δ, ρ, S, st, so, ?_⟩
    rw [qa]
    intro o ρ1 H1 f1 so1 r1
    cases qb : b δ S1 with
    | bad => simp only [qb] at e; cases e
    | exc c cs S2 => simp only [qb] at e; cases e
    | ok y S2 =>
      refine ⟨δ, ρ1, S1, f1.st st, so1, ?_⟩
      rw [qb]
      intro iv ρ2 H2 f2 so2 r2
      cases y with
      | r i => simp only [qb] at e; cases e
      | s ns => simp only [qb] at e; cases e
      | v dk =>
        cases dk with
        | int k =>
          simp only [qb] at e
          cases q1 : isRL x S2 with
          | none => simp only [q1] at e; cases e
          | some z =>
            obtain ⟨i, ds⟩ := z
            cases q2 : toD w with
            | none => simp only [q1, q2] at e; cases e
            | some d =>
              cases q3 : ixN ds.length k with
              | none => simp only [q1, q2, q3] at e; cases e
              | some j =>
                simp only [q1, q2, q3] at e
                cases e
                cases r2
                obtain ⟨c, xs, rfl, rfl, ea, es, ex, rl⟩ := isRL_ok so2 (f2.rw r1) q1
                refine ⟨c, xs, k, j, rfl, rfl, ex, by rw [← rl.length]; exact q3, ?_⟩
                have fc : Fwd ρ2 S2 H2 ρ2 (S2.set i (.lst (ds.set j d))) (upd H2 c (.lst (xs.set j v))) := Fwd.changed so2 ea es rfl
                have f12 := f1.trans f2
                have rv := toD_rp (f12.rw r) q2
                exact h σ ρ2 _ (f12.trans fc) (so2.changed ea es rfl ⟨_, upd_same, (fc.rpL rl).set j (fc.rp rv)⟩) ((f12.trans fc).st st) rfl fun _ _ => rfl
        | _ => simp only [qb] at e; cases e

/-! ### slices -/
def cutD {α : Type} (xs : List α) (lo hi : Option Int) : List α := (xs.drop (HT.sIx xs.length 0 lo)).take (HT.sIx xs.length xs.length hi - HT.sIx xs.length 0 lo)
theorem rpL_cut {K : PySem.W.Frag} {H : Hp} {M : Addr → Prop} {ds : List D} {xs : List V} (h : RpL K H M ds xs) (lo hi : Option Int) : RpL K H M (cutD ds lo hi) (cutV xs lo hi) := by
  unfold cutD cutV
  rw [← h.length]
  exact (h.drop _).take _
def slD (d : D) (lo hi : Option Int) : Option D := match d with
  | .lst ds => some (.lst (cutD ds lo hi))
  | .tup ds => some (.tup (cutD ds lo hi))
  | _ => none
def asO (w : W) (S : Sto) : R (Option Int) := match w with
  | .v (.int i) => .ok (some i) S
  | _ => .bad
def cPart (a : Den W) : Den (Option Int) := fun δ S => (a δ S).bind asO
def cNoPart : Den (Option Int) := fun _ S => .ok none S
def apSl (x : W) (lo hi : Option Int) (S : Sto) : R W := match rd S x with
  | some d => (match slD d lo hi with
    | some z => .ok (.v z) S
    | none => .bad)
  | none => .bad
def cSl (a : Den W) (lo hi : Den (Option Int)) : Den W := fun δ S => (a δ S).bind fun x S1 => (lo δ S1).bind fun l S2 => (hi δ S2).bind fun u S3 => apSl x l u S3
abbrev tO (K : PySem.W.Frag) (E : XP) (den : Den (Option Int)) : TO := tG K (fun _ _ _ a b => a = b) E den
def rSlB (K : PySem.W.Frag) : V → Option Int → Option Int → Hp → VK → Prop := fun x lo hi H Q => rSlL K x lo hi H Q ∨ rSlA K x lo hi H Q
section
variable {X : Cx} {E : XP}
theorem po_mono {e : Option Expr} {t t' : TO} (h : PO X e t) (w : ∀ σ H Q, t' σ H Q → t σ H Q) : PO X e t' := ⟨fun pins s σ H Q I q => h.run pins s σ H Q I (w σ H Q q)⟩
theorem dp_none : PO X none (tO X.K E cNoPart) := po_mono po_none fun σ H Q ⟨δ, ρ, S, st, so, p⟩ => p none ρ H Fwd.refl so rfl
theorem dp_some {e : Expr} {a : Den W} (h : PE X e (tE X.K E a)) : PO X (some e) (tO X.K E (cPart a)) := po_mono (po_some h) fun σ H Q ⟨δ, ρ, S, st, so, p⟩ => tG_then st so p fun w S1 v ρ1 H1 f1 st1 so1 r1 p1 => by
  cases w with
  | r i => exact p1.elim
  | s i => exact p1.elim
  | v d =>
    cases d with
    | int i => cases r1; exact ⟨i, rfl, p1 _ ρ1 H1 Fwd.refl so1 rfl⟩
    | _ => exact p1.elim
theorem cut_whole {α : Type} {xs : List α} {lo hi : Option Int} (h : HT.sIx xs.length 0 lo = 0 ∧ HT.sIx xs.length xs.length hi = xs.length) : cutD xs lo hi = xs := by
  unfold cutD
  rw [h.1, h.2]
  simp
theorem de_sl {e : Expr} {lo hi : Option Expr} {p2 pos : Pos} {a : Den W} {l u : Den (Option Int)} (ha : PE X e (tE X.K E a)) (hl : PO X lo (tO X.K E l)) (hu : PO X hi (tO X.K E u)) : PE X (.Subscript e (.Slice lo hi none p2) pos) (tE X.K E (cSl a l u)) :=
  pe_mono (pe_slice (sl_list.or sl_tupA) ha hl hu) fun σ H Q ⟨δ, ρ, S, st, so, p⟩ => tG_then st so p fun w S1 x ρ1 H1 f1 st1 so1 r1 p1 => tG_then st1 so1 p1 fun l S2 l' ρ2 H2 f2 st2 so2 r2 p2 => tG_then st2 so2 p2 fun u S3 u' ρ3 H3 f3 st3 so3 r3 p3 => by
    cases r2
    cases r3
    have rx := f3.rw (f2.rw r1)
    unfold apSl at p3
    cases q : rd S3 w with
    | none => simp only [q] at p3; exact p3.elim
    | some d =>
      simp only [q] at p3
      have rq := rd_ok so3 rx q
      cases d with
      | lst ds =>
        obtain ⟨b, xs, rfl, hb, rb⟩ := rq.lstE
        exact .inl ⟨b, xs, rfl, SqL.of hb, nxt_lst so3 (rpL_cut rb l u) fun v H' f so' rp => p3 v ρ3 H' f so' rp⟩
      | tup ds =>
        obtain ⟨b, xs, rfl, hb, rb⟩ := rq.tup
        have nx : Nxt X.K ρ3 S3 H3 (.tup (cutD ds l u)) Q := fun v H' f so' rp => p3 v ρ3 H' f so' rp
        refine .inr ⟨b, xs, rfl, hb, fun hw => ?_, fun _ => nxt_tup so3 (rpL_cut rb l u) nx⟩
        rw [← rb.length] at hw
        rw [cut_whole hw] at nx
        exact nxt_here so3 (.tup hb rb) nx
      | _ => exact p3.elim
end

/-! ### a text's signs -/
def asS (w : W) (S : Sto) : R (List D) := match w with
  | .v (.str t) => .ok (t.map fun c => .str [c]) S
  | _ => .bad
def itS (a : Den W) : Den (List D) := fun δ S => (a δ S).bind asS
theorem jok_str {K : PySem.W.Frag} {ρ : List Addr} {S : Sto} {H : Hp} (t : Tx) : Jok K ρ S H (t.map fun c => .str [c]) (Its (sx t)) := fun i ρ' S' H' f so => by
  refine ⟨fun d e => ?_, fun hl => by rw [List.length_map] at hl; show (sx t).cps.size ≤ i; simpa [sx] using hl⟩
  rw [List.getElem?_map] at e
  cases q : t[i]? with
  | none => rw [q] at e; cases e
  | some c =>
    rw [q] at e
    cases e
    have hi : i < t.length := by
      rcases Nat.lt_or_ge i t.length with z | z
      · exact z
      · rw [List.getElem?_eq_none z] at q; cases q
    refine ⟨by show i < (sx t).cps.size; simpa [sx] using hi, fun x H'' y => ?_⟩
    obtain ⟨rfl, c', hc, rfl⟩ := y
    have e2 : t[i]? = some c' := by simpa [sx] using hc
    rw [q] at e2
    cases e2
    exact ⟨Fwd.refl, so, .str [c]⟩
theorem di_str {X : Cx} {E : XP} {tg e : Expr} {a : Den W} (h : PE X e (tE X.K E a)) : PI X tg e (tI X.K E (itS a)) := pi_mono (pi_str h) fun σ H Q ⟨δ, ρ, S, st, so, p⟩ => tG_then st so p fun w S1 v ρ1 H1 f1 st1 so1 r1 p1 => by
  cases w with
  | r i => exact p1.elim
  | s ns => exact p1.elim
  | v d =>
    cases d with
    | str t => cases r1; exact ⟨_, rfl, p1 _ ρ1 H1 Fwd.refl so1 (jok_str t)⟩
    | _ => exact p1.elim

/-! ### data of the written part -/
def kdV : Nat → PySem.W.Frag → Value → D → Bool
  | 0, _, _, _ => false
  | n + 1, K, u, d => match u, d with
    | .none, .non => true
    | .bool b, .bl c => b == c
    | .int i _, .int j => i == j
    | .str x _, .str t => x == sx t
    | .ref a, .tup ds => (match K.lookup a with
      | some o => o.cls == .type "tuple" && (match o.data with
        | .seq its _ => decide (its.size ≤ 1000) && kdL (kdV n K) its.toList ds
        | _ => false)
      | none => false)
    | _, _ => false
where kdL (f : Value → D → Bool) : List Value → List D → Bool
  | [], [] => true
  | u :: us, d :: ds => f u d && kdL f us ds
  | _, _ => false
theorem kdL_ok {K : PySem.W.Frag} {H : Hp} {M : Addr → Prop} {f : Value → D → Bool} (hf : ∀ u d, f u d = true → ∃ v, RelV v u ∧ Rp K H M d v) : ∀ {us : List Value} {ds : List D}, kdV.kdL f us ds = true → ∃ vs, Vals vs us ∧ RpL K H M ds vs
  | [], [], _ => ⟨[], .nil, .nil⟩
  | [], _ :: _, h => by simp [kdV.kdL] at h
  | _ :: _, [], h => by simp [kdV.kdL] at h
  | u :: us, d :: ds, h => by
    have h' : f u d = true ∧ kdV.kdL f us ds = true := by simpa [kdV.kdL] using h
    obtain ⟨v, h1, h2⟩ := hf u d h'.1
    obtain ⟨vs, h3, h4⟩ := kdL_ok hf h'.2
    exact ⟨v :: vs, .cons h1 h3, .cons h2 h4⟩
theorem kdV_ok {K : PySem.W.Frag} {H : Hp} {M : Addr → Prop} : ∀ (n : Nat) (u : Value) (d : D), kdV n K u d = true → ∃ v, RelV v u ∧ Rp K H M d v
  | 0, _, _, h => by simp [kdV] at h
  | n + 1, u, d, h => by
    unfold kdV at h
    split at h
    · exact ⟨.non, rfl, .non⟩
    · rename_i b c
      have e : b = c := by simpa using h
      subst e
      exact ⟨.bl b, rfl, .bl b⟩
    · rename_i i t j
      have e : i = j := by simpa using h
      subst e
      exact ⟨.int i, ⟨_, rfl⟩, .int i⟩
    · rename_i x t s
      have e : x = sx s := by simpa using h
      subst e
      exact ⟨.str _, ⟨_, rfl⟩, .str s⟩
    · rename_i a ds
      cases q : K.lookup a with
      | none => rw [q] at h; cases h
      | some o =>
        rw [q] at h
        simp only [Bool.and_eq_true] at h
        obtain ⟨h1, h2⟩ := h
        have hc : o.cls = .type "tuple" := by simpa using h1
        split at h2
        · rename_i its m hd
          rw [Bool.and_eq_true] at h2
          obtain ⟨vs, r1, r2⟩ := kdL_ok (kdV_ok n) h2.2
          exact ⟨.ref a, rfl, .tup (.inr ⟨o, its, m, q, hc, hd, le1000 (of_decide_eq_true h2.1), r1⟩) r2⟩
        · cases h2
    · cases h
/-- a constant of the module -/
theorem de_const {X : Cx} {E : XP} {x : Str} {d : D} {u : Value} {pos : Pos} (n : Nat) (hm : X.mg x = some u) (h : kdV n X.K u d = true) (hg : Gl X x := by rfl) (hd : (x == ("__debug__" : Str)) = false := by decide) : PE X (.Name x pos) (tE X.K E (cC d)) := by
  obtain ⟨v, hv, _⟩ := kdV_ok (H := fun _ => none) (M := fun _ => False) n u d h
  refine de_glob hm hv (fun H M => ?_) hg hd
  obtain ⟨v', hv', r⟩ := kdV_ok (H := H) (M := M) n u d h
  rw [hv.inj hv']; exact r
end Fro

namespace Fro
open PySem PySem.Spec L2

/-! ### tables of the module, keyed by texts -/
def lkT : List (Tx × D) → Tx → Option D
  | [], _ => none
  | (k, d) :: r, t => if k = t then some d else lkT r t
def kdE (n : Nat) (K : PySem.W.Frag) : List DictEntry → List (Tx × D) → Bool
  | [], [] => true
  | e :: es, (t, d) :: r => (match e.key with
    | .str x _ => x == sx t
    | _ => false) && kdV n K e.val d && kdE n K es r
  | _, _ => false
theorem kdE_find {n : Nat} {K : PySem.W.Frag} : ∀ {es : List DictEntry} {tbl : List (Tx × D)}, kdE n K es tbl = true → ∀ t : Tx,
    (es.any (·.refKey) = false) ∧ ((lkT tbl t = none ∧ es.find? (fun e => e.key.isStr (sx t)) = none) ∨ ∃ d e, lkT tbl t = some d ∧ es.find? (fun e => e.key.isStr (sx t)) = some e ∧ kdV n K e.val d = true)
  | [], [], _, t => ⟨rfl, .inl ⟨rfl, rfl⟩⟩
  | [], _ :: _, h, _ => by simp [kdE] at h
  | _ :: _, [], h, _ => by simp [kdE] at h
  | e :: es, (k, d) :: r, h, t => by
    unfold kdE at h
    simp only [Bool.and_eq_true] at h
    obtain ⟨⟨h1, h2⟩, h3⟩ := h
    obtain ⟨i1, i2⟩ := kdE_find h3 t
    cases qk : e.key with
    | str x tk =>
      rw [qk] at h1
      have ex : x = sx k := by simpa using h1
      subst ex
      have nr : e.refKey = false := by simp [DictEntry.refKey, qk]
      refine ⟨by rw [List.any_cons, nr, i1]; rfl, ?_⟩
      by_cases hk : k = t
      · subst hk
        refine .inr ⟨d, e, by simp [lkT], ?_, h2⟩
        rw [List.find?_cons]
        have : e.key.isStr (sx k) = true := by rw [qk]; simp [Value.isStr]
        rw [this]
      · have hf : e.key.isStr (sx t) = false := by
          rw [qk]
          show (sx k == sx t) = false
          rw [sx_beq]
          exact beq_eq_false_iff_ne.mpr hk
        have hl : lkT ((k, d) :: r) t = lkT r t := by
          show (if k = t then some d else lkT r t) = _
          rw [if_neg hk]
        rw [hl, List.find?_cons, hf]
        exact i2
    | _ => rw [qk] at h1; cases h1
structure KD (K : PySem.W.Frag) (w : World) (a : Addr) (tbl : List (Tx × D)) : Prop where
  ex : ∃ (es : Array DictEntry) (n m : Nat), KDict K w a es n ∧ kdE m K es.toList tbl = true
theorem KD.look {K : PySem.W.Frag} {w : World} {a : Addr} {tbl : List (Tx × D)} (h : KD K w a tbl) (t : Tx) :
    (lkT tbl t = none ∧ PySem.W.nsIn K a (sx t) = some none) ∨ ∃ d u v, lkT tbl t = some d ∧ PySem.W.nsIn K a (sx t) = some (some u) ∧ RelV v u ∧ ∀ H M, Rp K H M d v := by
  obtain ⟨es, n, m, kd, he⟩ := h.ex
  obtain ⟨h1, h2⟩ := kdE_find he t
  have hn : PySem.W.nsIn K a (sx t) = (match es.toList.find? (·.key.isStr (sx t)) with
      | some e => some (some e.val)
      | none => if es.toList.any (·.refKey) then none else some none) := by
    unfold PySem.W.nsIn
    rw [kd.at_]
    rfl
  rw [hn]
  rcases h2 with ⟨q1, q2⟩ | ⟨d, e, q1, q2, q3⟩
  · refine .inl ⟨q1, ?_⟩
    rw [q2, h1]
    rfl
  · obtain ⟨v, hv, _⟩ := kdV_ok (H := fun _ => none) (M := fun _ => False) m e.val d q3
    refine .inr ⟨d, e.val, v, q1, by rw [q2], hv, fun H M => ?_⟩
    obtain ⟨v', hv', r⟩ := kdV_ok (H := H) (M := M) m e.val d q3
    rw [hv.inj hv']; exact r
def apKIn (tbl : List (Tx × D)) (neg : Bool) (x : W) (S : Sto) : R W := match x with
  | .v (.str t) => .ok (.v (.bl (if neg then !(lkT tbl t).isSome else (lkT tbl t).isSome))) S
  | _ => .bad
def cKIn (tbl : List (Tx × D)) (neg : Bool) (a : Den W) : Den W := fun δ S => (a δ S).bind fun x S1 => apKIn tbl neg x S1
def apKGet (tbl : List (Tx × D)) (x : W) (S : Sto) : R W := match x with
  | .v (.str t) => (match lkT tbl t with
    | some d => .ok (.v d) S
    | none => .bad)
  | _ => .bad
def cKGet (tbl : List (Tx × D)) (a : Den W) : Den W := fun δ S => (a δ S).bind fun x S1 => apKGet tbl x S1
section
variable {X : Cx} {E : XP} {e : Expr} {x : Str} {p pos : Pos} {a : Den W} {d : Addr} {tbl : List (Tx × D)}
theorem de_kin (hk : KD X.K X.w d tbl) (hm : X.mg x = some (.ref d)) (ha : PE X e (tE X.K E a)) (hg : Gl X x := by rfl) (hd : (x == ("__debug__" : Str)) = false := by decide) (hmk : behindInMarks .In (.Name x p) = false := by rfl) : PE X (.Compare e [.In] [.Name x p] pos) (tE X.K E (cKIn tbl false a)) := by
  obtain ⟨es, n, m, kd, he⟩ := hk.ex
  refine pe_mono (pe_cmpR (op_in_kd kd) ha (pe_glob hg hm (v := .ref d) rfl hd) hmk) fun σ H Q ⟨δ, ρ, S, st, so, p⟩ => tG_then st so p fun w S1 v ρ1 H1 f1 st1 so1 r1 p1 => ?_
  unfold apKIn at p1
  split at p1
  · rename_i t
    cases r1
    rcases hk.look t with ⟨q1, q2⟩ | ⟨dd, u, vv, q1, q2, q3, q4⟩
    · exact ⟨_, none, rfl, rfl, q2, by rw [q1] at p1; exact p1 _ ρ1 H1 Fwd.refl so1 (.bl false)⟩
    · exact ⟨_, some u, rfl, rfl, q2, by rw [q1] at p1; exact p1 _ ρ1 H1 Fwd.refl so1 (.bl true)⟩
  · exact p1.elim
theorem de_knotin (hk : KD X.K X.w d tbl) (hm : X.mg x = some (.ref d)) (ha : PE X e (tE X.K E a)) (hg : Gl X x := by rfl) (hd : (x == ("__debug__" : Str)) = false := by decide) (hmk : behindInMarks .NotIn (.Name x p) = false := by rfl) : PE X (.Compare e [.NotIn] [.Name x p] pos) (tE X.K E (cKIn tbl true a)) := by
  obtain ⟨es, n, m, kd, he⟩ := hk.ex
  refine pe_mono (pe_cmpR (op_notIn_kd kd) ha (pe_glob hg hm (v := .ref d) rfl hd) hmk) fun σ H Q ⟨δ, ρ, S, st, so, p⟩ => tG_then st so p fun w S1 v ρ1 H1 f1 st1 so1 r1 p1 => ?_
  unfold apKIn at p1
  split at p1
  · rename_i t
    cases r1
    rcases hk.look t with ⟨q1, q2⟩ | ⟨dd, u, vv, q1, q2, q3, q4⟩
    · exact ⟨_, none, rfl, rfl, q2, by rw [q1] at p1; exact p1 _ ρ1 H1 Fwd.refl so1 (.bl true)⟩
    · exact ⟨_, some u, rfl, rfl, q2, by rw [q1] at p1; exact p1 _ ρ1 H1 Fwd.refl so1 (.bl false)⟩
  · exact p1.elim
theorem dt_kin (hk : KD X.K X.w d tbl) (hm : X.mg x = some (.ref d)) (ha : PE X e (tE X.K E a)) (hg : Gl X x := by rfl) (hd : (x == ("__debug__" : Str)) = false := by decide) (hmk : behindInMarks .In (.Name x p) = false := by rfl) : PT X (.Compare e [.In] [.Name x p] pos) (tT X.K E (cB (cKIn tbl false a))) := by
  obtain ⟨es, n, m, kd, he⟩ := hk.ex
  refine pt_mono (pt_cmpR (op_in_kd kd) ha (pe_glob hg hm (v := .ref d) rfl hd) hmk) fun σ H Q ⟨δ, ρ, S, st, so, p⟩ => ?_
  have p' : Post X.K (fun _ _ _ a b => a = b) ρ S H ((a δ S).bind fun w S1 => (apKIn tbl false w S1).bind asB) Q (E σ) := by
    have e : (cB (cKIn tbl false a)) δ S = (a δ S).bind fun w S1 => (apKIn tbl false w S1).bind asB := by
      unfold cB cKIn
      cases a δ S <;> rfl
    rw [e] at p; exact p
  refine tG_then st so p' fun w S1 v ρ1 H1 f1 st1 so1 r1 p1 => ?_
  unfold apKIn at p1
  split at p1
  · rename_i t
    cases r1
    rcases hk.look t with ⟨q1, q2⟩ | ⟨dd, u, vv, q1, q2, q3, q4⟩
    · exact ⟨_, none, rfl, rfl, q2, false, rfl, by rw [q1] at p1; exact p1 _ ρ1 H1 Fwd.refl so1 rfl⟩
    · exact ⟨_, some u, rfl, rfl, q2, true, rfl, by rw [q1] at p1; exact p1 _ ρ1 H1 Fwd.refl so1 rfl⟩
  · exact p1.elim
theorem dt_knotin (hk : KD X.K X.w d tbl) (hm : X.mg x = some (.ref d)) (ha : PE X e (tE X.K E a)) (hg : Gl X x := by rfl) (hd : (x == ("__debug__" : Str)) = false := by decide) (hmk : behindInMarks .NotIn (.Name x p) = false := by rfl) : PT X (.Compare e [.NotIn] [.Name x p] pos) (tT X.K E (cB (cKIn tbl true a))) := by
  obtain ⟨es, n, m, kd, he⟩ := hk.ex
  refine pt_mono (pt_cmpR (op_notIn_kd kd) ha (pe_glob hg hm (v := .ref d) rfl hd) hmk) fun σ H Q ⟨δ, ρ, S, st, so, p⟩ => ?_
  have p' : Post X.K (fun _ _ _ a b => a = b) ρ S H ((a δ S).bind fun w S1 => (apKIn tbl true w S1).bind asB) Q (E σ) := by
    have e : (cB (cKIn tbl true a)) δ S = (a δ S).bind fun w S1 => (apKIn tbl true w S1).bind asB := by
      unfold cB cKIn
      cases a δ S <;> rfl
    rw [e] at p; exact p
  refine tG_then st so p' fun w S1 v ρ1 H1 f1 st1 so1 r1 p1 => ?_
  unfold apKIn at p1
  split at p1
  · rename_i t
    cases r1
    rcases hk.look t with ⟨q1, q2⟩ | ⟨dd, u, vv, q1, q2, q3, q4⟩
    · exact ⟨_, none, rfl, rfl, q2, true, rfl, by rw [q1] at p1; exact p1 _ ρ1 H1 Fwd.refl so1 rfl⟩
    · exact ⟨_, some u, rfl, rfl, q2, false, rfl, by rw [q1] at p1; exact p1 _ ρ1 H1 Fwd.refl so1 rfl⟩
  · exact p1.elim
theorem de_kget (hk : KD X.K X.w d tbl) (hm : X.mg x = some (.ref d)) (ha : PE X e (tE X.K E a)) (hg : Gl X x := by rfl) (hd : (x == ("__debug__" : Str)) = false := by decide) (hs : PlainIx e := by exact fun _ _ => rfl) : PE X (.Subscript (.Name x p) e pos) (tE X.K E (cKGet tbl a)) := by
  obtain ⟨es, n, m, kd, he⟩ := hk.ex
  refine pe_mono (pe_ix ix_kdict (pe_glob hg hm (v := .ref d) rfl hd) ha hs) fun σ H Q ⟨δ, ρ, S, st, so, p⟩ => tG_then st so p fun w S1 v ρ1 H1 f1 st1 so1 r1 p1 => ?_
  unfold apKGet at p1
  split at p1
  · rename_i t
    cases r1
    rcases hk.look t with ⟨q1, q2⟩ | ⟨dd, u, vv, q1, q2, q3, q4⟩
    · simp only [q1] at p1; exact p1.elim
    · simp only [q1] at p1
      exact ⟨d, _, vv, rfl, rfl, ⟨es, n, u, kd.at_, kd.lit, q2, q3⟩, p1 _ ρ1 H1 Fwd.refl so1 (q4 _ _)⟩
  · exact p1.elim
end
end Fro

namespace Fro
open PySem PySem.Spec L2

section
variable {P : Program} {w : World} {K : PySem.W.Frag} {mg : Str → Option Value} {base : Heap}
theorem fn_denD {x qual : Str} {params : Arguments} {stm : List Stmt} {scope : Scope} {dvs : List V} {kws : List (Str × V)} {f : Addr} {fd : FuncData} {N ps : List Str} {k n m : Nat} {body : DenS} (F : FunD K x qual params stm scope dvs kws f fd) (S : FnScope N ps scope)
    (hb : ∀ (cdv : Value) (A : Around) (outer : List Env) (s : Shared) (H : Hp) (E : XK), Room k (A.deeper (PyProof.Rows.envOfC qual scope s.heap.objs.size f cdv)) → PSs (cxOf CX0 P w K mg base N qual scope f cdv A outer s H E).nox stm (tS K XP0 body)) (hn : ps.length = n := by rfl) (hm : N.length = m := by rfl) :
    FnOk P w K mg base CX0 (k + 1) f fd ps (spF K n (fdef m body)) := by
  subst hn; subst hm
  refine F.ok S (fun vs H Q E h => ?_) (fun cdv A outer s H vs Q E hr h => ?_)
  · obtain ⟨ws, ρ, S, r, so, p⟩ := h
    by_cases hl : ws.length = ps.length
    · rw [← r.length]; exact hl
    · unfold chk at p; rw [if_neg hl] at p; exact p.elim
  · obtain ⟨ws, ρ, S, r, so, p⟩ := h
    by_cases hl : ws.length = ps.length
    · unfold chk at p
      rw [if_pos hl] at p
      exact ⟨_, (hb cdv A outer s H E hr).nox, slots0 N.length ws, ρ, S, start_rp r, so, end_post so p⟩
    · unfold chk at p; rw [if_neg hl] at p; exact p.elim
theorem fn_zero {f : Addr} {fd : FuncData} {ps : List Str} {k n : Nat} {den : FDen} (h : den = fun _ _ => .bad) : FnOk P w K mg base CX0 k f fd ps (spF K n den) := by
  subst h
  have no : ∀ vs H Q E, ¬ spF K n (fun _ _ => .bad) vs H Q E := fun vs H Q E ⟨ws, ρ, S, r, so, p⟩ => by
    unfold chk at p
    split at p <;> exact p
  exact ⟨fun vs H Q E h => absurd h (no vs H Q E), fun A outer s H args us vs Q E _ _ _ _ h => absurd h (no vs H Q E)⟩
end

/-- the law's own end -/
theorem end_sp {K : PySem.W.Frag} {H : Hp} {a : Addr} {ns : List Int} {fd : FDen} {E : XK} (h : fd [.s ns] [] = .ok (.v (.bl true)) []) (hS : SqL K H a (ns.map V.int)) : spF K 1 fd [.ref a] H (fun v _ => v = .bl true) E := by
  have nl : ∀ b, ¬ live [] [] b := fun b ⟨i, o, h1, _⟩ => by simp at h1
  refine ⟨[.s ns], [], [], .cons ⟨a, rfl, Scr.of hS (nl a)⟩ .nil, ⟨rfl, List.nodup_nil, fun i a o h1 _ => by simp at h1⟩, ?_⟩
  unfold chk
  rw [if_pos (show [W.s ns].length = 1 from rfl), h]
  intro v H' f so r
  cases r
  rfl
theorem dfl_one {K : PySem.W.Frag} {u : Value} {d : D} {v : V} {n : Nat} (h : kdV n K u d = true) (hv : RelV v u) : ∀ ρ S H, RpW K ρ S H (.v d) v := fun ρ S H => by
  obtain ⟨v', hv', r⟩ := kdV_ok (H := H) (M := live ρ S) n u d h
  rw [hv.inj hv']; exact r

/-! ### -x -/
def apNeg (x : W) (S : Sto) : R W := match x with
  | .v (.int i) => .ok (.v (.int (-i))) S
  | _ => .bad
def cNeg (a : Den W) : Den W := fun δ S => (a δ S).bind fun x S1 => apNeg x S1
theorem de_neg {X : Cx} {E : XP} {e : Expr} {pos : Pos} {a : Den W} (h : PE X e (tE X.K E a)) : PE X (.UnaryOp .USub e pos) (tE X.K E (cNeg a)) :=
  pe_mono (pe_un un_neg h) fun σ H Q ⟨δ, ρ, S, st, so, p⟩ => tG_then st so p fun w S1 v ρ1 H1 f1 st1 so1 r1 p1 => by
    unfold apNeg at p1
    split at p1
    · rename_i i
      cases r1
      exact ⟨i, rfl, p1 _ ρ1 H1 Fwd.refl so1 (.int _)⟩
    · exact p1.elim
/-! ### is True -/
def gIsB : D → D → Option D := fun d e => match d, e with
  | .bl a, .bl b => some (.bl (decide (a = b)))
  | _, _ => none
def gIsNotB : D → D → Option D := fun d e => match d, e with
  | .bl a, .bl b => some (.bl (!decide (a = b)))
  | _, _ => none
theorem g2_isB {K : PySem.W.Frag} : G2 K rIsB gIsB := fun ρ S H d e z x y Q so rx ry q n => by
  unfold gIsB at q
  split at q
  · cases q
    exact ⟨_, _, rx.bl, ry.bl, nxt_here so (.bl _) n⟩
  · cases q
theorem g2_isNotB {K : PySem.W.Frag} : G2 K rNotB gIsNotB := fun ρ S H d e z x y Q so rx ry q n => by
  unfold gIsNotB at q
  split at q
  · cases q
    exact ⟨_, _, rx.bl, ry.bl, nxt_here so (.bl _) n⟩
  · cases q
/-! ### xs[::-1] -/
def apRev (x : W) (S : Sto) : R W := match rd S x with
  | some (.lst ds) => .ok (.v (.lst ds.reverse)) S
  | _ => .bad
def cRev (a : Den W) : Den W := fun δ S => (a δ S).bind fun x S1 => apRev x S1
theorem de_rev {X : Cx} {E : XP} {e : Expr} {k : Nat} {p1 p2 p3 pos : Pos} {a : Den W} (h : PE X e (tE X.K E a)) : PE X (.Subscript e (.Slice none none (some (.UnaryOp .USub (.Constant (.int 1) k p1) p2)) p3) pos) (tE X.K E (cRev a)) :=
  pe_mono (pe_revL h) fun σ H Q ⟨δ, ρ, S, st, so, p⟩ => tG_then st so p fun w S1 v ρ1 H1 f1 st1 so1 r1 p1 => by
    unfold apRev at p1
    split at p1
    · rename_i ds q
      obtain ⟨b, xs, rfl, hb, rb⟩ := (rd_ok so1 r1 q).lstE
      exact ⟨b, xs, rfl, SqL.of hb, nxt_lst so1 rb.reverse fun v H' f so' rp => p1 v ρ1 H' f so' rp⟩
    · exact p1.elim
/-! ### name = [..] -/
section
variable {X : Cx} {E : XP}
theorem asg_comp {g : TG} {dg : DenG} {ts vs : List Nat} {it : Den (List D)} {tt : Den Bool} {te : Den W} (i : Nat) (hgo : GOk X.K g dg ts) (hts : ∀ j ∈ ts, j ∈ vs) {D' : Ends} {σ : L2.St} {H : Hp}
    (h : tS X.K E (cAsg (cComp it dg tt te vs) (gN i)) D' σ H) : tAsg (tLc (tI X.K E it) g (tT X.K XP0 tt) (tE X.K XP0 te) vs) (gName i) D' σ H := by
  have hm : ∀ {den : Den W}, tS X.K E (cAsg den (gN i)) D' σ H → tE X.K E den σ H fun x H1 => gName i x σ H1 D'.nx := fun {den} ⟨δ, ρ, S, st, so, p⟩ => tG_thenS st so p fun w S1 v ρ1 H1 f1 st1 so1 r1 p1 => asg_post (gok_name i) st1 so1 r1 p1
  have q := hm h
  refine comp_post hgo hts (kf := fun S1 S2 => if S2.length = S1.length + 1 then (match S2[S1.length]? with
    | some (.lst acc) => .ok (.v (.lst acc)) (S2.take S1.length)
    | _ => .bad) else .bad) (fun ρ1 ρ2 S1 S2 H1 H2 D' so1 nD f so2 e p => ?_) q
  by_cases hl : S2.length = S1.length + 1
  · simp only [if_pos hl] at p
    cases q : S2[S1.length]? with
    | none => rw [q] at p; exact p.elim
    | some ob =>
      cases ob with
      | dct es => rw [q] at p; exact p.elim
      | dead => rw [q] at p; exact p.elim
      | lst acc =>
        rw [q] at p
        obtain ⟨xs, ex, rl⟩ := so2.obs _ _ _ e q
        obtain ⟨more, em⟩ := f.ext
        have t := so2.take S1.length
        rw [em, take_pre so1.len, ← em] at t
        refine p (.ref D') ρ1 H2 (f.cut so1.len so2.len) t.1 (Rp.lst ex (fun l => so1.notIn nD ?_) (rl.weak t.2))
        obtain ⟨j, o, h1, _, _⟩ := l
        exact List.mem_of_getElem? h1
  · simp only [if_neg hl] at p; exact p.elim
theorem ds_setComp (i : Nat) {y : Str} {py : Pos} {elt tg iter : Expr} {ifs : List Expr} {scope : Scope} {own : List (Str × Nat)} {pos spos : Pos} {it : Den (List D)} {g : TG} {dg : DenG} {ts : List Nat} {tt : Den Bool} {te : Den W} (hc : X.calm = true) (hN : X.N.Nodup) (hi : PI X tg iter (tI X.K E it)) (hgo : GOk X.K g dg ts) (ok : blkC X.N X.env.scope scope own = true)
    (hg : ∀ (s : Shared) (H : Hp) (C : Addr) (cl : List (Str × Addr)) (fp : List Addr), PG (X.blk s H scope (compEnvC scope cl C X.env) fp) tg g) (ht : ∀ (s : Shared) (H : Hp) (C : Addr) (cl : List (Str × Addr)) (fp : List Addr), PTs (X.blk s H scope (compEnvC scope cl C X.env) fp) ifs (tT X.K XP0 tt))
    (he : ∀ (s : Shared) (H : Hp) (C : Addr) (cl : List (Str × Addr)) (fp : List Addr), PE (X.blk s H scope (compEnvC scope cl C X.env) fp) elt (tE X.K XP0 te)) (hs : ∀ x, foldedSetIterable iter X.env x = pure x := by intro _; rfl) (hts : ∀ j ∈ ts, j ∈ own.map (·.2) := by decide)
    (hy : X.N[i]? = some y := by rfl) (hyl : X.env.scope.names.lookup y = some .local := by rfl) (hsw : swapsWith (.ListComp elt [⟨tg, iter, ifs, 0⟩] scope pos) (some (.Name y py)) spos.line X.env = pure true := by exact sw_true rfl rfl rfl (by decide +kernel)) :
    PS X (.Assign [.Name y py] (.ListComp elt [⟨tg, iter, ifs, 0⟩] scope pos) spos) (tS X.K E (cAsg (cComp it dg tt te (own.map (·.2))) (gN i))) :=
  ps_mono (ps_setLc hc hN hy hyl hsw hi (blkOk_by ok) hg ht he hs) fun D' σ H h => asg_comp i hgo hts h
end
end Fro

namespace Fro
open PySem PySem.Spec L2

/-! ### evaluation, forward -/
section
variable {a b : DenS} {δ δ' : Slots} {S S1 S2 : Sto} {r : RS} {w : W} {d : D}
theorem e_seq_nx (h : a δ S = .nx δ' S1) (h2 : b δ' S1 = r) : cSeq a b δ S = r := by unfold cSeq; rw [h]; exact h2
theorem e_seq_rt (h : a δ S = .rt w S1) : cSeq a b δ S = .rt w S1 := by unfold cSeq; rw [h]
theorem e_ifs_t {t : Den Bool} (h : t δ S = .ok true S1) (h2 : a δ S1 = r) : cIfS t a b δ S = r := by unfold cIfS; rw [h]; exact h2
theorem e_ifs_f {t : Den Bool} (h : t δ S = .ok false S1) (h2 : b δ S1 = r) : cIfS t a b δ S = r := by unfold cIfS; rw [h]; exact h2
theorem e_ifs {t : Den Bool} {c : Bool} (h : t δ S = .ok c S1) (h2 : (if c = true then a δ S1 else b δ S1) = r) : cIfS t a b δ S = r := by unfold cIfS; rw [h]; exact h2
theorem e_ret {x : Den W} (h : x δ S = .ok w S1) : cRet x δ S = .rt w S1 := by unfold cRet; rw [h]; rfl
theorem e_expr {x : Den W} (h : x δ S = .ok w S1) : cExpr x δ S = .nx δ S1 := by unfold cExpr; rw [h]; rfl
theorem e_set {x : Den W} {i : Nat} (h : x δ S = .ok w S1) : cAsg x (gN i) δ S = .nx (δ.set i (some w)) S1 := by unfold cAsg; rw [h]; rfl
theorem e_asg {x : Den W} {g : DenG} (h : x δ S = .ok w S1) (hg : g w δ S1 = some (δ', S2)) : cAsg x g δ S = .nx δ' S2 := by
  unfold cAsg; rw [h]
  show (match g w δ S1 with | some (δ', S') => RS.nx δ' S' | none => RS.bad) = _
  rw [hg]
theorem e_for {it : Den (List D)} {g : DenG} {ds : List D} (h : it δ S = .ok ds S1) (h2 : forL g a ds δ S1 = r) : cFor it g a δ S = r := by unfold cFor; rw [h]; exact h2
end
section
variable {x y z : Den W} {t u : Den Bool} {δ : Slots} {S S1 S2 S3 : Sto} {r : R W} {rb : R Bool} {w v : W} {c : Bool}
theorem e_if_t (h : t δ S = .ok true S1) (h2 : x δ S1 = r) : cIf t x y δ S = r := by unfold cIf; rw [h]; exact h2
theorem e_if_f (h : t δ S = .ok false S1) (h2 : y δ S1 = r) : cIf t x y δ S = r := by unfold cIf; rw [h]; exact h2
theorem e_b (h : x δ S = .ok (.v (.bl c)) S1) : cB x δ S = .ok c S1 := by unfold cB; rw [h]; rfl
theorem e_not (h : t δ S = .ok c S1) : cNot t δ S = .ok (!c) S1 := by unfold cNot; rw [h]; rfl
theorem e_or_t (h : t δ S = .ok true S1) : cOr t u δ S = .ok true S1 := by unfold cOr; rw [h]; rfl
theorem e_or_f (h : t δ S = .ok false S1) (h2 : u δ S1 = rb) : cOr t u δ S = rb := by unfold cOr; rw [h]; exact h2
theorem e_and_t (h : t δ S = .ok true S1) (h2 : u δ S1 = rb) : cAnd t u δ S = rb := by unfold cAnd; rw [h]; exact h2
theorem e_and_f (h : t δ S = .ok false S1) : cAnd t u δ S = .ok false S1 := by unfold cAnd; rw [h]; rfl
theorem e_andV_t (h : x δ S = .ok (.v (.bl true)) S1) (h2 : y δ S1 = r) : cAndV x y δ S = r := by unfold cAndV; rw [h]; exact h2
theorem e_andV_f (h : x δ S = .ok (.v (.bl false)) S1) : cAndV x y δ S = .ok (.v (.bl false)) S1 := by unfold cAndV; rw [h]; rfl
theorem e_orV_t (h : x δ S = .ok (.v (.bl true)) S1) : cOrV x y δ S = .ok (.v (.bl true)) S1 := by unfold cOrV; rw [h]; rfl
theorem e_orV_f (h : x δ S = .ok (.v (.bl false)) S1) (h2 : y δ S1 = r) : cOrV x y δ S = r := by unfold cOrV; rw [h]; exact h2
theorem e_notV (h : x δ S = .ok (.v (.bl c)) S1) : cNotV x δ S = .ok (.v (.bl (!c))) S1 := by unfold cNotV; rw [h]; rfl
theorem e_op2 {g : D → D → Option D} {d e k : D} (h1 : x δ S = .ok w S1) (h2 : y δ S1 = .ok v S2) (r1 : rd S2 w = some d) (r2 : rd S2 v = some e) (hg : g d e = some k) : op2 g x y δ S = .ok (.v k) S2 := by
  unfold op2; rw [h1, R.bind_ok, h2, R.bind_ok]; unfold ap2; simp only [r1, r2, hg]
/-- two values -/
theorem e_op2v {g : D → D → Option D} {d e k : D} (h1 : x δ S = .ok (.v d) S1) (h2 : y δ S1 = .ok (.v e) S2) (hg : g d e = some k) : op2 g x y δ S = .ok (.v k) S2 := e_op2 h1 h2 rfl rfl hg
theorem e_ix {d e k : D} (h1 : x δ S = .ok (.v d) S1) (h2 : y δ S1 = .ok (.v e) S2) (hg : gIx d e = some k) : cIx x y δ S = .ok (.v k) S2 := by
  unfold cIx; rw [h1, R.bind_ok, h2, R.bind_ok]
  show ap2 gIx (.v d) (.v e) S2 = _
  unfold ap2; simp only [rd, hg]
theorem e_ixr {d e k : D} (h1 : x δ S = .ok w S1) (h2 : y δ S1 = .ok (.v e) S2) (r1 : rd S2 w = some d) (hg : gIx d e = some k) : cIx x y δ S = .ok (.v k) S2 := by
  unfold cIx; rw [h1, R.bind_ok, h2, R.bind_ok]
  have : apIx w (.v e) S2 = ap2 gIx w (.v e) S2 := by
    cases w with
    | s ns => cases r1
    | _ => rfl
  rw [this]
  unfold ap2
  rw [r1]
  simp only [rd, hg]
theorem e_cons {as : Den (List W)} {ws : List W} (h1 : x δ S = .ok w S1) (h2 : as δ S1 = .ok ws S2) : cCons x as δ S = .ok (w :: ws) S2 := by unfold cCons; rw [h1, R.bind_ok, h2]; rfl
theorem e_call {as : Den (List W)} {ws dws : List W} {n : Nat} {f : FDen} {rv : Rv} (h1 : as δ S = .ok ws S1) (h2 : (ws ++ dws).length = n) (h3 : f (ws ++ dws) S1 = .ok rv S2) (h4 : cRes rv S2 = r) : cCall n f as dws δ S = r := by
  unfold cCall; rw [h1, R.bind_ok]; unfold chk; rw [if_pos h2, h3, R.bind_ok]; exact h4
theorem e_callM {as : Den (List W)} {ws dws : List W} {n : Nat} {f : FDen} {rv : Rv} (h1 : as δ S = .ok ws S1) (h2 : (ws ++ dws).length = n) (h3 : f (ws ++ dws) S1 = .ok rv S2) (h4 : cResM rv S2 = r) : cCallM n f as dws δ S = r := by
  unfold cCallM; rw [h1, R.bind_ok]; unfold chk; rw [if_pos h2, h3, R.bind_ok]; exact h4
theorem e_blt {as : Den (List W)} {ws : List W} {g : List D → Option D} {ds : List D} {k : D} (h1 : as δ S = .ok ws S1) (h2 : rdAll S1 ws = some ds) (h3 : g ds = some k) : cBlt g as δ S = .ok (.v k) S1 := by
  unfold cBlt; rw [h1, R.bind_ok]; unfold apN; simp only [h2, h3]
theorem e_disp {as : Den (List W)} {mk : List D → Sto → R W} {ws : List W} {ds : List D} (h1 : as δ S = .ok ws S1) (h2 : toDs ws = some ds) (h3 : ds.length ≤ 1000) (h4 : mk ds S1 = r) : cDisp mk as δ S = r := by
  unfold cDisp; rw [h1, R.bind_ok]; simp only [h2, if_pos h3]; exact h4
end
theorem e_fdef {n : Nat} {body : DenS} {ws : List W} {S S' : Sto} {w : W} {r : R Rv} (h : body (slots0 n ws) S = .rt w S') (h2 : retv S.length w S' = r) : fdef n body ws S = r := by
  unfold fdef; rw [h]; exact h2
theorem e_fdefN {n : Nat} {body : DenS} {ws : List W} {S S' : Sto} {δ : Slots} (h : body (slots0 n ws) S = .nx δ S') : fdef n body ws S = .ok (.v .non) (S'.take S.length) := by
  unfold fdef; rw [h]; rfl
/-- a def that hands back a value and leaves the store as it was -/
theorem e_fdef_v {n : Nat} {body : DenS} {ws : List W} {S : Sto} {d : D} (h : body (slots0 n ws) S = .rt (.v d) S) : fdef n body ws S = .ok (.v d) S := by
  refine e_fdef h ?_
  show R.ok (Rv.v d) (S.take S.length) = _
  rw [List.take_length]
theorem e_fdef_va {n : Nat} {body : DenS} {ws : List W} {S T : Sto} {d : D} (h : body (slots0 n ws) S = .rt (.v d) (S ++ T)) : fdef n body ws S = .ok (.v d) S := by
  refine e_fdef h ?_
  show R.ok (Rv.v d) ((S ++ T).take S.length) = _
  rw [List.take_left]
theorem e_fdef_vs {n : Nat} {body : DenS} {ws : List W} {S : Sto} {d : D} {i : Nat} {o : Ob} (h : body (slots0 n ws) S = .rt (.v d) (S.set i o)) : fdef n body ws S = .ok (.v d) (S.set i o) := by
  refine e_fdef h ?_
  show R.ok (Rv.v d) ((S.set i o).take S.length) = _
  rw [List.take_of_length_le (by rw [List.length_set]; exact Nat.le_refl _)]
/-- .. the last object that was laid -/
theorem e_fdef_new {n : Nat} {body : DenS} {ws : List W} {S : Sto} {o : Ob} (h : body (slots0 n ws) S = .rt (.r S.length) (S ++ [o])) : fdef n body ws S = .ok (.new o) S := by
  refine e_fdef h ?_
  unfold retv
  simp only [if_neg (Nat.lt_irrefl _), List.getElem?_append_right (Nat.le_refl _), Nat.sub_self]
  show R.ok (Rv.new o) ((S ++ [o]).take S.length) = _
  rw [List.take_left]

/-! ### loops over lists of data -/
/-- a loop whose turns go on: a state St i that the slots and the store keep -/
theorem forL_all {dg : DenG} {b : DenS} (P : List D → Slots → Sto → Prop) (ds : List D) (step : ∀ (d : D) (rest : List D) (δ : Slots) (S : Sto), P (d :: rest) δ S → ∃ δ1 S1 δ2 S2, dg (.v d) δ S = some (δ1, S1) ∧ b δ1 S1 = .nx δ2 S2 ∧ P rest δ2 S2) :
    ∀ (δ : Slots) (S : Sto), P ds δ S → ∃ δ' S', forL dg b ds δ S = .nx δ' S' ∧ P [] δ' S' := by
  induction ds with
  | nil => exact fun δ S h => ⟨δ, S, rfl, h⟩
  | cons d rest ih =>
    intro δ S h
    obtain ⟨δ1, S1, δ2, S2, e1, e2, h2⟩ := step d rest δ S h
    obtain ⟨δ', S', e3, h3⟩ := ih δ2 S2 h2
    refine ⟨δ', S', ?_, h3⟩
    unfold forL
    simp only [e1, e2]
    exact e3
/-- a comprehension over data by a function on data, the store kept -/
theorem comp_ev {it : Den (List D)} {dg : DenG} {tt : Den Bool} {te : Den W} {vs : List Nat} {δ : Slots} {S S1 : Sto} {ds : List D} (f : D → Option D) (hit : it δ S = .ok ds S1) (hl : ds.length ≤ 1000000)
    (hs : ∀ d ∈ ds, ∀ acc : List D, ∃ δ1, dg (.v d) (wipeD δ vs) (S1 ++ [.lst acc]) = some (δ1, S1 ++ [.lst acc]) ∧ (match f d with
      | none => tt δ1 (S1 ++ [.lst acc]) = .ok false (S1 ++ [.lst acc])
      | some e => tt δ1 (S1 ++ [.lst acc]) = .ok true (S1 ++ [.lst acc]) ∧ te δ1 (S1 ++ [.lst acc]) = .ok (.v e) (S1 ++ [.lst acc]))) :
    cComp it dg tt te vs δ S = .ok (.v (.lst (ds.filterMap f))) S1 := by
  have key : ∀ (ds : List D) (acc : List D), acc.length + ds.length ≤ 1000000 → (∀ d ∈ ds, ∀ acc : List D, ∃ δ1, dg (.v d) (wipeD δ vs) (S1 ++ [.lst acc]) = some (δ1, S1 ++ [.lst acc]) ∧ (match f d with
      | none => tt δ1 (S1 ++ [.lst acc]) = .ok false (S1 ++ [.lst acc])
      | some e => tt δ1 (S1 ++ [.lst acc]) = .ok true (S1 ++ [.lst acc]) ∧ te δ1 (S1 ++ [.lst acc]) = .ok (.v e) (S1 ++ [.lst acc]))) →
      compL dg tt te S1.length ds (wipeD δ vs) (S1 ++ [.lst acc]) = .ok () (S1 ++ [.lst (acc ++ ds.filterMap f)]) := by
    intro ds
    induction ds with
    | nil => intro acc _ _; simp [compL]
    | cons d rest ih =>
      intro acc hl h
      obtain ⟨δ1, e1, e2⟩ := h d (List.mem_cons_self) acc
      unfold compL
      simp only [e1]
      cases q : f d with
      | none =>
        rw [q] at e2
        simp only [e2, R.noexc_ok, R.bind_ok]
        rw [if_neg Bool.false_ne_true, ih acc (by rw [List.length_cons] at hl; omega) (fun d hd => h d (List.mem_cons_of_mem _ hd)), List.filterMap_cons, q]
      | some e =>
        rw [q] at e2
        simp only [e2.1, e2.2, R.noexc_ok, R.bind_ok, if_true]
        rw [List.getElem?_append_right (Nat.le_refl _), Nat.sub_self]
        rw [List.length_cons] at hl
        simp only [List.getElem?_cons_zero, if_pos (show acc.length < 1000000 by omega)]
        rw [List.set_append_right _ _ (Nat.le_refl _), Nat.sub_self]
        simp only [List.set_cons_zero]
        rw [ih (acc ++ [e]) (by rw [List.length_append]; simp; omega) (fun d hd => h d (List.mem_cons_of_mem _ hd)), List.filterMap_cons, q]
        simp
  unfold cComp
  rw [hit, R.bind_ok, key ds [] (by simpa using hl) hs, R.bind_ok]
  rw [if_pos (by simp), List.getElem?_append_right (Nat.le_refl _), Nat.sub_self]
  simp only [List.getElem?_cons_zero, List.nil_append, List.take_left]
/-- .. whose elements are all taken -/
theorem comp_map {it : Den (List D)} {dg : DenG} {te : Den W} {vs : List Nat} {δ : Slots} {S S1 : Sto} {ds : List D} (f : D → D) (hit : it δ S = .ok ds S1) (hl : ds.length ≤ 1000000)
    (hs : ∀ d ∈ ds, ∀ acc : List D, ∃ δ1, dg (.v d) (wipeD δ vs) (S1 ++ [.lst acc]) = some (δ1, S1 ++ [.lst acc]) ∧ te δ1 (S1 ++ [.lst acc]) = .ok (.v (f d)) (S1 ++ [.lst acc])) :
    cComp it dg cYes te vs δ S = .ok (.v (.lst (ds.map f))) S1 := by
  have q := comp_ev (it := it) (dg := dg) (tt := cYes) (te := te) (vs := vs) (δ := δ) (S := S) (fun d => some (f d)) hit hl fun d hd acc => by
    obtain ⟨δ1, e1, e2⟩ := hs d hd acc
    exact ⟨δ1, e1, rfl, e2⟩
  rw [q]
  simp [List.filterMap_eq_map]

/-! ### names -/
def stL (ts : List Tx) : List D := ts.map .str
theorem all_stL (ts : List Tx) : (stL ts).all flatD = true := by
  unfold stL
  rw [List.all_map]
  exact List.all_eq_true.mpr fun _ _ => rfl
theorem any_stL (t : Tx) : ∀ ts : List Tx, ((stL ts).any fun y => deq y (.str t)) = decide (t ∈ ts)
  | [] => rfl
  | u :: ts => by
    have ih := any_stL t ts
    unfold stL at ih ⊢
    rw [List.map_cons, List.any_cons, ih]
    show ((u == t) || decide (t ∈ ts)) = decide (t ∈ u :: ts)
    by_cases h : u = t
    · subst h; simp
    · have h2 : (u == t) = false := beq_eq_false_iff_ne.mpr h
      rw [h2, Bool.false_or]
      have : (t ∈ u :: ts) ↔ t ∈ ts := by
        rw [List.mem_cons]
        exact ⟨fun z => z.elim (fun e => absurd e.symm h) id, Or.inr⟩
      exact decide_eq_decide.mpr this.symm
theorem gIn_lst (t : Tx) (ts : List Tx) : gIn (.str t) (.lst (stL ts)) = some (.bl (decide (t ∈ ts))) := by
  unfold gIn gInB
  simp only [flatD, all_stL, Bool.and_self, if_true, any_stL, Option.map_some]
theorem gIn_tup (t : Tx) (ts : List Tx) : gIn (.str t) (.tup (stL ts)) = some (.bl (decide (t ∈ ts))) := by
  unfold gIn gInB
  simp only [flatD, all_stL, Bool.and_self, if_true, any_stL, Option.map_some]
theorem gNotIn_lst (t : Tx) (ts : List Tx) : gNotIn (.str t) (.lst (stL ts)) = some (.bl (!decide (t ∈ ts))) := by
  unfold gNotIn gInB
  simp only [flatD, all_stL, Bool.and_self, if_true, any_stL, Option.map_some]
theorem gNotIn_tup (t : Tx) (ts : List Tx) : gNotIn (.str t) (.tup (stL ts)) = some (.bl (!decide (t ∈ ts))) := by
  unfold gNotIn gInB
  simp only [flatD, all_stL, Bool.and_self, if_true, any_stL, Option.map_some]
def okT (t : Tx) : Bool := t.all fun c => decide (c < 1114112)
theorem okDL_stL : ∀ ts : List Tx, (∀ t ∈ ts, okT t = true) → okDL (stL ts) = true
  | [], _ => rfl
  | t :: ts, h => by
    show (okD (.str t) && okDL (stL ts)) = true
    rw [okDL_stL ts fun u hu => h u (List.mem_cons_of_mem _ hu)]
    have := h t List.mem_cons_self
    unfold okT at this
    simp only [okD, this, Bool.and_self]
theorem depL_stL : ∀ ts : List Tx, depL (stL ts) = 0
  | [] => rfl
  | t :: ts => by
    show max (dep (.str t)) (depL (stL ts)) = 0
    rw [depL_stL ts]
    rfl
theorem deqL_stL : ∀ ts us : List Tx, deqL (stL ts) (stL us) = decide (ts = us)
  | [], [] => rfl
  | [], _ :: _ => rfl
  | _ :: _, [] => rfl
  | t :: ts, u :: us => by
    show ((t == u) && deqL (stL ts) (stL us)) = _
    rw [deqL_stL ts us]
    by_cases h : t = u
    · subst h
      by_cases h2 : ts = us
      · subst h2; simp
      · simp [h2]
    · simp [h]
theorem gEq_stL (ts us : List Tx) (h : ∀ t ∈ ts, okT t = true) (h2 : ∀ t ∈ us, okT t = true) : gEq (.lst (stL ts)) (.lst (stL us)) = some (.bl (decide (ts = us))) := by
  unfold gEq
  simp only [okD, okDL_stL ts h, okDL_stL us h2, dep, depL_stL, deq, deqL_stL]
  rfl
theorem gNe_stL (ts us : List Tx) (h : ∀ t ∈ ts, okT t = true) (h2 : ∀ t ∈ us, okT t = true) : gNe (.lst (stL ts)) (.lst (stL us)) = some (.bl (!decide (ts = us))) := by
  unfold gNe
  simp only [okD, okDL_stL ts h, okDL_stL us h2, dep, depL_stL, deq, deqL_stL]
  rfl
end Fro

namespace Fro
open PySem PySem.Spec L2

/-! ### the last object of a store, and others -/
theorem at_last (S : Sto) (o : Ob) : (S ++ [o])[S.length]? = some o := by simp
theorem at_last2 (S T : Sto) (o : Ob) : (S ++ [o] ++ T)[S.length]? = some o := by simp
theorem set_last (S : Sto) (o o' : Ob) : (S ++ [o]).set S.length o' = S ++ [o'] := by
  rw [List.set_append_right _ _ (Nat.le_refl _), Nat.sub_self]
  rfl
theorem rd_at {S : Sto} {i : Nat} {ds : List D} (h : S[i]? = some (.lst ds)) : rd S (.r i) = some (.lst ds) := by
  unfold rd
  simp only [h]
theorem isRL_at {S : Sto} {i : Nat} {ds : List D} (h : S[i]? = some (.lst ds)) : isRL (.r i) S = some (i, ds) := by
  unfold isRL
  simp only [h]
section
variable {x y : Den W} {δ : Slots} {S S1 S2 : Sto} {i : Nat} {w : W} {d : D} {ds es : List D}
theorem e_extend (h1 : x δ S = .ok (.r i) S1) (h2 : ∃ ds, S1[i]? = some (.lst ds)) (h3 : y δ S1 = .ok w S2) (h4 : S2[i]? = some (.lst ds)) (h5 : rd S2 w = some (.lst es)) (h6 : ds.length + es.length ≤ 1000000) : cExtend x y δ S = .ok (.v .non) (S2.set i (.lst (ds ++ es))) := by
  obtain ⟨ds0, h2⟩ := h2
  unfold cExtend cMth
  rw [h1, R.bind_ok, isRL_at h2]
  show (y δ S1).bind _ = _
  rw [h3, R.bind_ok]
  unfold apExtend
  rw [isRL_at h4, h5]
  simp only [if_pos h6]
theorem e_append (h1 : x δ S = .ok (.r i) S1) (h2 : ∃ ds, S1[i]? = some (.lst ds)) (h3 : y δ S1 = .ok (.v d) S2) (h4 : S2[i]? = some (.lst ds)) (h6 : ds.length < 1000000) : cAppend x y δ S = .ok (.v .non) (S2.set i (.lst (ds ++ [d]))) := by
  obtain ⟨ds0, h2⟩ := h2
  unfold cAppend cMth
  rw [h1, R.bind_ok, isRL_at h2]
  show (y δ S1).bind _ = _
  rw [h3, R.bind_ok]
  unfold apAppend
  rw [isRL_at h4]
  simp only [toD, if_pos h6]
end
theorem e_itL {x : Den W} {δ : Slots} {S S1 : Sto} {ds : List D} (h : x δ S = .ok (.v (.lst ds)) S1) : itL x δ S = .ok ds S1 := by unfold itL; rw [h]; rfl
theorem e_itT {x : Den W} {δ : Slots} {S S1 : Sto} {ds : List D} (h : x δ S = .ok (.v (.tup ds)) S1) : itT x δ S = .ok ds S1 := by unfold itT; rw [h]; rfl
theorem e_itR {as : Den (List W)} {δ : Slots} {S S1 : Sto} {n : Int} (h : as δ S = .ok [.v (.int n)] S1) (h0 : 0 ≤ n) (h1 : n < 1000000) : itR0 as δ S = .ok (rangeD 0 n.toNat) S1 := by
  unfold itR0
  rw [h, R.bind_ok]
  exact if_pos ⟨h0, h1⟩
theorem stL_append (a b : List Tx) : stL a ++ stL b = stL (a ++ b) := by unfold stL; rw [List.map_append]
theorem stL_length (a : List Tx) : (stL a).length = a.length := by unfold stL; rw [List.length_map]
theorem gAdd_tups (a b : List Tx) (h : a.length + b.length ≤ 1000000) : gAdd (.tup (stL a)) (.tup (stL b)) = some (.tup (stL (a ++ b))) := by
  unfold gAdd
  simp only [stL_length, if_pos h, stL_append]
theorem gAdd_lsts (a b : List Tx) (h : a.length + b.length ≤ 1000000) : gAdd (.lst (stL a)) (.lst (stL b)) = some (.lst (stL (a ++ b))) := by
  unfold gAdd
  simp only [stL_length, if_pos h, stL_append]
def flt (p : Tx → Bool) : D → Option D
  | .str t => if p t = true then some (.str t) else none
  | _ => none
theorem filter_stL (p : Tx → Bool) : ∀ ts : List Tx, (stL ts).filterMap (flt p) = stL (ts.filter p)
  | [] => rfl
  | t :: ts => by
    show (D.str t :: stL ts).filterMap _ = _
    rw [List.filterMap_cons]
    by_cases h : p t = true
    · rw [show flt p (.str t) = some (.str t) from if_pos h, List.filter_cons_of_pos h, filter_stL p ts]
      rfl
    · rw [show flt p (.str t) = none from if_neg h, List.filter_cons_of_neg h, filter_stL p ts]
end Fro

namespace Fro
open PySem PySem.Spec L2
/-! ### constants -/
def k_BARRED : D := (.tup [(.str [97, 108, 108]), (.str [102, 117, 110]), (.str [105, 110]), (.str [108, 101, 116]), (.str [116, 114, 117, 101]), (.str [102, 97, 108, 115, 101])])
def k_MOST_SIGNS : D := (.int 8)
def k_LETTERS : D := (.str [97, 98, 99, 100, 101, 102, 103, 104, 105, 106, 107, 108, 109, 110, 111, 112, 113, 114, 115, 116, 117, 118, 119, 120, 121, 122])
def tbl_WORDS : List (Tx × D) := [([73, 110, 116], (.int 0)), ([66, 111, 111, 108], (.int 0)), ([85, 110, 105, 116], (.int 0)), ([76, 105, 115, 116], (.int 1)), ([80, 97, 105, 114], (.int 2)), ([84, 111], (.int 2))]
/-! ### denotations -/
def b__law_source_of : DenS :=
    (cSeq (cAsg (cIf (cB (op2 gGe (cVar 0) (cC (.int 0)))) (cVar 0) (op2 gSub (op2 gSub (cC (.int 0)) (op2 gMul (cC (.int 3)) (cVar 0))) (cC (.int 1)))) (gN 0))
    (cRet (cLstM (cCons (op2 gMul (cVar 0) (cBlt gInt (cCons (op2 gGe (cVar 0) (op2 gPow (cC (.int 10)) (cC (.int 18)))) cNil))) (cCons (op2 gMod (cBlt gInt (cCons (cVar 0) cNil)) (cC (.int 2147483647))) (cCons (cC (.int 0)) cNil))))))
def f__law_source_of : FDen := fdef 1 b__law_source_of
def b_is_name : DenS :=
    (cSeq (cIfS (cOr (cNot (cB (cBlt gIsi (cCons (cVar 0) (cCons (cC (.ty .str)) cNil))))) (cB (op2 gIn (cVar 0) (cC k_BARRED))))
    (cRet (cC (.bl false)))
    cNx)
    (cRet (cAndV (cChain gLe gLe (cC (.int 1)) (cLen (cCons (cVar 0) cNil)) (cC k_MOST_SIGNS)) (cBlt gAll (cCons (cComp (itS (cVar 0)) (gN 1) cYes (op2 gIn (cVar 1) (cC k_LETTERS)) [1]) cNil)))))
def f_is_name : FDen := fdef 2 b_is_name
def b_is_kind (f : FDen) : DenS :=
    (cSeq (cIfS (cOr (cNot (cB (cBlt gIsi (cCons (cVar 0) (cCons (cC (.ty .tup)) cNil))))) (cB (op2 gEq (cVar 0) (cTup cNil))))
    (cRet (cC (.bl false)))
    cNx)
    (cSeq (cIfS (cB (op2 gEq (cIx (cVar 0) (cC (.int 0))) (cC (.str [118, 97, 114]))))
    (cRet (cAndV (op2 gEq (cLen (cCons (cVar 0) cNil)) (cC (.int 2))) (cCall 1 f_is_name (cCons (cIx (cVar 0) (cC (.int 1))) cNil) [])))
    cNx)
    (cSeq (cIfS (cB (op2 gEq (cIx (cVar 0) (cC (.int 0))) (cC (.str [97, 108, 108]))))
    (cRet (cAndV (op2 gEq (cLen (cCons (cVar 0) cNil)) (cC (.int 3))) (cAndV (cCall 1 f_is_name (cCons (cIx (cVar 0) (cC (.int 1))) cNil) []) (cCall 1 f (cCons (cIx (cVar 0) (cC (.int 2))) cNil) []))))
    cNx)
    (cSeq (cIfS (cOr (cB (op2 gNe (cIx (cVar 0) (cC (.int 0))) (cC (.str [99, 111, 110])))) (cOr (cB (op2 gNe (cLen (cCons (cVar 0) cNil)) (cC (.int 3)))) (cOr (cNot (cB (cBlt gIsi (cCons (cIx (cVar 0) (cC (.int 1))) (cCons (cC (.ty .str)) cNil))))) (cB (cKIn tbl_WORDS true (cIx (cVar 0) (cC (.int 1))))))))
    (cRet (cC (.bl false)))
    cNx)
    (cSeq (cIfS (cOr (cNot (cB (cBlt gIsi (cCons (cIx (cVar 0) (cC (.int 2))) (cCons (cC (.ty .tup)) cNil))))) (cB (op2 gNe (cLen (cCons (cIx (cVar 0) (cC (.int 2))) cNil)) (cKGet tbl_WORDS (cIx (cVar 0) (cC (.int 1)))))))
    (cRet (cC (.bl false)))
    cNx)
    (cRet (cBlt gAll (cCons (cComp (itT (cIx (cVar 0) (cC (.int 2)))) (gN 1) cYes (cCall 1 f (cCons (cVar 1) cNil) []) [1]) cNil))))))))
def f_is_kind : Nat → FDen
  | 0 => fun _ _ => .bad
  | n + 1 => fdef 2 (b_is_kind (f_is_kind n))
def b_want_kind : DenS :=
    (cIfS (cNot (cB (cCall 1 (f_is_kind 30) (cCons (cVar 0) cNil) [])))
    cBad
    cNx)
def f_want_kind : FDen := fdef 1 b_want_kind
def l1_free_of (f : FDen) : DenS :=
    (cExpr (cExtend (cVar 2) (cComp (itL (cCall 2 f (cCons (cVar 3) (cCons (cVar 1) cNil)) [])) (gN 4) (cB (op2 gNotIn (cVar 4) (cVar 2))) (cVar 4) [4])))
def b_free_of (f : FDen) : DenS :=
    (cSeq (cIfS (cB (op2 gEq (cIx (cVar 0) (cC (.int 0))) (cC (.str [118, 97, 114]))))
    (cRet (cIf (cB (op2 gIn (cIx (cVar 0) (cC (.int 1))) (cVar 1))) (cLstM cNil) (cLstM (cCons (cIx (cVar 0) (cC (.int 1))) cNil))))
    cNx)
    (cSeq (cIfS (cB (op2 gEq (cIx (cVar 0) (cC (.int 0))) (cC (.str [97, 108, 108]))))
    (cRet (cCallM 2 f (cCons (cIx (cVar 0) (cC (.int 2))) (cCons (op2 gAdd (cVar 1) (cTup (cCons (cIx (cVar 0) (cC (.int 1))) cNil))) cNil)) []))
    cNx)
    (cSeq (cAsg (cLstM cNil) (gN 2))
    (cSeq (cFor (itT (cIx (cVar 0) (cC (.int 2)))) (gN 3) (l1_free_of f))
    (cRet (cVar 2))))))
def f_free_of : Nat → FDen
  | 0 => fun _ _ => .bad
  | n + 1 => fdef 5 (b_free_of (f_free_of n))
def b_free : DenS :=
    (cSeq (cExpr (cCall 1 f_want_kind (cCons (cVar 0) cNil) []))
    (cRet (cCallM 2 (f_free_of 30) (cCons (cVar 0) cNil) [.v (.tup [])])))
def f_free : FDen := fdef 1 b_free
def b__law_cell_at : DenS :=
    (cSeq (cIfS (cB (op2 gLt (cVar 1) (cLen (cCons (cVar 0) cNil))))
    (cRet (cIx (cVar 0) (cVar 1)))
    cNx)
    (cRet (cC (.int 0))))
def f__law_cell_at : FDen := fdef 2 b__law_cell_at
def l1__law_names_in (f : FDen) : DenS :=
    (cAsg (op2 gAdd (cVar 2) (cCall 2 f (cCons (cVar 3) (cCons (cVar 1) cNil)) [])) (gN 2))
def b__law_names_in (f : FDen) : DenS :=
    (cSeq (cIfS (cB (op2 gEq (cIx (cVar 0) (cC (.int 0))) (cC (.str [118, 97, 114]))))
    (cRet (op2 gMul (cLst (cCons (cIx (cVar 0) (cC (.int 1))) cNil)) (cBlt gInt (cCons (op2 gNotIn (cIx (cVar 0) (cC (.int 1))) (cVar 1)) cNil))))
    cNx)
    (cSeq (cIfS (cB (op2 gEq (cIx (cVar 0) (cC (.int 0))) (cC (.str [97, 108, 108]))))
    (cRet (cCall 2 f (cCons (cIx (cVar 0) (cC (.int 2))) (cCons (op2 gAdd (cVar 1) (cTup (cCons (cIx (cVar 0) (cC (.int 1))) cNil))) cNil)) []))
    cNx)
    (cSeq (cAsg (cLst cNil) (gN 2))
    (cSeq (cFor (itT (cIx (cVar 0) (cC (.int 2)))) (gN 3) (l1__law_names_in f))
    (cRet (cVar 2))))))
def f__law_names_in : Nat → FDen
  | 0 => fun _ _ => .bad
  | n + 1 => fdef 4 (b__law_names_in (f__law_names_in n))
def l1__law_right : DenS :=
    (cIfS (cB (op2 gNotIn (cVar 2) (cVar 1)))
    (cExpr (cAppend (cVar 1) (cVar 2)))
    cNx)
def b__law_right : DenS :=
    (cSeq (cAsg (cLstM cNil) (gN 1))
    (cSeq (cFor (itL (cCall 2 (f__law_names_in 30) (cCons (cVar 0) (cCons (cTup cNil) cNil)) [])) (gN 2) l1__law_right)
    (cSeq (cAsg (cCallM 1 f_free (cCons (cVar 0) cNil) []) (gN 3))
    (cSeq (cIfS (cOr (cB (op2 gNe (cVar 3) (cVar 1))) (cNot (cB (cBlt gIsi (cCons (cVar 3) (cCons (cC (.ty .lst)) cNil))))))
    (cRet (cC (.bl false)))
    cNx)
    (cSeq (cExpr (cAppend (cVar 3) (cC (.str [109, 111, 114, 101]))))
    (cRet (op2 gEq (cCall 1 f_free (cCons (cVar 0) cNil) []) (cVar 1))))))))
def f__law_right : FDen := fdef 4 b__law_right
def b__law_next : DenS :=
    (cSeq (cIfS (cB (op2 gGt (cIx (cVar 0) (cC (.int 0))) (cC (.int 0))))
    (cSeq (cAsg (op2 gMod (cBlt gInt (cCons (cIx (cVar 0) (cC (.int 0))) cNil)) (cVar 1)) (gN 2))
    (cSeq (cAsg (op2 gDiv (cIx (cVar 0) (cC (.int 0))) (cVar 1)) (gSubD (cVar 0) (cC (.int 0))))
    (cRet (cVar 2))))
    cNx)
    (cSeq (cAsg (op2 gAdd (cIx (cVar 0) (cC (.int 2))) (cC (.int 1))) (gSubD (cVar 0) (cC (.int 2))))
    (cSeq (cAsg (cC (.int 2147483647)) (gN 3))
    (cSeq (cAsg (op2 gMod (cBlt gInt (cCons (op2 gAdd (op2 gAdd (cIx (cVar 0) (cC (.int 1))) (op2 gMul (cC (.int 104729)) (cIx (cVar 0) (cC (.int 2))))) (cC (.int 7919))) cNil)) (cVar 3)) (gN 4))
    (cSeq (cAsg (op2 gMod (cBlt gInt (cCons (op2 gMul (cVar 4) (cC (.int 48271))) cNil)) (cVar 3)) (gN 4))
    (cSeq (cAsg (op2 gMod (cBlt gInt (cCons (op2 gMul (cVar 4) (op2 gAdd (op2 gDiv (cVar 4) (cC (.int 1009))) (cC (.int 69621)))) cNil)) (cVar 3)) (gN 4))
    (cSeq (cAsg (op2 gMod (cBlt gInt (cCons (op2 gMul (cVar 4) (op2 gAdd (op2 gDiv (cVar 4) (cC (.int 2003))) (cC (.int 40692)))) cNil)) (cC (.int 2147483399))) (gN 4))
    (cRet (op2 gMod (cBlt gInt (cCons (op2 gDiv (cVar 4) (cC (.int 7))) cNil)) (cVar 1))))))))))
def f__law_next : FDen := fdef 5 b__law_next
def b__law_one : DenS :=
    (cRet (cIx (cVar 1) (cCall 2 f__law_next (cCons (cVar 0) (cCons (cLen (cCons (cVar 1) cNil)) cNil)) [])))
def f__law_one : FDen := fdef 2 b__law_one
def b__law_kind (f : FDen) : DenS :=
    (cSeq (cAsg (cCall 2 f__law_next (cCons (cVar 0) (cCons (cC (.int 12)) cNil)) []) (gN 3))
    (cSeq (cIfS (cOr (cB (op2 gEq (cVar 1) (cC (.int 0)))) (cB (op2 gLt (cVar 3) (cC (.int 4)))))
    (cSeq (cIfS (cOr (cB (op2 gEq (cVar 3) (cC (.int 3)))) (cB (op2 gEq (op2 gMod (cBlt gInt (cCons (cVar 3) cNil)) (cC (.int 12))) (cC (.int 11)))))
    (cRet (cTup (cCons (cC (.str [99, 111, 110])) (cCons (cCall 2 f__law_one (cCons (cVar 0) (cCons (cLst (cCons (cC (.str [73, 110, 116])) (cCons (cC (.str [66, 111, 111, 108])) (cCons (cC (.str [85, 110, 105, 116])) cNil)))) cNil)) []) (cCons (cTup cNil) cNil)))))
    cNx)
    (cRet (cTup (cCons (cC (.str [118, 97, 114])) (cCons (cCall 2 f__law_one (cCons (cVar 0) (cCons (cVar 2) cNil)) []) cNil)))))
    cNx)
    (cSeq (cIfS (cB (op2 gLt (cVar 3) (cC (.int 8))))
    (cRet (cTup (cCons (cC (.str [97, 108, 108])) (cCons (cCall 2 f__law_one (cCons (cVar 0) (cCons (cVar 2) cNil)) []) (cCons (cCall 3 f (cCons (cVar 0) (cCons (op2 gSub (cVar 1) (cC (.int 1))) (cCons (cVar 2) cNil))) []) cNil)))))
    cNx)
    (cSeq (cIfS (cB (op2 gEq (cVar 3) (cC (.int 8))))
    (cRet (cTup (cCons (cC (.str [99, 111, 110])) (cCons (cC (.str [76, 105, 115, 116])) (cCons (cTup (cCons (cCall 3 f (cCons (cVar 0) (cCons (op2 gSub (cVar 1) (cC (.int 1))) (cCons (cVar 2) cNil))) []) cNil)) cNil)))))
    cNx)
    (cSeq (cAsg (cCall 3 f (cCons (cVar 0) (cCons (op2 gSub (cVar 1) (cC (.int 1))) (cCons (cVar 2) cNil))) []) (gN 4))
    (cRet (cTup (cCons (cC (.str [99, 111, 110])) (cCons (cCall 2 f__law_one (cCons (cVar 0) (cCons (cLst (cCons (cC (.str [84, 111])) (cCons (cC (.str [80, 97, 105, 114])) (cCons (cC (.str [84, 111])) cNil)))) cNil)) []) (cCons (cTup (cCons (cVar 4) (cCons (cCall 3 f (cCons (cVar 0) (cCons (op2 gSub (cVar 1) (cC (.int 1))) (cCons (cVar 2) cNil))) []) cNil))) cNil))))))))))
def f__law_kind : Nat → FDen
  | 0 => fun _ _ => .bad
  | n + 1 => fdef 5 (b__law_kind (f__law_kind n))
def l1__law_wide : DenS :=
    (cSeq (cAsg (cTup (cCons (cC (.str [118, 97, 114])) (cCons (cCall 2 f__law_one (cCons (cVar 0) (cCons (cVar 1) cNil)) []) cNil))) (gN 4))
    (cSeq (cAsg (cCall 2 f__law_next (cCons (cVar 0) (cCons (cC (.int 5)) cNil)) []) (gN 5))
    (cSeq (cIfS (cB (op2 gEq (cVar 5) (cC (.int 0))))
    (cAsg (cTup (cCons (cC (.str [97, 108, 108])) (cCons (cCall 2 f__law_one (cCons (cVar 0) (cCons (cVar 1) cNil)) []) (cCons (cVar 2) cNil)))) (gN 2))
    (cAsg (cTup (cCons (cC (.str [99, 111, 110])) (cCons (cIx (cLst (cCons (cC (.str [84, 111])) (cCons (cC (.str [80, 97, 105, 114])) cNil))) (op2 gMod (cBlt gInt (cCons (cVar 5) cNil)) (cC (.int 2)))) (cCons (cIx (cLst (cCons (cTup (cCons (cVar 2) (cCons (cVar 4) cNil))) (cCons (cTup (cCons (cVar 4) (cCons (cVar 2) cNil))) cNil))) (op2 gDiv (cVar 5) (cC (.int 3)))) cNil)))) (gN 2)))
    (cIfS (cB (op2 gGt (cVar 3) (cC (.int 24))))
    (cRet (cVar 2))
    cNx))))
def b__law_wide : DenS :=
    (cSeq (cAsg (cLst (cCons (cC (.str [97])) (cCons (cC (.str [98])) (cCons (cC (.str [97, 97])) (cCons (cC (.str [122, 122])) (cCons (cC (.str [120])) (cCons (cC (.str [121])) (cCons (cC (.str [105, 110, 110, 101, 114])) (cCons (cC (.str [108, 111, 115, 116])) (cCons (cC (.str [97, 98, 99, 100, 101, 102, 103, 104])) cNil)))))))))) (gN 1))
    (cSeq (cAsg (cTup (cCons (cC (.str [118, 97, 114])) (cCons (cCall 2 f__law_one (cCons (cVar 0) (cCons (cVar 1) cNil)) []) cNil))) (gN 2))
    (cSeq (cFor (itR0 (cCons (op2 gAdd (cC (.int 1)) (cCall 2 f__law_next (cCons (cVar 0) (cCons (cC (.int 35)) cNil)) [])) cNil)) (gN 3) l1__law_wide)
    (cRet (cVar 2)))))
def f__law_wide : FDen := fdef 6 b__law_wide
def l2_law : DenS :=
    (cSeq (cIfS (cNot (cB (cCall 1 f__law_right (cCons (cCall 3 (f__law_kind 7) (cCons (cVar 2) (cCons (cC (.int 5)) (cCons (op2 gAdd (cSl (cLst (cCons (cC (.str [97])) (cCons (cC (.str [98])) (cCons (cC (.str [99])) cNil)))) cNoPart (cPart (op2 gAdd (cC (.int 1)) (cCall 2 f__law_next (cCons (cVar 2) (cCons (cC (.int 3)) cNil)) [])))) (cLst (cCons (cC (.str [121])) cNil))) cNil))) []) cNil) [])))
    (cRet (cC (.bl false)))
    cNx)
    (cIfS (cNot (cB (cCall 1 f__law_right (cCons (cCall 1 f__law_wide (cCons (cVar 2) cNil) []) cNil) [])))
    (cRet (cC (.bl false)))
    cNx))
def l1_law : DenS :=
    (cSeq (cAsg (cCallM 1 f__law_source_of (cCons (cCall 2 f__law_cell_at (cCons (cVar 0) (cCons (cVar 1) cNil)) []) cNil) []) (gN 2))
    (cFor (itR0 (cCons (cC (.int 12)) cNil)) (gN 3) l2_law))
def b_law : DenS :=
    (cSeq (cFor (itR0 (cCons (cBlt gMax2 (cCons (cC (.int 1)) (cCons (cBlt gMin2 (cCons (cC (.int 4)) (cCons (cLen (cCons (cVar 0) cNil)) cNil))) cNil))) cNil)) (gN 1) l1_law)
    (cRet (op2 gEq (cCall 1 f_free (cCons (cTup (cCons (cC (.str [97, 108, 108])) (cCons (cC (.str [97])) (cCons (cTup (cCons (cC (.str [99, 111, 110])) (cCons (cC (.str [84, 111])) (cCons (cTup (cCons (cTup (cCons (cC (.str [118, 97, 114])) (cCons (cC (.str [97])) cNil))) (cCons (cTup (cCons (cC (.str [118, 97, 114])) (cCons (cC (.str [98])) cNil))) cNil))) cNil)))) cNil)))) cNil) []) (cLst (cCons (cC (.str [98])) cNil)))))
def f_law : FDen := fdef 4 b_law
end Fro

namespace Fro
open PySem PySem.Spec L2

/-! ### names -/
def barred : List Tx := [[97, 108, 108], [102, 117, 110], [105, 110], [108, 101, 116], [116, 114, 117, 101], [102, 97, 108, 115, 101]]
def lets : Tx := [97, 98, 99, 100, 101, 102, 103, 104, 105, 106, 107, 108, 109, 110, 111, 112, 113, 114, 115, 116, 117, 118, 119, 120, 121, 122]
def isNm (t : Tx) : Bool := !decide (t ∈ barred) && (decide ((1 : Int) ≤ t.length) && decide ((t.length : Int) ≤ 8)) && t.all fun c => decide (c ∈ lets)
theorem blL_map {α : Type} (f : α → Bool) : ∀ l : List α, blL (l.map fun x => .bl (f x)) = some (l.map f)
  | [] => rfl
  | x :: l => by
    show (blL (l.map fun x => .bl (f x))).map (f x :: ·) = _
    rw [blL_map f l]
    rfl
theorem gAll_map {α : Type} (f : α → Bool) (l : List α) : gAll [.lst (l.map fun x => .bl (f x))] = some (.bl (l.all f)) := by
  unfold gAll
  simp only [blL_map, Option.map_some]
  congr 2
  rw [List.all_map]
  rfl
theorem isNm_ok {t : Tx} (h : isNm t = true) : okT t = true := by
  unfold isNm at h
  rw [Bool.and_eq_true] at h
  unfold okT
  rw [List.all_eq_true]
  intro c hc
  have q := List.all_eq_true.mp h.2 c hc
  have q2 : c ∈ lets := of_decide_eq_true q
  have : c < 123 := by
    have all : ∀ c ∈ lets, c < 123 := by decide
    exact all c q2
  exact decide_eq_true (by omega)
theorem isNm_len {t : Tx} (h : isNm t = true) : t.length ≤ 8 := by
  unfold isNm at h
  simp only [Bool.and_eq_true, decide_eq_true_eq] at h
  omega
theorem is_name_ev (t : Tx) (hl : t.length ≤ 1000000) (S : Sto) : f_is_name [.v (.str t)] S = .ok (.v (.bl (isNm t))) S := by
  unfold f_is_name
  refine e_fdef_v ?_
  unfold b_is_name
  have hin : (cOr (cNot (cB (cBlt gIsi (cCons (cVar 0) (cCons (cC (.ty .str)) cNil))))) (cB (op2 gIn (cVar 0) (cC k_BARRED)))) (slots0 2 [.v (.str t)]) S = .ok (decide (t ∈ barred)) S :=
    e_or_f (e_not (e_b (S1 := S) (c := true) rfl)) (e_b (e_op2v rfl rfl (gIn_tup t barred)))
  by_cases hb : t ∈ barred
  · rw [decide_eq_true hb] at hin
    have e : isNm t = false := by unfold isNm; simp [hb]
    rw [e]
    exact e_seq_rt (e_ifs_t hin (e_ret rfl))
  · rw [decide_eq_false hb] at hin
    refine e_seq_nx (e_ifs_f hin rfl) (e_ret ?_)
    have hlen : cLen (cCons (cVar 0) cNil) (slots0 2 [.v (.str t)]) S = .ok (.v (.int t.length)) S := by
      show apN gLen [.v (.str t)] S = _
      unfold apN
      simp only [rdAll, rd, gLen, if_pos hl]
    have hch : cChain gLe gLe (cC (.int 1)) (cLen (cCons (cVar 0) cNil)) (cC k_MOST_SIGNS) (slots0 2 [.v (.str t)]) S = .ok (.v (.bl (decide ((1 : Int) ≤ t.length) && decide ((t.length : Int) ≤ 8)))) S := by
      unfold cChain
      rw [show cC (.int 1) (slots0 2 [.v (.str t)]) S = .ok (.v (.int 1)) S from rfl, R.bind_ok, hlen, R.bind_ok]
      by_cases h1 : (1 : Int) ≤ t.length
      · rw [show ap2 gLe (.v (.int 1)) (.v (.int t.length)) S = .ok (.v (.bl (decide ((1 : Int) ≤ t.length)))) S from rfl, decide_eq_true h1]
        rfl
      · rw [show ap2 gLe (.v (.int 1)) (.v (.int t.length)) S = .ok (.v (.bl (decide ((1 : Int) ≤ t.length)))) S from rfl, decide_eq_false h1]
        rfl
    have hall : cBlt gAll (cCons (cComp (itS (cVar 0)) (gN 1) cYes (op2 gIn (cVar 1) (cC k_LETTERS)) [1]) cNil) (slots0 2 [.v (.str t)]) S = .ok (.v (.bl (t.all fun c => decide (c ∈ lets)))) S := by
      refine e_blt (ws := [.v (.lst (t.map fun c => .bl (decide (c ∈ lets))))]) (e_cons ?_ rfl) rfl (gAll_map _ t)
      have q := comp_map (it := itS (cVar 0)) (dg := gN 1) (te := op2 gIn (cVar 1) (cC k_LETTERS)) (vs := [1]) (δ := slots0 2 [.v (.str t)]) (S := S) (S1 := S) (ds := t.map fun c => .str [c]) (fun d => match d with
        | .str [c] => .bl (decide (c ∈ lets))
        | _ => .non) rfl (by rw [List.length_map]; exact hl) (fun d hd acc => by
          obtain ⟨c, hc, rfl⟩ := List.mem_map.mp hd
          exact ⟨_, rfl, e_op2v rfl rfl rfl⟩)
      rw [List.map_map] at q
      exact q
    have e : isNm t = ((decide ((1 : Int) ≤ t.length) && decide ((t.length : Int) ≤ 8)) && t.all fun c => decide (c ∈ lets)) := by
      unfold isNm
      rw [decide_eq_false hb]
      rfl
    rw [e]
    cases hq : (decide ((1 : Int) ≤ t.length) && decide ((t.length : Int) ≤ 8)) with
    | false =>
      rw [hq] at hch
      exact e_andV_f hch
    | true =>
      rw [hq] at hch
      rw [Bool.true_and]
      exact e_andV_t hch hall
end Fro

namespace Fro
open PySem PySem.Spec L2

/-! ### kinds -/
inductive C0 where
  | int | bool | unit
  deriving DecidableEq
inductive C2 where
  | pair | to
  deriving DecidableEq
def C0.tx : C0 → Tx
  | .int => [73, 110, 116]
  | .bool => [66, 111, 111, 108]
  | .unit => [85, 110, 105, 116]
def C2.tx : C2 → Tx
  | .pair => [80, 97, 105, 114]
  | .to => [84, 111]
inductive Kd where
  | var (n : Tx) | con0 (c : C0) | list (k : Kd) | con2 (c : C2) (a b : Kd) | all (n : Tx) (k : Kd)
  deriving DecidableEq
def tVarW : Tx := [118, 97, 114]
def tConW : Tx := [99, 111, 110]
def tAllW : Tx := [97, 108, 108]
def tListW : Tx := [76, 105, 115, 116]
def enc : Kd → D
  | .var n => .tup [.str [118, 97, 114], .str n]
  | .con0 c => .tup [.str [99, 111, 110], .str c.tx, .tup []]
  | .list k => .tup [.str [99, 111, 110], .str [76, 105, 115, 116], .tup [enc k]]
  | .con2 c a b => .tup [.str [99, 111, 110], .str c.tx, .tup [enc a, enc b]]
  | .all n k => .tup [.str [97, 108, 108], .str n, enc k]
def Kd.ht : Kd → Nat
  | .var _ => 1
  | .con0 _ => 1
  | .list k => k.ht + 1
  | .con2 _ a b => max a.ht b.ht + 1
  | .all _ k => k.ht + 1
def Kd.nms : Kd → List Tx
  | .var n => [n]
  | .con0 _ => []
  | .list k => k.nms
  | .con2 _ a b => a.nms ++ b.nms
  | .all n k => n :: k.nms
/-- how many leaves -/
def Kd.lvs : Kd → Nat
  | .var _ => 1
  | .con0 _ => 1
  | .list k => k.lvs
  | .con2 _ a b => a.lvs + b.lvs
  | .all _ k => k.lvs
def Good (k : Kd) : Prop := ∀ n ∈ k.nms, isNm n = true
theorem Kd.ht_pos : ∀ k : Kd, 1 ≤ k.ht
  | .var _ => Nat.le_refl _
  | .con0 _ => Nat.le_refl _
  | .list k => Nat.le_add_left _ _
  | .con2 _ a b => Nat.le_add_left _ _
  | .all _ k => Nat.le_add_left _ _
theorem okT_c0 (c : C0) : okT c.tx = true := by cases c <;> decide
theorem okT_c2 (c : C2) : okT c.tx = true := by cases c <;> decide
theorem okD_enc : ∀ {k : Kd}, Good k → okD (enc k) = true
  | .var n, h => by
    have := isNm_ok (h n List.mem_cons_self)
    unfold okT at this
    simp only [enc, okD, okDL, this]
    decide
  | .con0 c, h => by cases c <;> decide
  | .list k, h => by
    simp only [enc, okD, okDL, okD_enc (k := k) h]
    decide
  | .con2 c a b, h => by
    have h1 : okD (enc a) = true := okD_enc fun n hn => h n (List.mem_append_left _ hn)
    have h2 : okD (enc b) = true := okD_enc fun n hn => h n (List.mem_append_right _ hn)
    simp only [enc, okD, okDL, h1, h2]
    cases c <;> decide
  | .all n k, h => by
    have h1 := isNm_ok (h n List.mem_cons_self)
    have h2 : okD (enc k) = true := okD_enc fun m hm => h m (List.mem_cons_of_mem _ hm)
    unfold okT at h1
    simp only [enc, okD, okDL, h1, h2]
    decide
theorem enc_cons (k : Kd) : ∃ d ds, enc k = .tup (d :: ds) := by cases k <;> exact ⟨_, _, rfl⟩
theorem gEq_nil {d : D} {ds : List D} (h : okD (.tup (d :: ds)) = true) : gEq (.tup (d :: ds)) (.tup []) = some (.bl false) := by
  unfold gEq
  rw [h]
  have e2 : dep (.tup []) = 1 := rfl
  rw [e2]
  rw [if_pos (show (true && okD (.tup []) && decide (min (dep (.tup (d :: ds))) 1 ≤ 64)) = true by
    rw [Bool.and_eq_true]
    exact ⟨rfl, decide_eq_true (Nat.le_trans (Nat.min_le_right _ _) (by decide))⟩)]
  rfl
theorem gEq_enc (k : Kd) (h : Good k) : gEq (enc k) (.tup []) = some (.bl false) := by
  obtain ⟨d, ds, e⟩ := enc_cons k
  have := okD_enc h
  rw [e] at this ⊢
  exact gEq_nil this
theorem is_kind_ev : ∀ (k : Kd) (m : Nat) (S : Sto), Good k → k.ht ≤ m → f_is_kind m [.v (enc k)] S = .ok (.v (.bl true)) S := by
  have t1 : ∀ (k : Kd) (S : Sto), Good k → (cOr (cNot (cB (cBlt gIsi (cCons (cVar 0) (cCons (cC (.ty .tup)) cNil))))) (cB (op2 gEq (cVar 0) (cTup cNil)))) (slots0 2 [.v (enc k)]) S = .ok false S := fun k S h => by
    refine e_or_f (e_not (e_b (S1 := S) (c := true) ?_)) (e_b (e_op2v rfl rfl (gEq_enc k h)))
    obtain ⟨d, ds, e⟩ := enc_cons k
    rw [e]
    rfl
  intro k
  induction k with
  | var n =>
    intro m S h hm
    cases m with
    | zero => exact absurd hm (by unfold Kd.ht; omega)
    | succ m =>
      have hn := h n List.mem_cons_self
      refine e_fdef_v (e_seq_nx (e_ifs_f (t1 _ S h) rfl) (e_seq_rt (e_ifs_t (S1 := S) (e_b rfl) (e_ret (e_andV_t (S1 := S) rfl (e_call (ws := [.v (.str n)]) rfl rfl (is_name_ev n (Nat.le_trans (isNm_len hn) (by decide)) S) ?_))))))
      rw [hn]
      rfl
  | con0 c =>
    intro m S h hm
    cases m with
    | zero => exact absurd hm (by unfold Kd.ht; omega)
    | succ m =>
      refine e_fdef_v (e_seq_nx (e_ifs_f (t1 _ S h) rfl) (e_seq_nx (e_ifs_f (S1 := S) (e_b rfl) rfl) (e_seq_nx (e_ifs_f (S1 := S) (e_b rfl) rfl) (e_seq_nx (e_ifs_f (S1 := S) ?_ rfl) (e_seq_nx (e_ifs_f (S1 := S) ?_ rfl) (e_ret ?_))))))
      · cases c <;> rfl
      · cases c <;> rfl
      · refine e_blt (ws := [.v (.lst [])]) (e_cons ?_ rfl) rfl rfl
        exact comp_map (ds := []) (fun d => d) rfl (by decide) (fun d hd => absurd hd (by simp))
  | list k ih =>
    intro m S h hm
    cases m with
    | zero => exact absurd hm (by have := k.ht_pos; unfold Kd.ht; omega)
    | succ m =>
      have hk : k.ht ≤ m := by unfold Kd.ht at hm; omega
      refine e_fdef_v (e_seq_nx (e_ifs_f (t1 _ S h) rfl) (e_seq_nx (e_ifs_f (S1 := S) (e_b rfl) rfl) (e_seq_nx (e_ifs_f (S1 := S) (e_b rfl) rfl) (e_seq_nx (e_ifs_f (S1 := S) rfl rfl) (e_seq_nx (e_ifs_f (S1 := S) rfl rfl) (e_ret ?_))))))
      refine e_blt (ws := [.v (.lst [.bl true])]) (e_cons ?_ rfl) rfl rfl
      refine comp_map (ds := [enc k]) (fun d => .bl true) rfl (by simp) (fun d hd acc => ?_)
      rw [List.mem_singleton] at hd
      subst hd
      exact ⟨_, rfl, e_call (ws := [.v (enc k)]) rfl rfl (ih m _ h hk) rfl⟩
  | con2 c a b iha ihb =>
    intro m S h hm
    cases m with
    | zero => exact absurd hm (by have := a.ht_pos; unfold Kd.ht; omega)
    | succ m =>
      have h1 : a.ht ≤ m := by unfold Kd.ht at hm; omega
      have h2 : b.ht ≤ m := by unfold Kd.ht at hm; omega
      refine e_fdef_v (e_seq_nx (e_ifs_f (t1 _ S h) rfl) (e_seq_nx (e_ifs_f (S1 := S) (e_b rfl) rfl) (e_seq_nx (e_ifs_f (S1 := S) (e_b rfl) rfl) (e_seq_nx (e_ifs_f (S1 := S) ?_ rfl) (e_seq_nx (e_ifs_f (S1 := S) ?_ rfl) (e_ret ?_))))))
      · cases c <;> rfl
      · cases c <;> rfl
      · refine e_blt (ws := [.v (.lst [.bl true, .bl true])]) (e_cons ?_ rfl) rfl rfl
        refine comp_map (ds := [enc a, enc b]) (fun d => .bl true) rfl (by simp) (fun d hd acc => ?_)
        simp only [List.mem_cons, List.not_mem_nil, or_false] at hd
        rcases hd with rfl | rfl
        · exact ⟨_, rfl, e_call (ws := [.v (enc a)]) rfl rfl (iha m _ (fun n hn => h n (List.mem_append_left _ hn)) h1) rfl⟩
        · exact ⟨_, rfl, e_call (ws := [.v (enc b)]) rfl rfl (ihb m _ (fun n hn => h n (List.mem_append_right _ hn)) h2) rfl⟩
  | all n k ih =>
    intro m S h hm
    cases m with
    | zero => exact absurd hm (by have := k.ht_pos; unfold Kd.ht; omega)
    | succ m =>
      have hk : k.ht ≤ m := by unfold Kd.ht at hm; omega
      have hn := h n List.mem_cons_self
      refine e_fdef_v (e_seq_nx (e_ifs_f (t1 _ S h) rfl) (e_seq_nx (e_ifs_f (S1 := S) (e_b rfl) rfl) (e_seq_rt (e_ifs_t (S1 := S) (e_b rfl) (e_ret (e_andV_t (S1 := S) rfl (e_andV_t (S1 := S) (e_call (ws := [.v (.str n)]) rfl rfl (is_name_ev n (Nat.le_trans (isNm_len hn) (by decide)) S) ?_) (e_call (ws := [.v (enc k)]) rfl rfl (ih m S (fun x hx => h x (List.mem_cons_of_mem _ hx)) hk) rfl))))))))
      rw [hn]
      rfl
end Fro

namespace Fro
open PySem PySem.Spec L2

/-! ### free names -/
def frees : Kd → List Tx → List Tx
  | .var n, ins => if n ∈ ins then [] else [n]
  | .con0 _, _ => []
  | .list k, ins => frees k ins
  | .con2 _ a b, ins => frees a ins ++ (frees b ins).filter fun n => !decide (n ∈ frees a ins)
  | .all n k, ins => frees k (ins ++ [n])
theorem frees_len : ∀ (k : Kd) (ins : List Tx), (frees k ins).length ≤ k.lvs
  | .var n, ins => by unfold frees; split <;> simp [Kd.lvs]
  | .con0 _, _ => Nat.zero_le _
  | .list k, ins => frees_len k ins
  | .con2 _ a b, ins => by
    unfold frees Kd.lvs
    rw [List.length_append]
    exact Nat.add_le_add (frees_len a ins) (Nat.le_trans (List.length_filter_le _ _) (frees_len b ins))
  | .all n k, ins => frees_len k _
theorem free_of_ev : ∀ (k : Kd) (m : Nat) (ins : List Tx) (S : Sto), k.ht ≤ m → k.ht + ins.length ≤ 1000 → k.lvs ≤ 1000 → f_free_of m [.v (enc k), .v (.tup (stL ins))] S = .ok (.new (.lst (stL (frees k ins)))) S := by
  have pos : ∀ (k : Kd) (m : Nat), k.ht ≤ m → ∃ m', m = m' + 1 := fun k m h => ⟨m - 1, by have := k.ht_pos; omega⟩
  intro k
  induction k with
  | var n =>
    intro m ins S hm _ _
    obtain ⟨m, rfl⟩ := pos _ _ hm
    refine e_fdef_new (e_seq_rt (e_ifs_t (S1 := S) (e_b rfl) (e_ret ?_)))
    by_cases h : n ∈ ins
    · refine e_if_t (S1 := S) (e_b (e_op2v rfl rfl ?_)) ?_
      · rw [show (true : Bool) = decide (n ∈ ins) from (decide_eq_true h).symm]
        exact gIn_tup n ins
      · unfold frees
        rw [if_pos h]
        rfl
    · refine e_if_f (S1 := S) (e_b (e_op2v rfl rfl ?_)) ?_
      · rw [show (false : Bool) = decide (n ∈ ins) from (decide_eq_false h).symm]
        exact gIn_tup n ins
      · unfold frees
        rw [if_neg h]
        rfl
  | con0 c =>
    intro m ins S hm _ _
    obtain ⟨m, rfl⟩ := pos _ _ hm
    exact e_fdef_new (e_seq_nx (e_ifs_f (S1 := S) (e_b rfl) rfl) (e_seq_nx (e_ifs_f (S1 := S) (e_b rfl) rfl) (e_seq_nx (e_set rfl) (e_seq_nx (e_for rfl rfl) rfl))))
  | all n k ih =>
    intro m ins S hm h1 h2
    obtain ⟨m, rfl⟩ := pos _ _ hm
    unfold Kd.ht at hm h1
    refine e_fdef_new (e_seq_nx (e_ifs_f (S1 := S) (e_b rfl) rfl) (e_seq_rt (e_ifs_t (S1 := S) (e_b rfl) (e_ret (e_callM (ws := [.v (enc k), .v (.tup (stL (ins ++ [n])))]) (e_cons rfl (e_cons (e_op2v (e := .tup (stL [n])) rfl rfl (gAdd_tups ins [n] (by simp; omega))) rfl)) rfl (ih m (ins ++ [n]) S (by omega) (by simp; omega) h2) rfl)))))
  | list k ih =>
    intro m ins S hm h1 h2
    obtain ⟨m, rfl⟩ := pos _ _ hm
    unfold Kd.ht at hm h1
    unfold Kd.lvs at h2
    have hc := ih m ins (S ++ [.lst []]) (by omega) (by omega) h2
    have hl := frees_len k ins
    refine e_fdef_new (e_seq_nx (e_ifs_f (S1 := S) (e_b rfl) rfl) (e_seq_nx (e_ifs_f (S1 := S) (e_b rfl) rfl) (e_seq_nx (e_set rfl) (e_seq_nx (e_for (S1 := S ++ [.lst []]) (ds := [enc k]) rfl (r := .nx [some (.v (enc (.list k))), some (.v (.tup (stL ins))), some (.r S.length), some (.v (enc k)), none] (S ++ [.lst (stL (frees k ins))])) ?_) rfl))))
    have hb : (cExpr (cExtend (cVar 2) (cComp (itL (cCall 2 (f_free_of m) (cCons (cVar 3) (cCons (cVar 1) cNil)) [])) (gN 4) (cB (op2 gNotIn (cVar 4) (cVar 2))) (cVar 4) [4]))) [some (.v (enc (.list k))), some (.v (.tup (stL ins))), some (.r S.length), some (.v (enc k)), none] (S ++ [.lst []]) = .nx [some (.v (enc (.list k))), some (.v (.tup (stL ins))), some (.r S.length), some (.v (enc k)), none] (S ++ [.lst (stL (frees k ins))]) := by
      refine e_expr (w := .v .non) ?_
      rw [← set_last S (.lst []) (.lst (stL (frees k ins)))]
      refine e_extend (ds := []) (es := stL (frees k ins)) (w := .v (.lst (stL (frees k ins)))) rfl ⟨_, at_last _ _⟩ ?_ (at_last _ _) rfl (by rw [stL_length]; simp; omega)
      have q := comp_ev (it := itL (cCall 2 (f_free_of m) (cCons (cVar 3) (cCons (cVar 1) cNil)) [])) (dg := gN 4) (tt := cB (op2 gNotIn (cVar 4) (cVar 2))) (te := cVar 4) (vs := [4]) (δ := [some (.v (enc (.list k))), some (.v (.tup (stL ins))), some (.r S.length), some (.v (enc k)), none]) (S := S ++ [.lst []]) (S1 := S ++ [.lst []]) (ds := stL (frees k ins)) (flt fun _ => true) (by
          show R.bind _ _ = _
          rw [e_call (ws := [.v (enc k), .v (.tup (stL ins))]) (n := 2) rfl rfl hc rfl]
          rfl) (by rw [stL_length]; omega) (fun d hd acc => by
          obtain ⟨t, ht, rfl⟩ := List.mem_map.mp hd
          exact ⟨_, rfl, e_b (e_op2 rfl rfl rfl (rd_at (at_last2 _ _ _)) rfl), rfl⟩)
      rw [filter_stL, List.filter_eq_self.mpr fun _ _ => rfl] at q
      exact q
    unfold forL
    simp only [gN]
    show (match (cExpr _) [some (.v (enc (.list k))), some (.v (.tup (stL ins))), some (.r S.length), some (.v (enc k)), none] (S ++ [.lst []]) with
      | .nx δ2 S2 => forL _ _ [] δ2 S2
      | .ct δ2 S2 => forL _ _ [] δ2 S2
      | .bk δ2 S2 => .nx δ2 S2
      | r => r) = _
    rw [hb]
    rfl
  | con2 c a b iha ihb =>
    intro m ins S hm h1 h2
    obtain ⟨m, rfl⟩ := pos _ _ hm
    unfold Kd.ht at hm h1
    unfold Kd.lvs at h2
    have hla := frees_len a ins
    have hlb := frees_len b ins
    -- one turn
    have hb : ∀ (k : Kd) (acc : List Tx) (o : Option W), k.ht ≤ m → k.ht + ins.length ≤ 1000 → k.lvs ≤ 1000 → acc.length ≤ 1000 → (∀ S, f_free_of m [.v (enc k), .v (.tup (stL ins))] S = .ok (.new (.lst (stL (frees k ins)))) S) →
        (cExpr (cExtend (cVar 2) (cComp (itL (cCall 2 (f_free_of m) (cCons (cVar 3) (cCons (cVar 1) cNil)) [])) (gN 4) (cB (op2 gNotIn (cVar 4) (cVar 2))) (cVar 4) [4]))) [some (.v (enc (.con2 c a b))), some (.v (.tup (stL ins))), some (.r S.length), some (.v (enc k)), none] (S ++ [.lst (stL acc)]) =
          .nx [some (.v (enc (.con2 c a b))), some (.v (.tup (stL ins))), some (.r S.length), some (.v (enc k)), none] (S ++ [.lst (stL (acc ++ (frees k ins).filter fun n => !decide (n ∈ acc)))]) := by
      intro k acc o hk1 hk2 hk3 hk4 hc
      have hlk := frees_len k ins
      refine e_expr (w := .v .non) ?_
      rw [← set_last S (.lst (stL acc)) (.lst (stL (acc ++ (frees k ins).filter fun n => !decide (n ∈ acc)))), ← stL_append]
      refine e_extend (ds := stL acc) (es := stL ((frees k ins).filter fun n => !decide (n ∈ acc))) (w := .v (.lst (stL ((frees k ins).filter fun n => !decide (n ∈ acc))))) rfl ⟨_, at_last _ _⟩ ?_ (at_last _ _) rfl (by
        rw [stL_length, stL_length]
        have := List.length_filter_le (fun n => !decide (n ∈ acc)) (frees k ins)
        omega)
      have q := comp_ev (it := itL (cCall 2 (f_free_of m) (cCons (cVar 3) (cCons (cVar 1) cNil)) [])) (dg := gN 4) (tt := cB (op2 gNotIn (cVar 4) (cVar 2))) (te := cVar 4) (vs := [4]) (δ := [some (.v (enc (.con2 c a b))), some (.v (.tup (stL ins))), some (.r S.length), some (.v (enc k)), none]) (S := S ++ [.lst (stL acc)]) (S1 := S ++ [.lst (stL acc)]) (ds := stL (frees k ins)) (flt fun n => !decide (n ∈ acc)) (by
          show R.bind _ _ = _
          rw [e_call (ws := [.v (enc k), .v (.tup (stL ins))]) (n := 2) rfl rfl (hc _) rfl]
          rfl) (by rw [stL_length]; omega) (fun d hd acc2 => by
          obtain ⟨t, ht, rfl⟩ := List.mem_map.mp hd
          refine ⟨_, rfl, ?_⟩
          have ht : (cB (op2 gNotIn (cVar 4) (cVar 2))) [some (.v (enc (.con2 c a b))), some (.v (.tup (stL ins))), some (.r S.length), some (.v (enc k)), some (.v (.str t))] (S ++ [.lst (stL acc)] ++ [.lst acc2]) = .ok (!decide (t ∈ acc)) (S ++ [.lst (stL acc)] ++ [.lst acc2]) :=
            e_b (e_op2 rfl rfl rfl (rd_at (at_last2 _ _ _)) (gNotIn_lst t acc))
          by_cases hx : (!decide (t ∈ acc)) = true
          · rw [show flt (fun n => !decide (n ∈ acc)) (.str t) = some (.str t) from if_pos hx]
            rw [hx] at ht
            exact ⟨ht, rfl⟩
          · rw [show flt (fun n => !decide (n ∈ acc)) (.str t) = none from if_neg hx]
            rw [Bool.not_eq_true] at hx
            rw [hx] at ht
            exact ht)
      rw [filter_stL] at q
      exact q
    refine e_fdef_new (e_seq_nx (e_ifs_f (S1 := S) (e_b (by cases c <;> rfl)) rfl) (e_seq_nx (e_ifs_f (S1 := S) (e_b (by cases c <;> rfl)) rfl) (e_seq_nx (e_set rfl) (e_seq_nx (e_for (S1 := S ++ [.lst []]) (ds := [enc a, enc b]) rfl (r := .nx [some (.v (enc (.con2 c a b))), some (.v (.tup (stL ins))), some (.r S.length), some (.v (enc b)), none] (S ++ [.lst (stL (frees (.con2 c a b) ins))])) ?_) rfl))))
    have e1 := hb a [] none (by omega) (by omega) (by omega) (by simp) (fun S => iha m ins S (by omega) (by omega) (by omega))
    have e2 := hb b (frees a ins) none (by omega) (by omega) (by omega) (by omega) (fun S => ihb m ins S (by omega) (by omega) (by omega))
    have e3 : (frees a ins).filter (fun n => !decide (n ∈ ([] : List Tx))) = frees a ins := List.filter_eq_self.mpr fun _ _ => by simp
    rw [List.nil_append, e3] at e1
    unfold forL
    show (match (cExpr _) [some (.v (enc (.con2 c a b))), some (.v (.tup (stL ins))), some (.r S.length), some (.v (enc a)), none] (S ++ [.lst (stL [])]) with
      | .nx δ2 S2 => forL _ _ [enc b] δ2 S2
      | .ct δ2 S2 => forL _ _ [enc b] δ2 S2
      | .bk δ2 S2 => .nx δ2 S2
      | r => r) = _
    rw [e1]
    show forL _ _ [enc b] [some (.v (enc (.con2 c a b))), some (.v (.tup (stL ins))), some (.r S.length), some (.v (enc a)), none] _ = _
    unfold forL
    show (match (cExpr _) [some (.v (enc (.con2 c a b))), some (.v (.tup (stL ins))), some (.r S.length), some (.v (enc b)), none] _ with
      | .nx δ2 S2 => forL _ _ [] δ2 S2
      | .ct δ2 S2 => forL _ _ [] δ2 S2
      | .bk δ2 S2 => .nx δ2 S2
      | r => r) = _
    rw [e2]
    rfl
theorem want_kind_ev (k : Kd) (S : Sto) (h : Good k) (hh : k.ht ≤ 30) : f_want_kind [.v (enc k)] S = .ok (.v .non) S := by
  have := e_fdefN (n := 1) (body := b_want_kind) (ws := [.v (enc k)]) (S := S) (S' := S) (δ := [some (.v (enc k))]) (e_ifs_f (S1 := S) (e_not (c := true) (e_b (e_call (ws := [.v (enc k)]) rfl rfl (is_kind_ev k 30 S h hh) rfl))) rfl)
  rw [List.take_length] at this
  exact this
theorem free_ev (k : Kd) (S : Sto) (h : Good k) (hh : k.ht ≤ 30) (hl : k.lvs ≤ 1000) : f_free [.v (enc k)] S = .ok (.new (.lst (stL (frees k [])))) S :=
  e_fdef_new (e_seq_nx (e_expr (e_call (ws := [.v (enc k)]) rfl rfl (want_kind_ev k S h hh) rfl)) (e_ret (e_callM (ws := [.v (enc k)]) rfl rfl (free_of_ev k 30 [] S hh (by simp; omega) hl) rfl)))
end Fro

namespace Fro
open PySem PySem.Spec L2

/-! ### the source of draws -/
def SrcO (o : Ob) : Prop := ∃ a b c : Int, o = .lst [.int a, .int b, .int c]
def Src (S : Sto) (i : Nat) : Prop := ∃ o, S[i]? = some o ∧ SrcO o
theorem src_lt {S : Sto} {i : Nat} (h : Src S i) : i < S.length := by
  obtain ⟨o, h, _⟩ := h
  rcases Nat.lt_or_ge i S.length with z | z
  · exact z
  · rw [List.getElem?_eq_none z] at h; cases h
theorem src_set {S : Sto} {i : Nat} {o : Ob} (h : Src S i) (ho : SrcO o) : Src (S.set i o) i := ⟨o, List.getElem?_set_self (src_lt h), ho⟩
theorem src_app {S T : Sto} {i : Nat} (h : Src S i) : Src (S ++ T) i := by
  obtain ⟨o, h1, h2⟩ := h
  exact ⟨o, by rw [List.getElem?_append_left (src_lt ⟨o, h1, h2⟩)]; exact h1, h2⟩
theorem gMod_ev {i j : Int} (h : 0 < j) : gMod (.int i) (.int j) = some (.int (i % j)) := if_pos h
theorem gDiv_ev {i j : Int} (h : 0 < j) (h2 : j < 1073741824) : gDiv (.int i) (.int j) = some (.int (i / j)) := if_pos ⟨h, h2⟩
theorem gMul_l {i j : Int} (h : -18446744073709551616 < i) (h2 : i < 18446744073709551616) : gMul (.int i) (.int j) = some (.int (i * j)) := if_pos (.inl ⟨h, h2⟩)
theorem gMul_r {i j : Int} (h : -18446744073709551616 < j) (h2 : j < 18446744073709551616) : gMul (.int i) (.int j) = some (.int (i * j)) := if_pos (.inr ⟨h, h2⟩)
theorem gSubD_ev {x y : Den W} {δ : Slots} {S : Sto} {i : Nat} {ds : List D} {k : Int} {j : Nat} {d : D} (h1 : x δ S = .ok (.r i) S) (h2 : y δ S = .ok (.v (.int k)) S) (h3 : S[i]? = some (.lst ds)) (h4 : ixN ds.length k = some j) : gSubD x y (.v d) δ S = some (δ, S.set i (.lst (ds.set j d))) := by
  unfold gSubD
  simp only [h1, h2, isRL_at h3, toD, h4]
theorem next_ev {S : Sto} {i : Nat} (hs : Src S i) (m : Int) (h0 : 0 < m) (h1 : m < 1073741824) : ∃ (d : Int) (o : Ob), f__law_next [.r i, .v (.int m)] S = .ok (.v (.int d)) (S.set i o) ∧ 0 ≤ d ∧ d < m ∧ SrcO o := by
  obtain ⟨o, ho, a, b, c, rfl⟩ := hs
  have hlt : i < S.length := by
    rcases Nat.lt_or_ge i S.length with z | z
    · exact z
    · rw [List.getElem?_eq_none z] at ho; cases ho
  have ix0 : ∀ δ : Slots, cVar 0 δ S = .ok (.r i) S → cIx (cVar 0) (cC (.int 0)) δ S = .ok (.v (.int a)) S := fun δ h => e_ixr h rfl (rd_at ho) rfl
  by_cases ha : 0 < a
  · refine ⟨a % m, .lst [.int (a / m), .int b, .int c], ?_, Int.emod_nonneg _ (by omega), Int.emod_lt_of_pos _ h0, ⟨_, _, _, rfl⟩⟩
    refine e_fdef_vs (e_seq_rt (e_ifs_t (S1 := S) (e_b (e_op2v (ix0 _ rfl) rfl ?_)) (e_seq_nx (e_set (e_op2v (e_blt (ws := [.v (.int a)]) (e_cons (ix0 _ rfl) rfl) rfl rfl) rfl (gMod_ev h0))) (e_seq_nx (e_asg (e_op2v (ix0 _ rfl) rfl (gDiv_ev h0 h1)) (gSubD_ev (j := 0) rfl rfl ho rfl)) (e_ret rfl)))))
    show some (D.bl (decide (0 < a))) = _
    rw [decide_eq_true ha]
  · -- the second way
    have hS1 : (S.set i (.lst [.int a, .int b, .int (c + 1)]))[i]? = some (.lst [.int a, .int b, .int (c + 1)]) := List.getElem?_set_self hlt
    generalize hg : S.set i (.lst [.int a, .int b, .int (c + 1)]) = S1 at hS1
    have ix1 : ∀ δ : Slots, cVar 0 δ S1 = .ok (.r i) S1 → cIx (cVar 0) (cC (.int 1)) δ S1 = .ok (.v (.int b)) S1 := fun δ h => e_ixr h rfl (rd_at hS1) rfl
    have ix2 : ∀ δ : Slots, cVar 0 δ S1 = .ok (.r i) S1 → cIx (cVar 0) (cC (.int 2)) δ S1 = .ok (.v (.int (c + 1))) S1 := fun δ h => e_ixr h rfl (rd_at hS1) rfl
    have n0 := Int.emod_nonneg (b + 104729 * (c + 1) + 7919) (show (2147483647 : Int) ≠ 0 by decide)
    have n0' := Int.emod_lt_of_pos (b + 104729 * (c + 1) + 7919) (show (0 : Int) < 2147483647 by decide)
    generalize hx0 : (b + 104729 * (c + 1) + 7919) % 2147483647 = x0 at n0 n0'
    have n1 := Int.emod_nonneg (x0 * 48271) (show (2147483647 : Int) ≠ 0 by decide)
    have n1' := Int.emod_lt_of_pos (x0 * 48271) (show (0 : Int) < 2147483647 by decide)
    generalize hx1 : (x0 * 48271) % 2147483647 = x1 at n1 n1'
    have n2 := Int.emod_nonneg (x1 * (x1 / 1009 + 69621)) (show (2147483647 : Int) ≠ 0 by decide)
    have n2' := Int.emod_lt_of_pos (x1 * (x1 / 1009 + 69621)) (show (0 : Int) < 2147483647 by decide)
    generalize hx2 : (x1 * (x1 / 1009 + 69621)) % 2147483647 = x2 at n2 n2'
    generalize hx3 : (x2 * (x2 / 2003 + 40692)) % 2147483399 = x3
    refine ⟨x3 / 7 % m, .lst [.int a, .int b, .int (c + 1)], ?_, Int.emod_nonneg _ (by omega), Int.emod_lt_of_pos _ h0, ⟨_, _, _, rfl⟩⟩
    have hgt : gGt (.int a) (.int 0) = some (.bl false) := by
      show some (D.bl (decide (0 < a))) = _
      rw [decide_eq_false ha]
    refine e_fdef_vs (e_seq_nx (e_ifs_f (S1 := S) (e_b (e_op2v (ix0 _ rfl) rfl hgt)) rfl) (e_seq_nx (S1 := S1) (δ' := slots0 5 [.r i, .v (.int m)]) (e_asg (e_op2v (e_ixr (d := .lst [.int a, .int b, .int c]) rfl rfl (rd_at ho) rfl) rfl rfl) ?_) ?_))
    · rw [← hg]
      exact gSubD_ev (j := 2) rfl rfl ho rfl
    · rw [hg]
      refine e_seq_nx (e_set rfl) (e_seq_nx (e_set (e_op2v (e_blt (ws := [.v (.int (b + 104729 * (c + 1) + 7919))]) (e_cons (e_op2v (e_op2v (ix1 _ rfl) (e_op2v rfl (ix2 _ rfl) (gMul_l (by decide) (by decide))) rfl) rfl rfl) rfl) rfl rfl) rfl (gMod_ev (by decide)))) ?_)
      rw [hx0]
      refine e_seq_nx (e_set (e_op2v (e_blt (ws := [.v (.int (x0 * 48271))]) (e_cons (e_op2v rfl rfl (gMul_l (by omega) (by omega))) rfl) rfl rfl) rfl (gMod_ev (by decide)))) ?_
      rw [hx1]
      refine e_seq_nx (e_set (e_op2v (e_blt (ws := [.v (.int (x1 * (x1 / 1009 + 69621)))]) (e_cons (e_op2v rfl (e_op2v (e_op2v rfl rfl (gDiv_ev (by decide) (by decide))) rfl rfl) (gMul_l (by omega) (by omega))) rfl) rfl rfl) rfl (gMod_ev (by decide)))) ?_
      rw [hx2]
      refine e_seq_nx (e_set (e_op2v (e_blt (ws := [.v (.int (x2 * (x2 / 2003 + 40692)))]) (e_cons (e_op2v rfl (e_op2v (e_op2v rfl rfl (gDiv_ev (by decide) (by decide))) rfl rfl) (gMul_l (by omega) (by omega))) rfl) rfl rfl) rfl (gMod_ev (by decide)))) ?_
      rw [hx3]
      exact e_ret (e_op2v (e_blt (ws := [.v (.int (x3 / 7))]) (e_cons (e_op2v rfl rfl (gDiv_ev (by decide) (by decide))) rfl) rfl rfl) rfl (gMod_ev h0))
/-- .. as an argument of a call -/
theorem next_call {S : Sto} {i : Nat} (hs : Src S i) (m : Int) (h0 : 0 < m) (h1 : m < 1073741824) : ∃ (d : Int) (o : Ob), 0 ≤ d ∧ d < m ∧ SrcO o ∧ ∀ (as : Den (List W)) (δ : Slots), as δ S = .ok [.r i, .v (.int m)] S → cCall 2 f__law_next as [] δ S = .ok (.v (.int d)) (S.set i o) := by
  obtain ⟨d, o, e, h2, h3, h4⟩ := next_ev hs m h0 h1
  exact ⟨d, o, h2, h3, h4, fun as δ h => e_call h rfl e rfl⟩
theorem atI_lt {α : Type} {l : List α} {d : Int} (h0 : 0 ≤ d) (h1 : d < l.length) : ∃ x, atI l d = some x ∧ x ∈ l := by
  have hd : d.toNat < l.length := by omega
  refine ⟨l[d.toNat], ?_, List.getElem_mem hd⟩
  unfold atI ixN
  rw [if_pos h0, if_pos h1]
  exact List.getElem?_eq_getElem hd
theorem one_ev {S : Sto} {i : Nat} (hs : Src S i) (ds : List D) (h0 : ds ≠ []) (h1 : ds.length < 1073741824) : ∃ (d : D) (o : Ob), f__law_one [.r i, .v (.lst ds)] S = .ok (.v d) (S.set i o) ∧ d ∈ ds ∧ SrcO o := by
  have hp : 0 < ds.length := List.length_pos_iff.mpr h0
  obtain ⟨k, o, h2, h3, h4, h5⟩ := next_call hs (ds.length : Int) (by omega) (by omega)
  obtain ⟨x, e1, e2⟩ := atI_lt (l := ds) h2 h3
  refine ⟨x, o, e_fdef_vs (e_ret (e_ix rfl (h5 _ _ (e_cons rfl (e_cons rfl rfl))) e1)), e2, h4⟩
theorem one_call {S : Sto} {i : Nat} (hs : Src S i) (ds : List D) (h0 : ds ≠ []) (h1 : ds.length < 1073741824) : ∃ (d : D) (o : Ob), d ∈ ds ∧ SrcO o ∧ ∀ (as : Den (List W)) (δ : Slots), as δ S = .ok [.r i, .v (.lst ds)] S → cCall 2 f__law_one as [] δ S = .ok (.v d) (S.set i o) := by
  obtain ⟨d, o, e, h2, h3⟩ := one_ev hs ds h0 h1
  exact ⟨d, o, h2, h3, fun as δ h => e_call h rfl e rfl⟩
theorem set_set (S : Sto) (i : Nat) (o o' : Ob) : (S.set i o).set i o' = S.set i o' := List.set_set _
/-- a script's cell, and the source made of it -/
theorem cell_ev (ns : List Int) (k : Int) (h : 0 ≤ k) (S : Sto) : ∃ n : Int, f__law_cell_at [.s ns, .v (.int k)] S = .ok (.v (.int n)) S := by
  by_cases hk : k < ns.length
  · obtain ⟨x, e1, _⟩ := atI_lt (l := ns) h hk
    refine ⟨x, e_fdef_v (e_seq_rt (e_ifs_t (S1 := S) (e_b (e_op2v (d := .int k) (e := .int ns.length) rfl rfl ?_)) (e_ret ?_)))⟩
    · show some (D.bl (decide (k < ns.length))) = _
      rw [decide_eq_true hk]
    · show apIx (.s ns) (.v (.int k)) S = _
      unfold apIx
      simp only [e1]
  · refine ⟨0, e_fdef_v (e_seq_nx (e_ifs_f (S1 := S) (e_b (e_op2v (d := .int k) (e := .int ns.length) rfl rfl ?_)) rfl) (e_ret rfl))⟩
    show some (D.bl (decide (k < ns.length))) = _
    rw [decide_eq_false hk]
theorem source_ev (n : Int) (S : Sto) : ∃ o, f__law_source_of [.v (.int n)] S = .ok (.new o) S ∧ SrcO o := by
  have key : ∀ c : Int, ∃ o, (cRet (cLstM (cCons (op2 gMul (cVar 0) (cBlt gInt (cCons (op2 gGe (cVar 0) (op2 gPow (cC (.int 10)) (cC (.int 18)))) cNil))) (cCons (op2 gMod (cBlt gInt (cCons (cVar 0) cNil)) (cC (.int 2147483647))) (cCons (cC (.int 0)) cNil))))) [some (.v (.int c))] S = .rt (.r S.length) (S ++ [o]) ∧ SrcO o := fun c => by
    refine ⟨.lst [.int (c * (if decide ((10 ^ 18 : Int) ≤ c) then 1 else 0)), .int (c % 2147483647), .int 0], e_ret (e_disp (ws := [.v (.int (c * (if decide ((10 ^ 18 : Int) ≤ c) then 1 else 0))), .v (.int (c % 2147483647)), .v (.int 0)]) (e_cons (e_op2v (e := .int (if decide ((10 ^ 18 : Int) ≤ c) then 1 else 0)) rfl (e_blt (ws := [.v (.bl (decide ((10 ^ 18 : Int) ≤ c)))]) (e_cons (e_op2v (e := .int (10 ^ 18)) rfl (e_op2v rfl rfl rfl) rfl) rfl) rfl rfl) (gMul_r ?_ ?_)) (e_cons (e_op2v rfl rfl (gMod_ev (by decide))) rfl)) rfl (by simp) rfl), ⟨_, _, _, rfl⟩⟩
    · split <;> decide
    · split <;> decide
  by_cases hn : 0 ≤ n
  · obtain ⟨o, e, h⟩ := key n
    refine ⟨o, e_fdef_new (e_seq_nx (e_set (i := 0) (w := .v (.int n)) (e_if_t (S1 := S) (e_b (e_op2v rfl rfl ?_)) rfl)) e), h⟩
    show some (D.bl (decide (0 ≤ n))) = _
    rw [decide_eq_true hn]
  · obtain ⟨o, e, h⟩ := key (0 - 3 * n - 1)
    refine ⟨o, e_fdef_new (e_seq_nx (e_set (i := 0) (w := .v (.int (0 - 3 * n - 1))) (e_if_f (S1 := S) (e_b (e_op2v rfl rfl ?_)) (e_op2v (e_op2v rfl (e_op2v rfl rfl (gMul_l (by decide) (by decide))) rfl) rfl rfl))) e), h⟩
    show some (D.bl (decide (0 ≤ n))) = _
    rw [decide_eq_false hn]
end Fro

namespace Fro
open PySem PySem.Spec L2

theorem e_orb {t u : Den Bool} {δ : Slots} {S : Sto} {a b : Bool} (h : t δ S = .ok a S) (h2 : u δ S = .ok b S) : cOr t u δ S = .ok (a || b) S := by
  cases a with
  | true => exact e_or_t h
  | false => exact e_or_f h h2
theorem gEq_int (i j : Int) : gEq (.int i) (.int j) = some (.bl (i == j)) := rfl
theorem mem_stL {d : D} {ts : List Tx} (h : d ∈ stL ts) : ∃ t, d = .str t ∧ t ∈ ts := by
  obtain ⟨t, ht, rfl⟩ := List.mem_map.mp h
  exact ⟨t, rfl, ht⟩
theorem stL_ne {ts : List Tx} (h : ts ≠ []) : stL ts ≠ [] := by
  unfold stL
  intro e
  exact h (List.map_eq_nil_iff.mp e)
/-- a drawn kind -/
theorem kind_ev (names : List Tx) (hne : names ≠ []) (hnl : names.length < 1073741824) : ∀ (n deep : Nat) (S : Sto) (i : Nat), deep < n → Src S i →
    ∃ (k : Kd) (o : Ob), f__law_kind n [.r i, .v (.int deep), .v (.lst (stL names))] S = .ok (.v (enc k)) (S.set i o) ∧ SrcO o ∧ (∀ x ∈ k.nms, x ∈ names) ∧ k.ht ≤ deep + 1 ∧ k.lvs ≤ 2 ^ deep := by
  intro n
  induction n with
  | zero => intro deep S i h; omega
  | succ n ih =>
    intro deep S i hd hs
    obtain ⟨way, o1, w0, w1, so1, hw⟩ := next_call hs 12 (by decide) (by decide)
    have hs1 : Src (S.set i o1) i := src_set hs so1
    have e0 : cCall 2 f__law_next (cCons (cVar 0) (cCons (cC (.int 12)) cNil)) [] (slots0 5 [.r i, .v (.int deep), .v (.lst (stL names))]) S = .ok (.v (.int way)) (S.set i o1) := hw _ _ rfl
    generalize hS1 : S.set i o1 = S1 at hs1 e0
    have back : ∀ o, S1.set i o = S.set i o := fun o => by rw [← hS1, set_set]
    have t1 : cOr (cB (op2 gEq (cVar 1) (cC (.int 0)))) (cB (op2 gLt (cVar 3) (cC (.int 4)))) [some (.r i), some (.v (.int deep)), some (.v (.lst (stL names))), some (.v (.int way)), none] S1 = .ok (((deep : Int) == 0) || decide (way < 4)) S1 :=
      e_orb (e_b (e_op2v rfl rfl (gEq_int _ _))) (e_b (e_op2v rfl rfl rfl))
    by_cases hA : (((deep : Int) == 0) || decide (way < 4)) = true
    · rw [hA] at t1
      have t2 : cOr (cB (op2 gEq (cVar 3) (cC (.int 3)))) (cB (op2 gEq (op2 gMod (cBlt gInt (cCons (cVar 3) cNil)) (cC (.int 12))) (cC (.int 11)))) [some (.r i), some (.v (.int deep)), some (.v (.lst (stL names))), some (.v (.int way)), none] S1 = .ok ((way == 3) || (way % 12 == 11)) S1 :=
        e_orb (e_b (e_op2v rfl rfl (gEq_int _ _))) (e_b (e_op2v (e_op2v rfl rfl (gMod_ev (by decide))) rfl (gEq_int _ _)))
      by_cases hB : ((way == 3) || (way % 12 == 11)) = true
      · rw [hB] at t2
        obtain ⟨d, o2, hm, so2, he⟩ := one_call hs1 (stL [C0.int.tx, C0.bool.tx, C0.unit.tx]) (by decide) (by decide)
        obtain ⟨t, rfl, ht⟩ := mem_stL hm
        have hc : ∃ c : C0, t = c.tx := by
          simp only [List.mem_cons, List.not_mem_nil, or_false] at ht
          rcases ht with rfl | rfl | rfl
          · exact ⟨.int, rfl⟩
          · exact ⟨.bool, rfl⟩
          · exact ⟨.unit, rfl⟩
        obtain ⟨c, rfl⟩ := hc
        refine ⟨.con0 c, o2, e_fdef_vs (e_seq_nx (e_set e0) (e_seq_rt (e_ifs_t t1 (e_seq_rt (e_ifs_t t2 ?_))))), so2, (fun x hx => by cases hx), by unfold Kd.ht; omega, Nat.one_le_two_pow⟩
        rw [← back]
        exact e_ret (e_disp (ws := [.v (.str [99, 111, 110]), .v (.str c.tx), .v (.tup [])]) (e_cons rfl (e_cons (he _ _ rfl) rfl)) rfl (by simp) rfl)
      · rw [Bool.not_eq_true] at hB
        rw [hB] at t2
        obtain ⟨d, o2, hm, so2, he⟩ := one_call hs1 (stL names) (stL_ne hne) (by rw [stL_length]; exact hnl)
        obtain ⟨t, rfl, ht⟩ := mem_stL hm
        refine ⟨.var t, o2, e_fdef_vs (e_seq_nx (e_set e0) (e_seq_rt (e_ifs_t t1 (e_seq_nx (e_ifs_f t2 rfl) ?_)))), so2, (fun x hx => by
          have : x = t := by simpa [Kd.nms] using hx
          rw [this]; exact ht), by unfold Kd.ht; omega, Nat.one_le_two_pow⟩
        rw [← back]
        exact e_ret (e_disp (ws := [.v (.str [118, 97, 114]), .v (.str t)]) (e_cons rfl (e_cons (he _ _ rfl) rfl)) rfl (by simp) rfl)
    · rw [Bool.not_eq_true] at hA
      rw [hA] at t1
      rw [Bool.or_eq_false_iff] at hA
      have hdeep : deep ≠ 0 := fun z => by
        have := hA.1
        rw [z] at this
        exact absurd this (by decide)
      obtain ⟨dp, rfl⟩ : ∃ dp, deep = dp + 1 := ⟨deep - 1, by omega⟩
      have esub : ∀ δ : Slots, ∀ S, cVar 1 δ S = .ok (.v (.int ((dp + 1 : Nat) : Int))) S → op2 gSub (cVar 1) (cC (.int 1)) δ S = .ok (.v (.int (dp : Int))) S := fun δ S h => by
        have e := e_op2v (g := gSub) (y := cC (.int 1)) (k := .int (((dp + 1 : Nat) : Int) - 1)) h rfl rfl
        rw [show ((dp + 1 : Nat) : Int) - 1 = (dp : Int) by omega] at e
        exact e
      -- the recursive calls
      have rec_call : ∀ (T : Sto), Src T i → ∃ (k : Kd) (o : Ob), (∀ (as : Den (List W)) (δ : Slots), as δ T = .ok [.r i, .v (.int dp), .v (.lst (stL names))] T → cCall 3 (f__law_kind n) as [] δ T = .ok (.v (enc k)) (T.set i o)) ∧ SrcO o ∧ (∀ x ∈ k.nms, x ∈ names) ∧ k.ht ≤ dp + 1 ∧ k.lvs ≤ 2 ^ dp := fun T hT => by
        obtain ⟨k, o, e, h2, h3, h4, h5⟩ := ih dp T i (by omega) hT
        exact ⟨k, o, fun as δ h => e_call h rfl e rfl, h2, h3, h4, h5⟩
      have t3 : cB (op2 gLt (cVar 3) (cC (.int 8))) [some (.r i), some (.v (.int ((dp + 1 : Nat) : Int))), some (.v (.lst (stL names))), some (.v (.int way)), none] S1 = .ok (decide (way < 8)) S1 := e_b (e_op2v rfl rfl rfl)
      by_cases hC : way < 8
      · rw [decide_eq_true hC] at t3
        obtain ⟨d, o2, hm, so2, he⟩ := one_call hs1 (stL names) (stL_ne hne) (by rw [stL_length]; exact hnl)
        obtain ⟨t, rfl, ht⟩ := mem_stL hm
        obtain ⟨k, o3, hk, so3, hn3, hh3, hl3⟩ := rec_call (S1.set i o2) (src_set hs1 so2)
        refine ⟨.all t k, o3, e_fdef_vs (e_seq_nx (e_set e0) (e_seq_nx (e_ifs_f t1 rfl) (e_seq_rt (e_ifs_t t3 ?_)))), so3, fun x hx => ?_, by unfold Kd.ht; omega, ?_⟩
        · rw [← back, ← set_set S1 i o2 o3]
          exact e_ret (e_disp (ws := [.v (.str [97, 108, 108]), .v (.str t), .v (enc k)]) (e_cons rfl (e_cons (he _ _ rfl) (e_cons (hk _ _ (e_cons rfl (e_cons (esub _ _ rfl) rfl))) rfl))) rfl (by simp) rfl)
        · rcases List.mem_cons.mp hx with rfl | hx
          · exact ht
          · exact hn3 x hx
        · unfold Kd.lvs
          exact Nat.le_trans hl3 (Nat.pow_le_pow_right (by decide) (by omega))
      · rw [decide_eq_false hC] at t3
        have t4 : cB (op2 gEq (cVar 3) (cC (.int 8))) [some (.r i), some (.v (.int ((dp + 1 : Nat) : Int))), some (.v (.lst (stL names))), some (.v (.int way)), none] S1 = .ok (way == 8) S1 := e_b (e_op2v rfl rfl (gEq_int _ _))
        obtain ⟨k, o3, hk, so3, hn3, hh3, hl3⟩ := rec_call S1 hs1
        by_cases hD : (way == 8) = true
        · rw [hD] at t4
          refine ⟨.list k, o3, e_fdef_vs (e_seq_nx (e_set e0) (e_seq_nx (e_ifs_f t1 rfl) (e_seq_nx (e_ifs_f t3 rfl) (e_seq_rt (e_ifs_t t4 ?_))))), so3, hn3, by unfold Kd.ht; omega, ?_⟩
          · rw [← back]
            exact e_ret (e_disp (ws := [.v (.str [99, 111, 110]), .v (.str [76, 105, 115, 116]), .v (.tup [enc k])]) (e_cons rfl (e_cons rfl (e_cons (e_disp (ws := [.v (enc k)]) (e_cons (hk _ _ (e_cons rfl (e_cons (esub _ _ rfl) rfl))) rfl) rfl (by simp) rfl) rfl))) rfl (by simp) rfl)
          · unfold Kd.lvs
            exact Nat.le_trans hl3 (Nat.pow_le_pow_right (by decide) (by omega))
        · rw [Bool.not_eq_true] at hD
          rw [hD] at t4
          obtain ⟨d, o4, hm, so4, he⟩ := one_call (src_set hs1 so3) (stL [C2.to.tx, C2.pair.tx, C2.to.tx]) (by decide) (by decide)
          obtain ⟨t, rfl, ht⟩ := mem_stL hm
          have hc : ∃ c : C2, t = c.tx := by
            simp only [List.mem_cons, List.not_mem_nil, or_false] at ht
            rcases ht with rfl | rfl | rfl
            · exact ⟨.to, rfl⟩
            · exact ⟨.pair, rfl⟩
            · exact ⟨.to, rfl⟩
          obtain ⟨c, rfl⟩ := hc
          obtain ⟨k2, o5, hk2, so5, hn5, hh5, hl5⟩ := rec_call ((S1.set i o3).set i o4) (src_set (src_set hs1 so3) so4)
          refine ⟨.con2 c k k2, o5, e_fdef_vs (e_seq_nx (e_set e0) (e_seq_nx (e_ifs_f t1 rfl) (e_seq_nx (e_ifs_f t3 rfl) (e_seq_nx (e_ifs_f t4 rfl) (e_seq_nx (e_set (hk _ _ (e_cons rfl (e_cons (esub _ _ rfl) rfl)))) ?_))))), so5, fun x hx => ?_, by unfold Kd.ht; omega, ?_⟩
          · rw [← back, ← set_set S1 i o3 o5, ← set_set (S1.set i o3) i o4 o5]
            exact e_ret (e_disp (ws := [.v (.str [99, 111, 110]), .v (.str c.tx), .v (.tup [enc k, enc k2])]) (e_cons rfl (e_cons (he _ _ rfl) (e_cons (e_disp (ws := [.v (enc k), .v (enc k2)]) (e_cons rfl (e_cons (hk2 _ _ (e_cons rfl (e_cons (esub _ _ rfl) rfl))) rfl)) rfl (by simp) rfl) rfl))) rfl (by simp) rfl)
          · rcases List.mem_append.mp hx with hx | hx
            · exact hn3 x hx
            · exact hn5 x hx
          · unfold Kd.lvs
            rw [Nat.pow_succ]
            omega
end Fro

namespace Fro
open PySem PySem.Spec L2

/-! ### the law's own free names -/
def occs : Kd → List Tx → List Tx
  | .var n, ins => if n ∈ ins then [] else [n]
  | .con0 _, _ => []
  | .list k, ins => occs k ins
  | .con2 _ a b, ins => occs a ins ++ occs b ins
  | .all n k, ins => occs k (ins ++ [n])
theorem occs_len : ∀ (k : Kd) (ins : List Tx), (occs k ins).length ≤ k.lvs
  | .var n, ins => by unfold occs; split <;> simp [Kd.lvs]
  | .con0 _, _ => Nat.zero_le _
  | .list k, ins => occs_len k ins
  | .con2 _ a b, ins => by
    unfold occs Kd.lvs
    rw [List.length_append]
    exact Nat.add_le_add (occs_len a ins) (occs_len b ins)
  | .all n k, ins => occs_len k _
theorem occs_nms : ∀ (k : Kd) (ins : List Tx), ∀ x ∈ occs k ins, x ∈ k.nms
  | .var n, ins, x, h => by
    unfold occs at h
    split at h
    · cases h
    · exact h
  | .con0 _, _, x, h => by cases h
  | .list k, ins, x, h => occs_nms k ins x h
  | .con2 _ a b, ins, x, h => by
    rcases List.mem_append.mp h with h | h
    · exact List.mem_append_left _ (occs_nms a ins x h)
    · exact List.mem_append_right _ (occs_nms b ins x h)
  | .all n k, ins, x, h => List.mem_cons_of_mem _ (occs_nms k _ x h)
def dedup (acc : List Tx) : List Tx → List Tx
  | [] => acc
  | n :: ns => if n ∈ acc then dedup acc ns else dedup (acc ++ [n]) ns
theorem dedup_app : ∀ (xs ys acc : List Tx), dedup acc (xs ++ ys) = dedup (dedup acc xs) ys
  | [], _, _ => rfl
  | x :: xs, ys, acc => by
    show (if x ∈ acc then dedup acc (xs ++ ys) else dedup (acc ++ [x]) (xs ++ ys)) = dedup (if x ∈ acc then dedup acc xs else dedup (acc ++ [x]) xs) ys
    split
    · exact dedup_app xs ys acc
    · exact dedup_app xs ys _
theorem dedup_acc : ∀ (xs acc : List Tx), dedup acc xs = acc ++ (dedup [] xs).filter fun n => !decide (n ∈ acc)
  | [], acc => by simp [dedup]
  | x :: xs, acc => by
    have e0 : dedup [] (x :: xs) = [x] ++ (dedup [] xs).filter fun n => !decide (n ∈ [x]) := by
      show (if x ∈ ([] : List Tx) then dedup [] xs else dedup ([] ++ [x]) xs) = _
      rw [if_neg (by simp), List.nil_append]
      exact dedup_acc xs [x]
    rw [e0, List.filter_append, List.filter_filter]
    show (if x ∈ acc then dedup acc xs else dedup (acc ++ [x]) xs) = _
    by_cases h : x ∈ acc
    · rw [if_pos h, dedup_acc xs acc]
      have : [x].filter (fun n => !decide (n ∈ acc)) = [] := by simp [h]
      rw [this, List.nil_append]
      congr 1
      apply List.filter_congr
      intro n _
      by_cases hn : n ∈ acc
      · simp [hn]
      · have : n ≠ x := fun e => hn (e ▸ h)
        simp [hn, this]
    · rw [if_neg h, dedup_acc xs (acc ++ [x])]
      have : [x].filter (fun n => !decide (n ∈ acc)) = [x] := by simp [h]
      rw [this, List.append_assoc]
      congr 2
      apply List.filter_congr
      intro n _
      by_cases hn : n ∈ acc <;> by_cases hx : n = x <;> simp [hn, hx]
theorem frees_dedup : ∀ (k : Kd) (ins : List Tx), frees k ins = dedup [] (occs k ins)
  | .var n, ins => by
    unfold frees occs
    split
    · rfl
    · rfl
  | .con0 _, _ => rfl
  | .list k, ins => frees_dedup k ins
  | .con2 _ a b, ins => by
    unfold frees occs
    rw [dedup_app, dedup_acc (occs b ins), ← frees_dedup a ins, ← frees_dedup b ins]
  | .all n k, ins => frees_dedup k _
theorem dedup_len : ∀ (xs acc : List Tx), (dedup acc xs).length ≤ acc.length + xs.length
  | [], acc => Nat.le_refl _
  | x :: xs, acc => by
    unfold dedup
    split
    · have := dedup_len xs acc; rw [List.length_cons]; omega
    · have := dedup_len xs (acc ++ [x]); rw [List.length_append] at this; rw [List.length_cons]; simp at this; omega
theorem frees_nms (k : Kd) (ins : List Tx) : ∀ x ∈ frees k ins, x ∈ k.nms := by
  induction k generalizing ins with
  | var n => intro x h; unfold frees at h; split at h
             · cases h
             · exact h
  | con0 c => intro x h; cases h
  | list k ih => exact ih ins
  | con2 c a b iha ihb =>
    intro x h
    rcases List.mem_append.mp h with h | h
    · exact List.mem_append_left _ (iha ins x h)
    · exact List.mem_append_right _ (ihb ins x (List.mem_filter.mp h).1)
  | all n k ih => intro x h; exact List.mem_cons_of_mem _ (ih _ x h)
theorem names_in_ev : ∀ (k : Kd) (m : Nat) (ins : List Tx) (S : Sto), k.ht ≤ m → k.ht + ins.length ≤ 1000 → k.lvs ≤ 1000 → f__law_names_in m [.v (enc k), .v (.tup (stL ins))] S = .ok (.v (.lst (stL (occs k ins)))) S := by
  have pos : ∀ (k : Kd) (m : Nat), k.ht ≤ m → ∃ m', m = m' + 1 := fun k m h => ⟨m - 1, by have := k.ht_pos; omega⟩
  intro k
  induction k with
  | var n =>
    intro m ins S hm _ _
    obtain ⟨m, rfl⟩ := pos _ _ hm
    refine e_fdef_v (e_seq_rt (e_ifs_t (S1 := S) (e_b rfl) (e_ret (e_op2v (d := .lst [.str n]) rfl (e_blt (ws := [.v (.bl (!decide (n ∈ ins)))]) (e_cons (e_op2v rfl rfl (gNotIn_tup n ins)) rfl) rfl rfl) ?_))))
    by_cases h : n ∈ ins
    · rw [decide_eq_true h]
      unfold occs
      rw [if_pos h]
      rfl
    · rw [decide_eq_false h]
      unfold occs
      rw [if_neg h]
      rfl
  | con0 c =>
    intro m ins S hm _ _
    obtain ⟨m, rfl⟩ := pos _ _ hm
    exact e_fdef_v (e_seq_nx (e_ifs_f (S1 := S) (e_b rfl) rfl) (e_seq_nx (e_ifs_f (S1 := S) (e_b rfl) rfl) (e_seq_nx (e_set rfl) (e_seq_nx (e_for rfl rfl) rfl))))
  | all n k ih =>
    intro m ins S hm h1 h2
    obtain ⟨m, rfl⟩ := pos _ _ hm
    unfold Kd.ht at hm h1
    exact e_fdef_v (e_seq_nx (e_ifs_f (S1 := S) (e_b rfl) rfl) (e_seq_rt (e_ifs_t (S1 := S) (e_b rfl) (e_ret (e_call (ws := [.v (enc k), .v (.tup (stL (ins ++ [n])))]) (e_cons rfl (e_cons (e_op2v (e := .tup (stL [n])) rfl rfl (gAdd_tups ins [n] (by simp; omega))) rfl)) rfl (ih m (ins ++ [n]) S (by omega) (by simp; omega) h2) rfl)))))
  | list k ih =>
    intro m ins S hm h1 h2
    obtain ⟨m, rfl⟩ := pos _ _ hm
    unfold Kd.ht at hm h1
    have hl := occs_len k ins
    have h2' : k.lvs ≤ 1000 := h2
    refine e_fdef_v (e_seq_nx (e_ifs_f (S1 := S) (e_b rfl) rfl) (e_seq_nx (e_ifs_f (S1 := S) (e_b rfl) rfl) (e_seq_nx (e_set rfl) (e_seq_nx (e_for (S1 := S) (ds := [enc k]) rfl (r := .nx [some (.v (enc (.list k))), some (.v (.tup (stL ins))), some (.v (.lst (stL (occs k ins)))), some (.v (enc k))] S) ?_) rfl))))
    have hb : (cAsg (op2 gAdd (cVar 2) (cCall 2 (f__law_names_in m) (cCons (cVar 3) (cCons (cVar 1) cNil)) [])) (gN 2)) [some (.v (enc (.list k))), some (.v (.tup (stL ins))), some (.v (.lst [])), some (.v (enc k))] S = .nx [some (.v (enc (.list k))), some (.v (.tup (stL ins))), some (.v (.lst (stL (occs k ins)))), some (.v (enc k))] S :=
      e_set (e_op2v (d := .lst (stL [])) rfl (e_call (ws := [.v (enc k), .v (.tup (stL ins))]) rfl rfl (ih m ins S (by omega) (by omega) h2') rfl) (gAdd_lsts [] (occs k ins) (by simp; omega)))
    unfold forL
    show (match (cAsg _ _) [some (.v (enc (.list k))), some (.v (.tup (stL ins))), some (.v (.lst [])), some (.v (enc k))] S with
      | .nx δ2 S2 => forL _ _ [] δ2 S2
      | .ct δ2 S2 => forL _ _ [] δ2 S2
      | .bk δ2 S2 => .nx δ2 S2
      | r => r) = _
    rw [hb]
    rfl
  | con2 c a b iha ihb =>
    intro m ins S hm h1 h2
    obtain ⟨m, rfl⟩ := pos _ _ hm
    unfold Kd.ht at hm h1
    unfold Kd.lvs at h2
    have hla := occs_len a ins
    have hlb := occs_len b ins
    refine e_fdef_v (e_seq_nx (e_ifs_f (S1 := S) (e_b (by cases c <;> rfl)) rfl) (e_seq_nx (e_ifs_f (S1 := S) (e_b (by cases c <;> rfl)) rfl) (e_seq_nx (e_set rfl) (e_seq_nx (e_for (S1 := S) (ds := [enc a, enc b]) rfl (r := .nx [some (.v (enc (.con2 c a b))), some (.v (.tup (stL ins))), some (.v (.lst (stL (occs (.con2 c a b) ins)))), some (.v (enc b))] S) ?_) rfl))))
    have hb : ∀ (k : Kd) (acc : List Tx), acc.length + (occs k ins).length ≤ 1000000 → f__law_names_in m [.v (enc k), .v (.tup (stL ins))] S = .ok (.v (.lst (stL (occs k ins)))) S → (cAsg (op2 gAdd (cVar 2) (cCall 2 (f__law_names_in m) (cCons (cVar 3) (cCons (cVar 1) cNil)) [])) (gN 2)) [some (.v (enc (.con2 c a b))), some (.v (.tup (stL ins))), some (.v (.lst (stL acc))), some (.v (enc k))] S = .nx [some (.v (enc (.con2 c a b))), some (.v (.tup (stL ins))), some (.v (.lst (stL (acc ++ occs k ins)))), some (.v (enc k))] S := fun k acc hl hc =>
      e_set (e_op2v (d := .lst (stL acc)) rfl (e_call (ws := [.v (enc k), .v (.tup (stL ins))]) rfl rfl hc rfl) (gAdd_lsts acc (occs k ins) hl))
    have e1 := hb a [] (by simp; omega) (iha m ins S (by omega) (by omega) (by omega))
    have e2 := hb b (occs a ins) (by omega) (ihb m ins S (by omega) (by omega) (by omega))
    rw [List.nil_append] at e1
    unfold forL
    show (match (cAsg _ _) [some (.v (enc (.con2 c a b))), some (.v (.tup (stL ins))), some (.v (.lst (stL []))), some (.v (enc a))] S with
      | .nx δ2 S2 => forL _ _ [enc b] δ2 S2
      | .ct δ2 S2 => forL _ _ [enc b] δ2 S2
      | .bk δ2 S2 => .nx δ2 S2
      | r => r) = _
    rw [e1]
    show forL _ _ [enc b] [some (.v (enc (.con2 c a b))), some (.v (.tup (stL ins))), some (.v (.lst (stL (occs a ins)))), some (.v (enc a))] S = _
    unfold forL
    show (match (cAsg _ _) [some (.v (enc (.con2 c a b))), some (.v (.tup (stL ins))), some (.v (.lst (stL (occs a ins)))), some (.v (enc b))] S with
      | .nx δ2 S2 => forL _ _ [] δ2 S2
      | .ct δ2 S2 => forL _ _ [] δ2 S2
      | .bk δ2 S2 => .nx δ2 S2
      | r => r) = _
    rw [e2]
    rfl
/-! ### what the law asks of one kind -/
theorem right_ev (k : Kd) (S : Sto) (h : Good k) (hh : k.ht ≤ 30) (hl : k.lvs ≤ 900) : f__law_right [.v (enc k)] S = .ok (.v (.bl true)) S := by
  have hol := occs_len k []
  have hfl := frees_len k []
  have okf : ∀ t ∈ frees k [], okT t = true := fun t ht => isNm_ok (h t (frees_nms k [] t ht))
  -- the law's loop
  have loop : ∀ (ns acc : List Tx) (o : Option W), acc.length + ns.length ≤ 1000 → ∃ o', forL (gN 2) (cIfS (cB (op2 gNotIn (cVar 2) (cVar 1))) (cExpr (cAppend (cVar 1) (cVar 2))) cNx) (stL ns) [some (.v (enc k)), some (.r S.length), o, none] (S ++ [.lst (stL acc)]) = .nx [some (.v (enc k)), some (.r S.length), o', none] (S ++ [.lst (stL (dedup acc ns))]) := by
    intro ns
    induction ns with
    | nil => intro acc o _; exact ⟨o, rfl⟩
    | cons n ns ih =>
      intro acc o hl
      rw [List.length_cons] at hl
      have ht : cB (op2 gNotIn (cVar 2) (cVar 1)) [some (.v (enc k)), some (.r S.length), some (.v (.str n)), none] (S ++ [.lst (stL acc)]) = .ok (!decide (n ∈ acc)) (S ++ [.lst (stL acc)]) := e_b (e_op2 rfl rfl rfl (rd_at (at_last _ _)) (gNotIn_lst n acc))
      show ∃ o', forL _ _ (.str n :: stL ns) _ _ = _
      unfold forL
      by_cases hn : n ∈ acc
      · rw [decide_eq_true hn] at ht
        have hb := e_ifs_f (a := cExpr (cAppend (cVar 1) (cVar 2))) (b := cNx) ht rfl
        obtain ⟨o', e⟩ := ih acc (some (.v (.str n))) (by omega)
        refine ⟨o', ?_⟩
        have e2 : dedup acc (n :: ns) = dedup acc ns := by
          show (if n ∈ acc then dedup acc ns else dedup (acc ++ [n]) ns) = _
          rw [if_pos hn]
        rw [e2]
        simp only [gN]
        show (match (cIfS _ _ _) [some (.v (enc k)), some (.r S.length), some (.v (.str n)), none] _ with
          | .nx δ2 S2 => forL _ _ (stL ns) δ2 S2
          | .ct δ2 S2 => forL _ _ (stL ns) δ2 S2
          | .bk δ2 S2 => .nx δ2 S2
          | r => r) = _
        rw [hb]
        exact e
      · rw [decide_eq_false hn] at ht
        have hb := e_ifs_t (a := cExpr (cAppend (cVar 1) (cVar 2))) (b := cNx) ht (e_expr (e_append (d := .str n) (ds := stL acc) rfl ⟨_, at_last _ _⟩ rfl (at_last _ _) (by rw [stL_length]; omega)))
        rw [set_last, show stL acc ++ [.str n] = stL (acc ++ [n]) from stL_append acc [n]] at hb
        obtain ⟨o', e⟩ := ih (acc ++ [n]) (some (.v (.str n))) (by rw [List.length_append]; simp; omega)
        refine ⟨o', ?_⟩
        have e2 : dedup acc (n :: ns) = dedup (acc ++ [n]) ns := by
          show (if n ∈ acc then dedup acc ns else dedup (acc ++ [n]) ns) = _
          rw [if_neg hn]
        rw [e2]
        simp only [gN]
        show (match (cIfS _ _ _) [some (.v (enc k)), some (.r S.length), some (.v (.str n)), none] _ with
          | .nx δ2 S2 => forL _ _ (stL ns) δ2 S2
          | .ct δ2 S2 => forL _ _ (stL ns) δ2 S2
          | .bk δ2 S2 => .nx δ2 S2
          | r => r) = _
        rw [hb]
        exact e
  obtain ⟨o', eloop⟩ := loop (occs k []) [] none (by simp; omega)
  rw [← frees_dedup] at eloop
  have hfr := free_ev k (S ++ [Ob.lst (stL (frees k []))]) h hh (by omega)
  have i0 : ∀ x y : Ob, (S ++ [x] ++ [y])[S.length]? = some x := fun x y => by simp
  have i1 : ∀ x y : Ob, (S ++ [x] ++ [y])[(S ++ [x]).length]? = some y := fun x y => by simp
  have s1 : ∀ x y z : Ob, (S ++ [x] ++ [y]).set (S ++ [x]).length z = S ++ [x] ++ [z] := fun x y z => set_last _ _ _
  have hit : itL (cCall 2 (f__law_names_in 30) (cCons (cVar 0) (cCons (cTup cNil) cNil)) []) [some (.v (enc k)), some (.r S.length), none, none] (S ++ [Ob.lst (stL [])]) = .ok (stL (occs k [])) (S ++ [Ob.lst (stL [])]) := by
    exact e_itL (e_call (ws := [.v (enc k), .v (.tup (stL []))]) rfl rfl (names_in_ev k 30 [] (S ++ [Ob.lst (stL [])]) hh (by simp; omega) (by omega)) rfl)
  have hne : gNe (.lst (stL (frees k []))) (.lst (stL (frees k []))) = some (.bl false) := by
    rw [gNe_stL _ _ okf okf, decide_eq_true rfl]
    rfl
  have hrd : rdAll (S ++ [Ob.lst (stL (frees k []))] ++ [Ob.lst (stL (frees k []))]) [.r (S ++ [Ob.lst (stL (frees k []))]).length, .v (.ty .lst)] = some [.lst (stL (frees k [])), .ty .lst] := by
    show (match rd _ (.r (S ++ [Ob.lst (stL (frees k []))]).length), rdAll _ [.v (.ty .lst)] with
      | some d, some ds => some (d :: ds)
      | _, _ => none) = _
    rw [rd_at (i1 _ _)]
    rfl
  refine e_fdef_va (T := [.lst (stL (frees k [])), .lst (stL (frees k []) ++ [.str [109, 111, 114, 101]])]) ?_
  refine e_seq_nx (δ' := [some (.v (enc k)), some (.r S.length), none, none]) (S1 := S ++ [Ob.lst (stL [])]) (e_set rfl) ?_
  refine e_seq_nx (δ' := [some (.v (enc k)), some (.r S.length), o', none]) (S1 := S ++ [Ob.lst (stL (frees k []))]) (e_for hit eloop) ?_
  refine e_seq_nx (δ' := [some (.v (enc k)), some (.r S.length), o', some (.r (S ++ [Ob.lst (stL (frees k []))]).length)]) (S1 := S ++ [Ob.lst (stL (frees k []))] ++ [Ob.lst (stL (frees k []))]) (e_set (e_callM (ws := [.v (enc k)]) rfl rfl hfr rfl)) ?_
  refine e_seq_nx (δ' := [some (.v (enc k)), some (.r S.length), o', some (.r (S ++ [Ob.lst (stL (frees k []))]).length)]) (S1 := S ++ [Ob.lst (stL (frees k []))] ++ [Ob.lst (stL (frees k []))]) (e_ifs_f (S1 := S ++ [Ob.lst (stL (frees k []))] ++ [Ob.lst (stL (frees k []))]) (e_or_f (S1 := S ++ [Ob.lst (stL (frees k []))] ++ [Ob.lst (stL (frees k []))]) (e_b (e_op2 (w := .r (S ++ [Ob.lst (stL (frees k []))]).length) (v := .r S.length) rfl rfl (rd_at (i1 _ _)) (rd_at (i0 _ _)) hne)) (e_not (c := true) (e_b (e_blt rfl hrd rfl)))) rfl) ?_
  refine e_seq_nx (e_expr (e_append (i := (S ++ [Ob.lst (stL (frees k []))]).length) (S1 := S ++ [Ob.lst (stL (frees k []))] ++ [Ob.lst (stL (frees k []))]) (S2 := S ++ [Ob.lst (stL (frees k []))] ++ [Ob.lst (stL (frees k []))]) (d := .str [109, 111, 114, 101]) (ds := stL (frees k [])) rfl ⟨_, i1 _ _⟩ rfl (i1 _ _) (by rw [stL_length]; omega))) ?_
  rw [s1]
  have hfr2 := free_ev k (S ++ [Ob.lst (stL (frees k []))] ++ [Ob.lst (stL (frees k []) ++ [.str [109, 111, 114, 101]])]) h hh (by omega)
  rw [show S ++ [Ob.lst (stL (frees k [])), Ob.lst (stL (frees k []) ++ [.str [109, 111, 114, 101]])] = S ++ [Ob.lst (stL (frees k []))] ++ [Ob.lst (stL (frees k []) ++ [.str [109, 111, 114, 101]])] by simp]
  refine e_ret (e_op2 (e_call (ws := [.v (enc k)]) rfl rfl hfr2 rfl) rfl rfl (rd_at (i0 _ _)) ?_)
  rw [gEq_stL _ _ okf okf, decide_eq_true rfl]
end Fro

namespace Fro
open PySem PySem.Spec L2

def wnames : List Tx := [[97], [98], [97, 97], [122, 122], [120], [121], [105, 110, 110, 101, 114], [108, 111, 115, 116], [97, 98, 99, 100, 101, 102, 103, 104]]
theorem wnames_ok : ∀ t ∈ wnames, isNm t = true := by decide
theorem set_self {S : Sto} {i : Nat} {o : Ob} (h : S[i]? = some o) : S.set i o = S := by
  apply List.ext_getElem?
  intro j
  by_cases hj : i = j
  · subst hj
    have hl : i < S.length := by
      rcases Nat.lt_or_ge i S.length with z | z
      · exact z
      · rw [List.getElem?_eq_none z] at h; cases h
    rw [List.getElem?_set_self hl, h]
  · rw [List.getElem?_set_ne hj]
/-- one turn of the wide kinds -/
theorem wide_turn {S : Sto} {i : Nat} (hs : Src S i) (k : Kd) (turn : Nat) (o4 o5 : Option W) : ∃ (k' : Kd) (o : Ob) (w4 w5 : Option W), SrcO o ∧ (∀ x ∈ k'.nms, x ∈ wnames ∨ x ∈ k.nms) ∧ k'.ht ≤ k.ht + 1 ∧ k'.lvs ≤ k.lvs + 1 ∧
    l1__law_wide [some (.r i), some (.v (.lst (stL wnames))), some (.v (enc k)), some (.v (.int turn)), o4, o5] S =
      if 24 < turn then .rt (.v (enc k')) (S.set i o) else .nx [some (.r i), some (.v (.lst (stL wnames))), some (.v (enc k')), some (.v (.int turn)), w4, w5] (S.set i o) := by
  obtain ⟨d, o1, hm, so1, he⟩ := one_call hs (stL wnames) (by decide) (by decide)
  obtain ⟨t, rfl, ht⟩ := mem_stL hm
  obtain ⟨way, o2, w0, w1, so2, hw⟩ := next_call (src_set hs so1) 5 (by decide) (by decide)
  rw [set_set] at hw
  have hs2 : Src (S.set i o2) i := src_set hs so2
  have fin : ∀ (k' : Kd) (T : Sto), (cIfS (cB (op2 gGt (cVar 3) (cC (.int 24)))) (cRet (cVar 2)) cNx) [some (.r i), some (.v (.lst (stL wnames))), some (.v (enc k')), some (.v (.int turn)), some (.v (enc (.var t))), some (.v (.int way))] T = if 24 < turn then .rt (.v (enc k')) T else .nx [some (.r i), some (.v (.lst (stL wnames))), some (.v (enc k')), some (.v (.int turn)), some (.v (enc (.var t))), some (.v (.int way))] T := fun k' T => by
    have e : cB (op2 gGt (cVar 3) (cC (.int 24))) [some (.r i), some (.v (.lst (stL wnames))), some (.v (enc k')), some (.v (.int turn)), some (.v (enc (.var t))), some (.v (.int way))] T = .ok (decide ((24 : Int) < turn)) T := e_b (e_op2v rfl rfl rfl)
    by_cases h : 24 < turn
    · rw [if_pos h]
      rw [decide_eq_true (show (24 : Int) < turn by omega)] at e
      exact e_ifs_t e rfl
    · rw [if_neg h]
      rw [decide_eq_false (show ¬ (24 : Int) < turn by omega)] at e
      exact e_ifs_f e rfl
  have st1 : cAsg (cTup (cCons (cC (.str [118, 97, 114])) (cCons (cCall 2 f__law_one (cCons (cVar 0) (cCons (cVar 1) cNil)) []) cNil))) (gN 4) [some (.r i), some (.v (.lst (stL wnames))), some (.v (enc k)), some (.v (.int turn)), o4, o5] S = .nx [some (.r i), some (.v (.lst (stL wnames))), some (.v (enc k)), some (.v (.int turn)), some (.v (enc (.var t))), o5] (S.set i o1) :=
    e_set (e_disp (ws := [.v (.str [118, 97, 114]), .v (.str t)]) (e_cons rfl (e_cons (he _ _ rfl) rfl)) rfl (by simp) rfl)
  have st2 : cAsg (cCall 2 f__law_next (cCons (cVar 0) (cCons (cC (.int 5)) cNil)) []) (gN 5) [some (.r i), some (.v (.lst (stL wnames))), some (.v (enc k)), some (.v (.int turn)), some (.v (enc (.var t))), o5] (S.set i o1) = .nx [some (.r i), some (.v (.lst (stL wnames))), some (.v (enc k)), some (.v (.int turn)), some (.v (enc (.var t))), some (.v (.int way))] (S.set i o2) := e_set (hw _ _ rfl)
  have t1 : cB (op2 gEq (cVar 5) (cC (.int 0))) [some (.r i), some (.v (.lst (stL wnames))), some (.v (enc k)), some (.v (.int turn)), some (.v (enc (.var t))), some (.v (.int way))] (S.set i o2) = .ok (way == 0) (S.set i o2) := e_b (e_op2v rfl rfl (gEq_int _ _))
  by_cases h0 : way = 0
  · subst h0
    obtain ⟨d3, o3, hm3, so3, he3⟩ := one_call hs2 (stL wnames) (by decide) (by decide)
    obtain ⟨t3, rfl, ht3⟩ := mem_stL hm3
    rw [set_set] at he3
    refine ⟨.all t3 k, o3, some (.v (enc (.var t))), some (.v (.int 0)), so3, fun x hx => ?_, Nat.le_refl _, Nat.le_succ _, e_seq_nx st1 (e_seq_nx st2 (e_seq_nx (e_ifs_t t1 (e_set (e_disp (ws := [.v (.str [97, 108, 108]), .v (.str t3), .v (enc k)]) (e_cons rfl (e_cons (he3 _ _ rfl) rfl)) rfl (by simp) rfl))) (fin (.all t3 k) _)))⟩
    rcases List.mem_cons.mp hx with rfl | hx
    · exact .inl ht3
    · exact .inr hx
  · have hb : (way == 0) = false := beq_eq_false_iff_ne.mpr h0
    rw [hb] at t1
    have hc : ∃ c : C2, atI [D.str [84, 111], D.str [80, 97, 105, 114]] (way % 2) = some (.str c.tx) := by
      rcases (show way % 2 = 0 ∨ way % 2 = 1 by omega) with h | h
      · rw [h]; exact ⟨.to, rfl⟩
      · rw [h]; exact ⟨.pair, rfl⟩
    obtain ⟨c, hc⟩ := hc
    have hd : way / 3 = 0 ∨ way / 3 = 1 := by omega
    have big : ∀ (p : D), atI [D.tup [enc k, enc (.var t)], D.tup [enc (.var t), enc k]] (way / 3) = some p → (cAsg (cTup (cCons (cC (.str [99, 111, 110])) (cCons (cIx (cLst (cCons (cC (.str [84, 111])) (cCons (cC (.str [80, 97, 105, 114])) cNil))) (op2 gMod (cBlt gInt (cCons (cVar 5) cNil)) (cC (.int 2)))) (cCons (cIx (cLst (cCons (cTup (cCons (cVar 2) (cCons (cVar 4) cNil))) (cCons (cTup (cCons (cVar 4) (cCons (cVar 2) cNil))) cNil))) (op2 gDiv (cVar 5) (cC (.int 3)))) cNil)))) (gN 2)) [some (.r i), some (.v (.lst (stL wnames))), some (.v (enc k)), some (.v (.int turn)), some (.v (enc (.var t))), some (.v (.int way))] (S.set i o2) = .nx [some (.r i), some (.v (.lst (stL wnames))), some (.v (.tup [.str [99, 111, 110], .str c.tx, p])), some (.v (.int turn)), some (.v (enc (.var t))), some (.v (.int way))] (S.set i o2) := fun p hp =>
      e_set (e_disp (ws := [.v (.str [99, 111, 110]), .v (.str c.tx), .v p]) (e_cons rfl (e_cons (e_ix (d := .lst [.str [84, 111], .str [80, 97, 105, 114]]) rfl (e_op2v rfl rfl (gMod_ev (by decide))) hc) (e_cons (e_ix (d := .lst [.tup [enc k, enc (.var t)], .tup [enc (.var t), enc k]]) rfl (e_op2v rfl rfl (gDiv_ev (by decide) (by decide))) hp) rfl))) rfl (by simp) rfl)
    have nm : ∀ x, x ∈ k.nms ∨ x ∈ (Kd.var t).nms → x ∈ wnames ∨ x ∈ k.nms := fun x hx => by
      rcases hx with hx | hx
      · exact .inr hx
      · have : x = t := by simpa [Kd.nms] using hx
        rw [this]; exact .inl ht
    have hp := k.ht_pos
    rcases hd with hd | hd
    · refine ⟨.con2 c k (.var t), o2, some (.v (enc (.var t))), some (.v (.int way)), so2, fun x hx => nm x (List.mem_append.mp hx), ?_, ?_, e_seq_nx st1 (e_seq_nx st2 (e_seq_nx (e_ifs_f t1 (big (.tup [enc k, enc (.var t)]) (by rw [hd]; rfl))) (fin (.con2 c k (.var t)) _)))⟩
      · show max k.ht 1 + 1 ≤ k.ht + 1; omega
      · exact Nat.le_refl _
    · refine ⟨.con2 c (.var t) k, o2, some (.v (enc (.var t))), some (.v (.int way)), so2, fun x hx => nm x (List.mem_append.mp hx).symm, ?_, ?_, e_seq_nx st1 (e_seq_nx st2 (e_seq_nx (e_ifs_f t1 (big (.tup [enc (.var t), enc k]) (by rw [hd]; rfl))) (fin (.con2 c (.var t) k) _)))⟩
      · show max 1 k.ht + 1 ≤ k.ht + 1; omega
      · show 1 + k.lvs ≤ k.lvs + 1; omega
theorem wide_ev {S : Sto} {i : Nat} (hs : Src S i) : ∃ (k : Kd) (o : Ob), f__law_wide [.r i] S = .ok (.v (enc k)) (S.set i o) ∧ SrcO o ∧ Good k ∧ k.ht ≤ 30 ∧ k.lvs ≤ 900 := by
  obtain ⟨d, o1, hm, so1, he⟩ := one_call hs (stL wnames) (by decide) (by decide)
  obtain ⟨t, rfl, ht⟩ := mem_stL hm
  obtain ⟨cnt, o2, c0, c1, so2, hc⟩ := next_call (src_set hs so1) 35 (by decide) (by decide)
  rw [set_set] at hc
  have loop : ∀ (n lo : Nat) (T : Sto) (k : Kd) (o3 o4 o5 : Option W), lo ≤ 25 → Src T i → (∀ x ∈ k.nms, x ∈ wnames) → k.ht ≤ lo + 1 → k.lvs ≤ lo + 1 → ∃ (k' : Kd) (o : Ob) (δ' : Slots), SrcO o ∧ (∀ x ∈ k'.nms, x ∈ wnames) ∧ k'.ht ≤ 30 ∧ k'.lvs ≤ 900 ∧
      (forL (gN 3) l1__law_wide (rangeD lo n) [some (.r i), some (.v (.lst (stL wnames))), some (.v (enc k)), o3, o4, o5] T = .rt (.v (enc k')) (T.set i o) ∨
       forL (gN 3) l1__law_wide (rangeD lo n) [some (.r i), some (.v (.lst (stL wnames))), some (.v (enc k)), o3, o4, o5] T = .nx δ' (T.set i o) ∧ δ'[2]? = some (some (.v (enc k')))) := by
    intro n
    induction n with
    | zero =>
      intro lo T k o3 o4 o5 hlo hT hk hh hl
      obtain ⟨o, e1, e2⟩ := hT
      exact ⟨k, o, _, e2, hk, by omega, by omega, .inr ⟨by rw [set_self e1]; rfl, rfl⟩⟩
    | succ n ih =>
      intro lo T k o3 o4 o5 hlo hT hk hh hl
      obtain ⟨k1, o, w4, w5, so, hn, h1, h2, e⟩ := wide_turn hT k lo o4 o5
      have hn' : ∀ x ∈ k1.nms, x ∈ wnames := fun x hx => by
        rcases hn x hx with z | z
        · exact z
        · exact hk x z
      by_cases h24 : 24 < lo
      · rw [if_pos h24] at e
        refine ⟨k1, o, [], so, hn', by omega, by omega, .inl ?_⟩
        show forL _ _ (.int (lo : Int) :: rangeD ((lo : Int) + 1) n) _ _ = _
        unfold forL
        simp only [gN]
        show (match l1__law_wide [some (.r i), some (.v (.lst (stL wnames))), some (.v (enc k)), some (.v (.int lo)), o4, o5] T with
          | .nx δ2 S2 => forL _ _ (rangeD ((lo : Int) + 1) n) δ2 S2
          | .ct δ2 S2 => forL _ _ (rangeD ((lo : Int) + 1) n) δ2 S2
          | .bk δ2 S2 => .nx δ2 S2
          | r => r) = _
        rw [e]
      · rw [if_neg h24] at e
        obtain ⟨k2, o6, δ', so6, hn6, hh6, hl6, e6⟩ := ih (lo + 1) (T.set i o) k1 (some (.v (.int lo))) w4 w5 (by omega) (src_set hT so) hn' (by omega) (by omega)
        refine ⟨k2, o6, δ', so6, hn6, hh6, hl6, ?_⟩
        rw [set_set] at e6
        have step : ∀ r, forL (gN 3) _ (rangeD ((lo + 1 : Nat) : Int) n) [some (.r i), some (.v (.lst (stL wnames))), some (.v (enc k1)), some (.v (.int lo)), w4, w5] (T.set i o) = r → forL (gN 3) _ (rangeD (lo : Int) (n + 1)) [some (.r i), some (.v (.lst (stL wnames))), some (.v (enc k)), o3, o4, o5] T = r := fun r hr => by
          show forL _ _ (.int (lo : Int) :: rangeD ((lo : Int) + 1) n) _ _ = _
          unfold forL
          simp only [gN]
          show (match l1__law_wide [some (.r i), some (.v (.lst (stL wnames))), some (.v (enc k)), some (.v (.int lo)), o4, o5] T with
            | .nx δ2 S2 => forL _ _ (rangeD ((lo : Int) + 1) n) δ2 S2
            | .ct δ2 S2 => forL _ _ (rangeD ((lo : Int) + 1) n) δ2 S2
            | .bk δ2 S2 => .nx δ2 S2
            | r => r) = _
          rw [e]
          exact hr
        rcases e6 with e6 | ⟨e6, e7⟩
        · exact .inl (step _ e6)
        · exact .inr ⟨step _ e6, e7⟩
  obtain ⟨k, o, δ', so, hn, hh, hl, e⟩ := loop (1 + cnt).toNat 0 (S.set i o2) (.var t) none none none (by omega) (src_set hs so2) (fun x hx => by
    have : x = t := by simpa [Kd.nms] using hx
    rw [this]; exact ht) (Nat.le_refl _) (Nat.le_refl _)
  rw [set_set] at e
  refine ⟨k, o, ?_, so, fun n hk => wnames_ok n (hn n hk), hh, hl⟩
  have s1 : cAsg (cTup (cCons (cC (.str [118, 97, 114])) (cCons (cCall 2 f__law_one (cCons (cVar 0) (cCons (cVar 1) cNil)) []) cNil))) (gN 2) [some (.r i), some (.v (.lst (stL wnames))), none, none, none, none] S = .nx [some (.r i), some (.v (.lst (stL wnames))), some (.v (enc (.var t))), none, none, none] (S.set i o1) :=
    e_set (e_disp (ws := [.v (.str [118, 97, 114]), .v (.str t)]) (e_cons rfl (e_cons (he _ _ rfl) rfl)) rfl (by simp) rfl)
  have hit : itR0 (cCons (op2 gAdd (cC (.int 1)) (cCall 2 f__law_next (cCons (cVar 0) (cCons (cC (.int 35)) cNil)) [])) cNil) [some (.r i), some (.v (.lst (stL wnames))), some (.v (enc (.var t))), none, none, none] (S.set i o1) = .ok (rangeD 0 (1 + cnt).toNat) (S.set i o2) :=
    e_itR (e_cons (e_op2v rfl (hc _ _ rfl) rfl) rfl) (by omega) (by omega)
  rcases e with e | ⟨e, e2⟩
  · exact e_fdef_vs (e_seq_nx (δ' := [some (.r i), some (.v (.lst (stL wnames))), none, none, none, none]) (S1 := S) (e_set rfl) (e_seq_nx s1 (e_seq_rt (e_for hit e))))
  · refine e_fdef_vs (e_seq_nx (δ' := [some (.r i), some (.v (.lst (stL wnames))), none, none, none, none]) (S1 := S) (e_set rfl) (e_seq_nx s1 (e_seq_nx (e_for hit e) (e_ret ?_))))
    unfold cVar
    rw [e2]
/-! ### the law -/
theorem rangeD_pos : ∀ (n : Nat) (lo : Int), 0 ≤ lo → ∀ d ∈ rangeD lo n, ∃ k : Int, 0 ≤ k ∧ d = .int k
  | 0, _, _, d, h => by cases h
  | n + 1, lo, h0, d, h => by
    rcases List.mem_cons.mp h with rfl | h
    · exact ⟨lo, h0, rfl⟩
    · exact rangeD_pos n (lo + 1) (by omega) d h
theorem law_true (ns : List Int) (hl : ns.length ≤ 63) : f_law [.s ns] [] = .ok (.v (.bl true)) [] := by
  -- the names of the drawn kinds
  have names : ∀ (m : Int), 0 ≤ m → m < 3 → ∃ ts : List Tx, ts ≠ [] ∧ ts.length < 1073741824 ∧ (∀ t ∈ ts, isNm t = true) ∧ gAdd (.lst (cutD (stL [[97], [98], [99]]) none (some (1 + m)))) (.lst (stL [[121]])) = some (.lst (stL ts)) := fun m h0 h3 => by
    rcases (show m = 0 ∨ m = 1 ∨ m = 2 by omega) with rfl | rfl | rfl
    · exact ⟨[[97], [121]], by decide, by decide, by decide, rfl⟩
    · exact ⟨[[97], [98], [121]], by decide, by decide, by decide, rfl⟩
    · exact ⟨[[97], [98], [99], [121]], by decide, by decide, by decide, rfl⟩
  -- one inner turn
  have inner : ∀ (T : Sto) (j : Nat) (w1 w3 : Option W), Src T j → ∃ T', Src T' j ∧
      l2_law [some (.s ns), w1, some (.r j), w3] T = .nx [some (.s ns), w1, some (.r j), w3] T' := fun T j w1 w3 hT => by
    obtain ⟨m, o1, m0, m1, so1, hm⟩ := next_call hT 3 (by decide) (by decide)
    obtain ⟨ts, hne, hlt, hok, hadd⟩ := names m m0 m1
    have hT1 := src_set hT so1
    obtain ⟨k, o2, ek, so2, hn, hh, hlv⟩ := kind_ev ts hne hlt 7 5 (T.set j o1) j (by decide) hT1
    rw [set_set] at ek
    have gk : Good k := fun x hx => hok x (hn x hx)
    have hT2 : Src (T.set j o2) j := src_set hT so2
    obtain ⟨k2, o3, ek2, so3, gk2, hh2, hl2⟩ := wide_ev hT2
    rw [set_set] at ek2
    refine ⟨T.set j o3, src_set hT so3, e_seq_nx (S1 := T.set j o2) (δ' := [some (.s ns), w1, some (.r j), w3]) (e_ifs_f (S1 := T.set j o2) (e_not (c := true) (e_b (e_call (ws := [.v (enc k)]) (e_cons (e_call (ws := [.r j, .v (.int ((5 : Nat) : Int)), .v (.lst (stL ts))]) (e_cons rfl (e_cons rfl (e_cons (e_op2v (d := .lst (cutD (stL [[97], [98], [99]]) none (some (1 + m)))) (e := .lst (stL [[121]])) ?_ rfl hadd) rfl))) rfl ek rfl) rfl) rfl (right_ev k _ gk (by omega) (Nat.le_trans hlv (by decide))) rfl))) rfl) (e_ifs_f (S1 := T.set j o3) (e_not (c := true) (e_b (e_call (ws := [.v (enc k2)]) (e_cons (e_call (ws := [.r j]) rfl rfl ek2 rfl) rfl) rfl (right_ev k2 _ gk2 hh2 hl2) rfl))) rfl)⟩
    show R.bind _ _ = _
    rw [show cLst (cCons (cC (.str [97])) (cCons (cC (.str [98])) (cCons (cC (.str [99])) cNil))) [some (.s ns), w1, some (.r j), w3] T = .ok (.v (.lst (stL [[97], [98], [99]]))) T from rfl, R.bind_ok]
    show R.bind (R.bind _ _) _ = _
    rw [e_op2v (g := gAdd) (x := cC (.int 1)) (δ := [some (.s ns), w1, some (.r j), w3]) (S := T) rfl (hm (cCons (cVar 2) (cCons (cC (.int 3)) cNil)) [some (.s ns), w1, some (.r j), w3] rfl) (k := .int (1 + m)) rfl]
    rfl
  -- the number of sources
  have cnt : ∃ n : Nat, ∀ (S : Sto), itR0 (cCons (cBlt gMax2 (cCons (cC (.int 1)) (cCons (cBlt gMin2 (cCons (cC (.int 4)) (cCons (cLen (cCons (cVar 0) cNil)) cNil))) cNil))) cNil) (slots0 4 [.s ns]) S = .ok (rangeD 0 n) S := by
    refine ⟨_, fun S => e_itR (n := if (if (ns.length : Int) < 4 then (ns.length : Int) else 4) > 1 then (if (ns.length : Int) < 4 then (ns.length : Int) else 4) else 1) (e_cons (e_blt (ws := [.v (.int 1), .v (.int (if (ns.length : Int) < 4 then (ns.length : Int) else 4))]) (e_cons rfl (e_cons (e_blt (ws := [.v (.int 4), .v (.int ns.length)]) (e_cons rfl (e_cons rfl rfl)) rfl rfl) rfl)) rfl rfl) rfl) ?_ ?_⟩
    · split <;> split <;> omega
    · split <;> split <;> omega
  obtain ⟨n, hcnt⟩ := cnt
  obtain ⟨δ1, S1, eloop, hP⟩ := forL_all (dg := gN 1) (b := l1_law)
    (fun rest δ S => (∃ a b c, δ = [some (.s ns), a, b, c]) ∧ ∀ d ∈ rest, ∃ k : Int, 0 ≤ k ∧ d = .int k) (rangeD 0 n) (fun d rest δ S ⟨⟨a, b, c, hδ⟩, hr⟩ => by
      subst hδ
      obtain ⟨k, hk, rfl⟩ := hr d List.mem_cons_self
      obtain ⟨cell, ecell⟩ := cell_ev ns k hk S
      obtain ⟨o, es, so⟩ := source_ev cell S
      have hsrc : Src (S ++ [o]) S.length := ⟨o, at_last _ _, so⟩
      obtain ⟨δ3, S3, e3, w3, w3', hw3, hs3⟩ := forL_all (dg := gN 3) (b := l2_law) (fun _ δ T => ∃ w w', δ = [some (.s ns), w, some (.r S.length), w'] ∧ Src T S.length) (rangeD 0 12) (fun d rest δ T ⟨w, w', hδ, hT⟩ => by
          subst hδ
          obtain ⟨T', hT', e⟩ := inner T S.length w (some (.v d)) hT
          exact ⟨_, _, _, _, rfl, e, _, _, rfl, hT'⟩) [some (.s ns), some (.v (.int k)), some (.r S.length), c] (S ++ [o]) ⟨_, _, rfl, hsrc⟩
      refine ⟨_, _, δ3, S3, rfl, e_seq_nx (δ' := [some (.s ns), some (.v (.int k)), some (.r S.length), c]) (S1 := S ++ [o]) (e_set (e_callM (ws := [.v (.int cell)]) (e_cons (e_call (ws := [.s ns, .v (.int k)]) rfl rfl ecell rfl) rfl) rfl es rfl)) (e_for rfl e3), ⟨_, _, _, hw3⟩, fun d hd => hr d (List.mem_cons_of_mem _ hd)⟩) (slots0 4 [.s ns]) [] ⟨⟨_, _, _, rfl⟩, rangeD_pos n 0 (by decide)⟩
  have gk : Good (.all [97] (.con2 .to (.var [97]) (.var [98]))) := by
    intro x hx
    have : ∀ x ∈ (Kd.all [97] (.con2 .to (.var [97]) (.var [98]))).nms, isNm x = true := by decide
    exact this x hx
  have hf := free_ev (.all [97] (.con2 .to (.var [97]) (.var [98]))) S1 gk (by decide) (by decide)
  refine e_fdef (S' := S1) (w := .v (.bl true)) (e_seq_nx (e_for (hcnt _) eloop) (e_ret (e_op2v (d := .lst (stL [[98]])) (e := .lst (stL [[98]])) (e_call (ws := [.v (enc (.all [97] (.con2 .to (.var [97]) (.var [98]))))]) rfl rfl hf rfl) rfl rfl))) rfl
end Fro

namespace Fro
open PySem PySem.Spec L2
/-! ### the text -/
def topS (i : Nat) : Stmt := PySem.Challenge.pw_frostkinds_k02_free_names.main.body.getD i (.Pass ⟨0, 0, 0, 0⟩)
abbrev s__law_source_of : Stmt := topS 15
theorem sc__law_source_of : FnScope ["_law_cell"] ["_law_cell"] (defScope s__law_source_of) := ⟨rfl, rfl, rfl, by decide +kernel, rfl, by decide +kernel, by decide +kernel⟩
abbrev s_is_name : Stmt := topS 8
theorem sc_is_name : FnScope ["value", "sign"] ["value"] (defScope s_is_name) := ⟨rfl, rfl, rfl, by decide +kernel, rfl, by decide +kernel, by decide +kernel⟩
abbrev s_is_kind : Stmt := topS 9
theorem sc_is_kind : FnScope ["thing", "one"] ["thing"] (defScope s_is_kind) := ⟨rfl, rfl, rfl, by decide +kernel, rfl, by decide +kernel, by decide +kernel⟩
abbrev s_want_kind : Stmt := topS 10
theorem sc_want_kind : FnScope ["thing"] ["thing"] (defScope s_want_kind) := ⟨rfl, rfl, rfl, by decide +kernel, rfl, by decide +kernel, by decide +kernel⟩
abbrev s_free_of : Stmt := topS 11
theorem sc_free_of : FnScope ["kind", "inside", "found", "one", "name"] ["kind", "inside"] (defScope s_free_of) := ⟨rfl, rfl, rfl, by decide +kernel, rfl, by decide +kernel, by decide +kernel⟩
abbrev s_free : Stmt := topS 12
theorem sc_free : FnScope ["kind"] ["kind"] (defScope s_free) := ⟨rfl, rfl, rfl, by decide +kernel, rfl, by decide +kernel, by decide +kernel⟩
abbrev s__law_cell_at : Stmt := topS 14
theorem sc__law_cell_at : FnScope ["_law_script", "_law_k"] ["_law_script", "_law_k"] (defScope s__law_cell_at) := ⟨rfl, rfl, rfl, by decide +kernel, rfl, by decide +kernel, by decide +kernel⟩
abbrev s__law_names_in : Stmt := topS 19
theorem sc__law_names_in : FnScope ["_law_kind_here", "_law_inside", "_law_rows", "_law_one_here"] ["_law_kind_here", "_law_inside"] (defScope s__law_names_in) := ⟨rfl, rfl, rfl, by decide +kernel, rfl, by decide +kernel, by decide +kernel⟩
abbrev s__law_right : Stmt := topS 21
theorem sc__law_right : FnScope ["_law_kind_here", "_law_due", "_law_name", "_law_told"] ["_law_kind_here"] (defScope s__law_right) := ⟨rfl, rfl, rfl, by decide +kernel, rfl, by decide +kernel, by decide +kernel⟩
abbrev s__law_next : Stmt := topS 16
theorem sc__law_next : FnScope ["_law_source", "_law_many", "_law_drawn", "_law_prime", "_law_number"] ["_law_source", "_law_many"] (defScope s__law_next) := ⟨rfl, rfl, rfl, by decide +kernel, rfl, by decide +kernel, by decide +kernel⟩
abbrev s__law_one : Stmt := topS 17
theorem sc__law_one : FnScope ["_law_source", "_law_some"] ["_law_source", "_law_some"] (defScope s__law_one) := ⟨rfl, rfl, rfl, by decide +kernel, rfl, by decide +kernel, by decide +kernel⟩
abbrev s__law_kind : Stmt := topS 18
theorem sc__law_kind : FnScope ["_law_source", "_law_deep", "_law_names", "_law_way", "_law_left"] ["_law_source", "_law_deep", "_law_names"] (defScope s__law_kind) := ⟨rfl, rfl, rfl, by decide +kernel, rfl, by decide +kernel, by decide +kernel⟩
abbrev s__law_wide : Stmt := topS 20
theorem sc__law_wide : FnScope ["_law_source", "_law_some", "_law_kind_here", "_law_turn", "_law_one_here", "_law_way"] ["_law_source"] (defScope s__law_wide) := ⟨rfl, rfl, rfl, by decide +kernel, rfl, by decide +kernel, by decide +kernel⟩
abbrev s_law : Stmt := topS 22
theorem sc_law : FnScope ["_law_script", "_law_k", "_law_source", "_law_turn"] ["_law_script"] (defScope s_law) := ⟨rfl, rfl, rfl, by decide +kernel, rfl, by decide +kernel, by decide +kernel⟩
/-- what the top has written -/
structure Top (w : World) (K : PySem.W.Frag) (mg : Str → Option Value) where
  z_all : mg "all" = none
  z_int : mg "int" = none
  z_isinstance : mg "isinstance" = none
  z_len : mg "len" = none
  z_list : mg "list" = none
  z_max : mg "max" = none
  z_min : mg "min" = none
  z_range : mg "range" = none
  z_str : mg "str" = none
  z_tuple : mg "tuple" = none
  u_BARRED : Value
  m_BARRED : mg "BARRED" = some u_BARRED
  c_BARRED : kdV 8 K u_BARRED k_BARRED = true
  u_MOST_SIGNS : Value
  m_MOST_SIGNS : mg "MOST_SIGNS" = some u_MOST_SIGNS
  c_MOST_SIGNS : kdV 8 K u_MOST_SIGNS k_MOST_SIGNS = true
  u_LETTERS : Value
  m_LETTERS : mg "LETTERS" = some u_LETTERS
  c_LETTERS : kdV 8 K u_LETTERS k_LETTERS = true
  t_WORDS : Addr
  m_WORDS : mg "WORDS" = some (.ref t_WORDS)
  kd_WORDS : KD K w t_WORDS tbl_WORDS
  a__law_source_of : Addr
  d__law_source_of : FuncData
  v__law_source_of : List V
  F__law_source_of : FunD K "_law_source_of" "_law_source_of" (defArgs s__law_source_of) (defBody s__law_source_of) (defScope s__law_source_of) v__law_source_of [] a__law_source_of d__law_source_of
  m__law_source_of : mg "_law_source_of" = some (.ref a__law_source_of)
  b__law_source_of : Binds K d__law_source_of ["_law_cell"] []
  a_is_name : Addr
  d_is_name : FuncData
  v_is_name : List V
  F_is_name : FunD K "is_name" "is_name" (defArgs s_is_name) (defBody s_is_name) (defScope s_is_name) v_is_name [] a_is_name d_is_name
  m_is_name : mg "is_name" = some (.ref a_is_name)
  b_is_name : Binds K d_is_name ["value"] []
  a_is_kind : Addr
  d_is_kind : FuncData
  v_is_kind : List V
  F_is_kind : FunD K "is_kind" "is_kind" (defArgs s_is_kind) (defBody s_is_kind) (defScope s_is_kind) v_is_kind [] a_is_kind d_is_kind
  m_is_kind : mg "is_kind" = some (.ref a_is_kind)
  b_is_kind : Binds K d_is_kind ["thing"] []
  a_want_kind : Addr
  d_want_kind : FuncData
  v_want_kind : List V
  F_want_kind : FunD K "want_kind" "want_kind" (defArgs s_want_kind) (defBody s_want_kind) (defScope s_want_kind) v_want_kind [] a_want_kind d_want_kind
  m_want_kind : mg "want_kind" = some (.ref a_want_kind)
  b_want_kind : Binds K d_want_kind ["thing"] []
  a_free_of : Addr
  d_free_of : FuncData
  v_free_of : List V
  F_free_of : FunD K "free_of" "free_of" (defArgs s_free_of) (defBody s_free_of) (defScope s_free_of) v_free_of [] a_free_of d_free_of
  m_free_of : mg "free_of" = some (.ref a_free_of)
  b_free_of : Binds K d_free_of ["kind", "inside"] []
  e1_free_of : List Value
  y1_free_of : List V
  bd1_free_of : Binds K d_free_of ["kind", "inside"] e1_free_of
  vd1_free_of : Vals y1_free_of e1_free_of
  wd1_free_of : ∀ ρ S H, RpWs K ρ S H [.v (.tup [])] y1_free_of
  a_free : Addr
  d_free : FuncData
  v_free : List V
  F_free : FunD K "free" "free" (defArgs s_free) (defBody s_free) (defScope s_free) v_free [] a_free d_free
  m_free : mg "free" = some (.ref a_free)
  b_free : Binds K d_free ["kind"] []
  a__law_cell_at : Addr
  d__law_cell_at : FuncData
  v__law_cell_at : List V
  F__law_cell_at : FunD K "_law_cell_at" "_law_cell_at" (defArgs s__law_cell_at) (defBody s__law_cell_at) (defScope s__law_cell_at) v__law_cell_at [] a__law_cell_at d__law_cell_at
  m__law_cell_at : mg "_law_cell_at" = some (.ref a__law_cell_at)
  b__law_cell_at : Binds K d__law_cell_at ["_law_script", "_law_k"] []
  a__law_names_in : Addr
  d__law_names_in : FuncData
  v__law_names_in : List V
  F__law_names_in : FunD K "_law_names_in" "_law_names_in" (defArgs s__law_names_in) (defBody s__law_names_in) (defScope s__law_names_in) v__law_names_in [] a__law_names_in d__law_names_in
  m__law_names_in : mg "_law_names_in" = some (.ref a__law_names_in)
  b__law_names_in : Binds K d__law_names_in ["_law_kind_here", "_law_inside"] []
  a__law_right : Addr
  d__law_right : FuncData
  v__law_right : List V
  F__law_right : FunD K "_law_right" "_law_right" (defArgs s__law_right) (defBody s__law_right) (defScope s__law_right) v__law_right [] a__law_right d__law_right
  m__law_right : mg "_law_right" = some (.ref a__law_right)
  b__law_right : Binds K d__law_right ["_law_kind_here"] []
  a__law_next : Addr
  d__law_next : FuncData
  v__law_next : List V
  F__law_next : FunD K "_law_next" "_law_next" (defArgs s__law_next) (defBody s__law_next) (defScope s__law_next) v__law_next [] a__law_next d__law_next
  m__law_next : mg "_law_next" = some (.ref a__law_next)
  b__law_next : Binds K d__law_next ["_law_source", "_law_many"] []
  a__law_one : Addr
  d__law_one : FuncData
  v__law_one : List V
  F__law_one : FunD K "_law_one" "_law_one" (defArgs s__law_one) (defBody s__law_one) (defScope s__law_one) v__law_one [] a__law_one d__law_one
  m__law_one : mg "_law_one" = some (.ref a__law_one)
  b__law_one : Binds K d__law_one ["_law_source", "_law_some"] []
  a__law_kind : Addr
  d__law_kind : FuncData
  v__law_kind : List V
  F__law_kind : FunD K "_law_kind" "_law_kind" (defArgs s__law_kind) (defBody s__law_kind) (defScope s__law_kind) v__law_kind [] a__law_kind d__law_kind
  m__law_kind : mg "_law_kind" = some (.ref a__law_kind)
  b__law_kind : Binds K d__law_kind ["_law_source", "_law_deep", "_law_names"] []
  a__law_wide : Addr
  d__law_wide : FuncData
  v__law_wide : List V
  F__law_wide : FunD K "_law_wide" "_law_wide" (defArgs s__law_wide) (defBody s__law_wide) (defScope s__law_wide) v__law_wide [] a__law_wide d__law_wide
  m__law_wide : mg "_law_wide" = some (.ref a__law_wide)
  b__law_wide : Binds K d__law_wide ["_law_source"] []
  a_law : Addr
  d_law : FuncData
  v_law : List V
  F_law : FunD K "law" "law" (defArgs s_law) (defBody s_law) (defScope s_law) v_law [] a_law d_law
end Fro

namespace Fro
open PySem PySem.Spec L2
section
variable {P : Program} {w : World} {K : PySem.W.Frag} {mg : Str → Option Value} {base : Heap}
theorem o__law_source_of (T : Top w K mg) : FnOk P w K mg base CX0 1 T.a__law_source_of T.d__law_source_of ["_law_cell"] (spF K 1 f__law_source_of) := fn_denD T.F__law_source_of sc__law_source_of fun cdv A outer s H E hr =>
    (dss_cons (ds_set 0 sc__law_source_of.nd (de_if (dt_cmp op_ge g2_ge (de_var 0) de_int) (de_var 0) (de_bin op_sub g2_sub (de_bin op_sub g2_sub de_int (de_bin op_mulA g2_mul de_int (de_var 0))) de_int)))
    (dss_one (ds_ret (de_lstM (da_cons (de_bin op_mulA g2_mul (de_var 0) (de_bty call_int1 gn_int T.z_int (by decide +kernel) (da_cons (de_cmp op_ge g2_ge (de_var 0) (de_bin op_pow g2_pow de_int de_int)) da_nil))) (da_cons (de_bin op_mod g2_mod (de_bty call_int1 gn_int T.z_int (by decide +kernel) (da_cons (de_var 0) da_nil)) de_int) (da_cons de_int da_nil)))))))
end
section
variable {P : Program} {w : World} {K : PySem.W.Frag} {mg : Str → Option Value} {base : Heap}
theorem o_is_name (T : Top w K mg) : FnOk P w K mg base CX0 1 T.a_is_name T.d_is_name ["value"] (spF K 1 f_is_name) := fn_denD T.F_is_name sc_is_name fun cdv A outer s H E hr =>
    (dss_cons (ds_if (dw_or (dt_not (dt_val (de_blt call_isi gn_isi T.z_isinstance (by decide +kernel) (da_cons (de_var 0) (da_cons (de_type .str T.z_str (by decide +kernel)) da_nil))))) (dw_or1 (dt_cmp op_inA g2_in (de_var 0) (de_const 8 T.m_BARRED T.c_BARRED)))).pt
    (dss_one (ds_ret de_bl))
    dss_nil)
    (dss_one (ds_ret (de_and (de_chain op_le op_le g2_le g2_le de_int (de_len T.z_len (da_cons (de_var 0) da_nil)) (de_const 8 T.m_MOST_SIGNS T.c_MOST_SIGNS)) (de_one (de_blt (cr_all rfl) gn_all T.z_all (by decide +kernel) (da_cons (de_comp (own := [("sign", 1)]) rfl sc_is_name.nd (di_str (de_var 0)) (gok_name 1) (blk_by (N := ["value", "sign"]) (sc := defScope s_is_name) (by decide +kernel)) (fun _ _ _ _ _ => (pg_name (i := 1) sc_is_name.nd rfl (by first | exact Or.inl rfl | exact Or.inr rfl))) (fun _ _ _ _ _ => dts_nil) (fun _ _ _ _ _ => (de_cmp op_inA g2_in (de_var 1) (de_const 8 T.m_LETTERS T.c_LETTERS)))) da_nil)))))))
end
section
variable {P : Program} {w : World} {K : PySem.W.Frag} {mg : Str → Option Value} {base : Heap}
theorem o_is_kind (T : Top w K mg) : ∀ m : Nat, FnOk P w K mg base CX0 (m + 1) T.a_is_kind T.d_is_kind ["thing"] (spF K 1 (f_is_kind m))
  | 0 => fn_zero rfl
  | m + 1 => by
    have ih := o_is_kind T m
    have ok : FnOk P w K mg base CX0 (m + 1 + 1) T.a_is_kind T.d_is_kind ["thing"] (spF K 1 (fdef 2 (b_is_kind (f_is_kind m)))) := fn_denD T.F_is_kind sc_is_kind fun cdv A outer s H E hr =>
    (dss_cons (ds_if (dw_or (dt_not (dt_val (de_blt call_isi gn_isi T.z_isinstance (by decide +kernel) (da_cons (de_var 0) (da_cons (de_type .tup T.z_tuple (by decide +kernel)) da_nil))))) (dw_or1 (dt_cmp (op_eqM hr) g2_eq (de_var 0) (de_tup da_nil)))).pt
    (dss_one (ds_ret de_bl))
    dss_nil)
    (dss_cons (ds_if (dt_cmp (op_eqM hr) g2_eq (de_ix (de_var 0) de_int) (de_str [118, 97, 114]))
    (dss_one (ds_ret (de_and (de_cmp (op_eqM hr) g2_eq (de_len T.z_len (da_cons (de_var 0) da_nil)) de_int) (de_one (de_call (o_is_name T) (hr.mono (by omega)) T.m_is_name T.F_is_name.kp T.b_is_name .nil (fun _ _ _ => .nil) (da_cons (de_ix (de_var 0) de_int) da_nil))))))
    dss_nil)
    (dss_cons (ds_if (dt_cmp (op_eqM hr) g2_eq (de_ix (de_var 0) de_int) (de_str [97, 108, 108]))
    (dss_one (ds_ret (de_and (de_cmp (op_eqM hr) g2_eq (de_len T.z_len (da_cons (de_var 0) da_nil)) de_int) (de_and (de_call (o_is_name T) (hr.mono (by omega)) T.m_is_name T.F_is_name.kp T.b_is_name .nil (fun _ _ _ => .nil) (da_cons (de_ix (de_var 0) de_int) da_nil)) (de_one (de_call ih hr T.m_is_kind T.F_is_kind.kp T.b_is_kind .nil (fun _ _ _ => .nil) (da_cons (de_ix (de_var 0) de_int) da_nil)))))))
    dss_nil)
    (dss_cons (ds_if (dw_or (dt_cmp (op_neM hr) g2_ne (de_ix (de_var 0) de_int) (de_str [99, 111, 110])) (dw_or (dt_cmp (op_neM hr) g2_ne (de_len T.z_len (da_cons (de_var 0) da_nil)) de_int) (dw_or (dt_not (dt_val (de_blt call_isi gn_isi T.z_isinstance (by decide +kernel) (da_cons (de_ix (de_var 0) de_int) (da_cons (de_type .str T.z_str (by decide +kernel)) da_nil))))) (dw_or1 (dt_knotin T.kd_WORDS T.m_WORDS (de_ix (de_var 0) de_int)))))).pt
    (dss_one (ds_ret de_bl))
    dss_nil)
    (dss_cons (ds_if (dw_or (dt_not (dt_val (de_blt call_isi gn_isi T.z_isinstance (by decide +kernel) (da_cons (de_ix (de_var 0) de_int) (da_cons (de_type .tup T.z_tuple (by decide +kernel)) da_nil))))) (dw_or1 (dt_cmp (op_neM hr) g2_ne (de_len T.z_len (da_cons (de_ix (de_var 0) de_int) da_nil)) (de_kget T.kd_WORDS T.m_WORDS (de_ix (de_var 0) de_int))))).pt
    (dss_one (ds_ret de_bl))
    dss_nil)
    (dss_one (ds_ret (de_blt (cr_all rfl) gn_all T.z_all (by decide +kernel) (da_cons (de_comp (own := [("one", 1)]) rfl sc_is_kind.nd (di_tup (de_ix (de_var 0) de_int)) (gok_name 1) (blk_by (N := ["thing", "one"]) (sc := defScope s_is_kind) (by decide +kernel)) (fun _ _ _ _ _ => (pg_name (i := 1) sc_is_kind.nd rfl (by first | exact Or.inl rfl | exact Or.inr rfl))) (fun _ _ _ _ _ => dts_nil) (fun _ _ _ _ _ => (de_call ih hr T.m_is_kind T.F_is_kind.kp T.b_is_kind .nil (fun _ _ _ => .nil) (da_cons (de_var 1) da_nil)))) da_nil)))))))))
    exact ok.mono (by omega)
end
section
variable {P : Program} {w : World} {K : PySem.W.Frag} {mg : Str → Option Value} {base : Heap}
theorem o_want_kind (T : Top w K mg) : FnOk P w K mg base CX0 32 T.a_want_kind T.d_want_kind ["thing"] (spF K 1 f_want_kind) := fn_denD T.F_want_kind sc_want_kind fun cdv A outer s H E hr =>
    (dss_one (ds_if (dt_not (dt_val (de_call (o_is_kind T 30) (hr.mono (by omega)) T.m_is_kind T.F_is_kind.kp T.b_is_kind .nil (fun _ _ _ => .nil) (da_cons (de_var 0) da_nil))))
    (dss_one ds_dead)
    dss_nil))
end
end Fro

namespace Fro
open PySem PySem.Spec L2
section
variable {P : Program} {w : World} {K : PySem.W.Frag} {mg : Str → Option Value} {base : Heap}
theorem o_free_of (T : Top w K mg) : ∀ m : Nat, FnOk P w K mg base CX0 (m + 0) T.a_free_of T.d_free_of ["kind", "inside"] (spF K 2 (f_free_of m))
  | 0 => fn_zero rfl
  | m + 1 => by
    have ih := o_free_of T m
    have ok : FnOk P w K mg base CX0 (m + 0 + 1) T.a_free_of T.d_free_of ["kind", "inside"] (spF K 2 (fdef 5 (b_free_of (f_free_of m)))) := fn_denD T.F_free_of sc_free_of fun cdv A outer s H E hr =>
    (dss_cons (ds_if (dt_cmp (op_eqM hr) g2_eq (de_ix (de_var 0) de_int) (de_str [118, 97, 114]))
    (dss_one (ds_ret (de_if (dt_cmp op_inA g2_in (de_ix (de_var 0) de_int) (de_var 1)) (de_lstM da_nil) (de_lstM (da_cons (de_ix (de_var 0) de_int) da_nil)))))
    dss_nil)
    (dss_cons (ds_if (dt_cmp (op_eqM hr) g2_eq (de_ix (de_var 0) de_int) (de_str [97, 108, 108]))
    (dss_one (ds_ret (de_callM ih hr T.m_free_of T.F_free_of.kp T.b_free_of .nil (fun _ _ _ => .nil) (da_cons (de_ix (de_var 0) de_int) (da_cons (de_bin op_addA g2_add (de_var 1) (de_tup (da_cons (de_ix (de_var 0) de_int) da_nil))) da_nil)))))
    dss_nil)
    (dss_cons (ds_set 2 sc_free_of.nd (de_lstM da_nil))
    (dss_cons (ds_for PassesOwn.never rfl (di_tup (de_ix (de_var 0) de_int)) (pg_name (i := 3) sc_free_of.nd rfl (by first | exact Or.inl rfl | exact Or.inr rfl)) (gok_name 3)
    (dss_one (ds_expr (de_extend (de_var 2) (de_comp (own := [("name", 4)]) rfl sc_free_of.nd (di_list (de_call ih hr T.m_free_of T.F_free_of.kp T.b_free_of .nil (fun _ _ _ => .nil) (da_cons (de_var 3) (da_cons (de_var 1) da_nil)))) (gok_name 4) (blk_by (N := ["kind", "inside", "found", "one", "name"]) (sc := defScope s_free_of) (by decide +kernel)) (fun _ _ _ _ _ => (pg_name (i := 4) sc_free_of.nd rfl (by first | exact Or.inl rfl | exact Or.inr rfl))) (fun _ _ _ _ _ => (dts_one (dt_cmp op_notInA g2_notIn (de_var 4) (de_var 2)))) (fun _ _ _ _ _ => (de_var 4)))))))
    (dss_one (ds_ret (de_var 2)))))))
    exact ok.mono (by omega)
end
section
variable {P : Program} {w : World} {K : PySem.W.Frag} {mg : Str → Option Value} {base : Heap}
theorem o_free (T : Top w K mg) : FnOk P w K mg base CX0 33 T.a_free T.d_free ["kind"] (spF K 1 f_free) := fn_denD T.F_free sc_free fun cdv A outer s H E hr =>
    (dss_cons (ds_expr (de_call (o_want_kind T) (hr.mono (by omega)) T.m_want_kind T.F_want_kind.kp T.b_want_kind .nil (fun _ _ _ => .nil) (da_cons (de_var 0) da_nil)))
    (dss_one (ds_ret (de_callM (o_free_of T 30) (hr.mono (by omega)) T.m_free_of T.F_free_of.kp T.bd1_free_of T.vd1_free_of T.wd1_free_of (da_cons (de_var 0) da_nil)))))
end
section
variable {P : Program} {w : World} {K : PySem.W.Frag} {mg : Str → Option Value} {base : Heap}
theorem o__law_cell_at (T : Top w K mg) : FnOk P w K mg base CX0 1 T.a__law_cell_at T.d__law_cell_at ["_law_script", "_law_k"] (spF K 2 f__law_cell_at) := fn_denD T.F__law_cell_at sc__law_cell_at fun cdv A outer s H E hr =>
    (dss_cons (ds_if (dt_cmp op_lt g2_lt (de_var 1) (de_len T.z_len (da_cons (de_var 0) da_nil)))
    (dss_one (ds_ret (de_ix (de_var 0) (de_var 1))))
    dss_nil)
    (dss_one (ds_ret de_int)))
end
section
variable {P : Program} {w : World} {K : PySem.W.Frag} {mg : Str → Option Value} {base : Heap}
theorem o__law_names_in (T : Top w K mg) : ∀ m : Nat, FnOk P w K mg base CX0 (m + 0) T.a__law_names_in T.d__law_names_in ["_law_kind_here", "_law_inside"] (spF K 2 (f__law_names_in m))
  | 0 => fn_zero rfl
  | m + 1 => by
    have ih := o__law_names_in T m
    have ok : FnOk P w K mg base CX0 (m + 0 + 1) T.a__law_names_in T.d__law_names_in ["_law_kind_here", "_law_inside"] (spF K 2 (fdef 4 (b__law_names_in (f__law_names_in m)))) := fn_denD T.F__law_names_in sc__law_names_in fun cdv A outer s H E hr =>
    (dss_cons (ds_if (dt_cmp (op_eqM hr) g2_eq (de_ix (de_var 0) de_int) (de_str [118, 97, 114]))
    (dss_one (ds_ret (de_bin op_mulA g2_mul (de_lst (da_cons (de_ix (de_var 0) de_int) da_nil)) (de_bty call_int1 gn_int T.z_int (by decide +kernel) (da_cons (de_cmp op_notInA g2_notIn (de_ix (de_var 0) de_int) (de_var 1)) da_nil)))))
    dss_nil)
    (dss_cons (ds_if (dt_cmp (op_eqM hr) g2_eq (de_ix (de_var 0) de_int) (de_str [97, 108, 108]))
    (dss_one (ds_ret (de_call ih hr T.m__law_names_in T.F__law_names_in.kp T.b__law_names_in .nil (fun _ _ _ => .nil) (da_cons (de_ix (de_var 0) de_int) (da_cons (de_bin op_addA g2_add (de_var 1) (de_tup (da_cons (de_ix (de_var 0) de_int) da_nil))) da_nil)))))
    dss_nil)
    (dss_cons (ds_set 2 sc__law_names_in.nd (de_lst da_nil))
    (dss_cons (ds_for PassesOwn.never rfl (di_tup (de_ix (de_var 0) de_int)) (pg_name (i := 3) sc__law_names_in.nd rfl (by first | exact Or.inl rfl | exact Or.inr rfl)) (gok_name 3)
    (dss_one (ds_set 2 sc__law_names_in.nd (de_bin op_addA g2_add (de_var 2) (de_call ih hr T.m__law_names_in T.F__law_names_in.kp T.b__law_names_in .nil (fun _ _ _ => .nil) (da_cons (de_var 3) (da_cons (de_var 1) da_nil)))))))
    (dss_one (ds_ret (de_var 2)))))))
    exact ok.mono (by omega)
end
end Fro

namespace Fro
open PySem PySem.Spec L2
section
variable {P : Program} {w : World} {K : PySem.W.Frag} {mg : Str → Option Value} {base : Heap}
theorem o__law_right (T : Top w K mg) : FnOk P w K mg base CX0 34 T.a__law_right T.d__law_right ["_law_kind_here"] (spF K 1 f__law_right) := fn_denD T.F__law_right sc__law_right fun cdv A outer s H E hr =>
    (dss_cons (ds_set 1 sc__law_right.nd (de_lstM da_nil))
    (dss_cons (ds_for PassesOwn.never rfl (di_list (de_call (o__law_names_in T 30) (hr.mono (by omega)) T.m__law_names_in T.F__law_names_in.kp T.b__law_names_in .nil (fun _ _ _ => .nil) (da_cons (de_var 0) (da_cons (de_tup da_nil) da_nil)))) (pg_name (i := 2) sc__law_right.nd rfl (by first | exact Or.inl rfl | exact Or.inr rfl)) (gok_name 2)
    (dss_one (ds_if (dt_cmp op_notInA g2_notIn (de_var 2) (de_var 1))
    (dss_one (ds_expr (de_append (de_var 1) (de_var 2))))
    dss_nil)))
    (dss_cons (ds_set 3 sc__law_right.nd (de_callM (o_free T) (hr.mono (by omega)) T.m_free T.F_free.kp T.b_free .nil (fun _ _ _ => .nil) (da_cons (de_var 0) da_nil)))
    (dss_cons (ds_if (dw_or (dt_cmp (op_neM hr) g2_ne (de_var 3) (de_var 1)) (dw_or1 (dt_not (dt_val (de_blt call_isi gn_isi T.z_isinstance (by decide +kernel) (da_cons (de_var 3) (da_cons (de_type .lst T.z_list (by decide +kernel)) da_nil))))))).pt
    (dss_one (ds_ret de_bl))
    dss_nil)
    (dss_cons (ds_expr (de_append (de_var 3) (de_str [109, 111, 114, 101])))
    (dss_one (ds_ret (de_cmp (op_eqM hr) g2_eq (de_call (o_free T) (hr.mono (by omega)) T.m_free T.F_free.kp T.b_free .nil (fun _ _ _ => .nil) (da_cons (de_var 0) da_nil)) (de_var 1)))))))))
end
section
variable {P : Program} {w : World} {K : PySem.W.Frag} {mg : Str → Option Value} {base : Heap}
theorem o__law_next (T : Top w K mg) : FnOk P w K mg base CX0 1 T.a__law_next T.d__law_next ["_law_source", "_law_many"] (spF K 2 f__law_next) := fn_denD T.F__law_next sc__law_next fun cdv A outer s H E hr =>
    (dss_cons (ds_if (dt_cmp op_gt g2_gt (de_ix (de_var 0) de_int) de_int)
    (dss_cons (ds_set 2 sc__law_next.nd (de_bin op_mod g2_mod (de_bty call_int1 gn_int T.z_int (by decide +kernel) (da_cons (de_ix (de_var 0) de_int) da_nil)) (de_var 1)))
    (dss_cons (ds_asg (de_bin op_fdiv g2_div (de_ix (de_var 0) de_int) (de_var 1)) (pg_sub (de_var 0) de_int set_list) gok_sub)
    (dss_one (ds_ret (de_var 2)))))
    dss_nil)
    (dss_cons (ds_asg (de_bin op_addA g2_add (de_ix (de_var 0) de_int) de_int) (pg_sub (de_var 0) de_int set_list) gok_sub)
    (dss_cons (ds_set 3 sc__law_next.nd de_int)
    (dss_cons (ds_set 4 sc__law_next.nd (de_bin op_mod g2_mod (de_bty call_int1 gn_int T.z_int (by decide +kernel) (da_cons (de_bin op_addA g2_add (de_bin op_addA g2_add (de_ix (de_var 0) de_int) (de_bin op_mulA g2_mul de_int (de_ix (de_var 0) de_int))) de_int) da_nil)) (de_var 3)))
    (dss_cons (ds_set 4 sc__law_next.nd (de_bin op_mod g2_mod (de_bty call_int1 gn_int T.z_int (by decide +kernel) (da_cons (de_bin op_mulA g2_mul (de_var 4) de_int) da_nil)) (de_var 3)))
    (dss_cons (ds_set 4 sc__law_next.nd (de_bin op_mod g2_mod (de_bty call_int1 gn_int T.z_int (by decide +kernel) (da_cons (de_bin op_mulA g2_mul (de_var 4) (de_bin op_addA g2_add (de_bin op_fdiv g2_div (de_var 4) de_int) de_int)) da_nil)) (de_var 3)))
    (dss_cons (ds_set 4 sc__law_next.nd (de_bin op_mod g2_mod (de_bty call_int1 gn_int T.z_int (by decide +kernel) (da_cons (de_bin op_mulA g2_mul (de_var 4) (de_bin op_addA g2_add (de_bin op_fdiv g2_div (de_var 4) de_int) de_int)) da_nil)) de_int))
    (dss_one (ds_ret (de_bin op_mod g2_mod (de_bty call_int1 gn_int T.z_int (by decide +kernel) (da_cons (de_bin op_fdiv g2_div (de_var 4) de_int) da_nil)) (de_var 1)))))))))))
end
section
variable {P : Program} {w : World} {K : PySem.W.Frag} {mg : Str → Option Value} {base : Heap}
theorem o__law_one (T : Top w K mg) : FnOk P w K mg base CX0 2 T.a__law_one T.d__law_one ["_law_source", "_law_some"] (spF K 2 f__law_one) := fn_denD T.F__law_one sc__law_one fun cdv A outer s H E hr =>
    (dss_one (ds_ret (de_ix (de_var 1) (de_call (o__law_next T) (hr.mono (by omega)) T.m__law_next T.F__law_next.kp T.b__law_next .nil (fun _ _ _ => .nil) (da_cons (de_var 0) (da_cons (de_len T.z_len (da_cons (de_var 1) da_nil)) da_nil))))))
end
section
variable {P : Program} {w : World} {K : PySem.W.Frag} {mg : Str → Option Value} {base : Heap}
theorem o__law_kind (T : Top w K mg) : ∀ m : Nat, FnOk P w K mg base CX0 (m + 2) T.a__law_kind T.d__law_kind ["_law_source", "_law_deep", "_law_names"] (spF K 3 (f__law_kind m))
  | 0 => fn_zero rfl
  | m + 1 => by
    have ih := o__law_kind T m
    have ok : FnOk P w K mg base CX0 (m + 2 + 1) T.a__law_kind T.d__law_kind ["_law_source", "_law_deep", "_law_names"] (spF K 3 (fdef 5 (b__law_kind (f__law_kind m)))) := fn_denD T.F__law_kind sc__law_kind fun cdv A outer s H E hr =>
    (dss_cons (ds_set 3 sc__law_kind.nd (de_call (o__law_next T) (hr.mono (by omega)) T.m__law_next T.F__law_next.kp T.b__law_next .nil (fun _ _ _ => .nil) (da_cons (de_var 0) (da_cons de_int da_nil))))
    (dss_cons (ds_if (dw_or (dt_cmp (op_eqM hr) g2_eq (de_var 1) de_int) (dw_or1 (dt_cmp op_lt g2_lt (de_var 3) de_int))).pt
    (dss_cons (ds_if (dw_or (dt_cmp (op_eqM hr) g2_eq (de_var 3) de_int) (dw_or1 (dt_cmp (op_eqM hr) g2_eq (de_bin op_mod g2_mod (de_bty call_int1 gn_int T.z_int (by decide +kernel) (da_cons (de_var 3) da_nil)) de_int) de_int))).pt
    (dss_one (ds_ret (de_tup (da_cons (de_str [99, 111, 110]) (da_cons (de_call (o__law_one T) (hr.mono (by omega)) T.m__law_one T.F__law_one.kp T.b__law_one .nil (fun _ _ _ => .nil) (da_cons (de_var 0) (da_cons (de_lst (da_cons (de_str [73, 110, 116]) (da_cons (de_str [66, 111, 111, 108]) (da_cons (de_str [85, 110, 105, 116]) da_nil)))) da_nil))) (da_cons (de_tup da_nil) da_nil))))))
    dss_nil)
    (dss_one (ds_ret (de_tup (da_cons (de_str [118, 97, 114]) (da_cons (de_call (o__law_one T) (hr.mono (by omega)) T.m__law_one T.F__law_one.kp T.b__law_one .nil (fun _ _ _ => .nil) (da_cons (de_var 0) (da_cons (de_var 2) da_nil))) da_nil))))))
    dss_nil)
    (dss_cons (ds_if (dt_cmp op_lt g2_lt (de_var 3) de_int)
    (dss_one (ds_ret (de_tup (da_cons (de_str [97, 108, 108]) (da_cons (de_call (o__law_one T) (hr.mono (by omega)) T.m__law_one T.F__law_one.kp T.b__law_one .nil (fun _ _ _ => .nil) (da_cons (de_var 0) (da_cons (de_var 2) da_nil))) (da_cons (de_call ih hr T.m__law_kind T.F__law_kind.kp T.b__law_kind .nil (fun _ _ _ => .nil) (da_cons (de_var 0) (da_cons (de_bin op_sub g2_sub (de_var 1) de_int) (da_cons (de_var 2) da_nil)))) da_nil))))))
    dss_nil)
    (dss_cons (ds_if (dt_cmp (op_eqM hr) g2_eq (de_var 3) de_int)
    (dss_one (ds_ret (de_tup (da_cons (de_str [99, 111, 110]) (da_cons (de_str [76, 105, 115, 116]) (da_cons (de_tup (da_cons (de_call ih hr T.m__law_kind T.F__law_kind.kp T.b__law_kind .nil (fun _ _ _ => .nil) (da_cons (de_var 0) (da_cons (de_bin op_sub g2_sub (de_var 1) de_int) (da_cons (de_var 2) da_nil)))) da_nil)) da_nil))))))
    dss_nil)
    (dss_cons (ds_set 4 sc__law_kind.nd (de_call ih hr T.m__law_kind T.F__law_kind.kp T.b__law_kind .nil (fun _ _ _ => .nil) (da_cons (de_var 0) (da_cons (de_bin op_sub g2_sub (de_var 1) de_int) (da_cons (de_var 2) da_nil)))))
    (dss_one (ds_ret (de_tup (da_cons (de_str [99, 111, 110]) (da_cons (de_call (o__law_one T) (hr.mono (by omega)) T.m__law_one T.F__law_one.kp T.b__law_one .nil (fun _ _ _ => .nil) (da_cons (de_var 0) (da_cons (de_lst (da_cons (de_str [84, 111]) (da_cons (de_str [80, 97, 105, 114]) (da_cons (de_str [84, 111]) da_nil)))) da_nil))) (da_cons (de_tup (da_cons (de_var 4) (da_cons (de_call ih hr T.m__law_kind T.F__law_kind.kp T.b__law_kind .nil (fun _ _ _ => .nil) (da_cons (de_var 0) (da_cons (de_bin op_sub g2_sub (de_var 1) de_int) (da_cons (de_var 2) da_nil)))) da_nil))) da_nil)))))))))))
    exact ok.mono (by omega)
end
end Fro

namespace Fro
open PySem PySem.Spec L2
section
variable {P : Program} {w : World} {K : PySem.W.Frag} {mg : Str → Option Value} {base : Heap}
theorem o__law_wide (T : Top w K mg) : FnOk P w K mg base CX0 3 T.a__law_wide T.d__law_wide ["_law_source"] (spF K 1 f__law_wide) := fn_denD T.F__law_wide sc__law_wide fun cdv A outer s H E hr =>
    (dss_cons (ds_set 1 sc__law_wide.nd (de_lst (da_cons (de_str [97]) (da_cons (de_str [98]) (da_cons (de_str [97, 97]) (da_cons (de_str [122, 122]) (da_cons (de_str [120]) (da_cons (de_str [121]) (da_cons (de_str [105, 110, 110, 101, 114]) (da_cons (de_str [108, 111, 115, 116]) (da_cons (de_str [97, 98, 99, 100, 101, 102, 103, 104]) da_nil)))))))))))
    (dss_cons (ds_set 2 sc__law_wide.nd (de_tup (da_cons (de_str [118, 97, 114]) (da_cons (de_call (o__law_one T) (hr.mono (by omega)) T.m__law_one T.F__law_one.kp T.b__law_one .nil (fun _ _ _ => .nil) (da_cons (de_var 0) (da_cons (de_var 1) da_nil))) da_nil))))
    (dss_cons (ds_for PassesOwn.never rfl (di_range T.z_range (da_cons (de_bin op_addA g2_add de_int (de_call (o__law_next T) (hr.mono (by omega)) T.m__law_next T.F__law_next.kp T.b__law_next .nil (fun _ _ _ => .nil) (da_cons (de_var 0) (da_cons de_int da_nil)))) da_nil)) (pg_name (i := 3) sc__law_wide.nd rfl (by first | exact Or.inl rfl | exact Or.inr rfl)) (gok_name 3)
    (dss_cons (ds_set 4 sc__law_wide.nd (de_tup (da_cons (de_str [118, 97, 114]) (da_cons (de_call (o__law_one T) (hr.mono (by omega)) T.m__law_one T.F__law_one.kp T.b__law_one .nil (fun _ _ _ => .nil) (da_cons (de_var 0) (da_cons (de_var 1) da_nil))) da_nil))))
    (dss_cons (ds_set 5 sc__law_wide.nd (de_call (o__law_next T) (hr.mono (by omega)) T.m__law_next T.F__law_next.kp T.b__law_next .nil (fun _ _ _ => .nil) (da_cons (de_var 0) (da_cons de_int da_nil))))
    (dss_cons (ds_if (dt_cmp (op_eqM hr) g2_eq (de_var 5) de_int)
    (dss_one (ds_set 2 sc__law_wide.nd (de_tup (da_cons (de_str [97, 108, 108]) (da_cons (de_call (o__law_one T) (hr.mono (by omega)) T.m__law_one T.F__law_one.kp T.b__law_one .nil (fun _ _ _ => .nil) (da_cons (de_var 0) (da_cons (de_var 1) da_nil))) (da_cons (de_var 2) da_nil))))))
    (dss_one (ds_set 2 sc__law_wide.nd (de_tup (da_cons (de_str [99, 111, 110]) (da_cons (de_ix (de_lst (da_cons (de_str [84, 111]) (da_cons (de_str [80, 97, 105, 114]) da_nil))) (de_bin op_mod g2_mod (de_bty call_int1 gn_int T.z_int (by decide +kernel) (da_cons (de_var 5) da_nil)) de_int)) (da_cons (de_ix (de_lst (da_cons (de_tup (da_cons (de_var 2) (da_cons (de_var 4) da_nil))) (da_cons (de_tup (da_cons (de_var 4) (da_cons (de_var 2) da_nil))) da_nil))) (de_bin op_fdiv g2_div (de_var 5) de_int)) da_nil)))))))
    (dss_one (ds_if (dt_cmp op_gt g2_gt (de_var 3) de_int)
    (dss_one (ds_ret (de_var 2)))
    dss_nil))))))
    (dss_one (ds_ret (de_var 2))))))
end
section
variable {P : Program} {w : World} {K : PySem.W.Frag} {mg : Str → Option Value} {base : Heap}
theorem o_law (T : Top w K mg) : FnOk P w K mg base CX0 35 T.a_law T.d_law ["_law_script"] (spF K 1 f_law) := fn_denD T.F_law sc_law fun cdv A outer s H E hr =>
    (dss_cons (ds_for PassesOwn.never rfl (di_range T.z_range (da_cons (de_blt (call_max2 rfl) gn_max2 T.z_max (by decide +kernel) (da_cons de_int (da_cons (de_blt (call_min2 rfl) gn_min2 T.z_min (by decide +kernel) (da_cons de_int (da_cons (de_len T.z_len (da_cons (de_var 0) da_nil)) da_nil))) da_nil))) da_nil)) (pg_name (i := 1) sc_law.nd rfl (by first | exact Or.inl rfl | exact Or.inr rfl)) (gok_name 1)
    (dss_cons (ds_set 2 sc_law.nd (de_callM (o__law_source_of T) (hr.mono (by omega)) T.m__law_source_of T.F__law_source_of.kp T.b__law_source_of .nil (fun _ _ _ => .nil) (da_cons (de_call (o__law_cell_at T) (hr.mono (by omega)) T.m__law_cell_at T.F__law_cell_at.kp T.b__law_cell_at .nil (fun _ _ _ => .nil) (da_cons (de_var 0) (da_cons (de_var 1) da_nil))) da_nil)))
    (dss_one (ds_for PassesOwn.never rfl (di_range T.z_range (da_cons de_int da_nil)) (pg_name (i := 3) sc_law.nd rfl (by first | exact Or.inl rfl | exact Or.inr rfl)) (gok_name 3)
    (dss_cons (ds_if (dt_not (dt_val (de_call (o__law_right T) (hr.mono (by omega)) T.m__law_right T.F__law_right.kp T.b__law_right .nil (fun _ _ _ => .nil) (da_cons (de_call (o__law_kind T 7) (hr.mono (by omega)) T.m__law_kind T.F__law_kind.kp T.b__law_kind .nil (fun _ _ _ => .nil) (da_cons (de_var 2) (da_cons de_int (da_cons (de_bin op_addA g2_add (de_sl (de_lst (da_cons (de_str [97]) (da_cons (de_str [98]) (da_cons (de_str [99]) da_nil)))) dp_none (dp_some (de_bin op_addA g2_add de_int (de_call (o__law_next T) (hr.mono (by omega)) T.m__law_next T.F__law_next.kp T.b__law_next .nil (fun _ _ _ => .nil) (da_cons (de_var 2) (da_cons de_int da_nil)))))) (de_lst (da_cons (de_str [121]) da_nil))) da_nil)))) da_nil))))
    (dss_one (ds_ret de_bl))
    dss_nil)
    (dss_one (ds_if (dt_not (dt_val (de_call (o__law_right T) (hr.mono (by omega)) T.m__law_right T.F__law_right.kp T.b__law_right .nil (fun _ _ _ => .nil) (da_cons (de_call (o__law_wide T) (hr.mono (by omega)) T.m__law_wide T.F__law_wide.kp T.b__law_wide .nil (fun _ _ _ => .nil) (da_cons (de_var 2) da_nil)) da_nil))))
    (dss_one (ds_ret de_bl))
    dss_nil)))))))
    (dss_one (ds_ret (de_cmp (op_eqM hr) g2_eq (de_call (o_free T) (hr.mono (by omega)) T.m_free T.F_free.kp T.b_free .nil (fun _ _ _ => .nil) (da_cons (de_tup (da_cons (de_str [97, 108, 108]) (da_cons (de_str [97]) (da_cons (de_tup (da_cons (de_str [99, 111, 110]) (da_cons (de_str [84, 111]) (da_cons (de_tup (da_cons (de_tup (da_cons (de_str [118, 97, 114]) (da_cons (de_str [97]) da_nil))) (da_cons (de_tup (da_cons (de_str [118, 97, 114]) (da_cons (de_str [98]) da_nil))) da_nil))) da_nil)))) da_nil)))) da_nil)) (de_lst (da_cons (de_str [98]) da_nil))))))
end
end Fro

namespace Fro
open PySem PySem.Spec L2
theorem all_mk {l : PySem.W.OpenLaw} {w : World} {K : PySem.W.Frag} {h : Heap} {mg : Str → Option Value} {fa : Addr} (X : K.In h) (G : h.Ns mainGlobals mg) (hfa : mg "law" = some (.ref fa))
    {u_BARRED : Value}
    {u_MOST_SIGNS : Value}
    {u_LETTERS : Value}
    {t_WORDS : Addr} {es_WORDS : Array DictEntry} {n_WORDS : Nat}
    {ad__law_source_of : Addr} {od__law_source_of an__law_source_of : Option Addr} {sl__law_source_of : Array (Option Value)} {oc__law_source_of kV__law_source_of dc__law_source_of pm__law_source_of cd__law_source_of ct__law_source_of : Value}
    {ad_is_name : Addr} {od_is_name an_is_name : Option Addr} {sl_is_name : Array (Option Value)} {oc_is_name kV_is_name dc_is_name pm_is_name cd_is_name ct_is_name : Value}
    {ad_is_kind : Addr} {od_is_kind an_is_kind : Option Addr} {sl_is_kind : Array (Option Value)} {oc_is_kind kV_is_kind dc_is_kind pm_is_kind cd_is_kind ct_is_kind : Value}
    {ad_want_kind : Addr} {od_want_kind an_want_kind : Option Addr} {sl_want_kind : Array (Option Value)} {oc_want_kind kV_want_kind dc_want_kind pm_want_kind cd_want_kind ct_want_kind : Value}
    {ad_free_of : Addr} {od_free_of an_free_of : Option Addr} {sl_free_of : Array (Option Value)} {oc_free_of kV_free_of dc_free_of pm_free_of cd_free_of ct_free_of : Value}
    {T_free_of : Addr} {tn_free_of : Nat} {tc_free_of : Value} {td_free_of : Option Addr} {tl_free_of : Array (Option Value)} {dv0_free_of : Value}
    {ad_free : Addr} {od_free an_free : Option Addr} {sl_free : Array (Option Value)} {oc_free kV_free dc_free pm_free cd_free ct_free : Value}
    {ad__law_cell_at : Addr} {od__law_cell_at an__law_cell_at : Option Addr} {sl__law_cell_at : Array (Option Value)} {oc__law_cell_at kV__law_cell_at dc__law_cell_at pm__law_cell_at cd__law_cell_at ct__law_cell_at : Value}
    {ad__law_names_in : Addr} {od__law_names_in an__law_names_in : Option Addr} {sl__law_names_in : Array (Option Value)} {oc__law_names_in kV__law_names_in dc__law_names_in pm__law_names_in cd__law_names_in ct__law_names_in : Value}
    {ad__law_right : Addr} {od__law_right an__law_right : Option Addr} {sl__law_right : Array (Option Value)} {oc__law_right kV__law_right dc__law_right pm__law_right cd__law_right ct__law_right : Value}
    {ad__law_next : Addr} {od__law_next an__law_next : Option Addr} {sl__law_next : Array (Option Value)} {oc__law_next kV__law_next dc__law_next pm__law_next cd__law_next ct__law_next : Value}
    {ad__law_one : Addr} {od__law_one an__law_one : Option Addr} {sl__law_one : Array (Option Value)} {oc__law_one kV__law_one dc__law_one pm__law_one cd__law_one ct__law_one : Value}
    {ad__law_kind : Addr} {od__law_kind an__law_kind : Option Addr} {sl__law_kind : Array (Option Value)} {oc__law_kind kV__law_kind dc__law_kind pm__law_kind cd__law_kind ct__law_kind : Value}
    {ad__law_wide : Addr} {od__law_wide an__law_wide : Option Addr} {sl__law_wide : Array (Option Value)} {oc__law_wide kV__law_wide dc__law_wide pm__law_wide cd__law_wide ct__law_wide : Value}
    {ad_law : Addr} {od_law an_law : Option Addr} {sl_law : Array (Option Value)} {oc_law kV_law dc_law pm_law cd_law ct_law : Value}
    (z_all : PySem.W.nsIn K mainGlobals "all" = some none)
    (z_int : PySem.W.nsIn K mainGlobals "int" = some none)
    (z_isinstance : PySem.W.nsIn K mainGlobals "isinstance" = some none)
    (z_len : PySem.W.nsIn K mainGlobals "len" = some none)
    (z_list : PySem.W.nsIn K mainGlobals "list" = some none)
    (z_max : PySem.W.nsIn K mainGlobals "max" = some none)
    (z_min : PySem.W.nsIn K mainGlobals "min" = some none)
    (z_range : PySem.W.nsIn K mainGlobals "range" = some none)
    (z_str : PySem.W.nsIn K mainGlobals "str" = some none)
    (z_tuple : PySem.W.nsIn K mainGlobals "tuple" = some none)
    (a_BARRED : PySem.W.nsIn K mainGlobals "BARRED" = some (some u_BARRED))
    (c_BARRED : kdV 8 K u_BARRED k_BARRED = true)
    (a_MOST_SIGNS : PySem.W.nsIn K mainGlobals "MOST_SIGNS" = some (some u_MOST_SIGNS))
    (c_MOST_SIGNS : kdV 8 K u_MOST_SIGNS k_MOST_SIGNS = true)
    (a_LETTERS : PySem.W.nsIn K mainGlobals "LETTERS" = some (some u_LETTERS))
    (c_LETTERS : kdV 8 K u_LETTERS k_LETTERS = true)
    (a_WORDS : PySem.W.nsIn K mainGlobals "WORDS" = some (some (.ref t_WORDS)))
    (l_WORDS : K.lookup t_WORDS = some ⟨.type "dict", none, .dict es_WORDS n_WORDS, #[]⟩)
    (y_WORDS : PySem.W.KeysLit w.params es_WORDS.toList)
    (o_WORDS : (t_WORDS == sysModules) = false)
    (e_WORDS : kdE 8 K es_WORDS.toList tbl_WORDS = true)
    (a__law_source_of : PySem.W.nsIn K mainGlobals "_law_source_of" = some (some (.ref ad__law_source_of)))
    (l__law_source_of : K.lookup ad__law_source_of = some ⟨oc__law_source_of, od__law_source_of, .func (PySem.W.fnOf "_law_source_of" "_law_source_of" (defArgs s__law_source_of) (defBody s__law_source_of) (defScope s__law_source_of) .none kV__law_source_of dc__law_source_of pm__law_source_of an__law_source_of cd__law_source_of ct__law_source_of), sl__law_source_of⟩)
    (c__law_source_of : PySem.W.codeIn K cd__law_source_of "_law_source_of" = true)
    (k__law_source_of : PySem.W.keepIn K (.ref ad__law_source_of) = true)
    (a_is_name : PySem.W.nsIn K mainGlobals "is_name" = some (some (.ref ad_is_name)))
    (l_is_name : K.lookup ad_is_name = some ⟨oc_is_name, od_is_name, .func (PySem.W.fnOf "is_name" "is_name" (defArgs s_is_name) (defBody s_is_name) (defScope s_is_name) .none kV_is_name dc_is_name pm_is_name an_is_name cd_is_name ct_is_name), sl_is_name⟩)
    (c_is_name : PySem.W.codeIn K cd_is_name "is_name" = true)
    (k_is_name : PySem.W.keepIn K (.ref ad_is_name) = true)
    (a_is_kind : PySem.W.nsIn K mainGlobals "is_kind" = some (some (.ref ad_is_kind)))
    (l_is_kind : K.lookup ad_is_kind = some ⟨oc_is_kind, od_is_kind, .func (PySem.W.fnOf "is_kind" "is_kind" (defArgs s_is_kind) (defBody s_is_kind) (defScope s_is_kind) .none kV_is_kind dc_is_kind pm_is_kind an_is_kind cd_is_kind ct_is_kind), sl_is_kind⟩)
    (c_is_kind : PySem.W.codeIn K cd_is_kind "is_kind" = true)
    (k_is_kind : PySem.W.keepIn K (.ref ad_is_kind) = true)
    (a_want_kind : PySem.W.nsIn K mainGlobals "want_kind" = some (some (.ref ad_want_kind)))
    (l_want_kind : K.lookup ad_want_kind = some ⟨oc_want_kind, od_want_kind, .func (PySem.W.fnOf "want_kind" "want_kind" (defArgs s_want_kind) (defBody s_want_kind) (defScope s_want_kind) .none kV_want_kind dc_want_kind pm_want_kind an_want_kind cd_want_kind ct_want_kind), sl_want_kind⟩)
    (c_want_kind : PySem.W.codeIn K cd_want_kind "want_kind" = true)
    (k_want_kind : PySem.W.keepIn K (.ref ad_want_kind) = true)
    (a_free_of : PySem.W.nsIn K mainGlobals "free_of" = some (some (.ref ad_free_of)))
    (l_free_of : K.lookup ad_free_of = some ⟨oc_free_of, od_free_of, .func (PySem.W.fnOf "free_of" "free_of" (defArgs s_free_of) (defBody s_free_of) (defScope s_free_of) (.ref T_free_of) kV_free_of dc_free_of pm_free_of an_free_of cd_free_of ct_free_of), sl_free_of⟩)
    (c_free_of : PySem.W.codeIn K cd_free_of "free_of" = true)
    (k_free_of : PySem.W.keepIn K (.ref ad_free_of) = true)
    (lT_free_of : K.lookup T_free_of = some ⟨tc_free_of, td_free_of, .seq #[dv0_free_of] tn_free_of, tl_free_of⟩)
    (ed0_free_of : kdV 8 K dv0_free_of (.tup []) = true)
    (a_free : PySem.W.nsIn K mainGlobals "free" = some (some (.ref ad_free)))
    (l_free : K.lookup ad_free = some ⟨oc_free, od_free, .func (PySem.W.fnOf "free" "free" (defArgs s_free) (defBody s_free) (defScope s_free) .none kV_free dc_free pm_free an_free cd_free ct_free), sl_free⟩)
    (c_free : PySem.W.codeIn K cd_free "free" = true)
    (k_free : PySem.W.keepIn K (.ref ad_free) = true)
    (a__law_cell_at : PySem.W.nsIn K mainGlobals "_law_cell_at" = some (some (.ref ad__law_cell_at)))
    (l__law_cell_at : K.lookup ad__law_cell_at = some ⟨oc__law_cell_at, od__law_cell_at, .func (PySem.W.fnOf "_law_cell_at" "_law_cell_at" (defArgs s__law_cell_at) (defBody s__law_cell_at) (defScope s__law_cell_at) .none kV__law_cell_at dc__law_cell_at pm__law_cell_at an__law_cell_at cd__law_cell_at ct__law_cell_at), sl__law_cell_at⟩)
    (c__law_cell_at : PySem.W.codeIn K cd__law_cell_at "_law_cell_at" = true)
    (k__law_cell_at : PySem.W.keepIn K (.ref ad__law_cell_at) = true)
    (a__law_names_in : PySem.W.nsIn K mainGlobals "_law_names_in" = some (some (.ref ad__law_names_in)))
    (l__law_names_in : K.lookup ad__law_names_in = some ⟨oc__law_names_in, od__law_names_in, .func (PySem.W.fnOf "_law_names_in" "_law_names_in" (defArgs s__law_names_in) (defBody s__law_names_in) (defScope s__law_names_in) .none kV__law_names_in dc__law_names_in pm__law_names_in an__law_names_in cd__law_names_in ct__law_names_in), sl__law_names_in⟩)
    (c__law_names_in : PySem.W.codeIn K cd__law_names_in "_law_names_in" = true)
    (k__law_names_in : PySem.W.keepIn K (.ref ad__law_names_in) = true)
    (a__law_right : PySem.W.nsIn K mainGlobals "_law_right" = some (some (.ref ad__law_right)))
    (l__law_right : K.lookup ad__law_right = some ⟨oc__law_right, od__law_right, .func (PySem.W.fnOf "_law_right" "_law_right" (defArgs s__law_right) (defBody s__law_right) (defScope s__law_right) .none kV__law_right dc__law_right pm__law_right an__law_right cd__law_right ct__law_right), sl__law_right⟩)
    (c__law_right : PySem.W.codeIn K cd__law_right "_law_right" = true)
    (k__law_right : PySem.W.keepIn K (.ref ad__law_right) = true)
    (a__law_next : PySem.W.nsIn K mainGlobals "_law_next" = some (some (.ref ad__law_next)))
    (l__law_next : K.lookup ad__law_next = some ⟨oc__law_next, od__law_next, .func (PySem.W.fnOf "_law_next" "_law_next" (defArgs s__law_next) (defBody s__law_next) (defScope s__law_next) .none kV__law_next dc__law_next pm__law_next an__law_next cd__law_next ct__law_next), sl__law_next⟩)
    (c__law_next : PySem.W.codeIn K cd__law_next "_law_next" = true)
    (k__law_next : PySem.W.keepIn K (.ref ad__law_next) = true)
    (a__law_one : PySem.W.nsIn K mainGlobals "_law_one" = some (some (.ref ad__law_one)))
    (l__law_one : K.lookup ad__law_one = some ⟨oc__law_one, od__law_one, .func (PySem.W.fnOf "_law_one" "_law_one" (defArgs s__law_one) (defBody s__law_one) (defScope s__law_one) .none kV__law_one dc__law_one pm__law_one an__law_one cd__law_one ct__law_one), sl__law_one⟩)
    (c__law_one : PySem.W.codeIn K cd__law_one "_law_one" = true)
    (k__law_one : PySem.W.keepIn K (.ref ad__law_one) = true)
    (a__law_kind : PySem.W.nsIn K mainGlobals "_law_kind" = some (some (.ref ad__law_kind)))
    (l__law_kind : K.lookup ad__law_kind = some ⟨oc__law_kind, od__law_kind, .func (PySem.W.fnOf "_law_kind" "_law_kind" (defArgs s__law_kind) (defBody s__law_kind) (defScope s__law_kind) .none kV__law_kind dc__law_kind pm__law_kind an__law_kind cd__law_kind ct__law_kind), sl__law_kind⟩)
    (c__law_kind : PySem.W.codeIn K cd__law_kind "_law_kind" = true)
    (k__law_kind : PySem.W.keepIn K (.ref ad__law_kind) = true)
    (a__law_wide : PySem.W.nsIn K mainGlobals "_law_wide" = some (some (.ref ad__law_wide)))
    (l__law_wide : K.lookup ad__law_wide = some ⟨oc__law_wide, od__law_wide, .func (PySem.W.fnOf "_law_wide" "_law_wide" (defArgs s__law_wide) (defBody s__law_wide) (defScope s__law_wide) .none kV__law_wide dc__law_wide pm__law_wide an__law_wide cd__law_wide ct__law_wide), sl__law_wide⟩)
    (c__law_wide : PySem.W.codeIn K cd__law_wide "_law_wide" = true)
    (k__law_wide : PySem.W.keepIn K (.ref ad__law_wide) = true)
    (a_law : PySem.W.nsIn K mainGlobals "law" = some (some (.ref ad_law)))
    (l_law : K.lookup ad_law = some ⟨oc_law, od_law, .func (PySem.W.fnOf "law" "law" (defArgs s_law) (defBody s_law) (defScope s_law) .none kV_law dc_law pm_law an_law cd_law ct_law), sl_law⟩)
    (c_law : PySem.W.codeIn K cd_law "law" = true)
    (k_law : PySem.W.keepIn K (.ref ad_law) = true)
    : ∃ fd : FuncData, (∀ (s : Shared) (v : Value), BindsTo s fd ⟨[v], []⟩ [("_law_script", v)]) ∧ ∀ base : Heap, K.In base → base.Ns mainGlobals mg → FnOk l.prog w K mg base CX0 35 fa fd ["_law_script"] (spF K 1 f_law) := by
  have e := hfa.symm.trans (PySem.W.mg_of X G a_law)
  cases e
  have F__law_source_of : FunD K "_law_source_of" "_law_source_of" (defArgs s__law_source_of) (defBody s__law_source_of) (defScope s__law_source_of) [] [] ad__law_source_of (PySem.W.fnOf "_law_source_of" "_law_source_of" (defArgs s__law_source_of) (defBody s__law_source_of) (defScope s__law_source_of) .none kV__law_source_of dc__law_source_of pm__law_source_of an__law_source_of cd__law_source_of ct__law_source_of) := ⟨⟨_, _, _, _, _, _, _, _, _, _, rfl, l__law_source_of, c__law_source_of, .inl ⟨rfl, rfl⟩, .inl rfl⟩, k__law_source_of⟩
  have F_is_name : FunD K "is_name" "is_name" (defArgs s_is_name) (defBody s_is_name) (defScope s_is_name) [] [] ad_is_name (PySem.W.fnOf "is_name" "is_name" (defArgs s_is_name) (defBody s_is_name) (defScope s_is_name) .none kV_is_name dc_is_name pm_is_name an_is_name cd_is_name ct_is_name) := ⟨⟨_, _, _, _, _, _, _, _, _, _, rfl, l_is_name, c_is_name, .inl ⟨rfl, rfl⟩, .inl rfl⟩, k_is_name⟩
  have F_is_kind : FunD K "is_kind" "is_kind" (defArgs s_is_kind) (defBody s_is_kind) (defScope s_is_kind) [] [] ad_is_kind (PySem.W.fnOf "is_kind" "is_kind" (defArgs s_is_kind) (defBody s_is_kind) (defScope s_is_kind) .none kV_is_kind dc_is_kind pm_is_kind an_is_kind cd_is_kind ct_is_kind) := ⟨⟨_, _, _, _, _, _, _, _, _, _, rfl, l_is_kind, c_is_kind, .inl ⟨rfl, rfl⟩, .inl rfl⟩, k_is_kind⟩
  have F_want_kind : FunD K "want_kind" "want_kind" (defArgs s_want_kind) (defBody s_want_kind) (defScope s_want_kind) [] [] ad_want_kind (PySem.W.fnOf "want_kind" "want_kind" (defArgs s_want_kind) (defBody s_want_kind) (defScope s_want_kind) .none kV_want_kind dc_want_kind pm_want_kind an_want_kind cd_want_kind ct_want_kind) := ⟨⟨_, _, _, _, _, _, _, _, _, _, rfl, l_want_kind, c_want_kind, .inl ⟨rfl, rfl⟩, .inl rfl⟩, k_want_kind⟩
  obtain ⟨w0_free_of, hw0_free_of, _⟩ := kdV_ok (H := fun _ => none) (M := fun _ => False) 8 dv0_free_of _ ed0_free_of
  have F_free_of : FunD K "free_of" "free_of" (defArgs s_free_of) (defBody s_free_of) (defScope s_free_of) [w0_free_of] [] ad_free_of (PySem.W.fnOf "free_of" "free_of" (defArgs s_free_of) (defBody s_free_of) (defScope s_free_of) (.ref T_free_of) kV_free_of dc_free_of pm_free_of an_free_of cd_free_of ct_free_of) := ⟨⟨_, _, _, _, _, _, _, _, _, _, rfl, l_free_of, c_free_of, .inr ⟨by simp, T_free_of, _, [dv0_free_of], tn_free_of, rfl, lT_free_of, rfl, (.cons hw0_free_of .nil)⟩, .inl rfl⟩, k_free_of⟩
  obtain ⟨e0_free_of, vd0_free_of, bd0_free_of⟩ := F_free_of.binds1 (ps := ["kind", "inside"]) 2 1 (by simp) rfl fun T kV doc pm an cdv ct us its hu hi => match us, its, hu, hi with | [_, _], [_], _, _ => ⟨_, rfl, rfl⟩
  cases vd0_free_of
  obtain ⟨e1_free_of, vd1_free_of, bd1_free_of⟩ := F_free_of.binds1 (ps := ["kind", "inside"]) 1 0 (by simp) rfl fun T kV doc pm an cdv ct us its hu hi => match us, its, hu, hi with | [_], [_], _, _ => ⟨_, rfl, rfl⟩
  have F_free : FunD K "free" "free" (defArgs s_free) (defBody s_free) (defScope s_free) [] [] ad_free (PySem.W.fnOf "free" "free" (defArgs s_free) (defBody s_free) (defScope s_free) .none kV_free dc_free pm_free an_free cd_free ct_free) := ⟨⟨_, _, _, _, _, _, _, _, _, _, rfl, l_free, c_free, .inl ⟨rfl, rfl⟩, .inl rfl⟩, k_free⟩
  have F__law_cell_at : FunD K "_law_cell_at" "_law_cell_at" (defArgs s__law_cell_at) (defBody s__law_cell_at) (defScope s__law_cell_at) [] [] ad__law_cell_at (PySem.W.fnOf "_law_cell_at" "_law_cell_at" (defArgs s__law_cell_at) (defBody s__law_cell_at) (defScope s__law_cell_at) .none kV__law_cell_at dc__law_cell_at pm__law_cell_at an__law_cell_at cd__law_cell_at ct__law_cell_at) := ⟨⟨_, _, _, _, _, _, _, _, _, _, rfl, l__law_cell_at, c__law_cell_at, .inl ⟨rfl, rfl⟩, .inl rfl⟩, k__law_cell_at⟩
  have F__law_names_in : FunD K "_law_names_in" "_law_names_in" (defArgs s__law_names_in) (defBody s__law_names_in) (defScope s__law_names_in) [] [] ad__law_names_in (PySem.W.fnOf "_law_names_in" "_law_names_in" (defArgs s__law_names_in) (defBody s__law_names_in) (defScope s__law_names_in) .none kV__law_names_in dc__law_names_in pm__law_names_in an__law_names_in cd__law_names_in ct__law_names_in) := ⟨⟨_, _, _, _, _, _, _, _, _, _, rfl, l__law_names_in, c__law_names_in, .inl ⟨rfl, rfl⟩, .inl rfl⟩, k__law_names_in⟩
  have F__law_right : FunD K "_law_right" "_law_right" (defArgs s__law_right) (defBody s__law_right) (defScope s__law_right) [] [] ad__law_right (PySem.W.fnOf "_law_right" "_law_right" (defArgs s__law_right) (defBody s__law_right) (defScope s__law_right) .none kV__law_right dc__law_right pm__law_right an__law_right cd__law_right ct__law_right) := ⟨⟨_, _, _, _, _, _, _, _, _, _, rfl, l__law_right, c__law_right, .inl ⟨rfl, rfl⟩, .inl rfl⟩, k__law_right⟩
  have F__law_next : FunD K "_law_next" "_law_next" (defArgs s__law_next) (defBody s__law_next) (defScope s__law_next) [] [] ad__law_next (PySem.W.fnOf "_law_next" "_law_next" (defArgs s__law_next) (defBody s__law_next) (defScope s__law_next) .none kV__law_next dc__law_next pm__law_next an__law_next cd__law_next ct__law_next) := ⟨⟨_, _, _, _, _, _, _, _, _, _, rfl, l__law_next, c__law_next, .inl ⟨rfl, rfl⟩, .inl rfl⟩, k__law_next⟩
  have F__law_one : FunD K "_law_one" "_law_one" (defArgs s__law_one) (defBody s__law_one) (defScope s__law_one) [] [] ad__law_one (PySem.W.fnOf "_law_one" "_law_one" (defArgs s__law_one) (defBody s__law_one) (defScope s__law_one) .none kV__law_one dc__law_one pm__law_one an__law_one cd__law_one ct__law_one) := ⟨⟨_, _, _, _, _, _, _, _, _, _, rfl, l__law_one, c__law_one, .inl ⟨rfl, rfl⟩, .inl rfl⟩, k__law_one⟩
  have F__law_kind : FunD K "_law_kind" "_law_kind" (defArgs s__law_kind) (defBody s__law_kind) (defScope s__law_kind) [] [] ad__law_kind (PySem.W.fnOf "_law_kind" "_law_kind" (defArgs s__law_kind) (defBody s__law_kind) (defScope s__law_kind) .none kV__law_kind dc__law_kind pm__law_kind an__law_kind cd__law_kind ct__law_kind) := ⟨⟨_, _, _, _, _, _, _, _, _, _, rfl, l__law_kind, c__law_kind, .inl ⟨rfl, rfl⟩, .inl rfl⟩, k__law_kind⟩
  have F__law_wide : FunD K "_law_wide" "_law_wide" (defArgs s__law_wide) (defBody s__law_wide) (defScope s__law_wide) [] [] ad__law_wide (PySem.W.fnOf "_law_wide" "_law_wide" (defArgs s__law_wide) (defBody s__law_wide) (defScope s__law_wide) .none kV__law_wide dc__law_wide pm__law_wide an__law_wide cd__law_wide ct__law_wide) := ⟨⟨_, _, _, _, _, _, _, _, _, _, rfl, l__law_wide, c__law_wide, .inl ⟨rfl, rfl⟩, .inl rfl⟩, k__law_wide⟩
  have F_law : FunD K "law" "law" (defArgs s_law) (defBody s_law) (defScope s_law) [] [] fa (PySem.W.fnOf "law" "law" (defArgs s_law) (defBody s_law) (defScope s_law) .none kV_law dc_law pm_law an_law cd_law ct_law) := ⟨⟨_, _, _, _, _, _, _, _, _, _, rfl, l_law, c_law, .inl ⟨rfl, rfl⟩, .inl rfl⟩, k_law⟩
  let T : Top w K mg := {
    z_all := PySem.W.mg_none_of X G z_all
    z_int := PySem.W.mg_none_of X G z_int
    z_isinstance := PySem.W.mg_none_of X G z_isinstance
    z_len := PySem.W.mg_none_of X G z_len
    z_list := PySem.W.mg_none_of X G z_list
    z_max := PySem.W.mg_none_of X G z_max
    z_min := PySem.W.mg_none_of X G z_min
    z_range := PySem.W.mg_none_of X G z_range
    z_str := PySem.W.mg_none_of X G z_str
    z_tuple := PySem.W.mg_none_of X G z_tuple
    u_BARRED := u_BARRED
    m_BARRED := PySem.W.mg_of X G a_BARRED
    c_BARRED := c_BARRED
    u_MOST_SIGNS := u_MOST_SIGNS
    m_MOST_SIGNS := PySem.W.mg_of X G a_MOST_SIGNS
    c_MOST_SIGNS := c_MOST_SIGNS
    u_LETTERS := u_LETTERS
    m_LETTERS := PySem.W.mg_of X G a_LETTERS
    c_LETTERS := c_LETTERS
    t_WORDS := t_WORDS
    m_WORDS := PySem.W.mg_of X G a_WORDS
    kd_WORDS := ⟨⟨_, _, _, ⟨l_WORDS, y_WORDS, o_WORDS⟩, e_WORDS⟩⟩
    v__law_source_of := []
    b__law_source_of := (F__law_source_of.bindsN fun _ _ _ _ _ _ us hl => match us, hl with | [_], _ => rfl)
    a__law_source_of := ad__law_source_of
    d__law_source_of := _
    F__law_source_of := F__law_source_of
    m__law_source_of := PySem.W.mg_of X G a__law_source_of
    v_is_name := []
    b_is_name := (F_is_name.bindsN fun _ _ _ _ _ _ us hl => match us, hl with | [_], _ => rfl)
    a_is_name := ad_is_name
    d_is_name := _
    F_is_name := F_is_name
    m_is_name := PySem.W.mg_of X G a_is_name
    v_is_kind := []
    b_is_kind := (F_is_kind.bindsN fun _ _ _ _ _ _ us hl => match us, hl with | [_], _ => rfl)
    a_is_kind := ad_is_kind
    d_is_kind := _
    F_is_kind := F_is_kind
    m_is_kind := PySem.W.mg_of X G a_is_kind
    v_want_kind := []
    b_want_kind := (F_want_kind.bindsN fun _ _ _ _ _ _ us hl => match us, hl with | [_], _ => rfl)
    a_want_kind := ad_want_kind
    d_want_kind := _
    F_want_kind := F_want_kind
    m_want_kind := PySem.W.mg_of X G a_want_kind
    b_free_of := bd0_free_of
    e1_free_of := e1_free_of
    y1_free_of := _
    bd1_free_of := bd1_free_of
    vd1_free_of := vd1_free_of
    wd1_free_of := (fun ρ S H => (.cons (dfl_one ed0_free_of hw0_free_of ρ S H) .nil))
    v_free_of := [w0_free_of]
    a_free_of := ad_free_of
    d_free_of := _
    F_free_of := F_free_of
    m_free_of := PySem.W.mg_of X G a_free_of
    v_free := []
    b_free := (F_free.bindsN fun _ _ _ _ _ _ us hl => match us, hl with | [_], _ => rfl)
    a_free := ad_free
    d_free := _
    F_free := F_free
    m_free := PySem.W.mg_of X G a_free
    v__law_cell_at := []
    b__law_cell_at := (F__law_cell_at.bindsN fun _ _ _ _ _ _ us hl => match us, hl with | [_, _], _ => rfl)
    a__law_cell_at := ad__law_cell_at
    d__law_cell_at := _
    F__law_cell_at := F__law_cell_at
    m__law_cell_at := PySem.W.mg_of X G a__law_cell_at
    v__law_names_in := []
    b__law_names_in := (F__law_names_in.bindsN fun _ _ _ _ _ _ us hl => match us, hl with | [_, _], _ => rfl)
    a__law_names_in := ad__law_names_in
    d__law_names_in := _
    F__law_names_in := F__law_names_in
    m__law_names_in := PySem.W.mg_of X G a__law_names_in
    v__law_right := []
    b__law_right := (F__law_right.bindsN fun _ _ _ _ _ _ us hl => match us, hl with | [_], _ => rfl)
    a__law_right := ad__law_right
    d__law_right := _
    F__law_right := F__law_right
    m__law_right := PySem.W.mg_of X G a__law_right
    v__law_next := []
    b__law_next := (F__law_next.bindsN fun _ _ _ _ _ _ us hl => match us, hl with | [_, _], _ => rfl)
    a__law_next := ad__law_next
    d__law_next := _
    F__law_next := F__law_next
    m__law_next := PySem.W.mg_of X G a__law_next
    v__law_one := []
    b__law_one := (F__law_one.bindsN fun _ _ _ _ _ _ us hl => match us, hl with | [_, _], _ => rfl)
    a__law_one := ad__law_one
    d__law_one := _
    F__law_one := F__law_one
    m__law_one := PySem.W.mg_of X G a__law_one
    v__law_kind := []
    b__law_kind := (F__law_kind.bindsN fun _ _ _ _ _ _ us hl => match us, hl with | [_, _, _], _ => rfl)
    a__law_kind := ad__law_kind
    d__law_kind := _
    F__law_kind := F__law_kind
    m__law_kind := PySem.W.mg_of X G a__law_kind
    v__law_wide := []
    b__law_wide := (F__law_wide.bindsN fun _ _ _ _ _ _ us hl => match us, hl with | [_], _ => rfl)
    a__law_wide := ad__law_wide
    d__law_wide := _
    F__law_wide := F__law_wide
    m__law_wide := PySem.W.mg_of X G a__law_wide
    v_law := []
    a_law := fa
    d_law := _
    F_law := F_law }
  exact ⟨_, fun s v => .of_eq rfl, fun base _ _ => o_law T⟩
end Fro

open PySem PySem.W PyProof.Rows
set_option maxRecDepth 100000 in
set_option maxHeartbeats 0 in
theorem PySem.Challenge.cw_frostkinds_k02_free_names_holds : PySem.Challenge.rw_frostkinds_k02_free_names.Holds := by
  w_on; o_law; k_head; (case hw => w_witness2)
  k_fill
  refine L2.walk_of (l := PySem.Challenge.rw_frostkinds_k02_free_names) (n := 63) (k := 35) (x := "_law_script") (CX := fun _ => L2.CX0) (sp := fun w => Fro.spF _ 1 Fro.f_law) rfl (by decide) rfl ⟨rfl, by decide, by decide⟩ (fun w h Y => PySem.W.kIn_of Y) ?F (fun _ H a ns hl _ hS => Fro.end_sp (Fro.law_true ns hl) hS) (fun _ _ _ _ _ h => h)
  case F =>
    intro w mg fa h KX G hmg
    refine' Fro.all_mk KX G hmg ?z_all ?z_int ?z_isinstance ?z_len ?z_list ?z_max ?z_min ?z_range ?z_str ?z_tuple ?a_BARRED ?c_BARRED ?a_MOST_SIGNS ?c_MOST_SIGNS ?a_LETTERS ?c_LETTERS ?a_WORDS ?l_WORDS ?y_WORDS ?o_WORDS ?e_WORDS ?a__law_source_of ?l__law_source_of ?c__law_source_of ?k__law_source_of ?a_is_name ?l_is_name ?c_is_name ?k_is_name ?a_is_kind ?l_is_kind ?c_is_kind ?k_is_kind ?a_want_kind ?l_want_kind ?c_want_kind ?k_want_kind ?a_free_of ?l_free_of ?c_free_of ?k_free_of ?lT_free_of ?ed0_free_of ?a_free ?l_free ?c_free ?k_free ?a__law_cell_at ?l__law_cell_at ?c__law_cell_at ?k__law_cell_at ?a__law_names_in ?l__law_names_in ?c__law_names_in ?k__law_names_in ?a__law_right ?l__law_right ?c__law_right ?k__law_right ?a__law_next ?l__law_next ?c__law_next ?k__law_next ?a__law_one ?l__law_one ?c__law_one ?k__law_one ?a__law_kind ?l__law_kind ?c__law_kind ?k__law_kind ?a__law_wide ?l__law_wide ?c__law_wide ?k__law_wide ?a_law ?l_law ?c_law ?k_law
    (case z_all => k_is)
    (case z_int => k_is)
    (case z_isinstance => k_is)
    (case z_len => k_is)
    (case z_list => k_is)
    (case z_max => k_is)
    (case z_min => k_is)
    (case z_range => k_is)
    (case z_str => k_is)
    (case z_tuple => k_is)
    (case a_BARRED => k_is)
    (case c_BARRED => kernel_rfl)
    (case a_MOST_SIGNS => k_is)
    (case c_MOST_SIGNS => kernel_rfl)
    (case a_LETTERS => k_is)
    (case c_LETTERS => kernel_rfl)
    (case a_WORDS => k_is)
    (case l_WORDS => k_is)
    (case y_WORDS => k_keys)
    (case o_WORDS => decide)
    (case e_WORDS => kernel_rfl)
    (case a__law_source_of => k_is)
    (case l__law_source_of => k_is)
    (case c__law_source_of => k_is)
    (case k__law_source_of => k_is)
    (case a_is_name => k_is)
    (case l_is_name => k_is)
    (case c_is_name => k_is)
    (case k_is_name => k_is)
    (case a_is_kind => k_is)
    (case l_is_kind => k_is)
    (case c_is_kind => k_is)
    (case k_is_kind => k_is)
    (case a_want_kind => k_is)
    (case l_want_kind => k_is)
    (case c_want_kind => k_is)
    (case k_want_kind => k_is)
    (case a_free_of => k_is)
    (case l_free_of => k_is)
    (case c_free_of => k_is)
    (case k_free_of => k_is)
    (case lT_free_of => k_is)
    (case ed0_free_of => kernel_rfl)
    (case a_free => k_is)
    (case l_free => k_is)
    (case c_free => k_is)
    (case k_free => k_is)
    (case a__law_cell_at => k_is)
    (case l__law_cell_at => k_is)
    (case c__law_cell_at => k_is)
    (case k__law_cell_at => k_is)
    (case a__law_names_in => k_is)
    (case l__law_names_in => k_is)
    (case c__law_names_in => k_is)
    (case k__law_names_in => k_is)
    (case a__law_right => k_is)
    (case l__law_right => k_is)
    (case c__law_right => k_is)
    (case k__law_right => k_is)
    (case a__law_next => k_is)
    (case l__law_next => k_is)
    (case c__law_next => k_is)
    (case k__law_next => k_is)
    (case a__law_one => k_is)
    (case l__law_one => k_is)
    (case c__law_one => k_is)
    (case k__law_one => k_is)
    (case a__law_kind => k_is)
    (case l__law_kind => k_is)
    (case c__law_kind => k_is)
    (case k__law_kind => k_is)
    (case a__law_wide => k_is)
    (case l__law_wide => k_is)
    (case c__law_wide => k_is)
    (case k__law_wide => k_is)
    (case a_law => k_is)
    (case l_law => k_is)
    (case c_law => k_is)
    (case k_law => k_is)

