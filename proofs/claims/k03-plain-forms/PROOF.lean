import PyProof.Rows.All
import Wide.All
import OpenK.AllK
import Wide.FinOn
import HandS.ForMost
import HandS.IsInst
import HandS.Defaults
import HandS.TupAny
import HandS.Deep
import HandS.Style
import HandS.More
import HandS.Codes
import HandS.DictComp
import HandS.Conv
import HandS.Rev
import HandS.RaiseMore
import PyProof.ListStr
import KE.KIntText
import PySem.Challenge.RW_frostkinds_k03_plain_forms
set_option Elab.async false
set_option linter.all false
set_option maxRecDepth 100000
set_option maxHeartbeats 4000000
/-! Fro: pure data, a store of mutable lists, denotations, and their soundness over the hand layer. -/
namespace Fro
open PySem PySem.Spec L2

/-! ### data -/
abbrev Tx := List Nat
def sx (t : Tx) : Str := ⟨t.toArray⟩
theorem sx_inj {a b : Tx} (h : sx a = sx b) : a = b := by
  have q := congrArg (fun s : Str => s.cps.toList) h
  simpa [sx] using q

inductive Ty where
  | str | tup | lst | dct | int | bl
def Ty.nm : Ty → String
  | .str => "str" | .tup => "tuple" | .lst => "list" | .dct => "dict" | .int => "int" | .bl => "bool"
inductive D where
  | non | bl (b : Bool) | int (i : Int) | str (t : Tx) | tup (ds : List D) | lst (ds : List D) | dct (es : List (Tx × D)) | ty (n : Ty)
inductive Ob where
  | lst (ds : List D) | dct (es : List (Tx × D)) | dead
abbrev Sto := List Ob
inductive W where
  | v (d : D) | r (i : Nat) | s (ns : List Int) | lk (es : List (Tx × D))
inductive R (α : Type) where
  | ok (a : α) (S : Sto) | exc (c : Nat) (ds : List D) (S : Sto) | bad
def R.bind {α β : Type} (x : R α) (f : α → Sto → R β) : R β :=
  match x with
  | .ok a S => f a S
  | .exc c ds S => .exc c ds S
  | .bad => .bad
@[simp] theorem R.bind_ok {α β : Type} (a : α) (S : Sto) (f : α → Sto → R β) : (R.ok a S).bind f = f a S := rfl
@[simp] theorem R.bind_exc {α β : Type} (c : Nat) (ds : List D) (S : Sto) (f : α → Sto → R β) : (R.exc c ds S).bind f = R.exc c ds S := rfl
@[simp] theorem R.bind_bad {α β : Type} (f : α → Sto → R β) : (R.bad).bind f = R.bad := rfl

/-! ### what stands for what -/
mutual
inductive Rp (K : PySem.W.Frag) (H : Hp) (M : Addr → Prop) : D → V → Prop
  | non : Rp K H M .non .non
  | bl (b : Bool) : Rp K H M (.bl b) (.bl b)
  | int (i : Int) : Rp K H M (.int i) (.int i)
  | str (t : Tx) : Rp K H M (.str t) (.str (sx t))
  | ty (n : Ty) : Rp K H M (.ty n) (.ty n.nm)
  | tup {a : Addr} {xs : List V} {ds : List D} : SqT K H a xs → RpL K H M ds xs → Rp K H M (.tup ds) (.ref a)
  | lst {a : Addr} {xs : List V} {ds : List D} : H a = some (.lst xs) → ¬ M a → RpL K H M ds xs → Rp K H M (.lst ds) (.ref a)
  | dct {a : Addr} {kvs : List (Key × V)} {es : List (Tx × D)} : Rd H a (.dK kvs) → ¬ M a → RpE K H M es kvs → Rp K H M (.dct es) (.ref a)
inductive RpL (K : PySem.W.Frag) (H : Hp) (M : Addr → Prop) : List D → List V → Prop
  | nil : RpL K H M [] []
  | cons {d : D} {ds : List D} {v : V} {vs : List V} : Rp K H M d v → RpL K H M ds vs → RpL K H M (d :: ds) (v :: vs)
inductive RpE (K : PySem.W.Frag) (H : Hp) (M : Addr → Prop) : List (Tx × D) → List (Key × V) → Prop
  | nil : RpE K H M [] []
  | cons {t : Tx} {d : D} {es : List (Tx × D)} {v : V} {kvs : List (Key × V)} : Rp K H M d v → RpE K H M es kvs → RpE K H M ((t, d) :: es) ((Sum.inr (sx t), v) :: kvs)
end

section
variable {K : PySem.W.Frag} {H H' : Hp} {M M' : Addr → Prop}
theorem sqT_mono {a : Addr} {xs : List V} (ht : ∀ b xs, H b = some (.tup xs) → H' b = some (.tup xs)) (hf : ∀ b o u, H b = some (.frz o u) → H' b = some (.frz o u)) (h : SqT K H a xs) : SqT K H' a xs := by
  rcases h with (h | ⟨o, h⟩) | h
  · exact .inl (.inl (ht _ _ h))
  · exact .inl (.inr ⟨o, hf _ _ _ h⟩)
  · exact .inr h
theorem rd_mono {a : Addr} {u : HO} (hk : ∀ b o, ¬ M b → H b = some o → H' b = some o) (hf : ∀ b o u, H b = some (.frz o u) → H' b = some (.frz o u)) (n : ¬ M a) (h : Rd H a u) : Rd H' a u := by
  rcases h with h | ⟨o, h⟩
  · exact .inl (hk _ _ n h)
  · exact .inr ⟨o, hf _ _ _ h⟩
theorem rd_some {a : Addr} {u : HO} (h : Rd H a u) : ∃ o, H a = some o := by
  rcases h with h | ⟨o, h⟩
  · exact ⟨_, h⟩
  · exact ⟨_, h⟩
theorem Rp.mono (hk : ∀ b o, ¬ M b → H b = some o → H' b = some o) (ht : ∀ b xs, H b = some (.tup xs) → H' b = some (.tup xs)) (hf : ∀ b o u, H b = some (.frz o u) → H' b = some (.frz o u))
    (hm : ∀ b, M' b → M b ∨ H b = none) {d : D} {v : V} (h : Rp K H M d v) : Rp K H' M' d v := by
  have nm : ∀ {a : Addr} {o : HO}, H a = some o → ¬ M a → ¬ M' a := fun {a o} e n z => by
    rcases hm a z with q | q
    · exact n q
    · rw [e] at q; cases q
  exact Rp.rec (motive_1 := fun d v _ => Rp K H' M' d v) (motive_2 := fun ds vs _ => RpL K H' M' ds vs) (motive_3 := fun es kvs _ => RpE K H' M' es kvs)
    .non .bl .int .str .ty (fun a _ q => .tup (sqT_mono ht hf a) q) (fun e n _ q => .lst (hk _ _ n e) (nm e n) q) (fun e n _ q => .dct (rd_mono hk hf n e) (let ⟨_, z⟩ := rd_some e; nm z n) q)
    .nil (fun _ _ a b => .cons a b) .nil (fun _ _ a b => .cons a b) h
theorem RpL.mono (hk : ∀ b o, ¬ M b → H b = some o → H' b = some o) (ht : ∀ b xs, H b = some (.tup xs) → H' b = some (.tup xs)) (hf : ∀ b o u, H b = some (.frz o u) → H' b = some (.frz o u))
    (hm : ∀ b, M' b → M b ∨ H b = none) : ∀ {ds : List D} {vs : List V}, RpL K H M ds vs → RpL K H' M' ds vs
  | _, _, .nil => .nil
  | _, _, .cons a b => .cons (a.mono hk ht hf hm) (RpL.mono hk ht hf hm b)
theorem RpE.mono (hk : ∀ b o, ¬ M b → H b = some o → H' b = some o) (ht : ∀ b xs, H b = some (.tup xs) → H' b = some (.tup xs)) (hf : ∀ b o u, H b = some (.frz o u) → H' b = some (.frz o u))
    (hm : ∀ b, M' b → M b ∨ H b = none) : ∀ {es : List (Tx × D)} {kvs : List (Key × V)}, RpE K H M es kvs → RpE K H' M' es kvs
  | _, _, .nil => .nil
  | _, _, .cons a b => .cons (a.mono hk ht hf hm) (RpE.mono hk ht hf hm b)
theorem RpL.length : ∀ {ds : List D} {vs : List V}, RpL K H M ds vs → ds.length = vs.length
  | _, _, .nil => rfl
  | _, _, .cons _ b => by rw [List.length_cons, List.length_cons, b.length]
theorem RpL.get : ∀ {ds : List D} {vs : List V} (i : Nat) {d : D}, RpL K H M ds vs → ds[i]? = some d → ∃ v, vs[i]? = some v ∧ Rp K H M d v
  | _, _, _, _, .nil, e => by simp at e
  | _, _, 0, _, .cons a _, e => by simp at e; subst e; exact ⟨_, rfl, a⟩
  | _, _, i + 1, _, .cons _ b, e => by
    obtain ⟨v, h1, h2⟩ := RpL.get i b (by simpa using e)
    exact ⟨v, by simpa using h1, h2⟩
theorem RpL.append : ∀ {ds es : List D} {vs us : List V}, RpL K H M ds vs → RpL K H M es us → RpL K H M (ds ++ es) (vs ++ us)
  | _, _, _, _, .nil, h => h
  | _, _, _, _, .cons a b, h => .cons a (b.append h)
theorem RpL.take : ∀ {ds : List D} {vs : List V} (n : Nat), RpL K H M ds vs → RpL K H M (ds.take n) (vs.take n)
  | _, _, 0, _ => .nil
  | _, _, _ + 1, .nil => .nil
  | _, _, n + 1, .cons a b => .cons a (b.take n)
theorem RpL.drop : ∀ {ds : List D} {vs : List V} (n : Nat), RpL K H M ds vs → RpL K H M (ds.drop n) (vs.drop n)
  | _, _, 0, h => h
  | _, _, _ + 1, .nil => .nil
  | _, _, n + 1, .cons _ b => b.drop n
theorem RpL.reverse : ∀ {ds : List D} {vs : List V}, RpL K H M ds vs → RpL K H M ds.reverse vs.reverse
  | _, _, .nil => .nil
  | _, _, .cons a b => by
    rw [List.reverse_cons, List.reverse_cons]
    exact b.reverse.append (.cons a .nil)
theorem RpL.dropLast {ds : List D} {vs : List V} (h : RpL K H M ds vs) : RpL K H M ds.dropLast vs.dropLast := by
  rw [List.dropLast_eq_take, List.dropLast_eq_take, ← h.length]
  exact h.take _
theorem RpL.set : ∀ {ds : List D} {vs : List V} (i : Nat) {d : D} {v : V}, RpL K H M ds vs → Rp K H M d v → RpL K H M (ds.set i d) (vs.set i v)
  | _, _, _, _, _, .nil, _ => .nil
  | _, _, 0, _, _, .cons _ b, h => .cons h b
  | _, _, i + 1, _, _, .cons a b, h => .cons a (b.set i h)
end

/-! ### the store -/
def alive : Ob → Bool
  | .dead => false
  | _ => true
def live (ρ : List Addr) (S : Sto) : Addr → Prop := fun a => ∃ (i : Nat) (o : Ob), ρ[i]? = some a ∧ S[i]? = some o ∧ alive o = true
def RpO (K : PySem.W.Frag) (H : Hp) (M : Addr → Prop) (a : Addr) : Ob → Prop
  | .lst ds => ∃ xs, H a = some (.lst xs) ∧ RpL K H M ds xs
  | .dct es => ∃ kvs, H a = some (.dK kvs) ∧ RpE K H M es kvs
  | .dead => ∃ o, H a = some o
structure Sok (K : PySem.W.Frag) (ρ : List Addr) (S : Sto) (H : Hp) : Prop where
  len : ρ.length = S.length
  nd : ρ.Nodup
  obs : ∀ (i : Nat) (a : Addr) (o : Ob), ρ[i]? = some a → S[i]? = some o → RpO K H (live ρ S) a o
structure Fwd (ρ : List Addr) (S : Sto) (H : Hp) (ρ' : List Addr) (S' : Sto) (H' : Hp) : Prop where
  ext : ∃ more, ρ' = ρ ++ more
  keep : ∀ b o, ¬ live ρ S b → H b = some o → H' b = some o
  tups : ∀ b xs, H b = some (.tup xs) → H' b = some (.tup xs)
  frzs : ∀ b o u, H b = some (.frz o u) → H' b = some (.frz o u)
  new : ∀ b, live ρ' S' b → live ρ S b ∨ H b = none

section
variable {K : PySem.W.Frag} {ρ ρ1 ρ2 : List Addr} {S S1 S2 : Sto} {H H1 H2 : Hp}
theorem Sok.has (h : Sok K ρ S H) {a : Addr} (l : live ρ S a) : (∃ xs, H a = some (.lst xs)) ∨ ∃ kvs, H a = some (.dK kvs) := by
  obtain ⟨i, o, h1, h2, h3⟩ := l
  have q := h.obs i a o h1 h2
  cases o with
  | lst ds => obtain ⟨xs, e, _⟩ := q; exact .inl ⟨xs, e⟩
  | dct es => obtain ⟨xs, e, _⟩ := q; exact .inr ⟨xs, e⟩
  | dead => cases h3
theorem Sok.notNone (h : Sok K ρ S H) {a : Addr} (n : H a = none) : ¬ live ρ S a := fun l => by
  rcases h.has l with ⟨_, e⟩ | ⟨_, e⟩ <;> (rw [n] at e; cases e)
theorem Fwd.refl : Fwd ρ S H ρ S H := ⟨⟨[], by simp⟩, fun _ _ _ e => e, fun _ _ e => e, fun _ _ _ e => e, fun _ l => .inl l⟩
theorem Fwd.trans (a : Fwd ρ S H ρ1 S1 H1) (b : Fwd ρ1 S1 H1 ρ2 S2 H2) : Fwd ρ S H ρ2 S2 H2 where
  ext := by
    obtain ⟨m1, e1⟩ := a.ext
    obtain ⟨m2, e2⟩ := b.ext
    exact ⟨m1 ++ m2, by rw [e2, e1, List.append_assoc]⟩
  keep := fun c o n e => b.keep c o (fun l => by
    rcases a.new c l with q | q
    · exact n q
    · rw [e] at q; cases q) (a.keep c o n e)
  tups := fun c xs e => b.tups c xs (a.tups c xs e)
  frzs := fun c o u e => b.frzs c o u (a.frzs c o u e)
  new := fun c l => by
    rcases b.new c l with q | q
    · exact a.new c q
    · by_cases lv : live ρ S c
      · exact .inl lv
      · cases e : H c with
        | none => exact .inr rfl
        | some o => rw [a.keep c o lv e] at q; cases q
theorem Fwd.rp (f : Fwd ρ S H ρ1 S1 H1) {d : D} {v : V} (h : Rp K H (live ρ S) d v) : Rp K H1 (live ρ1 S1) d v := h.mono f.keep f.tups f.frzs f.new
theorem Fwd.rpL (f : Fwd ρ S H ρ1 S1 H1) {d : List D} {v : List V} (h : RpL K H (live ρ S) d v) : RpL K H1 (live ρ1 S1) d v := h.mono f.keep f.tups f.frzs f.new
theorem Fwd.rpE (f : Fwd ρ S H ρ1 S1 H1) {d : List (Tx × D)} {v : List (Key × V)} (h : RpE K H (live ρ S) d v) : RpE K H1 (live ρ1 S1) d v := h.mono f.keep f.tups f.frzs f.new
theorem Fwd.at (f : Fwd ρ S H ρ1 S1 H1) {i : Nat} {a : Addr} (e : ρ[i]? = some a) : ρ1[i]? = some a := by
  obtain ⟨m, rfl⟩ := f.ext
  have : i < ρ.length := by
    rcases Nat.lt_or_ge i ρ.length with h | h
    · exact h
    · rw [List.getElem?_eq_none h] at e; cases e
  rw [List.getElem?_append_left this]; exact e
end

/-- the script's list -/
def Scr (K : PySem.W.Frag) (H : Hp) (M : Addr → Prop) (a : Addr) (ns : List Int) : Prop :=
  (H a = some (.lst (ns.map V.int)) ∧ ¬ M a) ∨ (∃ o, H a = some (.frz o (.lst (ns.map V.int)))) ∨ SqL K (fun _ => none) a (ns.map V.int)
theorem Scr.sq {K : PySem.W.Frag} {H : Hp} {M : Addr → Prop} {a : Addr} {ns : List Int} (h : Scr K H M a ns) : SqL K H a (ns.map V.int) := by
  rcases h with ⟨h, _⟩ | ⟨o, h⟩ | h
  · exact .inl (.inl h)
  · exact .inl (.inr ⟨o, h⟩)
  · rcases h with (h | ⟨o, h⟩) | h
    · cases h
    · cases h
    · exact .inr h
theorem Scr.of {K : PySem.W.Frag} {H : Hp} {M : Addr → Prop} {a : Addr} {ns : List Int} (h : SqL K H a (ns.map V.int)) (n : ¬ M a) : Scr K H M a ns := by
  rcases h with (h | ⟨o, h⟩) | h
  · exact .inl ⟨h, n⟩
  · exact .inr (.inl ⟨o, h⟩)
  · exact .inr (.inr (.inr h))
def RpW (K : PySem.W.Frag) (ρ : List Addr) (S : Sto) (H : Hp) : W → V → Prop
  | .v d, x => Rp K H (live ρ S) d x
  | .r i, x => ∃ a, x = .ref a ∧ ρ[i]? = some a
  | .s ns, x => ∃ a, x = .ref a ∧ Scr K H (live ρ S) a ns
  | .lk es, x => ∃ (a : Addr) (o : Obj) (kvs : List (Key × V)), x = .ref a ∧ H a = some (.frz o (.dK kvs)) ∧ ¬ live ρ S a ∧ RpE K H (live ρ S) es kvs
inductive RpWs (K : PySem.W.Frag) (ρ : List Addr) (S : Sto) (H : Hp) : List W → List V → Prop
  | nil : RpWs K ρ S H [] []
  | cons {w : W} {ws : List W} {v : V} {vs : List V} : RpW K ρ S H w v → RpWs K ρ S H ws vs → RpWs K ρ S H (w :: ws) (v :: vs)
def RpSt (K : PySem.W.Frag) (ρ : List Addr) (S : Sto) (H : Hp) (δ : List (Option W)) (σ : St) : Prop :=
  δ.length = σ.length ∧ ∀ (i : Nat) (w : W), δ[i]? = some (some w) → ∃ v, σ[i]? = some (some v) ∧ RpW K ρ S H w v
section
variable {K : PySem.W.Frag} {ρ ρ1 : List Addr} {S S1 : Sto} {H H1 : Hp}
theorem Fwd.rw (f : Fwd ρ S H ρ1 S1 H1) {w : W} {v : V} (h : RpW K ρ S H w v) : RpW K ρ1 S1 H1 w v := by
  cases w with
  | v d => exact f.rp h
  | r i => obtain ⟨a, e, q⟩ := h; exact ⟨a, e, f.at q⟩
  | s ns =>
    obtain ⟨a, e, q⟩ := h
    refine ⟨a, e, ?_⟩
    rcases q with ⟨q, n⟩ | ⟨o, q⟩ | q
    · refine .inl ⟨f.keep _ _ n q, fun l => ?_⟩
      rcases f.new _ l with z | z
      · exact n z
      · rw [q] at z; cases z
    · exact .inr (.inl ⟨o, f.frzs _ _ _ q⟩)
    · exact .inr (.inr q)
  | lk es =>
    obtain ⟨a, o, kvs, e, q, n, r⟩ := h
    refine ⟨a, o, kvs, e, f.frzs _ _ _ q, fun l => ?_, f.rpE r⟩
    rcases f.new _ l with z | z
    · exact n z
    · rw [q] at z; cases z
theorem Fwd.rws (f : Fwd ρ S H ρ1 S1 H1) : ∀ {ws : List W} {vs : List V}, RpWs K ρ S H ws vs → RpWs K ρ1 S1 H1 ws vs
  | _, _, .nil => .nil
  | _, _, .cons a b => .cons (f.rw a) (f.rws b)
theorem Fwd.st (f : Fwd ρ S H ρ1 S1 H1) {δ : List (Option W)} {σ : St} (h : RpSt K ρ S H δ σ) : RpSt K ρ1 S1 H1 δ σ :=
  ⟨h.1, fun i w e => let ⟨v, h1, h2⟩ := h.2 i w e; ⟨v, h1, f.rw h2⟩⟩
theorem RpWs.length : ∀ {ws : List W} {vs : List V}, RpWs K ρ S H ws vs → ws.length = vs.length
  | _, _, .nil => rfl
  | _, _, .cons _ b => by rw [List.length_cons, List.length_cons, b.length]
theorem RpWs.append : ∀ {ws ws' : List W} {vs vs' : List V}, RpWs K ρ S H ws vs → RpWs K ρ S H ws' vs' → RpWs K ρ S H (ws ++ ws') (vs ++ vs')
  | _, _, _, _, .nil, h => h
  | _, _, _, _, .cons a b, h => .cons a (b.append h)
/-- a slot is set -/
theorem RpSt.set {δ : List (Option W)} {σ : St} (h : RpSt K ρ S H δ σ) (i : Nat) {w : W} {v : V} (q : RpW K ρ S H w v) : RpSt K ρ S H (δ.set i (some w)) (σ.set i (some v)) := by
  refine ⟨by rw [List.length_set, List.length_set]; exact h.1, fun j u e => ?_⟩
  by_cases hj : i = j
  · subst hj
    by_cases hl : i < δ.length
    · rw [List.getElem?_set_self hl] at e
      cases e
      exact ⟨v, List.getElem?_set_self (by rw [← h.1]; exact hl), q⟩
    · rw [List.getElem?_eq_none (by rw [List.length_set]; omega)] at e
      cases e
  · rw [List.getElem?_set_ne hj] at e ⊢
    exact h.2 j u e
end

theorem ndx {α : Type} {l : List α} (h : l.Nodup) {i j : Nat} {x : α} (a : l[i]? = some x) (b : l[j]? = some x) : i = j :=
  let ⟨_, q1⟩ := List.getElem?_eq_some_iff.mp a
  let ⟨_, q2⟩ := List.getElem?_eq_some_iff.mp b
  (List.getElem_inj h).mp (q1.trans q2.symm)
/-! ### objects laid and changed -/
section
variable {K : PySem.W.Frag} {ρ : List Addr} {S : Sto} {H : Hp} {p : Addr} {o : HO}
/-- a new object that the store does not know -/
theorem Fwd.laid (so : Sok K ρ S H) (hp : H p = none) : Fwd ρ S H ρ S (upd H p o) where
  ext := ⟨[], by simp⟩
  keep := fun b u _ e => by rw [upd_ne (ne_of_none e hp)]; exact e
  tups := fun b u e => by rw [upd_ne (ne_of_none e hp)]; exact e
  frzs := fun b u z e => by rw [upd_ne (ne_of_none e hp)]; exact e
  new := fun b l => .inl l
theorem Sok.deadAt (so : Sok K ρ S H) {i : Nat} {a : Addr} (h1 : ρ[i]? = some a) (h2 : S[i]? = some .dead) : ¬ live ρ S a := fun ⟨j, o, q1, q2, q3⟩ => by
  have e : i = j := ndx so.nd h1 q1
  subst e
  rw [h2] at q2; cases q2; cases q3
theorem Sok.fwd {H1 : Hp} (so : Sok K ρ S H) (f : Fwd ρ S H ρ S H1) (hk : ∀ a, live ρ S a → H1 a = H a) : Sok K ρ S H1 := by
  refine ⟨so.len, so.nd, fun i a o h1 h2 => ?_⟩
  have q := so.obs i a o h1 h2
  cases o with
  | lst ds => obtain ⟨xs, e, r⟩ := q; exact ⟨xs, by rw [hk a ⟨i, _, h1, h2, rfl⟩]; exact e, f.rpL r⟩
  | dct ds => obtain ⟨xs, e, r⟩ := q; exact ⟨xs, by rw [hk a ⟨i, _, h1, h2, rfl⟩]; exact e, f.rpE r⟩
  | dead => obtain ⟨u, e⟩ := q; exact ⟨u, f.keep _ _ (so.deadAt h1 h2) e⟩
theorem Sok.laid (so : Sok K ρ S H) (hp : H p = none) : Sok K ρ S (upd H p o) :=
  so.fwd (Fwd.laid so hp) fun a l => upd_ne fun e => so.notNone hp (e ▸ l)
theorem live_append {ρ' : List Addr} {S' : Sto} (hl : ρ.length = S.length) {b : Addr} (h : live (ρ ++ ρ') (S ++ S') b) : live ρ S b ∨ live ρ' S' b := by
  obtain ⟨i, o, h1, h2, h3⟩ := h
  by_cases hi : i < ρ.length
  · rw [List.getElem?_append_left hi] at h1
    rw [List.getElem?_append_left (by omega)] at h2
    exact .inl ⟨i, o, h1, h2, h3⟩
  · rw [List.getElem?_append_right (by omega)] at h1
    rw [List.getElem?_append_right (by omega)] at h2
    exact .inr ⟨i - ρ.length, o, h1, by rw [hl]; exact h2, h3⟩
theorem live_left {ρ' : List Addr} {S' : Sto} (hl : ρ.length = S.length) {b : Addr} (h : live ρ S b) : live (ρ ++ ρ') (S ++ S') b := by
  obtain ⟨i, o, h1, h2, h3⟩ := h
  have hi : i < ρ.length := by
    rcases Nat.lt_or_ge i ρ.length with z | z
    · exact z
    · rw [List.getElem?_eq_none z] at h1; cases h1
  exact ⟨i, o, by rw [List.getElem?_append_left hi]; exact h1, by rw [List.getElem?_append_left (by omega)]; exact h2, h3⟩
theorem live_one {ob : Ob} {b : Addr} (h : live [p] [ob] b) : b = p := by
  obtain ⟨i, o, h1, _⟩ := h
  cases i with
  | zero => simpa using h1.symm
  | succ i => simp at h1
/-- a new object of the store -/
theorem Fwd.grown (so : Sok K ρ S H) (hp : H p = none) (ob : Ob) : Fwd ρ S H (ρ ++ [p]) (S ++ [ob]) (upd H p o) where
  ext := ⟨[p], rfl⟩
  keep := fun b u _ e => by rw [upd_ne (ne_of_none e hp)]; exact e
  tups := fun b u e => by rw [upd_ne (ne_of_none e hp)]; exact e
  frzs := fun b u z e => by rw [upd_ne (ne_of_none e hp)]; exact e
  new := fun b l => by
    rcases live_append so.len l with q | q
    · exact .inl q
    · rw [live_one q]; exact .inr hp
/-- the addresses of the store have something -/
theorem Sok.notIn (so : Sok K ρ S H) (hp : H p = none) : p ∉ ρ := fun h => by
  obtain ⟨i, hi⟩ := List.getElem?_of_mem h
  have hl : i < S.length := by
    rw [← so.len]
    rcases Nat.lt_or_ge i ρ.length with z | z
    · exact z
    · rw [List.getElem?_eq_none z] at hi; cases hi
  have q := so.obs i p S[i] hi (List.getElem?_eq_getElem hl)
  cases o : S[i] with
  | lst ds => rw [o] at q; obtain ⟨_, e, _⟩ := q; rw [hp] at e; cases e
  | dct ds => rw [o] at q; obtain ⟨_, e, _⟩ := q; rw [hp] at e; cases e
  | dead => rw [o] at q; obtain ⟨_, e⟩ := q; rw [hp] at e; cases e
theorem Sok.grown (so : Sok K ρ S H) (hp : H p = none) (ob : Ob) (hob : RpO K (upd H p o) (live (ρ ++ [p]) (S ++ [ob])) p ob) : Sok K (ρ ++ [p]) (S ++ [ob]) (upd H p o) := by
  have fw : Fwd ρ S H (ρ ++ [p]) (S ++ [ob]) (upd H p o) := Fwd.grown so hp ob
  refine ⟨by rw [List.length_append, List.length_append, so.len]; rfl, ?_, fun i a u h1 h2 => ?_⟩
  · rw [List.nodup_append]
    refine ⟨so.nd, by simp, fun a ha b hb e => ?_⟩
    rw [List.mem_singleton] at hb
    subst hb; subst e
    exact so.notIn hp ha
  · by_cases hi : i < ρ.length
    · rw [List.getElem?_append_left hi] at h1
      rw [List.getElem?_append_left (by rw [← so.len]; exact hi)] at h2
      have q := so.obs i a u h1 h2
      have ne : a ≠ p := fun e => so.notIn hp (e ▸ List.mem_of_getElem? h1)
      cases u with
      | lst ds => obtain ⟨xs, e, r⟩ := q; exact ⟨xs, by rw [upd_ne ne]; exact e, fw.rpL r⟩
      | dct ds => obtain ⟨xs, e, r⟩ := q; exact ⟨xs, by rw [upd_ne ne]; exact e, fw.rpE r⟩
      | dead => obtain ⟨xs, e⟩ := q; exact ⟨xs, by rw [upd_ne ne]; exact e⟩
    · rw [List.getElem?_append_right (by omega)] at h1
      rw [List.getElem?_append_right (by rw [← so.len]; omega)] at h2
      rw [so.len] at h1
      have hz : i - S.length = 0 := by
        cases hz : i - S.length with
        | zero => rfl
        | succ n => rw [hz] at h1; simp at h1
      rw [hz] at h1 h2
      simp at h1 h2
      subst h1; subst h2
      exact hob
/-- an object of the store is changed -/
theorem Fwd.changed (so : Sok K ρ S H) {i : Nat} {a : Addr} {ob ob' : Ob} (h1 : ρ[i]? = some a) (h2 : S[i]? = some ob) (h3 : alive ob = true) : Fwd ρ S H ρ (S.set i ob') (upd H a o) := by
  have lv : live ρ S a := ⟨i, ob, h1, h2, h3⟩
  have nf : ∀ b u, H b = some u → (∀ xs, u ≠ .lst xs) → (∀ kvs, u ≠ .dK kvs) → b ≠ a := fun b u e n1 n2 z => by
    subst z
    rcases so.has lv with ⟨xs, q⟩ | ⟨xs, q⟩
    · rw [e] at q; cases q; exact n1 xs rfl
    · rw [e] at q; cases q; exact n2 xs rfl
  refine ⟨⟨[], by simp⟩, fun b u n e => ?_, fun b xs e => ?_, fun b u z e => ?_, fun b l => ?_⟩
  · have nz : b ≠ a := fun z => n (by rw [z]; exact lv)
    rw [upd_ne nz]; exact e
  · rw [upd_ne (nf b _ e (fun _ z => nomatch z) (fun _ z => nomatch z))]; exact e
  · rw [upd_ne (nf b _ e (fun _ z => nomatch z) (fun _ z => nomatch z))]; exact e
  · obtain ⟨j, u, q1, q2, q3⟩ := l
    by_cases hj : i = j
    · subst hj
      rw [h1] at q1; cases q1
      exact .inl lv
    · rw [List.getElem?_set_ne hj] at q2
      exact .inl ⟨j, u, q1, q2, q3⟩
theorem Sok.changed (so : Sok K ρ S H) {i : Nat} {a : Addr} {ob ob' : Ob} (h1 : ρ[i]? = some a) (h2 : S[i]? = some ob) (h3 : alive ob = true) (hob : RpO K (upd H a o) (live ρ (S.set i ob')) a ob') : Sok K ρ (S.set i ob') (upd H a o) := by
  have fw : Fwd ρ S H ρ (S.set i ob') (upd H a o) := Fwd.changed so h1 h2 h3
  refine ⟨by rw [List.length_set]; exact so.len, so.nd, fun j b u q1 q2 => ?_⟩
  by_cases hj : i = j
  · subst hj
    have hl : i < S.length := by
      rcases Nat.lt_or_ge i S.length with z | z
      · exact z
      · rw [List.getElem?_eq_none z] at h2; cases h2
    rw [List.getElem?_set_self hl] at q2
    rw [h1] at q1
    cases q1; cases q2
    exact hob
  · rw [List.getElem?_set_ne hj] at q2
    have q := so.obs j b u q1 q2
    have ne : b ≠ a := fun e => by
      subst e
      exact hj (ndx so.nd h1 q1)
    cases u with
    | lst ds => obtain ⟨xs, e, r⟩ := q; exact ⟨xs, by rw [upd_ne ne]; exact e, fw.rpL r⟩
    | dct ds => obtain ⟨xs, e, r⟩ := q; exact ⟨xs, by rw [upd_ne ne]; exact e, fw.rpE r⟩
    | dead => obtain ⟨xs, e⟩ := q; exact ⟨xs, by rw [upd_ne ne]; exact e⟩
end
end Fro

namespace Fro
open PySem PySem.Spec L2

/-! ### what is wanted of a result -/
abbrev Slots := List (Option W)
abbrev Den (α : Type) := Slots → Sto → R α
abbrev Rl (α β : Type) := List Addr → Sto → Hp → α → β → Prop
/-- what is wanted of an exception -/
abbrev XP := L2.St → Nat → List D → Sto → List Addr → Hp → Prop
abbrev XP0 : XP := fun _ _ _ _ _ _ => False
def Post {α β : Type} (K : PySem.W.Frag) (rel : Rl α β) (ρ : List Addr) (S : Sto) (H : Hp) (r : R α) (Q : β → Hp → Prop) (E : Nat → List D → Sto → List Addr → Hp → Prop) : Prop :=
  match r with
  | .ok a S' => ∀ (b : β) (ρ' : List Addr) (H' : Hp), Fwd ρ S H ρ' S' H' → Sok K ρ' S' H' → rel ρ' S' H' a b → Q b H'
  | .exc c ds S' => ∀ (ρ' : List Addr) (H' : Hp), Fwd ρ S H ρ' S' H' → Sok K ρ' S' H' → E c ds S' ρ' H'
  | .bad => False
theorem Post.later {α β : Type} {K : PySem.W.Frag} {rel : Rl α β} {ρ ρ1 : List Addr} {S S1 : Sto} {H H1 : Hp} {r : R α} {Q : β → Hp → Prop} {E : Nat → List D → Sto → List Addr → Hp → Prop}
    (f : Fwd ρ S H ρ1 S1 H1) (h : Post K rel ρ S H r Q E) : Post K rel ρ1 S1 H1 r Q E := by
  cases r with
  | ok a S' => exact fun b ρ' H' f' so q => h b ρ' H' (f.trans f') so q
  | exc c ds S' => exact fun ρ' H' f' so => h ρ' H' (f.trans f') so
  | bad => exact h
def tG {α β : Type} (K : PySem.W.Frag) (rel : Rl α β) (E : XP) (den : Den α) : L2.St → Hp → (β → Hp → Prop) → Prop := fun σ H Q =>
  ∃ (δ : Slots) (ρ : List Addr) (S : Sto), RpSt K ρ S H δ σ ∧ Sok K ρ S H ∧ Post K rel ρ S H (den δ S) Q (E σ)
abbrev tE (K : PySem.W.Frag) (E : XP) (den : Den W) : TE := tG K (RpW K) E den
abbrev tT (K : PySem.W.Frag) (E : XP) (den : Den Bool) : TT := tG K (fun _ _ _ a b => a = b) E den
abbrev tA (K : PySem.W.Frag) (E : XP) (den : Den (List W)) : TA := tG K (RpWs K) E den
theorem tG_then {α β γ ε : Type} {K : PySem.W.Frag} {rel : Rl α β} {rel2 : Rl γ ε} {E : XP} {den : Den α} {k : α → Sto → R γ} {δ : Slots} {σ : L2.St} {ρ : List Addr} {S : Sto} {H : Hp} {Q : ε → Hp → Prop} {Q' : β → Hp → Prop}
    (st : RpSt K ρ S H δ σ) (so : Sok K ρ S H) (h : Post K rel2 ρ S H ((den δ S).bind k) Q (E σ))
    (hk : ∀ (a : α) (S1 : Sto) (b : β) (ρ1 : List Addr) (H1 : Hp), Fwd ρ S H ρ1 S1 H1 → RpSt K ρ1 S1 H1 δ σ → Sok K ρ1 S1 H1 → rel ρ1 S1 H1 a b → Post K rel2 ρ1 S1 H1 (k a S1) Q (E σ) → Q' b H1) : tG K rel E den σ H Q' := by
  refine ⟨δ, ρ, S, st, so, ?_⟩
  cases e : den δ S with
  | ok a S1 =>
    rw [e] at h
    exact fun b ρ1 H1 f so1 q => hk a S1 b ρ1 H1 f (f.st st) so1 q (Post.later f h)
  | exc c ds S1 => rw [e] at h; exact h
  | bad => rw [e] at h; exact h

/-! ### statements -/
inductive RS where
  | nx (δ : Slots) (S : Sto) | rt (w : W) (S : Sto) | bk (δ : Slots) (S : Sto) | ct (δ : Slots) (S : Sto) | xc (c : Nat) (ds : List D) (δ : Slots) (S : Sto) | bad
abbrev DenS := Slots → Sto → RS
def R.thenS {α : Type} (r : R α) (δ : Slots) (k : α → Sto → RS) : RS :=
  match r with
  | .ok a S => k a S
  | .exc c ds S => .xc c ds δ S
  | .bad => .bad
@[simp] theorem R.thenS_ok {α : Type} (a : α) (S : Sto) (δ : Slots) (f : α → Sto → RS) : (R.ok a S).thenS δ f = f a S := rfl
@[simp] theorem R.thenS_exc {α : Type} (c : Nat) (ds : List D) (S : Sto) (δ : Slots) (f : α → Sto → RS) : (R.exc c ds S : R α).thenS δ f = .xc c ds δ S := rfl
@[simp] theorem R.thenS_bad {α : Type} (δ : Slots) (f : α → Sto → RS) : (R.bad : R α).thenS δ f = .bad := rfl
def PostS (K : PySem.W.Frag) (ρ : List Addr) (S : Sto) (H : Hp) (r : RS) (D' : Ends) (E : XP) : Prop :=
  match r with
  | .nx δ S' => ∀ (σ : L2.St) (ρ' : List Addr) (H' : Hp), Fwd ρ S H ρ' S' H' → Sok K ρ' S' H' → RpSt K ρ' S' H' δ σ → D'.nx σ H'
  | .rt w S' => ∀ (v : V) (ρ' : List Addr) (H' : Hp), Fwd ρ S H ρ' S' H' → Sok K ρ' S' H' → RpW K ρ' S' H' w v → D'.rt v H'
  | .bk δ S' => ∀ (σ : L2.St) (ρ' : List Addr) (H' : Hp), Fwd ρ S H ρ' S' H' → Sok K ρ' S' H' → RpSt K ρ' S' H' δ σ → D'.bk σ H'
  | .ct δ S' => ∀ (σ : L2.St) (ρ' : List Addr) (H' : Hp), Fwd ρ S H ρ' S' H' → Sok K ρ' S' H' → RpSt K ρ' S' H' δ σ → D'.ct σ H'
  | .xc c ds δ S' => ∀ (σ : L2.St) (ρ' : List Addr) (H' : Hp), Fwd ρ S H ρ' S' H' → Sok K ρ' S' H' → RpSt K ρ' S' H' δ σ → E σ c ds S' ρ' H'
  | .bad => False
theorem PostS.later {K : PySem.W.Frag} {ρ ρ1 : List Addr} {S S1 : Sto} {H H1 : Hp} {r : RS} {D' : Ends} {E : XP} (f : Fwd ρ S H ρ1 S1 H1) (h : PostS K ρ S H r D' E) : PostS K ρ1 S1 H1 r D' E := by
  cases r with
  | nx δ S' => exact fun b ρ' H' f' so q => h b ρ' H' (f.trans f') so q
  | rt δ S' => exact fun b ρ' H' f' so q => h b ρ' H' (f.trans f') so q
  | bk δ S' => exact fun b ρ' H' f' so q => h b ρ' H' (f.trans f') so q
  | ct δ S' => exact fun b ρ' H' f' so q => h b ρ' H' (f.trans f') so q
  | xc c ds δ S' => exact fun b ρ' H' f' so q => h b ρ' H' (f.trans f') so q
  | bad => exact h
def tS (K : PySem.W.Frag) (E : XP) (den : DenS) : TS := fun D' σ H => ∃ (δ : Slots) (ρ : List Addr) (S : Sto), RpSt K ρ S H δ σ ∧ Sok K ρ S H ∧ PostS K ρ S H (den δ S) D' E
theorem tG_thenS {α β : Type} {K : PySem.W.Frag} {rel : Rl α β} {E : XP} {den : Den α} {k : α → Sto → RS} {δ : Slots} {σ : L2.St} {ρ : List Addr} {S : Sto} {H : Hp} {D' : Ends} {Q' : β → Hp → Prop}
    (st : RpSt K ρ S H δ σ) (so : Sok K ρ S H) (h : PostS K ρ S H ((den δ S).thenS δ k) D' E)
    (hk : ∀ (a : α) (S1 : Sto) (b : β) (ρ1 : List Addr) (H1 : Hp), Fwd ρ S H ρ1 S1 H1 → RpSt K ρ1 S1 H1 δ σ → Sok K ρ1 S1 H1 → rel ρ1 S1 H1 a b → PostS K ρ1 S1 H1 (k a S1) D' E → Q' b H1) : tG K rel E den σ H Q' := by
  refine ⟨δ, ρ, S, st, so, ?_⟩
  cases e : den δ S with
  | ok a S1 =>
    rw [e] at h
    exact fun b ρ1 H1 f so1 q => hk a S1 b ρ1 H1 f (f.st st) so1 q (PostS.later f h)
  | exc c ds S1 => rw [e] at h; exact fun ρ1 H1 f so1 => h σ ρ1 H1 f so1 (f.st st)
  | bad => rw [e] at h; exact h

/-! ### weaker readings -/
section
variable {X : Cx}
theorem pe_mono {e : Expr} {t t' : TE} (h : PE X e t) (w : ∀ σ H Q, t' σ H Q → t σ H Q) : PE X e t' := ⟨fun pins s σ H Q I q => h.run pins s σ H Q I (w σ H Q q)⟩
theorem pt_mono {e : Expr} {t t' : TT} (h : PT X e t) (w : ∀ σ H Q, t' σ H Q → t σ H Q) : PT X e t' := ⟨fun pins s σ H Q I q => h.run pins s σ H Q I (w σ H Q q)⟩
theorem pw_mono {e : Expr} {t t' : TT} (h : PW X e t) (w : ∀ σ H Q, t' σ H Q → t σ H Q) : PW X e t' := ⟨fun wh pins s σ H Q I q => h.run wh pins s σ H Q I (w σ H Q q)⟩
theorem pa_mono {es : List Expr} {t t' : TA} (h : PA X es t) (w : ∀ σ H Q, t' σ H Q → t σ H Q) : PA X es t' := ⟨fun pos pins s σ H Q I q => h.run pos pins s σ H Q I (w σ H Q q)⟩
theorem ps_mono {e : Stmt} {t t' : TS} (h : PS X e t) (w : ∀ D' σ H, t' D' σ H → t D' σ H) : PS X e t' := ⟨fun pins s σ H Q I q => h.run pins s σ H Q I (w Q σ H q)⟩
theorem pss_mono {e : List Stmt} {t t' : TS} (h : PSs X e t) (w : ∀ D' σ H, t' D' σ H → t D' σ H) : PSs X e t' := ⟨fun pins s σ H Q I q => h.run pins s σ H Q I (w Q σ H q)⟩
theorem pts_mono {e : List Expr} {t t' : TT} (h : PTs X e t) (w : ∀ σ H Q, t' σ H Q → t σ H Q) : PTs X e t' := ⟨fun pins s σ H Q I q => h.run pins s σ H Q I (w σ H Q q)⟩
end

/-! ### names, constants -/
def cVar (i : Nat) : Den W := fun δ S => match δ[i]? with
  | some (some w) => .ok w S
  | _ => .bad
def cC (d : D) : Den W := fun _ S => .ok (.v d) S
section
variable {X : Cx} {E : XP}
theorem de_of_var {e : Expr} {i : Nat} (h : PE X e (tVar i)) : PE X e (tE X.K E (cVar i)) := pe_mono h fun σ H Q ⟨δ, ρ, S, st, so, p⟩ => by
  unfold cVar at p
  cases q : δ[i]? with
  | none => rw [q] at p; exact p.elim
  | some o =>
    cases o with
    | none => rw [q] at p; exact p.elim
    | some w =>
      rw [q] at p
      obtain ⟨v, h1, h2⟩ := st.2 i w q
      exact ⟨v, h1, p v ρ H Fwd.refl so h2⟩
theorem de_of_c {e : Expr} {d : D} {v : V} (h : PE X e (tC v)) (r : ∀ H M, Rp X.K H M d v) : PE X e (tE X.K E (cC d)) := pe_mono h fun σ H Q ⟨δ, ρ, S, st, so, p⟩ => p v ρ H Fwd.refl so (r H _)
theorem de_var (i : Nat) {x : Str} {pos : Pos} (hN : X.N[i]? = some x := by rfl) (hv : Vis X.env.scope x := by first | exact Or.inl rfl | exact Or.inr (Or.inl rfl) | exact Or.inr (Or.inr rfl)) (hd : (x == ("__debug__" : Str)) = false := by decide)
    (hcd : (x == ("__classdict__" : Str)) = false := by decide) : PE X (.Name x pos) (tE X.K E (cVar i)) := de_of_var (pe_var hN hv hd hcd)
theorem de_int {i j pos} : PE X (.Constant (.int i) j pos) (tE X.K E (cC (.int i))) := de_of_c pe_int fun _ _ => .int i
theorem de_bl {b j pos} : PE X (.Constant (.bool b) j pos) (tE X.K E (cC (.bl b))) := de_of_c pe_bl fun _ _ => .bl b
theorem de_non {j pos} : PE X (.Constant .none j pos) (tE X.K E (cC .non)) := de_of_c pe_non fun _ _ => .non
theorem de_str (t : Tx) {x j pos} (h : x = sx t := by decide +kernel) : PE X (.Constant (.str x) j pos) (tE X.K E (cC (.str t))) := by
  subst h
  exact de_of_c pe_str fun _ _ => .str t
theorem de_glob {x : Str} {d : D} {v : V} {u : Value} {pos : Pos} (hm : X.mg x = some u) (r : RelV v u) (h : ∀ H M, Rp X.K H M d v) (hg : Gl X x := by rfl) (hd : (x == ("__debug__" : Str)) = false := by decide) :
    PE X (.Name x pos) (tE X.K E (cC d)) := de_of_c (pe_glob hg hm r hd) h
theorem de_type {x : Str} (T : Ty) {pos : Pos} (hm : X.mg x = none) (hv : bootBuiltins x = some (.type T.nm)) (hg : Gl X x := by rfl) (hn : x ≠ "__name__" := by decide) (hd : (x == ("__debug__" : Str)) = false := by decide) :
    PE X (.Name x pos) (tE X.K E (cC (.ty T))) := de_of_c (pe_bltn hg hm hv (v := .ty T.nm) rfl hn hd) fun _ _ => .ty T

/-! ### arguments -/
def cNil : Den (List W) := fun _ S => .ok [] S
def cCons (a : Den W) (b : Den (List W)) : Den (List W) := fun δ S => (a δ S).bind fun w S1 => (b δ S1).bind fun ws S2 => .ok (w :: ws) S2
theorem da_nil : PA X [] (tA X.K E cNil) := pa_mono pa_nil fun σ H Q ⟨δ, ρ, S, st, so, p⟩ => p [] ρ H Fwd.refl so .nil
end
end Fro

namespace Fro
open PySem PySem.Spec L2

section
variable {X : Cx} {E : XP}
theorem da_cons {e : Expr} {es : List Expr} {a : Den W} {b : Den (List W)} (ha : PE X e (tE X.K E a)) (hr : PA X es (tA X.K E b)) (hs : starEach (e :: es) X.env = (false, eval e X.env) :: starEach es X.env := by rfl) :
    PA X (e :: es) (tA X.K E (cCons a b)) := pa_mono (pa_cons ha hr hs) fun σ H Q ⟨δ, ρ, S, st, so, p⟩ =>
  tG_then st so p fun w S1 v ρ1 H1 f1 st1 so1 r1 p1 => tG_then st1 so1 p1 fun ws S2 vs ρ2 H2 f2 st2 so2 r2 p2 => p2 (v :: vs) ρ2 H2 Fwd.refl so2 (.cons (f2.rw r1) r2)

/-! ### displays -/
def toD : W → Option D
  | .v d => some d
  | _ => none
def toDs : List W → Option (List D)
  | [] => some []
  | w :: ws => match toD w, toDs ws with
    | some d, some ds => some (d :: ds)
    | _, _ => none
theorem toD_rp {K : PySem.W.Frag} {ρ : List Addr} {S : Sto} {H : Hp} {w : W} {v : V} {d : D} (h : RpW K ρ S H w v) (e : toD w = some d) : Rp K H (live ρ S) d v := by
  cases w with
  | v d' => cases e; exact h
  | r i => cases e
  | s ns => cases e
  | lk es => cases e
theorem toDs_rp {K : PySem.W.Frag} {ρ : List Addr} {S : Sto} {H : Hp} : ∀ {ws : List W} {vs : List V} {ds : List D}, RpWs K ρ S H ws vs → toDs ws = some ds → RpL K H (live ρ S) ds vs
  | _, _, ds, .nil, e => by cases e; exact .nil
  | w :: ws, _, ds, .cons a b, e => by
    unfold toDs at e
    cases q1 : toD w with
    | none => rw [q1] at e; simp at e
    | some d =>
      cases q2 : toDs ws with
      | none => rw [q1, q2] at e; simp at e
      | some ds' =>
        rw [q1, q2] at e
        cases e
        exact .cons (toD_rp a q1) (toDs_rp b q2)
theorem le1000 {n : Nat} (h : n ≤ 1000) : n ≤ sizeLine := Nat.le_of_lt (small1000 h)
def cDisp (mk : List D → Sto → R W) (a : Den (List W)) : Den W := fun δ S => (a δ S).bind fun ws S1 => match toDs ws with
  | some ds => if ds.length ≤ 1000 then mk ds S1 else .bad
  | none => .bad
def cTup (a : Den (List W)) : Den W := cDisp (fun ds S => .ok (.v (.tup ds)) S) a
def cLst (a : Den (List W)) : Den W := cDisp (fun ds S => .ok (.v (.lst ds)) S) a
def cLstM (a : Den (List W)) : Den W := cDisp (fun ds S => .ok (.r S.length) (S ++ [.lst ds])) a
theorem disp_then {mk : List D → Sto → R W} {a : Den (List W)} {σ : L2.St} {H : Hp} {Q : VK} {Q' : List V → Hp → Prop} {K : PySem.W.Frag} (h : tE K E (cDisp mk a) σ H Q)
    (hk : ∀ (ds : List D) (S1 : Sto) (vs : List V) (ρ1 : List Addr) (H1 : Hp), Sok K ρ1 S1 H1 → RpL K H1 (live ρ1 S1) ds vs → vs.length ≤ sizeLine → Post K (RpW K) ρ1 S1 H1 (mk ds S1) Q (E σ) → Q' vs H1) : tA K E a σ H Q' := by
  obtain ⟨δ, ρ, S, st, so, p⟩ := h
  refine tG_then st so p fun ws S1 vs ρ1 H1 f1 st1 so1 r1 p1 => ?_
  cases q : toDs ws with
  | none => simp only [q] at p1; exact p1.elim
  | some ds =>
    have rl := toDs_rp r1 q
    by_cases hl : ds.length ≤ 1000
    · simp only [q, if_pos hl] at p1
      exact hk ds S1 vs ρ1 H1 so1 rl (by rw [← rl.length]; exact le1000 hl) p1
    · simp only [q, if_neg hl] at p1
      exact p1.elim
theorem de_tup {es : List Expr} {k : Nat} {pos : Pos} {a : Den (List W)} (h : PA X es (tA X.K E a)) (hd : ∀ t, PA X es t → PE X (.Tuple es k pos) (tTup t) := by exact fun _ h => pe_tup h) : PE X (.Tuple es k pos) (tE X.K E (cTup a)) := pe_mono (hd _ h) fun σ H Q q =>
  disp_then q fun ds S1 vs ρ1 H1 so1 rl hl p1 => ⟨hl, fun p np => p1 (.ref p) ρ1 _ (Fwd.laid so1 np) (so1.laid np) (Rp.tup (SqT.of upd_same) ((Fwd.laid so1 np).rpL rl))⟩
theorem de_lst {es : List Expr} {pos : Pos} {a : Den (List W)} (h : PA X es (tA X.K E a)) (hd : ∀ t, PA X es t → PE X (.List es pos) (tLst t) := by exact fun _ h => pe_lst h) : PE X (.List es pos) (tE X.K E (cLst a)) := pe_mono (hd _ h) fun σ H Q q =>
  disp_then q fun ds S1 vs ρ1 H1 so1 rl hl p1 => ⟨hl, fun p np => p1 (.ref p) ρ1 _ (Fwd.laid so1 np) (so1.laid np) (Rp.lst upd_same (so1.notNone np) ((Fwd.laid so1 np).rpL rl))⟩
theorem de_lstM {es : List Expr} {pos : Pos} {a : Den (List W)} (h : PA X es (tA X.K E a)) (hd : ∀ t, PA X es t → PE X (.List es pos) (tLst t) := by exact fun _ h => pe_lst h) : PE X (.List es pos) (tE X.K E (cLstM a)) := pe_mono (hd _ h) fun σ H Q q =>
  disp_then q fun ds S1 vs ρ1 H1 so1 rl hl p1 => ⟨hl, fun p np => by
    have fw : Fwd ρ1 S1 H1 (ρ1 ++ [p]) (S1 ++ [.lst ds]) (upd H1 p (.lst vs)) := Fwd.grown so1 np _
    refine p1 (.ref p) (ρ1 ++ [p]) _ fw (so1.grown np _ ⟨vs, upd_same, fw.rpL rl⟩) ⟨p, rfl, ?_⟩
    rw [List.getElem?_append_right (by rw [so1.len]; exact Nat.le_refl _), so1.len]
    simp⟩

/-! ### tests -/
def asB (w : W) (S : Sto) : R Bool := match w with
  | .v (.bl b) => .ok b S
  | _ => .bad
def cB (a : Den W) : Den Bool := fun δ S => (a δ S).bind asB
def cAnd (a b : Den Bool) : Den Bool := fun δ S => (a δ S).bind fun c S1 => if c then b δ S1 else .ok false S1
def cOr (a b : Den Bool) : Den Bool := fun δ S => (a δ S).bind fun c S1 => if c then .ok true S1 else b δ S1
def cNot (a : Den Bool) : Den Bool := fun δ S => (a δ S).bind fun c S1 => .ok (!c) S1
def cVal (a : Den Bool) : Den W := fun δ S => (a δ S).bind fun c S1 => .ok (.v (.bl c)) S1
theorem asB_post {K : PySem.W.Frag} {ρ : List Addr} {S : Sto} {H : Hp} {w : W} {v : V} {Q : Bool → Hp → Prop} {Ex} (so : Sok K ρ S H) (r : RpW K ρ S H w v) (p : Post K (fun _ _ _ a b => a = b) ρ S H (asB w S) Q Ex) : ∃ c, v = .bl c ∧ Q c H := by
  cases w with
  | v d =>
    cases d with
    | bl b => cases r; exact ⟨b, rfl, p b ρ H Fwd.refl so rfl⟩
    | _ => exact p.elim
  | r i => exact p.elim
  | s ns => exact p.elim
  | lk es => exact p.elim
theorem dt_val {e : Expr} {a : Den W} (h : PE X e (tE X.K E a)) (he : ∀ whole, isTrue e X.env whole = (do let v ← whole; standAt e.pos; holding [v] (truthy v)) := by intro _; rfl) : PT X e (tT X.K E (cB a)) :=
  pt_mono (pt_val h he) fun σ H Q ⟨δ, ρ, S, st, so, p⟩ => tG_then st so p fun w S1 v ρ1 H1 f1 st1 so1 r1 p1 => asB_post so1 r1 p1
theorem dt_not {e : Expr} {pos : Pos} {a : Den Bool} (h : PT X e (tT X.K E a)) : PT X (.UnaryOp .Not e pos) (tT X.K E (cNot a)) :=
  pt_mono (pt_not h) fun σ H Q ⟨δ, ρ, S, st, so, p⟩ => tG_then st so p fun w S1 v ρ1 H1 f1 st1 so1 r1 p1 => by cases r1; exact p1 _ ρ1 H1 Fwd.refl so1 rfl
theorem dw_and1 {e : Expr} {pos : Pos} {a : Den Bool} (h : PT X e (tT X.K E a)) : PW X (.BoolOp .And [e] pos) (tT X.K E a) := pw_and1 h
theorem dw_or1 {e : Expr} {pos : Pos} {a : Den Bool} (h : PT X e (tT X.K E a)) : PW X (.BoolOp .Or [e] pos) (tT X.K E a) := pw_or1 h
theorem dw_and {e e' : Expr} {rest : List Expr} {pos : Pos} {a b : Den Bool} (h : PT X e (tT X.K E a)) (h' : PW X (.BoolOp .And (e' :: rest) pos) (tT X.K E b)) : PW X (.BoolOp .And (e :: e' :: rest) pos) (tT X.K E (cAnd a b)) :=
  pw_mono (pw_and h h') fun σ H Q ⟨δ, ρ, S, st, so, p⟩ => tG_then st so p fun c S1 v ρ1 H1 f1 st1 so1 r1 p1 => by
    cases r1
    cases c with
    | true => rw [if_pos rfl]; exact ⟨δ, ρ1, S1, st1, so1, p1⟩
    | false => rw [if_neg Bool.false_ne_true]; exact p1 _ ρ1 H1 Fwd.refl so1 rfl
theorem dw_or {e e' : Expr} {rest : List Expr} {pos : Pos} {a b : Den Bool} (h : PT X e (tT X.K E a)) (h' : PW X (.BoolOp .Or (e' :: rest) pos) (tT X.K E b)) : PW X (.BoolOp .Or (e :: e' :: rest) pos) (tT X.K E (cOr a b)) :=
  pw_mono (pw_or h h') fun σ H Q ⟨δ, ρ, S, st, so, p⟩ => tG_then st so p fun c S1 v ρ1 H1 f1 st1 so1 r1 p1 => by
    cases r1
    cases c with
    | true => rw [if_pos rfl]; exact p1 _ ρ1 H1 Fwd.refl so1 rfl
    | false => rw [if_neg Bool.false_ne_true]; exact ⟨δ, ρ1, S1, st1, so1, p1⟩
/-- as values -/
def cAndV (a b : Den W) : Den W := fun δ S => (a δ S).bind fun w S1 => (asB w S1).bind fun c S2 => if c then b δ S2 else .ok (.v (.bl false)) S2
def cOrV (a b : Den W) : Den W := fun δ S => (a δ S).bind fun w S1 => (asB w S1).bind fun c S2 => if c then .ok (.v (.bl true)) S2 else b δ S2
def cNotV (a : Den W) : Den W := fun δ S => (a δ S).bind fun w S1 => (asB w S1).bind fun c S2 => .ok (.v (.bl (!c))) S2
theorem asB_then {K : PySem.W.Frag} {α β : Type} {rel : Rl α β} {ρ : List Addr} {S : Sto} {H : Hp} {w : W} {v : V} {k : Bool → Sto → R α} {Q : β → Hp → Prop} {Ex} (r : RpW K ρ S H w v) (p : Post K rel ρ S H ((asB w S).bind k) Q Ex) : ∃ c, v = .bl c ∧ Post K rel ρ S H (k c S) Q Ex := by
  cases w with
  | v d =>
    cases d with
    | bl b => cases r; exact ⟨b, rfl, p⟩
    | _ => exact p.elim
  | r i => exact p.elim
  | s ns => exact p.elim
  | lk es => exact p.elim
theorem de_one {op : BoolOp} {e : Expr} {pos : Pos} {a : Den W} (h : PE X e (tE X.K E a)) : PE X (.BoolOp op [e] pos) (tE X.K E a) := pe_one h
theorem de_and {e e' : Expr} {rest : List Expr} {pos : Pos} {a b : Den W} (h : PE X e (tE X.K E a)) (h' : PE X (.BoolOp .And (e' :: rest) pos) (tE X.K E b)) : PE X (.BoolOp .And (e :: e' :: rest) pos) (tE X.K E (cAndV a b)) :=
  pe_mono (pe_and h h') fun σ H Q ⟨δ, ρ, S, st, so, p⟩ => tG_then st so p fun w S1 v ρ1 H1 f1 st1 so1 r1 p1 => by
    obtain ⟨c, rfl, p2⟩ := asB_then r1 p1
    refine ⟨c, rfl, ?_⟩
    cases c with
    | true => rw [if_pos rfl]; exact ⟨δ, ρ1, S1, st1, so1, p2⟩
    | false => rw [if_neg Bool.false_ne_true]; exact p2 _ ρ1 H1 Fwd.refl so1 (.bl false)
theorem de_or {e e' : Expr} {rest : List Expr} {pos : Pos} {a b : Den W} (h : PE X e (tE X.K E a)) (h' : PE X (.BoolOp .Or (e' :: rest) pos) (tE X.K E b)) : PE X (.BoolOp .Or (e :: e' :: rest) pos) (tE X.K E (cOrV a b)) :=
  pe_mono (pe_or h h') fun σ H Q ⟨δ, ρ, S, st, so, p⟩ => tG_then st so p fun w S1 v ρ1 H1 f1 st1 so1 r1 p1 => by
    obtain ⟨c, rfl, p2⟩ := asB_then r1 p1
    refine ⟨c, rfl, ?_⟩
    cases c with
    | true => rw [if_pos rfl]; exact p2 _ ρ1 H1 Fwd.refl so1 (.bl true)
    | false => rw [if_neg Bool.false_ne_true]; exact ⟨δ, ρ1, S1, st1, so1, p2⟩
theorem de_not {e : Expr} {pos : Pos} {a : Den W} (h : PE X e (tE X.K E a)) : PE X (.UnaryOp .Not e pos) (tE X.K E (cNotV a)) :=
  pe_mono (pe_not h) fun σ H Q ⟨δ, ρ, S, st, so, p⟩ => tG_then st so p fun w S1 v ρ1 H1 f1 st1 so1 r1 p1 => by
    obtain ⟨c, rfl, p2⟩ := asB_then r1 p1
    exact ⟨c, rfl, p2 _ ρ1 H1 Fwd.refl so1 (.bl _)⟩
def cIf (t : Den Bool) (a b : Den W) : Den W := fun δ S => (t δ S).bind fun c S1 => if c then a δ S1 else b δ S1
theorem de_if {c e e' : Expr} {pos : Pos} {t : Den Bool} {a b : Den W} (hc : PT X c (tT X.K E t)) (h : PE X e (tE X.K E a)) (h' : PE X e' (tE X.K E b)) : PE X (.IfExp c e e' pos) (tE X.K E (cIf t a b)) :=
  pe_mono (pe_ifExp hc h h') fun σ H Q ⟨δ, ρ, S, st, so, p⟩ => tG_then st so p fun c S1 v ρ1 H1 f1 st1 so1 r1 p1 => by
    cases r1
    cases c with
    | true => rw [if_pos rfl]; exact ⟨δ, ρ1, S1, st1, so1, p1⟩
    | false => rw [if_neg Bool.false_ne_true]; exact ⟨δ, ρ1, S1, st1, so1, p1⟩
/-- code that is never reached -/
theorem de_dead {e : Expr} : PE X e (tE X.K E fun _ _ => .bad) := ⟨fun _ _ _ _ _ _ ⟨_, _, _, _, _, p⟩ => p.elim⟩

/-! ### blocks -/
def cNx : DenS := fun δ S => .nx δ S
def cSeq (a b : DenS) : DenS := fun δ S => match a δ S with
  | .nx δ' S' => b δ' S'
  | r => r
def cBad : DenS := fun _ _ => .bad
theorem ds_dead {s : Stmt} : PS X s (tS X.K E cBad) := ⟨fun _ _ _ _ _ _ ⟨_, _, _, _, _, p⟩ => p.elim⟩
theorem dss_dead {s : List Stmt} : PSs X s (tS X.K E cBad) := ⟨fun _ _ _ _ _ _ ⟨_, _, _, _, _, p⟩ => p.elim⟩
theorem dss_nil : PSs X [] (tS X.K E cNx) := pss_mono pss_nil fun D' σ H ⟨δ, ρ, S, st, so, p⟩ => p σ ρ H Fwd.refl so st
theorem dss_one {s : Stmt} {a : DenS} (h : PS X s (tS X.K E a)) : PSs X [s] (tS X.K E a) := pss_one h
theorem dss_cons {s : Stmt} {r : List Stmt} {a b : DenS} (h : PS X s (tS X.K E a)) (h' : PSs X r (tS X.K E b)) : PSs X (s :: r) (tS X.K E (cSeq a b)) :=
  pss_mono (pss_cons h h') fun D' σ H ⟨δ, ρ, S, st, so, p⟩ => by
    refine ⟨δ, ρ, S, st, so, ?_⟩
    unfold cSeq at p
    cases q : a δ S with
    | nx δ' S' =>
      simp only [q] at p
      exact fun σ' ρ' H' f so' st' => ⟨δ', ρ', S', st', so', PostS.later f p⟩
    | rt w S' => simp only [q] at p; exact p
    | bk w S' => simp only [q] at p; exact p
    | ct w S' => simp only [q] at p; exact p
    | xc c ds w S' => simp only [q] at p; exact p
    | bad => simp only [q] at p; exact p
def cRet (a : Den W) : DenS := fun δ S => (a δ S).thenS δ fun w S1 => .rt w S1
def cRetN : DenS := fun _ S => .rt (.v .non) S
def cExpr (a : Den W) : DenS := fun δ S => (a δ S).thenS δ fun _ S1 => .nx δ S1
def cIfS (t : Den Bool) (a b : DenS) : DenS := fun δ S => (t δ S).thenS δ fun c S1 => if c then a δ S1 else b δ S1
def cBrk : DenS := fun δ S => .bk δ S
def cCt : DenS := fun δ S => .ct δ S
theorem ds_ret {e : Expr} {pos : Pos} {a : Den W} (h : PE X e (tE X.K E a)) : PS X (.Return (some e) pos) (tS X.K E (cRet a)) :=
  ps_mono (ps_ret h) fun D' σ H ⟨δ, ρ, S, st, so, p⟩ => tG_thenS st so p fun w S1 v ρ1 H1 f1 st1 so1 r1 p1 => p1 v ρ1 H1 Fwd.refl so1 r1
theorem ds_retN {pos : Pos} : PS X (.Return none pos) (tS X.K E cRetN) := ps_mono ps_retN fun D' σ H ⟨δ, ρ, S, st, so, p⟩ => p .non ρ H Fwd.refl so .non
theorem ds_expr {e : Expr} {pos : Pos} {a : Den W} (h : PE X e (tE X.K E a)) (hs : swapsWith e none pos.line X.env = pure false := by rfl) : PS X (.Expr e pos) (tS X.K E (cExpr a)) :=
  ps_mono (ps_expr h hs) fun D' σ H ⟨δ, ρ, S, st, so, p⟩ => tG_thenS st so p fun w S1 v ρ1 H1 f1 st1 so1 r1 p1 => p1 σ ρ1 H1 Fwd.refl so1 st1
theorem ds_if {c : Expr} {u u' : List Stmt} {pos : Pos} {t : Den Bool} {a b : DenS} (hc : PT X c (tT X.K E t)) (h : PSs X u (tS X.K E a)) (h' : PSs X u' (tS X.K E b)) : PS X (.If c u u' pos) (tS X.K E (cIfS t a b)) :=
  ps_mono (ps_if hc h h') fun D' σ H ⟨δ, ρ, S, st, so, p⟩ => tG_thenS st so p fun c S1 v ρ1 H1 f1 st1 so1 r1 p1 => by
    cases r1
    cases c with
    | true => rw [if_pos rfl]; exact ⟨δ, ρ1, S1, st1, so1, p1⟩
    | false => rw [if_neg Bool.false_ne_true]; exact ⟨δ, ρ1, S1, st1, so1, p1⟩
theorem ds_pass {pos : Pos} : PS X (.Pass pos) (tS X.K E cNx) := ps_mono ps_pass fun D' σ H ⟨δ, ρ, S, st, so, p⟩ => p σ ρ H Fwd.refl so st
theorem ds_brk {pos : Pos} : PS X (.Break pos) (tS X.K E cBrk) := ps_mono ps_break fun D' σ H ⟨δ, ρ, S, st, so, p⟩ => p σ ρ H Fwd.refl so st
theorem ds_ct {pos : Pos} : PS X (.Continue pos) (tS X.K E cCt) := ps_mono ps_continue fun D' σ H ⟨δ, ρ, S, st, so, p⟩ => p σ ρ H Fwd.refl so st
theorem ds_doc {x j pos pos'} : PS X (.Expr (.Constant (.str x) j pos) pos') (tS X.K E cNx) := ps_mono ps_doc fun D' σ H ⟨δ, ρ, S, st, so, p⟩ => p σ ρ H Fwd.refl so st

/-! ### targets -/
abbrev DenG := W → Slots → Sto → Option (Slots × Sto)
/-- the target's reading is served by a denotation that changes the slots ts alone -/
def GOk (K : PySem.W.Frag) (g : TG) (dg : DenG) (ts : List Nat) : Prop := ∀ (ρ : List Addr) (S : Sto) (H : Hp) (δ : Slots) (σ : L2.St) (w : W) (v : V) (Q : L2.St → Hp → Prop) (δ' : Slots) (S' : Sto),
  RpSt K ρ S H δ σ → Sok K ρ S H → RpW K ρ S H w v → dg w δ S = some (δ', S') →
  (∀ (σ' : L2.St) (ρ' : List Addr) (H' : Hp), Fwd ρ S H ρ' S' H' → Sok K ρ' S' H' → RpSt K ρ' S' H' δ' σ' → σ'.length = σ.length → (∀ j, j ∉ ts → σ'[j]? = σ[j]?) → Q σ' H') → g v σ H Q
def gN (i : Nat) : DenG := fun w δ S => some (δ.set i (some w), S)
theorem gok_name {K : PySem.W.Frag} (i : Nat) : GOk K (gName i) (gN i) [i] := fun ρ S H δ σ w v Q δ' S' st so r e h => by
  cases e
  exact h _ ρ H Fwd.refl so (st.set i r) (by rw [List.length_set]) fun j hj => List.getElem?_set_ne (fun z => hj (by rw [z]; exact List.mem_singleton.mpr rfl))
abbrev DenGs := List D → Slots → Sto → Option (Slots × Sto)
def GsOk (K : PySem.W.Frag) (g : TGs) (dg : DenGs) (ts : List Nat) : Prop := ∀ (ρ : List Addr) (S : Sto) (H : Hp) (δ : Slots) (σ : L2.St) (ds : List D) (vs : List V) (Q : L2.St → Hp → Prop) (δ' : Slots) (S' : Sto),
  RpSt K ρ S H δ σ → Sok K ρ S H → RpL K H (live ρ S) ds vs → dg ds δ S = some (δ', S') →
  (∀ (σ' : L2.St) (ρ' : List Addr) (H' : Hp), Fwd ρ S H ρ' S' H' → Sok K ρ' S' H' → RpSt K ρ' S' H' δ' σ' → σ'.length = σ.length → (∀ j, j ∉ ts → σ'[j]? = σ[j]?) → Q σ' H') → g vs σ H Q
def gsNil : DenGs := fun ds δ S => match ds with
  | [] => some (δ, S)
  | _ => none
def gsCons (a : DenG) (b : DenGs) : DenGs := fun ds δ S => match ds with
  | d :: r => match a (.v d) δ S with
    | some (δ1, S1) => b r δ1 S1
    | none => none
  | [] => none
theorem gsok_nil {K : PySem.W.Frag} : GsOk K gNil gsNil [] := fun ρ S H δ σ ds vs Q δ' S' st so r e h => by
  cases ds with
  | nil => cases e; cases r; exact ⟨rfl, h σ ρ H Fwd.refl so st rfl fun _ _ => rfl⟩
  | cons d r => cases e
theorem gsok_cons {K : PySem.W.Frag} {g : TG} {gs : TGs} {a : DenG} {b : DenGs} {t1 t2 : List Nat} (h1 : GOk K g a t1) (h2 : GsOk K gs b t2) : GsOk K (gCons g gs) (gsCons a b) (t1 ++ t2) := fun ρ S H δ σ ds vs Q δ' S' st so r e h => by
  cases r with
  | nil => cases e
  | @cons d r v vs rd rr =>
    unfold gsCons at e
    cases q : a (.v d) δ S with
    | none => simp only [q] at e; cases e
    | some z =>
      obtain ⟨δ1, S1⟩ := z
      simp only [q] at e
      exact ⟨v, vs, rfl, h1 ρ S H δ σ (.v d) v _ δ1 S1 st so rd q fun σ1 ρ1 H1 f1 so1 st1 l1 k1 => h2 ρ1 S1 H1 δ1 σ1 r vs Q δ' S' st1 so1 (f1.rpL rr) e fun σ2 ρ2 H2 f2 so2 st2 l2 k2 =>
        h σ2 ρ2 H2 (f1.trans f2) so2 st2 (l2.trans l1) fun j hj => (k2 j fun z => hj (List.mem_append_right _ z)).trans (k1 j fun z => hj (List.mem_append_left _ z))⟩
def gT (n : Nat) (b : DenGs) : DenG := fun w δ S => match w with
  | .v (.tup ds) => if ds.length = n then b ds δ S else none
  | _ => none
theorem gok_tup {K : PySem.W.Frag} {n : Nat} {gs : TGs} {b : DenGs} {ts : List Nat} (h : GsOk K gs b ts) : GOk K (gTup K n gs) (gT n b) ts := fun ρ S H δ σ w v Q δ' S' st so r e hq => by
  unfold gT at e
  cases w with
  | r i => cases e
  | s ns => cases e
  | lk es => cases e
  | v d =>
    cases d with
    | tup ds =>
      by_cases hl : ds.length = n
      · simp only [if_pos hl] at e
        cases r with
        | tup sq rl => exact ⟨_, _, rfl, sq, by rw [← rl.length]; exact hl, h ρ S H δ σ ds _ Q δ' S' st so rl e hq⟩
      · simp only [if_neg hl] at e; cases e
    | _ => cases e
def cAsg (a : Den W) (dg : DenG) : DenS := fun δ S => (a δ S).thenS δ fun w S1 => match dg w δ S1 with
  | some (δ', S') => .nx δ' S'
  | none => .bad
theorem asg_post {K : PySem.W.Frag} {g : TG} {dg : DenG} {ts : List Nat} (hg : GOk K g dg ts) {ρ : List Addr} {S : Sto} {H : Hp} {δ : Slots} {σ : L2.St} {w : W} {v : V} {D' : Ends} (st : RpSt K ρ S H δ σ) (so : Sok K ρ S H) (r : RpW K ρ S H w v)
    (p : PostS K ρ S H (match dg w δ S with | some (δ', S') => .nx δ' S' | none => .bad) D' E) : g v σ H D'.nx := by
  cases q : dg w δ S with
  | none => rw [q] at p; exact p.elim
  | some z =>
    obtain ⟨δ', S'⟩ := z
    rw [q] at p
    exact hg ρ S H δ σ w v _ δ' S' st so r q fun σ' ρ' H' f so' st' _ _ => p σ' ρ' H' f so' st'
theorem ds_asg {tg e : Expr} {pos : Pos} {a : Den W} {g : TG} {dg : DenG} {ts : List Nat} (he : PE X e (tE X.K E a)) (hp : PG X tg g) (hg : GOk X.K g dg ts) (hs : swapsWithSole [tg] e pos.line X.env = pure false := by rfl) (hw : swappedStores [tg] e X.env = pure none := by rfl)
    (h1 : (assignEach [tg] X.env).map (·.2) = [assign tg X.env] := by rfl) : PS X (.Assign [tg] e pos) (tS X.K E (cAsg a dg)) :=
  ps_mono (ps_asg he hp hs hw h1) fun D' σ H ⟨δ, ρ, S, st, so, p⟩ => tG_thenS st so p fun w S1 v ρ1 H1 f1 st1 so1 r1 p1 => asg_post hg st1 so1 r1 p1
theorem ds_set (i : Nat) {x : Str} {e : Expr} {pos pos' : Pos} {a : Den W} (hN : X.N.Nodup) (he : PE X e (tE X.K E a)) (hx : Loc X.env.scope x := by first | exact Or.inl rfl | exact Or.inr rfl) (hi : X.N[i]? = some x := by rfl)
    (hs : swapsWith e (some (.Name x pos')) pos.line X.env = pure false := by rfl) (hf : X.fn x = true ∨ X.env.scope.names.lookup x = some .local := by first | exact .inl rfl | exact .inr rfl | assumption) : PS X (.Assign [.Name x pos'] e pos) (tS X.K E (cAsg a (gN i))) :=
  ps_mono (ps_set hN hi hx he hs hf) fun D' σ H ⟨δ, ρ, S, st, so, p⟩ => tG_thenS st so p fun w S1 v ρ1 H1 f1 st1 so1 r1 p1 => asg_post (gok_name i) st1 so1 r1 p1
end
end Fro

namespace Fro
open PySem PySem.Spec L2

/-! ### what is walked -/
/-- an iterator that gives the data ds, one a turn, while the heap goes on -/
def Jok (K : PySem.W.Frag) : Rl (List D) It := fun ρ S H ds J => ∀ (i : Nat) (ρ' : List Addr) (S' : Sto) (H' : Hp), Fwd ρ S H ρ' S' H' → Sok K ρ' S' H' →
  (∀ d, ds[i]? = some d → J.go i H' ∧ ∀ x H'', J.yld i H' x H'' → Fwd ρ' S' H' ρ' S' H'' ∧ Sok K ρ' S' H'' ∧ Rp K H'' (live ρ' S') d x) ∧ (ds.length ≤ i → J.stop i H')
abbrev tI (K : PySem.W.Frag) (E : XP) (den : Den (List D)) : TI := tG K (Jok K) E den
theorem jok_list {K : PySem.W.Frag} {ρ : List Addr} {S : Sto} {H : Hp} {a : Addr} {xs : List V} {ds : List D} (h : H a = some (.lst xs)) (n : ¬ live ρ S a) (r : RpL K H (live ρ S) ds xs) : Jok K ρ S H ds (Itl K a) := fun i ρ' S' H' f so => by
  have sq : SqL K H' a xs := SqL.of (f.keep _ _ n h)
  have r' := f.rpL r
  refine ⟨fun d e => ?_, fun hl => ⟨xs, sq, by rw [← r.length]; exact hl⟩⟩
  obtain ⟨v, hv, rv⟩ := r'.get i e
  refine ⟨⟨xs, v, sq, hv⟩, fun x H'' y => ?_⟩
  obtain ⟨rfl, fx⟩ := y
  have ex : v = x := Option.some.inj (hv.symm.trans (fx xs sq))
  subst ex
  exact ⟨Fwd.refl, so, rv⟩
theorem jok_tup {K : PySem.W.Frag} {ρ : List Addr} {S : Sto} {H : Hp} {a : Addr} {xs : List V} {ds : List D} (h : SqT K H a xs) (r : RpL K H (live ρ S) ds xs) : Jok K ρ S H ds (Itt K a) := fun i ρ' S' H' f so => by
  have sq : SqT K H' a xs := sqT_mono f.tups f.frzs h
  have r' := f.rpL r
  refine ⟨fun d e => ?_, fun hl => ⟨xs, sq, by rw [← r.length]; exact hl⟩⟩
  obtain ⟨v, hv, rv⟩ := r'.get i e
  refine ⟨⟨xs, v, sq, hv⟩, fun x H'' y => ?_⟩
  obtain ⟨rfl, fx⟩ := y
  have ex : v = x := Option.some.inj (hv.symm.trans (fx xs sq))
  subst ex
  exact ⟨Fwd.refl, so, rv⟩
def rangeD (lo : Int) : Nat → List D
  | 0 => []
  | n + 1 => .int lo :: rangeD (lo + 1) n
theorem rangeD_length : ∀ (n : Nat) (lo : Int), (rangeD lo n).length = n
  | 0, _ => rfl
  | n + 1, lo => by
    show (rangeD (lo + 1) n).length + 1 = n + 1
    rw [rangeD_length n]
theorem rangeD_get : ∀ (n i : Nat) (lo : Int) (d : D), (rangeD lo n)[i]? = some d → i < n ∧ d = .int (lo + i)
  | 0, _, _, _, e => by simp [rangeD] at e
  | n + 1, 0, lo, d, e => by
    simp [rangeD] at e
    exact ⟨Nat.succ_pos _, by rw [← e]; simp⟩
  | n + 1, i + 1, lo, d, e => by
    have q := rangeD_get n i (lo + 1) d (by simpa [rangeD] using e)
    refine ⟨Nat.succ_lt_succ q.1, ?_⟩
    rw [q.2]
    congr 1
    omega
theorem jok_range {K : PySem.W.Frag} {ρ : List Addr} {S : Sto} {H : Hp} (lo : Int) (n : Nat) : Jok K ρ S H (rangeD lo n) (Itr lo n) := fun i ρ' S' H' f so => by
  refine ⟨fun d e => ?_, fun hl => by rw [rangeD_length] at hl; exact hl⟩
  obtain ⟨h1, rfl⟩ := rangeD_get n i lo d e
  refine ⟨h1, fun x H'' y => ?_⟩
  obtain ⟨rfl, rfl⟩ := y
  exact ⟨Fwd.refl, so, .int _⟩
section
variable {X : Cx} {E : XP} {tg : Expr}
theorem pi_mono {iter : Expr} {t t' : TI} (h : PI X tg iter t) (w : ∀ σ H Q, t' σ H Q → t σ H Q) : PI X tg iter t' := ⟨fun pins s σ H Q I q => h.run pins s σ H Q I (w σ H Q q)⟩
/-- a value that is a list; one that is a tuple -/
def asL (w : W) (S : Sto) : R (List D) := match w with
  | .v (.lst ds) => .ok ds S
  | _ => .bad
def asT (w : W) (S : Sto) : R (List D) := match w with
  | .v (.tup ds) => .ok ds S
  | _ => .bad
def itL (a : Den W) : Den (List D) := fun δ S => (a δ S).bind asL
def itT (a : Den W) : Den (List D) := fun δ S => (a δ S).bind asT
theorem di_list {e : Expr} {a : Den W} (h : PE X e (tE X.K E a)) : PI X tg e (tI X.K E (itL a)) := pi_mono (pi_list h) fun σ H Q ⟨δ, ρ, S, st, so, p⟩ => tG_then st so p fun w S1 v ρ1 H1 f1 st1 so1 r1 p1 => by
  cases w with
  | r i => exact p1.elim
  | s ns => exact p1.elim
  | lk es => exact p1.elim
  | v d =>
    cases d with
    | lst ds =>
      cases r1 with
      | lst e n rl => exact ⟨_, rfl, ⟨_, SqL.of e⟩, p1 _ ρ1 H1 Fwd.refl so1 (jok_list e n rl)⟩
    | _ => exact p1.elim
theorem di_tup {e : Expr} {a : Den W} (h : PE X e (tE X.K E a)) : PI X tg e (tI X.K E (itT a)) := pi_mono (pi_tup h) fun σ H Q ⟨δ, ρ, S, st, so, p⟩ => tG_then st so p fun w S1 v ρ1 H1 f1 st1 so1 r1 p1 => by
  cases w with
  | r i => exact p1.elim
  | s ns => exact p1.elim
  | lk es => exact p1.elim
  | v d =>
    cases d with
    | tup ds =>
      cases r1 with
      | tup e rl => exact ⟨_, rfl, ⟨_, e⟩, p1 _ ρ1 H1 Fwd.refl so1 (jok_tup e rl)⟩
    | _ => exact p1.elim
def asR (ws : List W) (S : Sto) : R (List D) := match ws with
  | [.v (.int n)] => if n < 1000000 then .ok (rangeD 0 n.toNat) S else .bad
  | _ => .bad
def itR (a : Den (List W)) : Den (List D) := fun δ S => (a δ S).bind asR
theorem asR_post {K : PySem.W.Frag} {ρ : List Addr} {S : Sto} {H : Hp} {ws : List W} {vs : List V} {Q : It → Hp → Prop} {Ex} (so : Sok K ρ S H) (r : RpWs K ρ S H ws vs) (p : Post K (Jok K) ρ S H (asR ws S) Q Ex) :
    ∃ n : Int, vs = [.int n] ∧ n < 1000000 ∧ Q (Itr 0 n.toNat) H := by
  unfold asR at p
  split at p
  · rename_i n
    cases r with
    | cons a b =>
      cases b
      cases a
      by_cases h : n < 1000000
      · rw [if_pos h] at p
        exact ⟨n, rfl, h, p _ ρ H Fwd.refl so (jok_range 0 _)⟩
      · rw [if_neg h] at p; exact p.elim
  · exact p.elim
/-- range(n): n from -2^62 on -/
def asR0 (ws : List W) (S : Sto) : R (List D) := match ws with
  | [.v (.int n)] => if 0 ≤ n ∧ n < 1000000 then .ok (rangeD 0 n.toNat) S else .bad
  | _ => .bad
def itR0 (a : Den (List W)) : Den (List D) := fun δ S => (a δ S).bind asR0
theorem di_range {e : Expr} {p pos : Pos} {a : Den (List W)} (hm : X.mg "range" = none) (h : PA X [e] (tA X.K E a)) (hg : Gl X "range" := by rfl) (hs : starEach [e] X.env = [(false, eval e X.env)] := by rfl) :
    PI X tg (.Call (.Name "range" p) [e] [] pos) (tI X.K E (itR0 a)) := pi_mono (pi_range1 hg hm h hs) fun σ H Q ⟨δ, ρ, S, st, so, p⟩ => tG_then st so p fun ws S1 vs ρ1 H1 f1 st1 so1 r1 p1 => by
  unfold asR0 at p1
  split at p1
  · rename_i n
    cases r1 with
    | cons a b =>
      cases b
      cases a
      by_cases h : 0 ≤ n ∧ n < 1000000
      · rw [if_pos h] at p1
        refine ⟨n, rfl, ?_, ?_, p1 _ ρ1 H1 Fwd.refl so1 (jok_range 0 _)⟩
        · have : (0 : Int) ≤ n := h.1
          exact Int.le_trans (by decide) this
        · exact Int.lt_trans h.2 (by decide)
      · rw [if_neg h] at p1; exact p1.elim
  · exact p1.elim

/-! ### for -/
def forL (dg : DenG) (body : DenS) : List D → Slots → Sto → RS
  | [], δ, S => .nx δ S
  | d :: ds, δ, S => match dg (.v d) δ S with
    | none => .bad
    | some (δ1, S1) => match body δ1 S1 with
      | .nx δ2 S2 => forL dg body ds δ2 S2
      | .ct δ2 S2 => forL dg body ds δ2 S2
      | .bk δ2 S2 => .nx δ2 S2
      | r => r
def cFor (it : Den (List D)) (dg : DenG) (body : DenS) : DenS := fun δ S => (it δ S).thenS δ fun ds S1 => forL dg body ds δ S1
theorem ds_for {iter : Expr} {body : List Stmt} {pos : Pos} {it : Den (List D)} {g : TG} {dg : DenG} {ts : List Nat} {b : DenS} (hp : PassesOwn (model X.prog X.w) X.A X.env X.xe) (hc : X.calm = true) (hi : PI X tg iter (tI X.K E it)) (hg : PG X tg g) (hgo : GOk X.K g dg ts)
    (hb : PSs X body (tS X.K E b)) (hs : ∀ x, foldedSetIterable iter X.env x = pure x := by intro _; rfl) : PS X (.For tg iter body [] pos) (tS X.K E (cFor it dg b)) :=
  ps_mono (ps_for hp hc hi hg hb hs) fun D' σ H ⟨δ, ρ, S, st, so, p⟩ => tG_thenS st so p fun ds S1 J ρ1 H1 f1 st1 so1 j1 p1 => by
    refine ⟨fun i m σ' H' => i + m = ds.length ∧ ∃ (δ' : Slots) (ρ' : List Addr) (S' : Sto), Fwd ρ1 S1 H1 ρ' S' H' ∧ RpSt X.K ρ' S' H' δ' σ' ∧ Sok X.K ρ' S' H' ∧ PostS X.K ρ' S' H' (forL dg b (ds.drop i) δ' S') D' E,
      ⟨ds.length, by omega, δ, ρ1, S1, Fwd.refl, st1, so1, by rw [List.drop_zero]; exact p1⟩, fun i m σ' H' hW => ?_⟩
    obtain ⟨em, δ', ρ', S', f', st', so', p'⟩ := hW
    obtain ⟨jg, js⟩ := j1 i ρ' S' H' f' so'
    by_cases hl : i < ds.length
    · have ed : ds.drop i = ds[i] :: ds.drop (i + 1) := List.drop_eq_getElem_cons hl
      rw [ed] at p'
      obtain ⟨g1, g2⟩ := jg ds[i] (List.getElem?_eq_getElem hl)
      refine .inr ⟨g1, fun σ2 H2 => ∃ (δ2 : Slots) (ρ2 : List Addr) (S2 : Sto), Fwd ρ1 S1 H1 ρ2 S2 H2 ∧ RpSt X.K ρ2 S2 H2 δ2 σ2 ∧ Sok X.K ρ2 S2 H2 ∧ PostS X.K ρ2 S2 H2 (forL dg b (ds.drop (i + 1)) δ2 S2) D' E, fun σ2 H2 ⟨δ2, ρ2, S2, a1, a2, a3, a4⟩ => ⟨m - 1, by omega, by omega, δ2, ρ2, S2, a1, a2, a3, a4⟩, fun x H3 y => ?_⟩
      obtain ⟨fy, soy, ry⟩ := g2 x H3 y
      unfold forL at p'
      cases q : dg (.v ds[i]) δ' S' with
      | none => simp only [q] at p'; exact p'.elim
      | some z =>
        obtain ⟨δ3, S3⟩ := z
        simp only [q] at p'
        refine hgo ρ' S' H3 δ' σ' (.v ds[i]) x _ δ3 S3 (fy.st st') soy ry q fun σ4 ρ4 H4 f4 so4 st4 _ _ => ?_
        have p4 := PostS.later (fy.trans f4) p'
        have f14 : Fwd ρ1 S1 H1 ρ4 S3 H4 := f'.trans (fy.trans f4)
        refine ⟨δ3, ρ4, S3, st4, so4, ?_⟩
        cases qb : b δ3 S3 with
        | nx δ5 S5 => simp only [qb] at p4; exact fun σ5 ρ5 H5 f5 so5 st5 => ⟨δ5, ρ5, S5, f14.trans f5, st5, so5, PostS.later f5 p4⟩
        | ct δ5 S5 => simp only [qb] at p4; exact fun σ5 ρ5 H5 f5 so5 st5 => ⟨δ5, ρ5, S5, f14.trans f5, st5, so5, PostS.later f5 p4⟩
        | bk δ5 S5 => simp only [qb] at p4; exact p4
        | rt w S5 => simp only [qb] at p4; exact p4
        | xc c cs w S5 => simp only [qb] at p4; exact p4
        | bad => simp only [qb] at p4; exact p4
    · refine .inl ⟨js (by omega), ?_⟩
      rw [List.drop_eq_nil_of_le (by omega)] at p'
      exact p' σ' ρ' H' Fwd.refl so' st'

/-! ### while -/
def whileN (t : Den Bool) (b : DenS) : Nat → Slots → Sto → RS
  | 0, _, _ => .bad
  | n + 1, δ, S => (t δ S).thenS δ fun c S1 => if c then (match b δ S1 with
      | .nx δ2 S2 => whileN t b n δ2 S2
      | .ct δ2 S2 => whileN t b n δ2 S2
      | .bk δ2 S2 => .nx δ2 S2
      | r => r) else .nx δ S1
def cWhile (n : Nat) (t : Den Bool) (b : DenS) : DenS := fun δ S => whileN t b n δ S
theorem ds_while {c : Expr} {body : List Stmt} {pos : Pos} {t : Den Bool} {b : DenS} (n : Nat) (hp : PassesOwn (model X.prog X.w) X.A X.env X.xe) (hc : PT X c (tT X.K E t)) (hb : PSs X body (tS X.K E b)) : PS X (.While c body [] pos) (tS X.K E (cWhile n t b)) :=
  ps_mono (ps_while hp hc hb) fun D' σ H ⟨δ, ρ, S, st, so, p⟩ => by
    refine ⟨fun m σ' H' => ∃ (δ' : Slots) (ρ' : List Addr) (S' : Sto), RpSt X.K ρ' S' H' δ' σ' ∧ Sok X.K ρ' S' H' ∧ PostS X.K ρ' S' H' (whileN t b m δ' S') D' E, ⟨n, δ, ρ, S, st, so, p⟩, fun m σ' H' hW => ?_⟩
    obtain ⟨δ', ρ', S', st', so', p'⟩ := hW
    cases m with
    | zero => exact p'.elim
    | succ m =>
      unfold whileN at p'
      refine tG_thenS st' so' p' fun c S1 v ρ1 H1 f1 st1 so1 r1 p1 => ?_
      cases r1
      cases c with
      | false => rw [if_neg Bool.false_ne_true]; exact p1 σ' ρ1 H1 Fwd.refl so1 st1
      | true =>
        rw [if_pos rfl]
        refine ⟨fun σ2 H2 => ∃ (δ2 : Slots) (ρ2 : List Addr) (S2 : Sto), RpSt X.K ρ2 S2 H2 δ2 σ2 ∧ Sok X.K ρ2 S2 H2 ∧ PostS X.K ρ2 S2 H2 (whileN t b m δ2 S2) D' E, fun σ2 H2 hN => ⟨m, Nat.lt_succ_self m, hN⟩, δ', ρ1, S1, st1, so1, ?_⟩
        have p2 : PostS X.K ρ1 S1 H1 (match b δ' S1 with
          | .nx δ2 S2 => whileN t b m δ2 S2
          | .ct δ2 S2 => whileN t b m δ2 S2
          | .bk δ2 S2 => .nx δ2 S2
          | r => r) D' E := p1
        cases qb : b δ' S1 with
        | nx δ5 S5 => simp only [qb] at p2; exact fun σ5 ρ5 H5 f5 so5 st5 => ⟨δ5, ρ5, S5, st5, so5, PostS.later f5 p2⟩
        | ct δ5 S5 => simp only [qb] at p2; exact fun σ5 ρ5 H5 f5 so5 st5 => ⟨δ5, ρ5, S5, st5, so5, PostS.later f5 p2⟩
        | bk δ5 S5 => simp only [qb] at p2; exact p2
        | rt w S5 => simp only [qb] at p2; exact p2
        | xc c cs w S5 => simp only [qb] at p2; exact p2
        | bad => simp only [qb] at p2; exact p2
end

/-! ### parts of a store -/
theorem Sok.sub {K : PySem.W.Frag} {ρ ρ1 : List Addr} {S S1 : Sto} {H : Hp} (so : Sok K ρ S H) (hl : ρ1.length = S1.length) (nd : ρ1.Nodup) (hs : ∀ (i : Nat) (a : Addr) (o : Ob), ρ1[i]? = some a → S1[i]? = some o → ∃ j : Nat, ρ[j]? = some a ∧ S[j]? = some o) :
    Sok K ρ1 S1 H ∧ ∀ b, live ρ1 S1 b → live ρ S b := by
  have lv : ∀ b, live ρ1 S1 b → live ρ S b := fun b ⟨i, o, h1, h2, h3⟩ => let ⟨j, q1, q2⟩ := hs i b o h1 h2; ⟨j, o, q1, q2, h3⟩
  refine ⟨⟨hl, nd, fun i a o h1 h2 => ?_⟩, lv⟩
  obtain ⟨j, q1, q2⟩ := hs i a o h1 h2
  have q := so.obs j a o q1 q2
  cases o with
  | lst ds => obtain ⟨xs, e, r⟩ := q; exact ⟨xs, e, r.mono (fun _ _ _ z => z) (fun _ _ z => z) (fun _ _ _ z => z) fun b l => .inl (lv b l)⟩
  | dct ds => obtain ⟨xs, e, r⟩ := q; exact ⟨xs, e, r.mono (fun _ _ _ z => z) (fun _ _ z => z) (fun _ _ _ z => z) fun b l => .inl (lv b l)⟩
  | dead => exact q
theorem Sok.take {K : PySem.W.Frag} {ρ : List Addr} {S : Sto} {H : Hp} (so : Sok K ρ S H) (n : Nat) : Sok K (ρ.take n) (S.take n) H ∧ ∀ b, live (ρ.take n) (S.take n) b → live ρ S b := by
  refine so.sub (by rw [List.length_take, List.length_take, so.len]) (so.nd.sublist (List.take_sublist _ _)) fun i a o h1 h2 => ?_
  rw [List.getElem?_take] at h1 h2
  split at h1
  · rename_i hi
    rw [if_pos hi] at h2
    exact ⟨i, h1, h2⟩
  · cases h1
theorem Rp.weak {K : PySem.W.Frag} {H : Hp} {M M' : Addr → Prop} {d : D} {v : V} (h : Rp K H M d v) (hm : ∀ b, M' b → M b) : Rp K H M' d v := h.mono (fun _ _ _ z => z) (fun _ _ z => z) (fun _ _ _ z => z) fun b l => .inl (hm b l)
theorem RpL.weak {K : PySem.W.Frag} {H : Hp} {M M' : Addr → Prop} {d : List D} {v : List V} (h : RpL K H M d v) (hm : ∀ b, M' b → M b) : RpL K H M' d v := h.mono (fun _ _ _ z => z) (fun _ _ z => z) (fun _ _ _ z => z) fun b l => .inl (hm b l)
theorem RpE.weak {K : PySem.W.Frag} {H : Hp} {M M' : Addr → Prop} {d : List (Tx × D)} {v : List (Key × V)} (h : RpE K H M d v) (hm : ∀ b, M' b → M b) : RpE K H M' d v := h.mono (fun _ _ _ z => z) (fun _ _ z => z) (fun _ _ _ z => z) fun b l => .inl (hm b l)
/-- what the store had in the end is let go; the rest as it is -/
theorem Fwd.cut {ρ ρ' : List Addr} {S S' : Sto} {H H' : Hp} (f : Fwd ρ S H ρ' S' H') (hl : ρ.length = S.length) (hl' : ρ'.length = S'.length) : Fwd ρ S H ρ (S'.take S.length) H' := by
  obtain ⟨more, e⟩ := f.ext
  refine ⟨⟨[], by simp⟩, f.keep, f.tups, f.frzs, fun b l => f.new b ?_⟩
  obtain ⟨i, o, h1, h2, h3⟩ := l
  rw [List.getElem?_take] at h2
  split at h2
  · rename_i hi
    exact ⟨i, o, by rw [e, List.getElem?_append_left (by omega)]; exact h1, h2, h3⟩
  · cases h2
end Fro

namespace Fro
open PySem PySem.Spec L2

/-! ### defs -/
inductive Rv where
  | v (d : D) | old (i : Nat) | new (ob : Ob)
abbrev FDen := List W → Sto → R Rv
def chk (n : Nat) (fd : FDen) : FDen := fun ws S => if ws.length = n then fd ws S else .bad
def PostF (K : PySem.W.Frag) (ρ : List Addr) (S : Sto) (H : Hp) (r : R Rv) (Q : VK) (E : Nat → List D → List Addr → Sto → Hp → Prop) : Prop :=
  match r with
  | .ok (.v d) S' => ∀ (v : V) (H' : Hp), Fwd ρ S H ρ S' H' → Sok K ρ S' H' → Rp K H' (live ρ S') d v → Q v H'
  | .ok (.old i) S' => ∀ (a : Addr) (H' : Hp), Fwd ρ S H ρ S' H' → Sok K ρ S' H' → ρ[i]? = some a → Q (.ref a) H'
  | .ok (.new ob) S' => ∀ (a : Addr) (H' : Hp), Fwd ρ S H (ρ ++ [a]) (S' ++ [ob]) H' → Sok K (ρ ++ [a]) (S' ++ [ob]) H' → Q (.ref a) H'
  | .exc c ds S' => ∀ (H' : Hp), Fwd ρ S H ρ S' H' → Sok K ρ S' H' → E c ds ρ S' H'
  | .bad => False
def spF (K : PySem.W.Frag) (n : Nat) (fd : FDen) : Sp := fun vs H Q _ => ∃ (ws : List W) (ρ : List Addr) (S : Sto), RpWs K ρ S H ws vs ∧ Sok K ρ S H ∧ PostF K ρ S H (chk n fd ws S) Q fun _ _ _ _ _ => False
def retv (n : Nat) (w : W) (S : Sto) : R Rv := match w with
  | .v d => .ok (.v d) (S.take n)
  | .r i => if i < n then .ok (.old i) (S.take n) else match S[i]? with
    | some ob => .ok (.new ob) (S.take n)
    | none => .bad
  | .s _ => .bad
  | .lk _ => .bad
def slots0 (n : Nat) (ws : List W) : Slots := ws.map some ++ List.replicate (n - ws.length) none
def endF (n : Nat) (r : RS) : R Rv := match r with
  | .rt w S' => retv n w S'
  | .nx _ S' => .ok (.v .non) (S'.take n)
  | .xc c ds _ S' => .exc c ds (S'.take n)
  | _ => .bad
/-- a def with n slots -/
def fdef (n : Nat) (body : DenS) : FDen := fun ws S => endF S.length (body (slots0 n ws) S)
theorem take_pre {α : Type} {l m : List α} {n : Nat} (h : l.length = n) : (l ++ m).take n = l := by
  subst h
  simp
theorem start_rp {K : PySem.W.Frag} {ρ : List Addr} {S : Sto} {H : Hp} {N : List Str} {ws : List W} {vs : List V} (h : RpWs K ρ S H ws vs) : RpSt K ρ S H (slots0 N.length ws) (L2.start N vs) := by
  refine ⟨by unfold slots0 L2.start; simp [h.length], fun i w e => ?_⟩
  unfold slots0 at e
  have hi : i < ws.length := by
    rcases Nat.lt_or_ge i ws.length with z | z
    · exact z
    · rw [List.getElem?_append_right (by rw [List.length_map]; exact z)] at e
      rw [List.getElem?_replicate] at e
      split at e <;> cases e
  rw [List.getElem?_append_left (by rw [List.length_map]; exact hi), List.getElem?_map] at e
  have e2 : ws[i]? = some w := by
    cases q : ws[i]? with
    | none => rw [q] at e; cases e
    | some u => rw [q] at e; cases e; rfl
  have get : ∀ {ws : List W} {vs : List V} (i : Nat), RpWs K ρ S H ws vs → ws[i]? = some w → ∃ v, vs[i]? = some v ∧ RpW K ρ S H w v := by
    intro ws vs i h
    induction h generalizing i with
    | nil => intro e; simp at e
    | cons a b ih =>
      cases i with
      | zero => intro e; simp at e; subst e; exact ⟨_, rfl, a⟩
      | succ i => intro e; obtain ⟨v, q1, q2⟩ := ih i (by simpa using e); exact ⟨v, by simpa using q1, q2⟩
  obtain ⟨v, q1, q2⟩ := get i h e2
  refine ⟨v, ?_, q2⟩
  unfold L2.start
  have hv : i < vs.length := by rw [← h.length]; exact hi
  rw [List.getElem?_append_left (by rw [List.length_map]; exact hv), List.getElem?_map, q1]
  rfl
section
variable {P : Program} {w : World} {K : PySem.W.Frag} {mg : Str → Option Value} {base : Heap}
theorem end_post {ρ : List Addr} {S : Sto} {H : Hp} {r : RS} {Q : VK} (so : Sok K ρ S H) (p : PostF K ρ S H (endF S.length r) Q fun _ _ _ _ _ => False) : PostS K ρ S H r { nx := fun _ H' => Q .non H', rt := Q } XP0 := by
  have cutS : ∀ {ρ' : List Addr} {S' : Sto} {H' : Hp}, Fwd ρ S H ρ' S' H' → Sok K ρ' S' H' → Fwd ρ S H ρ (S'.take S.length) H' ∧ Sok K ρ (S'.take S.length) H' ∧ ∀ b, live ρ (S'.take S.length) b → live ρ' S' b := fun {ρ' S' H'} f so' => by
    obtain ⟨more, e⟩ := f.ext
    have t := so'.take S.length
    rw [e, take_pre so.len, ← e] at t
    exact ⟨f.cut so.len so'.len, t.1, t.2⟩
  cases r with
  | nx δ S' => exact fun σ ρ' H' f so' st => let ⟨a, b, c⟩ := cutS f so'; p .non H' a b .non
  | bk δ S' => exact p.elim
  | ct δ S' => exact p.elim
  | xc c ds δ S' => exact fun σ ρ' H' f so' st => let ⟨a, b, c⟩ := cutS f so'; p H' a b
  | bad => exact p
  | rt u S' =>
    intro v ρ' H' f so' r
    obtain ⟨fc, sc, lc⟩ := cutS f so'
    cases u with
    | s ns => exact p.elim
    | lk es => exact p.elim
    | v d => exact p v H' fc sc (r.weak lc)
    | r i =>
      obtain ⟨a, rfl, ea⟩ := r
      obtain ⟨more, em⟩ := f.ext
      by_cases hi : i < S.length
      · have p' : PostF K ρ S H (.ok (.old i) (S'.take S.length)) Q fun _ _ _ _ _ => False := by
          have : endF S.length (.rt (.r i) S') = .ok (.old i) (S'.take S.length) := by simp only [endF, retv, if_pos hi]
          rw [this] at p; exact p
        refine p' a H' fc sc ?_
        rw [em, List.getElem?_append_left (by rw [so.len]; exact hi)] at ea
        exact ea
      · cases qo : S'[i]? with
        | none =>
          have : endF S.length (.rt (.r i) S') = .bad := by simp only [endF, retv, if_neg hi, qo]
          rw [this] at p; exact p.elim
        | some ob =>
          have p' : PostF K ρ S H (.ok (.new ob) (S'.take S.length)) Q fun _ _ _ _ _ => False := by
            have : endF S.length (.rt (.r i) S') = .ok (.new ob) (S'.take S.length) := by simp only [endF, retv, if_neg hi, qo]
            rw [this] at p; exact p
          have hSl : S.length ≤ S'.length := by
            have := so'.len
            rw [em, List.length_append, so.len] at this
            omega
          have sub := so'.sub (ρ1 := ρ ++ [a]) (S1 := S'.take S.length ++ [ob]) (by rw [List.length_append, List.length_append, List.length_take, so.len]; simp; omega) (by
            rw [List.nodup_append]
            refine ⟨so.nd, by simp, fun x hx y hy e => ?_⟩
            rw [List.mem_singleton] at hy
            subst hy; subst e
            obtain ⟨j, hj⟩ := List.getElem?_of_mem hx
            have hjl : j < ρ.length := by
              rcases Nat.lt_or_ge j ρ.length with z | z
              · exact z
              · rw [List.getElem?_eq_none z] at hj; cases hj
            have : j = i := ndx so'.nd (by rw [em, List.getElem?_append_left hjl]; exact hj) ea
            rw [so.len] at hjl
            omega) (fun j x o h1 h2 => by
            by_cases hj : j < ρ.length
            · rw [List.getElem?_append_left hj] at h1
              rw [List.getElem?_append_left (by rw [List.length_take]; rw [so.len] at hj; omega), List.getElem?_take] at h2
              split at h2
              · exact ⟨j, by rw [em, List.getElem?_append_left hj]; exact h1, h2⟩
              · cases h2
            · rw [List.getElem?_append_right (by omega)] at h1
              rw [List.getElem?_append_right (by rw [List.length_take]; rw [so.len] at hj; omega)] at h2
              rw [show (S'.take S.length).length = ρ.length by rw [List.length_take, so.len]; omega] at h2
              have hz : j - ρ.length = 0 := by
                cases hz : j - ρ.length with
                | zero => rfl
                | succ n => rw [hz] at h1; simp at h1
              rw [hz] at h1 h2
              simp at h1 h2
              subst h1; subst h2
              exact ⟨i, ea, qo⟩)
          refine p' a H' ⟨⟨[a], rfl⟩, f.keep, f.tups, f.frzs, fun b l => f.new b (sub.2 b l)⟩ sub.1
/-- a def of the text keeps the promise that its body's denotation makes -/
theorem fn_den {x qual : Str} {st : Stmt} {f : Addr} {fd : FuncData} {N ps : List Str} {k : Nat} {body : DenS} (F : Fun K x qual st f fd) (S : FnScope N ps (defScope st))
    (hb : ∀ (cdv : Value) (A : Around) (outer : List Env) (s : Shared) (H : Hp) (E : XK), Room k (A.deeper (PyProof.Rows.envOfC qual (defScope st) s.heap.objs.size f cdv)) → PSs (cxOf CX0 P w K mg base N qual (defScope st) f cdv A outer s H E).nox (defBody st) (tS K XP0 body)) :
    FnOk P w K mg base CX0 (k + 1) f fd ps (spF K ps.length (fdef N.length body)) := by
  refine F.ok S (fun vs H Q E h => ?_) (fun cdv A outer s H vs Q E hr h => ?_)
  · obtain ⟨ws, ρ, S, r, so, p⟩ := h
    by_cases hl : ws.length = ps.length
    · rw [← r.length]; exact hl
    · unfold chk at p; rw [if_neg hl] at p; exact p.elim
  · obtain ⟨ws, ρ, S, r, so, p⟩ := h
    by_cases hl : ws.length = ps.length
    · unfold chk at p
      rw [if_pos hl] at p
      exact ⟨_, hb cdv A outer s H E hr, slots0 N.length ws, ρ, S, start_rp r, so, end_post so p⟩
    · unfold chk at p; rw [if_neg hl] at p; exact p.elim
end

/-! ### calls -/
def cRes (rv : Rv) (S : Sto) : R W := match rv with
  | .v d => .ok (.v d) S
  | .old i => .ok (.r i) S
  | .new (.lst ds) => .ok (.v (.lst ds)) S
  | .new (.dct es) => .ok (.v (.dct es)) S
  | .new .dead => .bad
def cResM (rv : Rv) (S : Sto) : R W := match rv with
  | .v d => .ok (.v d) S
  | .old i => .ok (.r i) S
  | .new ob => .ok (.r S.length) (S ++ [ob])
def cCall (n : Nat) (f : FDen) (a : Den (List W)) (dws : List W) : Den W := fun δ S => (a δ S).bind fun ws S1 => (chk n f (ws ++ dws) S1).bind cRes
def cCallM (n : Nat) (f : FDen) (a : Den (List W)) (dws : List W) : Den W := fun δ S => (a δ S).bind fun ws S1 => (chk n f (ws ++ dws) S1).bind cResM
theorem res_post {K : PySem.W.Frag} {ρ : List Addr} {S : Sto} {H : Hp} {r : R Rv} {Q : VK} (so : Sok K ρ S H) (p : Post K (RpW K) ρ S H (r.bind cRes) Q fun _ _ _ _ _ => False) : PostF K ρ S H r Q fun _ _ _ _ _ => False := by
  cases r with
  | bad => exact p
  | exc c ds S' => exact fun H' f so' => p ρ H' f so'
  | ok rv S' =>
    cases rv with
    | v d => exact fun v H' f so' r => p v ρ H' f so' r
    | old i => exact fun a H' f so' r => p (.ref a) ρ H' f so' ⟨a, rfl, r⟩
    | new ob =>
      intro a H' f so'
      have hl : ρ.length = S'.length := by
        have := so'.len
        rw [List.length_append, List.length_append] at this
        simpa using this
      have t := so'.take ρ.length
      rw [take_pre rfl, take_pre hl.symm] at t
      have fc : Fwd ρ S H ρ S' H' := ⟨⟨[], by simp⟩, f.keep, f.tups, f.frzs, fun b l => f.new b (live_left hl l)⟩
      have na : ¬ live ρ S' a := fun ⟨i, o, h1, _, _⟩ => by
        have h2 : (ρ ++ [a])[ρ.length]? = some a := by simp
        have hi : i < ρ.length := by
          rcases Nat.lt_or_ge i ρ.length with z | z
          · exact z
          · rw [List.getElem?_eq_none z] at h1; cases h1
        have : i = ρ.length := ndx so'.nd (by rw [List.getElem?_append_left hi]; exact h1) h2
        omega
      have q := so'.obs ρ.length a ob (by simp) (by rw [hl]; simp)
      cases ob with
      | lst ds => obtain ⟨xs, e, rl⟩ := q; exact p (.ref a) ρ H' fc t.1 (Rp.lst e na (rl.weak t.2))
      | dct ds => obtain ⟨xs, e, rl⟩ := q; exact p (.ref a) ρ H' fc t.1 (Rp.dct (.inl e) na (rl.weak t.2))
      | dead => exact p.elim
theorem resM_post {K : PySem.W.Frag} {ρ : List Addr} {S : Sto} {H : Hp} {r : R Rv} {Q : VK} (so : Sok K ρ S H) (p : Post K (RpW K) ρ S H (r.bind cResM) Q fun _ _ _ _ _ => False) : PostF K ρ S H r Q fun _ _ _ _ _ => False := by
  cases r with
  | bad => exact p
  | exc c ds S' => exact fun H' f so' => p ρ H' f so'
  | ok rv S' =>
    cases rv with
    | v d => exact fun v H' f so' r => p v ρ H' f so' r
    | old i => exact fun a H' f so' r => p (.ref a) ρ H' f so' ⟨a, rfl, r⟩
    | new ob =>
      intro a H' f so'
      have hl : ρ.length = S'.length := by
        have := so'.len
        rw [List.length_append, List.length_append] at this
        simpa using this
      exact p (.ref a) (ρ ++ [a]) H' f so' ⟨a, rfl, by rw [← hl]; simp⟩
section
variable {X : Cx}
theorem de_call {x : Str} {p pos : Pos} {e : Expr} {es : List Expr} {a : Den (List W)} {den : FDen} {k n : Nat} {f : Addr} {fd : FuncData} {ps : List Str} {ds : List Value} {dvs : List V} {dws : List W} (F : FnOk X.prog X.w X.K X.mg X.base CX0 k f fd ps (spF X.K n den)) (hr : Room k X.A)
    (hm : X.mg x = some (.ref f)) (hk : PySem.W.keepIn X.K (.ref f) = true) (hb : Binds X.K fd ps ds) (hd : Vals dvs ds) (hw : ∀ ρ S H, RpWs X.K ρ S H dws dvs) (ha : PA X (e :: es) (tA X.K XP0 a)) (hg : Gl X x := by rfl)
    (hdb : (x == ("__debug__" : Str)) = false := by decide) (he : starEach (e :: es) X.env = (false, eval e X.env) :: starEach es X.env := by rfl) (hpl : (backTo pos (starEach es X.env)).any (·.1) = false := by rfl) :
    PE X (.Call (.Name x p) (e :: es) [] pos) (tE X.K XP0 (cCall n den a dws)) := pe_mono (pe_call F hr hg hm hk hb hd pass0 ha hdb he hpl) fun σ H Q ⟨δ, ρ, S, st, so, q⟩ => tG_then st so q fun ws S1 vs ρ1 H1 f1 st1 so1 r1 p1 => ⟨ws ++ dws, ρ1, S1, r1.append (hw _ _ _), so1, res_post so1 p1⟩
theorem de_callM {x : Str} {p pos : Pos} {e : Expr} {es : List Expr} {a : Den (List W)} {den : FDen} {k n : Nat} {f : Addr} {fd : FuncData} {ps : List Str} {ds : List Value} {dvs : List V} {dws : List W} (F : FnOk X.prog X.w X.K X.mg X.base CX0 k f fd ps (spF X.K n den)) (hr : Room k X.A)
    (hm : X.mg x = some (.ref f)) (hk : PySem.W.keepIn X.K (.ref f) = true) (hb : Binds X.K fd ps ds) (hd : Vals dvs ds) (hw : ∀ ρ S H, RpWs X.K ρ S H dws dvs) (ha : PA X (e :: es) (tA X.K XP0 a)) (hg : Gl X x := by rfl)
    (hdb : (x == ("__debug__" : Str)) = false := by decide) (he : starEach (e :: es) X.env = (false, eval e X.env) :: starEach es X.env := by rfl) (hpl : (backTo pos (starEach es X.env)).any (·.1) = false := by rfl) :
    PE X (.Call (.Name x p) (e :: es) [] pos) (tE X.K XP0 (cCallM n den a dws)) := pe_mono (pe_call F hr hg hm hk hb hd pass0 ha hdb he hpl) fun σ H Q ⟨δ, ρ, S, st, so, q⟩ => tG_then st so q fun ws S1 vs ρ1 H1 f1 st1 so1 r1 p1 => ⟨ws ++ dws, ρ1, S1, r1.append (hw _ _ _), so1, resM_post so1 p1⟩
end

/-! ### list comprehensions -/
def wipeD (δ : Slots) : List Nat → Slots
  | [] => δ
  | v :: vs => (wipeD δ vs).set v none
theorem wipeD_length (δ : Slots) : ∀ vs : List Nat, (wipeD δ vs).length = δ.length
  | [] => rfl
  | v :: vs => by
    show ((wipeD δ vs).set v none).length = _
    rw [List.length_set, wipeD_length δ vs]
theorem wipeD_some {δ : Slots} {i : Nat} {w : W} : ∀ {vs : List Nat}, (wipeD δ vs)[i]? = some (some w) → δ[i]? = some (some w) ∧ i ∉ vs
  | [], e => ⟨e, by simp⟩
  | v :: vs, e => by
    have e' : ((wipeD δ vs).set v none)[i]? = some (some w) := e
    by_cases hv : v = i
    · subst hv
      by_cases hl : v < (wipeD δ vs).length
      · rw [List.getElem?_set_self hl] at e'; cases e'
      · rw [List.getElem?_eq_none (by rw [List.length_set]; omega)] at e'; cases e'
    · rw [List.getElem?_set_ne hv] at e'
      obtain ⟨h1, h2⟩ := wipeD_some e'
      exact ⟨h1, fun z => by
        rcases List.mem_cons.mp z with q | q
        · exact hv q.symm
        · exact h2 q⟩
theorem wipe_in {σ : L2.St} {i : Nat} (hl : i < σ.length) : ∀ {vs : List Nat}, i ∈ vs → (wipe σ vs)[i]? = some none
  | v :: vs, h => by
    show ((wipe σ vs).set v none)[i]? = some none
    by_cases hv : v = i
    · subst hv
      exact List.getElem?_set_self (by rw [wipe_length]; exact hl)
    · rw [List.getElem?_set_ne hv]
      rcases List.mem_cons.mp h with q | q
      · exact absurd q.symm hv
      · exact wipe_in hl q
theorem wipe_rp {K : PySem.W.Frag} {ρ : List Addr} {S : Sto} {H : Hp} {δ : Slots} {σ : L2.St} (vs : List Nat) (h : RpSt K ρ S H δ σ) : RpSt K ρ S H (wipeD δ vs) (wipe σ vs) := by
  refine ⟨by rw [wipeD_length, wipe_length]; exact h.1, fun i w e => ?_⟩
  obtain ⟨h1, h2⟩ := wipeD_some e
  obtain ⟨v, q1, q2⟩ := h.2 i w h1
  exact ⟨v, by rw [wipe_out h2]; exact q1, q2⟩
theorem wipe_same {σ σ' : L2.St} {vs ts : List Nat} (ht : ∀ j ∈ ts, j ∈ vs) (hl : σ'.length = (wipe σ vs).length) (hk : ∀ j, j ∉ ts → σ'[j]? = (wipe σ vs)[j]?) : wipe σ' vs = wipe σ vs := by
  apply List.ext_getElem?
  intro j
  by_cases hj : j ∈ vs
  · by_cases hlt : j < σ.length
    · rw [wipe_in hlt hj, wipe_in (by rw [hl, wipe_length]; exact hlt) hj]
    · rw [List.getElem?_eq_none (by rw [wipe_length, hl, wipe_length]; omega), List.getElem?_eq_none (by rw [wipe_length]; omega)]
  · rw [wipe_out hj, hk j fun z => hj (ht j z)]
def R.noexc {α : Type} (r : R α) : R α := match r with
  | .exc _ _ _ => .bad
  | r => r
@[simp] theorem R.noexc_ok {α : Type} (a : α) (S : Sto) : (R.ok a S).noexc = R.ok a S := rfl
def compL (dg : DenG) (tt : Den Bool) (te : Den W) (n : Nat) : List D → Slots → Sto → R Unit
  | [], _, S => .ok () S
  | d :: ds, δ, S => match dg (.v d) δ S with
    | none => .bad
    | some (δ1, S1) => (tt δ1 S1).noexc.bind fun c S2 => if c then (te δ1 S2).noexc.bind fun w S3 => match w, S3[n]? with
        | .v e, some (.lst acc) => if acc.length < 1000000 then compL dg tt te n ds δ (S3.set n (.lst (acc ++ [e]))) else .bad
        | _, _ => .bad
      else compL dg tt te n ds δ S2
def cComp (it : Den (List D)) (dg : DenG) (tt : Den Bool) (te : Den W) (vs : List Nat) : Den W := fun δ S => (it δ S).bind fun ds S1 =>
  (compL dg tt te S1.length ds (wipeD δ vs) (S1 ++ [.lst []])).bind fun _ S2 => if S2.length = S1.length + 1 then (match S2[S1.length]? with
    | some (.lst acc) => .ok (.v (.lst acc)) (S2.take S1.length)
    | _ => .bad) else .bad
def cCompM (it : Den (List D)) (dg : DenG) (tt : Den Bool) (te : Den W) (vs : List Nat) : Den W := fun δ S => (it δ S).bind fun ds S1 =>
  (compL dg tt te S1.length ds (wipeD δ vs) (S1 ++ [.lst []])).bind fun _ S2 => .ok (.r S1.length) S2
section
variable {K : PySem.W.Frag} {E : XP}
theorem comp_post {it : Den (List D)} {g : TG} {dg : DenG} {ts vs : List Nat} {tt : Den Bool} {te : Den W} (hg : GOk K g dg ts) (ht : ∀ j ∈ ts, j ∈ vs) {kf : Sto → Sto → R W} {σ : L2.St} {H : Hp} {Q : VK}
    (hkf : ∀ (ρ1 ρ2 : List Addr) (S1 S2 : Sto) (H1 H2 : Hp) (D' : Addr), Sok K ρ1 S1 H1 → H1 D' = none → Fwd ρ1 S1 H1 ρ2 S2 H2 → Sok K ρ2 S2 H2 → ρ2[S1.length]? = some D' → Post K (RpW K) ρ1 S1 H1 (kf S1 S2) Q (E σ) → Q (.ref D') H2)
    (h : tE K E (fun δ S => (it δ S).bind fun ds S1 => (compL dg tt te S1.length ds (wipeD δ vs) (S1 ++ [.lst []])).bind fun _ S2 => kf S1 S2) σ H Q) : tLc (tI K E it) g (tT K XP0 tt) (tE K XP0 te) vs σ H Q := by
  obtain ⟨δ, ρ, S, st, so, p⟩ := h
  refine tG_then st so p fun ds S1 J ρ1 H1 f1 st1 so1 j1 p1 => fun D' nD => ?_
  have fg : Fwd ρ1 S1 H1 (ρ1 ++ [D']) (S1 ++ [.lst []]) (upd H1 D' (.lst [])) := Fwd.grown so1 nD _
  have sg : Sok K (ρ1 ++ [D']) (S1 ++ [.lst []]) (upd H1 D' (.lst [])) := so1.grown nD _ ⟨[], upd_same, .nil⟩
  refine ⟨fun i m H' => i + m = ds.length ∧ ∃ (ρ' : List Addr) (S' : Sto), Fwd ρ1 S1 H1 ρ' S' H' ∧ ρ'[S1.length]? = some D' ∧ Sok K ρ' S' H' ∧ Post K (RpW K) ρ1 S1 H1 ((compL dg tt te S1.length (ds.drop i) (wipeD δ vs) S').bind fun _ S2 => kf S1 S2) Q (E σ),
    ⟨ds.length, by omega, _, _, fg, by rw [← so1.len]; simp, sg, by rw [List.drop_zero]; exact p1⟩, fun i m H' hW => ?_⟩
  obtain ⟨em, ρ', S', f', ed, so', p'⟩ := hW
  obtain ⟨jg, js⟩ := j1 i ρ' S' H' f' so'
  by_cases hl : i < ds.length
  · have edr : ds.drop i = ds[i] :: ds.drop (i + 1) := List.drop_eq_getElem_cons hl
    rw [edr] at p'
    obtain ⟨g1, g2⟩ := jg ds[i] (List.getElem?_eq_getElem hl)
    refine .inr ⟨g1, fun H2 => ∃ (ρ2 : List Addr) (S2 : Sto), Fwd ρ1 S1 H1 ρ2 S2 H2 ∧ ρ2[S1.length]? = some D' ∧ Sok K ρ2 S2 H2 ∧ Post K (RpW K) ρ1 S1 H1 ((compL dg tt te S1.length (ds.drop (i + 1)) (wipeD δ vs) S2).bind fun _ S2 => kf S1 S2) Q (E σ),
      fun H2 ⟨ρ2, S2, a1, a2, a3, a4⟩ => ⟨m - 1, by omega, by omega, ρ2, S2, a1, a2, a3, a4⟩, fun x H3 y => ?_⟩
    obtain ⟨fy, soy, ry⟩ := g2 x H3 y
    unfold compL at p'
    cases q : dg (.v ds[i]) (wipeD δ vs) S' with
    | none => simp only [q] at p'; exact p'.elim
    | some z =>
      obtain ⟨δ3, S3⟩ := z
      simp only [q] at p'
      have f3 : Fwd ρ1 S1 H1 ρ' S' H3 := f'.trans fy
      refine hg ρ' S' H3 (wipeD δ vs) (wipe σ vs) (.v ds[i]) x _ δ3 S3 (wipe_rp vs (f3.st st1)) soy ry q fun σ4 ρ4 H4 f4 so4 st4 l4 k4 => ?_
      refine ⟨wipe_same ht l4 k4, δ3, ρ4, S3, st4, so4, ?_⟩
      have f14 : Fwd ρ1 S1 H1 ρ4 S3 H4 := f3.trans f4
      have e4 : ρ4[S1.length]? = some D' := f4.at ed
      cases qt : tt δ3 S3 with
      | bad => rw [qt] at p'; exact p'.elim
      | exc c cs S5 => rw [qt] at p'; exact p'.elim
      | ok c S5 =>
        rw [qt] at p'
        intro b ρ5 H5 f5 so5 rb
        cases rb
        have f15 := f14.trans f5
        have e5 := f5.at e4
        cases c with
        | false =>
          rw [if_neg Bool.false_ne_true]
          exact ⟨ρ5, S5, f15, e5, so5, p'⟩
        | true =>
          rw [if_pos rfl]
          refine ⟨δ3, ρ5, S5, f5.st st4, so5, ?_⟩
          have p5 : Post K (RpW K) ρ1 S1 H1 (((te δ3 S5).noexc.bind fun w S3 => match w, S3[S1.length]? with
            | .v e, some (.lst acc) => if acc.length < 1000000 then compL dg tt te S1.length (ds.drop (i + 1)) (wipeD δ vs) (S3.set S1.length (.lst (acc ++ [e]))) else .bad
            | _, _ => .bad).bind fun _ S2 => kf S1 S2) Q (E σ) := p'
          cases qe : te δ3 S5 with
          | bad => rw [qe] at p5; exact p5.elim
          | exc c cs S6 => rw [qe] at p5; exact p5.elim
          | ok w S6 =>
            rw [qe] at p5
            intro y6 ρ6 H6 f6 so6 r6
            have f16 := f15.trans f6
            have e6 := f6.at e5
            cases w with
            | r j => exact p5.elim
            | s ns => exact p5.elim
            | lk es => exact p5.elim
            | v e =>
              cases qn : S6[S1.length]? with
              | none => simp only [R.noexc_ok, R.bind_ok, qn] at p5; exact p5.elim
              | some ob =>
                cases ob with
                | dct es => simp only [R.noexc_ok, R.bind_ok, qn] at p5; exact p5.elim
                | dead => simp only [R.noexc_ok, R.bind_ok, qn] at p5; exact p5.elim
                | lst acc =>
                  simp only [R.noexc_ok, R.bind_ok, qn] at p5
                  obtain ⟨xs, ex, rl⟩ := so6.obs _ _ _ e6 qn
                  by_cases ha : acc.length < 1000000
                  · simp only [if_pos ha] at p5
                    refine ⟨xs, ex, by rw [← rl.length]; exact Nat.lt_trans ha (by decide), ?_⟩
                    have fc : Fwd ρ6 S6 H6 ρ6 (S6.set S1.length (.lst (acc ++ [e]))) (upd H6 D' (.lst (xs ++ [y6]))) := Fwd.changed so6 e6 qn rfl
                    exact ⟨ρ6, _, f16.trans fc, e6, so6.changed e6 qn rfl ⟨_, upd_same, (fc.rpL rl).append (.cons (fc.rp r6) .nil)⟩, p5⟩
                  · simp only [if_neg ha] at p5; exact p5.elim
  · refine .inl ⟨js (by omega), ?_⟩
    rw [List.drop_eq_nil_of_le (by omega)] at p'
    exact hkf ρ1 ρ' S1 S' H1 H' D' so1 nD f' so' ed p'
end
section
variable {X : Cx} {E : XP}
theorem de_comp {elt tg iter : Expr} {ifs : List Expr} {scope : Scope} {own : List (Str × Nat)} {pos : Pos} {it : Den (List D)} {g : TG} {dg : DenG} {ts : List Nat} {tt : Den Bool} {te : Den W} (hc : X.calm = true) (hN : X.N.Nodup) (hi : PI X tg iter (tI X.K E it)) (hgo : GOk X.K g dg ts) (ok : blkC X.N X.env.scope scope own = true)
    (hg : ∀ (s : Shared) (H : Hp) (C : Addr) (cl : List (Str × Addr)) (fp : List Addr), PG (X.blk s H scope (compEnvC scope cl C X.env) fp) tg g) (ht : ∀ (s : Shared) (H : Hp) (C : Addr) (cl : List (Str × Addr)) (fp : List Addr), PTs (X.blk s H scope (compEnvC scope cl C X.env) fp) ifs (tT X.K XP0 tt))
    (he : ∀ (s : Shared) (H : Hp) (C : Addr) (cl : List (Str × Addr)) (fp : List Addr), PE (X.blk s H scope (compEnvC scope cl C X.env) fp) elt (tE X.K XP0 te)) (hs : ∀ x, foldedSetIterable iter X.env x = pure x := by intro _; rfl) (hts : ∀ j ∈ ts, j ∈ own.map (·.2) := by decide) :
    PE X (.ListComp elt [⟨tg, iter, ifs, 0⟩] scope pos) (tE X.K E (cComp it dg tt te (own.map (·.2)))) := pe_mono (pe_lc hc hN hi (blkOk_by ok) hg ht he hs) fun σ H Q h => by
  refine comp_post hgo hts (kf := fun S1 S2 => if S2.length = S1.length + 1 then (match S2[S1.length]? with
    | some (.lst acc) => .ok (.v (.lst acc)) (S2.take S1.length)
    | _ => .bad) else .bad) (fun ρ1 ρ2 S1 S2 H1 H2 D' so1 nD f so2 e p => ?_) h
  by_cases hl : S2.length = S1.length + 1
  · simp only [if_pos hl] at p
    cases q : S2[S1.length]? with
    | none => rw [q] at p; exact p.elim
    | some ob =>
      cases ob with
      | dct es => rw [q] at p; exact p.elim
      | dead => rw [q] at p; exact p.elim
      | lst acc =>
        rw [q] at p
        obtain ⟨xs, ex, rl⟩ := so2.obs _ _ _ e q
        obtain ⟨more, em⟩ := f.ext
        have t := so2.take S1.length
        rw [em, take_pre so1.len, ← em] at t
        refine p (.ref D') ρ1 H2 (f.cut so1.len so2.len) t.1 (Rp.lst ex (fun l => so1.notIn nD ?_) (rl.weak t.2))
        obtain ⟨j, o, h1, _, _⟩ := l
        exact List.mem_of_getElem? h1
  · simp only [if_neg hl] at p; exact p.elim
theorem de_compM {elt tg iter : Expr} {ifs : List Expr} {scope : Scope} {own : List (Str × Nat)} {pos : Pos} {it : Den (List D)} {g : TG} {dg : DenG} {ts : List Nat} {tt : Den Bool} {te : Den W} (hc : X.calm = true) (hN : X.N.Nodup) (hi : PI X tg iter (tI X.K E it)) (hgo : GOk X.K g dg ts) (ok : blkC X.N X.env.scope scope own = true)
    (hg : ∀ (s : Shared) (H : Hp) (C : Addr) (cl : List (Str × Addr)) (fp : List Addr), PG (X.blk s H scope (compEnvC scope cl C X.env) fp) tg g) (ht : ∀ (s : Shared) (H : Hp) (C : Addr) (cl : List (Str × Addr)) (fp : List Addr), PTs (X.blk s H scope (compEnvC scope cl C X.env) fp) ifs (tT X.K XP0 tt))
    (he : ∀ (s : Shared) (H : Hp) (C : Addr) (cl : List (Str × Addr)) (fp : List Addr), PE (X.blk s H scope (compEnvC scope cl C X.env) fp) elt (tE X.K XP0 te)) (hs : ∀ x, foldedSetIterable iter X.env x = pure x := by intro _; rfl) (hts : ∀ j ∈ ts, j ∈ own.map (·.2) := by decide) :
    PE X (.ListComp elt [⟨tg, iter, ifs, 0⟩] scope pos) (tE X.K E (cCompM it dg tt te (own.map (·.2)))) := pe_mono (pe_lc hc hN hi (blkOk_by ok) hg ht he hs) fun σ H Q h => by
  refine comp_post hgo hts (kf := fun S1 S2 => .ok (.r S1.length) S2) (fun ρ1 ρ2 S1 S2 H1 H2 D' so1 nD f so2 e p => ?_) h
  exact p (.ref D') ρ2 H2 f so2 ⟨D', rfl, e⟩
theorem blk_by {N : List Str} {sc scope : Scope} {own : List (Str × Nat)} (h : blkC N sc scope own = true) : blkC N sc scope own = true := h
def cYes : Den Bool := fun _ S => .ok true S
theorem dts_nil : PTs X [] (tT X.K E cYes) := pts_mono pts_nil fun σ H Q ⟨δ, ρ, S, st, so, p⟩ => p true ρ H Fwd.refl so rfl
theorem dts_one {c : Expr} {t : Den Bool} (h : PT X c (tT X.K E t)) : PTs X [c] (tT X.K E t) := pts_one h
end
end Fro

namespace Fro
open PySem PySem.Spec L2

/-! ### what is read of a value -/
def rd (S : Sto) : W → Option D
  | .v d => some d
  | .r i => match S[i]? with
    | some (.lst ds) => some (.lst ds)
    | some (.dct es) => some (.dct es)
    | _ => none
  | .s _ => none
  | .lk es => some (.dct es)
inductive Rq (K : PySem.W.Frag) (H : Hp) (M : Addr → Prop) : D → V → Prop
  | of {d : D} {v : V} : Rp K H M d v → Rq K H M d v
  | lst {a : Addr} {xs : List V} {ds : List D} : H a = some (.lst xs) → RpL K H M ds xs → Rq K H M (.lst ds) (.ref a)
  | dct {a : Addr} {kvs : List (Key × V)} {es : List (Tx × D)} : Rd H a (.dK kvs) → RpE K H M es kvs → Rq K H M (.dct es) (.ref a)
section
variable {K : PySem.W.Frag} {ρ : List Addr} {S : Sto} {H : Hp} {M : Addr → Prop} {v : V}
theorem rd_ok {w : W} {d : D} (so : Sok K ρ S H) (r : RpW K ρ S H w v) (e : rd S w = some d) : Rq K H (live ρ S) d v := by
  cases w with
  | v d' => cases e; exact .of r
  | s ns => cases e
  | lk es =>
    cases e
    obtain ⟨a, o, kvs, rfl, q, _, r'⟩ := r
    exact .dct (.inr ⟨o, q⟩) r'
  | r i =>
    obtain ⟨a, rfl, ea⟩ := r
    unfold rd at e
    cases q : S[i]? with
    | none => simp only [q] at e; cases e
    | some ob =>
      cases ob with
      | lst ds =>
        simp only [q] at e
        cases e
        obtain ⟨xs, ex, rl⟩ := so.obs i a _ ea q
        exact .lst ex rl
      | dct ds =>
        simp only [q] at e
        cases e
        obtain ⟨xs, ex, rl⟩ := so.obs i a _ ea q
        exact .dct (.inl ex) rl
      | dead => simp only [q] at e; cases e
theorem Rq.int {i : Int} (h : Rq K H M (.int i) v) : v = .int i := by cases h with | of h => cases h; rfl
theorem Rq.bl {i : Bool} (h : Rq K H M (.bl i) v) : v = .bl i := by cases h with | of h => cases h; rfl
theorem Rq.str {i : Tx} (h : Rq K H M (.str i) v) : v = .str (sx i) := by cases h with | of h => cases h; rfl
theorem Rq.non (h : Rq K H M .non v) : v = .non := by cases h with | of h => cases h; rfl
theorem Rq.ty {i : Ty} (h : Rq K H M (.ty i) v) : v = .ty i.nm := by cases h with | of h => cases h; rfl
theorem Rq.tup {ds : List D} (h : Rq K H M (.tup ds) v) : ∃ a xs, v = .ref a ∧ SqT K H a xs ∧ RpL K H M ds xs := by cases h with | of h => cases h with | tup a b => exact ⟨_, _, rfl, a, b⟩
theorem Rq.lstE {ds : List D} (h : Rq K H M (.lst ds) v) : ∃ a xs, v = .ref a ∧ H a = some (.lst xs) ∧ RpL K H M ds xs := by
  cases h with
  | of h => cases h with | lst a n b => exact ⟨_, _, rfl, a, b⟩
  | lst a b => exact ⟨_, _, rfl, a, b⟩
theorem Rq.dctE {es : List (Tx × D)} (h : Rq K H M (.dct es) v) : ∃ a kvs, v = .ref a ∧ Rd H a (.dK kvs) ∧ RpE K H M es kvs := by
  cases h with
  | of h => cases h with | dct a n b => exact ⟨_, _, rfl, a, b⟩
  | dct a b => exact ⟨_, _, rfl, a, b⟩
end

/-! ### operators -/
/-- what follows an operation on data that keeps the store -/
def Nxt (K : PySem.W.Frag) (ρ : List Addr) (S : Sto) (H : Hp) (d : D) (Q : VK) : Prop := ∀ (v : V) (H' : Hp), Fwd ρ S H ρ S H' → Sok K ρ S H' → Rp K H' (live ρ S) d v → Q v H'
def G2 (K : PySem.W.Frag) (r : R2) (g : D → D → Option D) : Prop := ∀ (ρ : List Addr) (S : Sto) (H : Hp) (d e z : D) (x y : V) (Q : VK), Sok K ρ S H → Rq K H (live ρ S) d x → Rq K H (live ρ S) e y → g d e = some z → Nxt K ρ S H z Q → r x y H Q
def ap2 (g : D → D → Option D) (x y : W) (S : Sto) : R W := match rd S x, rd S y with
  | some d, some e => (match g d e with
    | some r => .ok (.v r) S
    | none => .bad)
  | _, _ => .bad
def op2 (g : D → D → Option D) (a b : Den W) : Den W := fun δ S => (a δ S).bind fun x S1 => (b δ S1).bind fun y S2 => ap2 g x y S2
section
variable {K : PySem.W.Frag} {ρ : List Addr} {S : Sto} {H : Hp}
theorem ap2_post {r : R2} {g : D → D → Option D} (hg : G2 K r g) {w u : W} {x y : V} {Q : VK} {Ex} (so : Sok K ρ S H) (rw1 : RpW K ρ S H w x) (rw2 : RpW K ρ S H u y) (p : Post K (RpW K) ρ S H (ap2 g w u S) Q Ex) : r x y H Q := by
  unfold ap2 at p
  cases q1 : rd S w with
  | none => simp only [q1] at p; exact p.elim
  | some d =>
    cases q2 : rd S u with
    | none => simp only [q1, q2] at p; exact p.elim
    | some e =>
      cases q3 : g d e with
      | none => simp only [q1, q2, q3] at p; exact p.elim
      | some z =>
        simp only [q1, q2, q3] at p
        exact hg ρ S H d e z x y Q so (rd_ok so rw1 q1) (rd_ok so rw2 q2) q3 fun v H' f so' rp => p v ρ H' f so' rp
end
section
variable {X : Cx} {E : XP} {e e' : Expr} {pos : Pos} {a b : Den W}
theorem op2_then {r : R2} {g : D → D → Option D} (hg : G2 X.K r g) {σ : L2.St} {H : Hp} {Q : VK} (h : tE X.K E (op2 g a b) σ H Q) : tOp r (tE X.K E a) (tE X.K E b) σ H Q := by
  obtain ⟨δ, ρ, S, st, so, p⟩ := h
  exact tG_then st so p fun w S1 x ρ1 H1 f1 st1 so1 r1 p1 => tG_then st1 so1 p1 fun u S2 y ρ2 H2 f2 st2 so2 r2 p2 => ap2_post hg so2 (f2.rw r1) r2 p2
theorem de_bin {op : Operator} {r : R2} {g : D → D → Option D} (ho : OpR X (binaryOp op) r) (hg : G2 X.K r g) (ha : PE X e (tE X.K E a)) (hb : PE X e' (tE X.K E b)) : PE X (.BinOp e op e' pos) (tE X.K E (op2 g a b)) :=
  pe_mono (pe_op ho ha hb) fun σ H Q h => op2_then hg h
theorem de_cmp {op : CmpOp} {r : R2} {g : D → D → Option D} (ho : OpR X (compareOp op) r) (hg : G2 X.K r g) (ha : PE X e (tE X.K E a)) (hb : PE X e' (tE X.K E b)) (hm : behindInMarks op e' = false := by first | exact nobehind _ (by decide) (by decide) | rfl) : PE X (.Compare e [op] [e'] pos) (tE X.K E (op2 g a b)) :=
  pe_mono (pe_cmpR ho ha hb hm) fun σ H Q h => op2_then hg h
theorem dt_cmp {op : CmpOp} {r : R2} {g : D → D → Option D} (ho : OpR X (compareOp op) r) (hg : G2 X.K r g) (ha : PE X e (tE X.K E a)) (hb : PE X e' (tE X.K E b)) (hm : behindInMarks op e' = false := by first | exact nobehind _ (by decide) (by decide) | rfl) : PT X (.Compare e [op] [e'] pos) (tT X.K E (cB (op2 g a b))) :=
  pt_mono (pt_cmpR ho ha hb hm) fun σ H Q ⟨δ, ρ, S, st, so, p⟩ => op2_then hg (tG_then st so p fun w S1 v ρ1 H1 f1 st1 so1 r1 p1 => asB_post so1 r1 p1)
/-- a op b op' c -/
def cChain (g g' : D → D → Option D) (a b c : Den W) : Den W := fun δ S => (a δ S).bind fun x S1 => (b δ S1).bind fun y S2 => (ap2 g x y S2).bind fun z S3 => (asB z S3).bind fun k S4 => if k then (c δ S4).bind fun u S5 => ap2 g' y u S5 else .ok (.v (.bl false)) S4
theorem chain_then {r r' : R2} {g g' : D → D → Option D} {c : Den W} (hg : G2 X.K r g) (hg' : G2 X.K r' g') {σ : L2.St} {H : Hp} {Q : VK} (h : tE X.K E (cChain g g' a b c) σ H Q) : tChain r r' (tE X.K E a) (tE X.K E b) (tE X.K E c) σ H Q := by
  obtain ⟨δ, ρ, S, st, so, p⟩ := h
  refine tG_then st so p fun w S1 x ρ1 H1 f1 st1 so1 r1 p1 => tG_then st1 so1 p1 fun u S2 y ρ2 H2 f2 st2 so2 r2 p2 => ?_
  have rx := f2.rw r1
  unfold ap2 at p2
  cases q1 : rd S2 w with
  | none => simp only [q1] at p2; exact p2.elim
  | some d =>
    cases q2 : rd S2 u with
    | none => simp only [q1, q2] at p2; exact p2.elim
    | some e =>
      cases q3 : g d e with
      | none => simp only [q1, q2, q3] at p2; exact p2.elim
      | some z =>
        simp only [q1, q2, q3, R.bind_ok] at p2
        refine hg ρ2 S2 H2 d e z x y _ so2 (rd_ok so2 rx q1) (rd_ok so2 r2 q2) q3 fun v H3 f3 so3 rp => ?_
        obtain ⟨k, rfl, p4⟩ := asB_then (w := .v z) rp (Post.later f3 p2)
        refine ⟨k, rfl, ?_⟩
        cases k with
        | false => rw [if_neg Bool.false_ne_true]; exact p4 _ ρ2 H3 Fwd.refl so3 (.bl false)
        | true =>
          rw [if_pos rfl]
          exact tG_then (f3.st st2) so3 p4 fun u2 S5 v5 ρ5 H5 f5 st5 so5 r5 p5 => ap2_post hg' so5 (f5.rw (f3.rw r2)) r5 p5
theorem de_chain {op op' : CmpOp} {r r' : R2} {g g' : D → D → Option D} {e'' : Expr} {c : Den W} (ho : OpR X (compareOp op) r) (ho' : OpR X (compareOp op') r') (hg : G2 X.K r g) (hg' : G2 X.K r' g') (ha : PE X e (tE X.K E a)) (hb : PE X e' (tE X.K E b)) (hc : PE X e'' (tE X.K E c))
    (hm : lastMarks [op, op'] [e', e''] = false := by with_unfolding_all rfl) : PE X (.Compare e [op, op'] [e', e''] pos) (tE X.K E (cChain g g' a b c)) := pe_mono (pe_chain ho ho' ha hb hc hm) fun σ H Q h => chain_then hg hg' h
theorem dt_chain {op op' : CmpOp} {r r' : R2} {g g' : D → D → Option D} {e'' : Expr} {c : Den W} (ho : OpR X (compareOp op) r) (ho' : OpR X (compareOp op') r') (hg : G2 X.K r g) (hg' : G2 X.K r' g') (ha : PE X e (tE X.K E a)) (hb : PE X e' (tE X.K E b)) (hc : PE X e'' (tE X.K E c))
    (hm : lastMarks [op, op'] [e', e''] = false := by with_unfolding_all rfl) : PT X (.Compare e [op, op'] [e', e''] pos) (tT X.K E (cB (cChain g g' a b c))) := pt_mono (pt_chain ho ho' ha hb hc hm) fun σ H Q ⟨δ, ρ, S, st, so, p⟩ => chain_then hg hg' (tG_then st so p fun w S1 v ρ1 H1 f1 st1 so1 r1 p1 => asB_post so1 r1 p1)
end

/-! ### data laid -/
section
variable {K : PySem.W.Frag} {ρ : List Addr} {S : Sto} {H : Hp} {Q : VK}
theorem nxt_lst {ds : List D} {xs : List V} (so : Sok K ρ S H) (r : RpL K H (live ρ S) ds xs) (n : Nxt K ρ S H (.lst ds) Q) (p : Addr) (np : H p = none) : Q (.ref p) (upd H p (.lst xs)) :=
  n _ _ (Fwd.laid so np) (so.laid np) (.lst upd_same (so.notNone np) ((Fwd.laid so np).rpL r))
theorem nxt_tup {ds : List D} {xs : List V} (so : Sok K ρ S H) (r : RpL K H (live ρ S) ds xs) (n : Nxt K ρ S H (.tup ds) Q) (p : Addr) (np : H p = none) : Q (.ref p) (upd H p (.tup xs)) :=
  n _ _ (Fwd.laid so np) (so.laid np) (.tup (SqT.of upd_same) ((Fwd.laid so np).rpL r))
theorem nxt_here {d : D} {v : V} (so : Sok K ρ S H) (r : Rp K H (live ρ S) d v) (n : Nxt K ρ S H d Q) : Q v H := n v H Fwd.refl so r
end

/-! ### ints -/
def gI (g : Int → Int → D) : D → D → Option D := fun d e => match d, e with
  | .int i, .int j => some (g i j)
  | _, _ => none
theorem g2_int {K : PySem.W.Frag} {h : Int → Int → V} {g : Int → Int → D} (hr : ∀ i j H M, Rp K H M (g i j) (h i j)) : G2 K (rI0 h) (gI g) := fun ρ S H d e z x y Q so rx ry q n => by
  unfold gI at q
  split at q
  · cases q
    exact ⟨_, _, rx.int, ry.int, nxt_here so (hr _ _ _ _) n⟩
  · cases q
def gIc (C : Int → Int → Prop) [∀ i j, Decidable (C i j)] (g : Int → Int → D) : D → D → Option D := fun d e => match d, e with
  | .int i, .int j => if C i j then some (g i j) else none
  | _, _ => none
theorem g2_intC {K : PySem.W.Frag} {C C' : Int → Int → Prop} [∀ i j, Decidable (C' i j)] {h : Int → Int → V} {g : Int → Int → D} (hc : ∀ i j, C' i j → C i j) (hr : ∀ i j H M, Rp K H M (g i j) (h i j)) : G2 K (rI C h) (gIc C' g) := fun ρ S H d e z x y Q so rx ry q n => by
  unfold gIc at q
  split at q
  · rename_i i j
    by_cases hC : C' i j
    · rw [if_pos hC] at q
      cases q
      exact ⟨_, _, rx.int, ry.int, hc _ _ hC, nxt_here so (hr _ _ _ _) n⟩
    · rw [if_neg hC] at q; cases q
  · cases q
abbrev gLt := gI fun i j => .bl (decide (i < j))
abbrev gLe := gI fun i j => .bl (decide (i ≤ j))
abbrev gGt := gI fun i j => .bl (decide (j < i))
abbrev gGe := gI fun i j => .bl (decide (j ≤ i))
abbrev gSub := gI fun i j => .int (i - j)
abbrev gDiv := gIc (fun _ j => 0 < j ∧ j < 1073741824) fun i j => .int (i / j)
abbrev gMod := gIc (fun _ j => 0 < j) fun i j => .int (i % j)
abbrev gPow := gIc (fun i j => 0 ≤ j ∧ j ≤ 1000000 ∧ i.natAbs < 18446744073709551616) fun i j => .int (i ^ j.toNat)
section
variable {X : Cx} {K : PySem.W.Frag}
theorem g2_lt : G2 K (rI0 fun i j => .bl (decide (i < j))) gLt := g2_int fun _ _ _ _ => .bl _
theorem g2_le : G2 K (rI0 fun i j => .bl (decide (i ≤ j))) gLe := g2_int fun _ _ _ _ => .bl _
theorem g2_gt : G2 K (rI0 fun i j => .bl (decide (j < i))) gGt := g2_int fun _ _ _ _ => .bl _
theorem g2_ge : G2 K (rI0 fun i j => .bl (decide (j ≤ i))) gGe := g2_int fun _ _ _ _ => .bl _
theorem g2_sub : G2 K (rI0 fun i j => .int (i - j)) gSub := g2_int fun _ _ _ _ => .int _
theorem g2_div : G2 K (rI CDiv fun i j => .int (i / j)) gDiv := g2_intC (fun _ _ h => h) fun _ _ _ _ => .int _
theorem g2_mod : G2 K (rI (fun _ j => 0 < j) fun i j => .int (i % j)) gMod := g2_intC (fun _ _ h => h) fun _ _ _ _ => .int _
theorem g2_pow : G2 K (rI CPow fun i j => .int (i ^ j.toNat)) gPow := g2_intC (fun _ _ h => ⟨h.1, h.2.1, Nat.lt_of_lt_of_le h.2.2 (by decide)⟩) fun _ _ _ _ => .int _
end
theorem lt_line {n : Nat} (h : n ≤ 1000000) : n ≤ sizeLine := Nat.le_trans h (by decide)
theorem sx_length (t : Tx) : (sx t).length = t.length := by simp [sx, Str.length]
theorem sx_append (t u : Tx) : sx t ++ sx u = sx (t ++ u) := by
  show Str.append _ _ = _
  simp [Str.append, sx]

/-! ### + -/
def gAdd : D → D → Option D := fun d e => match d, e with
  | .int i, .int j => some (.int (i + j))
  | .str t, .str u => if t.length + u.length ≤ 1000000 then some (.str (t ++ u)) else none
  | .lst ds, .lst es => if ds.length + es.length ≤ 1000000 then some (.lst (ds ++ es)) else none
  | .tup ds, .tup es => if ds.length + es.length ≤ 1000000 then some (.tup (ds ++ es)) else none
  | _, _ => none
def rAddA (K : PySem.W.Frag) : R2 := fun x y H Q => ((rI0 (fun i j => .int (i + j)) x y H Q ∨ (∃ i j, x = .str i ∧ y = .str j ∧ i.length + j.length ≤ sizeLine ∧ Q (.str (i ++ j)) H)) ∨ rCat x y H Q) ∨ rCatA K x y H Q
theorem op_addA {X : Cx} : OpR X (binaryOp .Add) (rAddA X.K) := ((op_add.or op_add_str).or op_cat).or op_catA
theorem g2_add {K : PySem.W.Frag} : G2 K (rAddA K) gAdd := fun ρ S H d e z x y Q so rx ry q n => by
  unfold gAdd at q
  split at q
  · cases q
    exact .inl (.inl (.inl ⟨_, _, rx.int, ry.int, nxt_here so (.int _) n⟩))
  · rename_i t u
    by_cases h : t.length + u.length ≤ 1000000
    · rw [if_pos h] at q
      cases q
      refine .inl (.inl (.inr ⟨_, _, rx.str, ry.str, by rw [sx_length, sx_length]; exact lt_line h, ?_⟩))
      rw [sx_append]
      exact nxt_here so (.str _) n
    · rw [if_neg h] at q; cases q
  · rename_i ds es
    by_cases h : ds.length + es.length ≤ 1000000
    · rw [if_pos h] at q
      cases q
      obtain ⟨a, xs, rfl, ha, ra⟩ := rx.lstE
      obtain ⟨b, ys, rfl, hb, rb⟩ := ry.lstE
      exact .inl (.inr ⟨a, b, xs, ys, rfl, rfl, ha, hb, by rw [← ra.length, ← rb.length]; exact lt_line h, nxt_lst so (ra.append rb) n⟩)
    · rw [if_neg h] at q; cases q
  · rename_i ds es
    by_cases h : ds.length + es.length ≤ 1000000
    · rw [if_pos h] at q
      cases q
      obtain ⟨a, xs, rfl, ha, ra⟩ := rx.tup
      obtain ⟨b, ys, rfl, hb, rb⟩ := ry.tup
      refine .inr ⟨a, b, xs, ys, rfl, rfl, ha, hb, by rw [← ra.length, ← rb.length]; exact lt_line h, fun e => ?_, fun _ e => ?_, fun _ _ => nxt_tup so (ra.append rb) n⟩
      · subst e
        cases ra
        exact nxt_here so (.tup hb rb) n
      · subst e
        cases rb
        rw [List.append_nil] at n
        exact nxt_here so (.tup ha ra) n
    · rw [if_neg h] at q; cases q
  · cases q

/-! ### times -/
def gMul : D → D → Option D := fun d e => match d, e with
  | .int i, .int j => if (-18446744073709551616 < i ∧ i < 18446744073709551616) ∨ (-18446744073709551616 < j ∧ j < 18446744073709551616) then some (.int (i * j)) else none
  | .lst ds, .int k => if k ≤ 1000 ∧ -1000 ≤ k ∧ ds.length ≤ 1000 then some (.lst (List.replicate k.toNat ds).flatten) else none
  | _, _ => none
def rMulA : R2 := fun x y H Q => rI CMul (fun i j => .int (i * j)) x y H Q ∨ rRep x y H Q
theorem op_mulA {X : Cx} : OpR X (binaryOp .Mult) rMulA := op_mul.or op_rep
theorem rpL_rep {K : PySem.W.Frag} {H : Hp} {M : Addr → Prop} {ds : List D} {xs : List V} (h : RpL K H M ds xs) : ∀ n : Nat, RpL K H M (List.replicate n ds).flatten (List.replicate n xs).flatten
  | 0 => .nil
  | n + 1 => by
    rw [List.replicate_succ, List.replicate_succ, List.flatten_cons, List.flatten_cons]
    exact h.append (rpL_rep h n)
theorem g2_mul {K : PySem.W.Frag} : G2 K rMulA gMul := fun ρ S H d e z x y Q so rx ry q n => by
  unfold gMul at q
  split at q
  · rename_i i j
    split at q
    · rename_i h
      cases q
      exact .inl ⟨_, _, rx.int, ry.int, by
        rcases h with h | h
        · exact .inl ⟨by have := h.1; omega, by have := h.2; omega⟩
        · exact .inr ⟨by have := h.1; omega, by have := h.2; omega⟩, nxt_here so (.int _) n⟩
    · cases q
  · rename_i ds k
    split at q
    · rename_i h
      cases q
      obtain ⟨a, xs, rfl, ha, ra⟩ := rx.lstE
      refine .inr ⟨a, k, xs, rfl, ry.int, ha, by have := h.2.1; omega, by have := h.1; omega, ?_, nxt_lst so (rpL_rep ra _) n⟩
      rw [← ra.length]
      have h1 : k.toNat ≤ 1000 := by have := h.1; omega
      exact lt_line (Nat.le_trans (Nat.mul_le_mul h.2.2 h1) (by decide))
    · cases q
  · cases q
end Fro

namespace Fro
open PySem PySem.Spec L2

/-! ### subscripts -/
def gIx : D → D → Option D := fun d e => match d, e with
  | .tup ds, .int i => atI ds i
  | .lst ds, .int i => atI ds i
  | .str t, .int i => if t.length ≤ 1000000 then (atI t i).map fun c => .str [c] else none
  | _, _ => none
def apIx (x y : W) (S : Sto) : R W := match x, y with
  | .s ns, .v (.int i) => (match atI ns i with
    | some n => .ok (.v (.int n)) S
    | none => .bad)
  | _, _ => ap2 gIx x y S
def cIx (a b : Den W) : Den W := fun δ S => (a δ S).bind fun x S1 => (b δ S1).bind fun y S2 => apIx x y S2
theorem rpL_at {K : PySem.W.Frag} {H : Hp} {M : Addr → Prop} {ds : List D} {xs : List V} {i : Int} {d : D} (h : RpL K H M ds xs) (e : atI ds i = some d) : ∃ v, atI xs i = some v ∧ Rp K H M d v := by
  unfold atI at e ⊢
  rw [← h.length]
  cases q : ixN ds.length i with
  | none => rw [q] at e; cases e
  | some j =>
    rw [q] at e
    exact h.get j e
theorem g2_ix {K : PySem.W.Frag} : G2 K (rIx K) gIx := fun ρ S H d e z x y Q so rx ry q n => by
  unfold gIx at q
  split at q
  · obtain ⟨a, xs, rfl, ha, ra⟩ := rx.tup
    obtain ⟨v, hv, rv⟩ := rpL_at ra q
    exact .inr (.inl ⟨a, xs, _, v, rfl, ry.int, ha, hv, nxt_here so rv n⟩)
  · obtain ⟨a, xs, rfl, ha, ra⟩ := rx.lstE
    obtain ⟨v, hv, rv⟩ := rpL_at ra q
    exact .inl ⟨a, xs, _, v, rfl, ry.int, SqL.of ha, hv, nxt_here so rv n⟩
  · rename_i t i
    by_cases h : t.length ≤ 1000000
    · rw [if_pos h] at q
      cases qc : atI t i with
      | none => rw [qc] at q; cases q
      | some c =>
        rw [qc] at q
        cases q
        exact .inr (.inr ⟨_, i, c, rx.str, ry.int, by rw [sx_length]; exact lt_line h, by simpa [sx] using qc, nxt_here so (.str [c]) n⟩)
    · rw [if_neg h] at q; cases q
  · cases q
theorem apIx_post {K : PySem.W.Frag} {ρ : List Addr} {S : Sto} {H : Hp} {w u : W} {x y : V} {Q : VK} {Ex} (so : Sok K ρ S H) (r1 : RpW K ρ S H w x) (r2 : RpW K ρ S H u y) (p : Post K (RpW K) ρ S H (apIx w u S) Q Ex) : rIx K x y H Q := by
  unfold apIx at p
  split at p
  · rename_i ns i
    obtain ⟨a, rfl, sc⟩ := r1
    cases r2
    cases q : atI ns i with
    | none => rw [q] at p; exact p.elim
    | some m =>
      rw [q] at p
      refine .inl ⟨a, ns.map V.int, i, .int m, rfl, rfl, sc.sq, ?_, p _ ρ H Fwd.refl so (.int m)⟩
      unfold atI at q ⊢
      rw [List.length_map]
      cases qj : ixN ns.length i with
      | none => rw [qj] at q; cases q
      | some j =>
        rw [qj] at q
        show (ns.map V.int)[j]? = some (.int m)
        rw [List.getElem?_map, show ns[j]? = some m from q]
        rfl
  · exact ap2_post g2_ix so r1 r2 p
theorem de_ix {X : Cx} {E : XP} {e e' : Expr} {pos : Pos} {a b : Den W} (ha : PE X e (tE X.K E a)) (hb : PE X e' (tE X.K E b)) (hs : PlainIx e' := by exact fun _ _ => rfl) : PE X (.Subscript e e' pos) (tE X.K E (cIx a b)) :=
  pe_mono (pe_ix ix_seq ha hb hs) fun σ H Q ⟨δ, ρ, S, st, so, p⟩ => tG_then st so p fun w S1 x ρ1 H1 f1 st1 so1 r1 p1 => tG_then st1 so1 p1 fun u S2 y ρ2 H2 f2 st2 so2 r2 p2 => apIx_post so2 (f2.rw r1) r2 p2

/-! ### == -/
mutual
def deq : D → D → Bool
  | .non, .non => true
  | .bl a, .bl b => a == b
  | .bl a, .int j => (if a then 1 else 0) == j
  | .int i, .bl b => i == (if b then 1 else 0)
  | .int i, .int j => i == j
  | .str x, .str y => x == y
  | .lst xs, .lst ys => deqL xs ys
  | .tup xs, .tup ys => deqL xs ys
  | _, _ => false
def deqL : List D → List D → Bool
  | [], [] => true
  | x :: xs, y :: ys => deq x y && deqL xs ys
  | _, _ => false
end
mutual
def okD : D → Bool
  | .non => true
  | .bl _ => true
  | .int _ => true
  | .str t => t.all fun c => decide (c < 1114112)
  | .tup ds => okDL ds
  | .lst ds => okDL ds
  | .dct _ => false
  | .ty _ => false
def okDL : List D → Bool
  | [] => true
  | d :: ds => okD d && okDL ds
end
mutual
def dep : D → Nat
  | .tup ds => depL ds + 1
  | .lst ds => depL ds + 1
  | .non => 0
  | .bl _ => 0
  | .int _ => 0
  | .str _ => 0
  | .dct _ => 0
  | .ty _ => 0
def depL : List D → Nat
  | [] => 0
  | d :: ds => max (dep d) (depL ds)
end
mutual
def py : D → PyData
  | .non => .none
  | .bl b => .bool b
  | .int i => .int i
  | .str t => .str (sx t)
  | .tup ds => .tuple (pyL ds)
  | .lst ds => .list (pyL ds)
  | .dct _ => .none
  | .ty _ => .none
def pyL : List D → List PyData
  | [] => []
  | d :: ds => py d :: pyL ds
end
mutual
theorem py_can : ∀ d : D, okD d = true → (py d).canLay0 = true
  | .non, _ => by simp only [py, PyData.canLay0]
  | .bl _, _ => by simp only [py, PyData.canLay0]
  | .int _, _ => by simp only [py, PyData.canLay0]
  | .str t, h => by
    simp only [okD] at h
    simp only [py, PyData.canLay0, PyData.strOk, sx]
    rw [← Array.all_toList]
    exact h
  | .tup ds, h => by
    simp only [py, PyData.canLay0]
    exact pyL_can ds (by simpa [okD] using h)
  | .lst ds, h => by
    simp only [py, PyData.canLay0]
    exact pyL_can ds (by simpa [okD] using h)
  | .dct _, h => by simp [okD] at h
  | .ty _, h => by simp [okD] at h
theorem pyL_can : ∀ ds : List D, okDL ds = true → PyData.canLayAll0 (pyL ds) = true
  | [], _ => by simp only [pyL, PyData.canLayAll0]
  | d :: ds, h => by
    have h' : okD d = true ∧ okDL ds = true := by simpa [okDL] using h
    simp only [pyL, PyData.canLayAll0, py_can d h'.1, pyL_can ds h'.2, Bool.and_self]
end
mutual
theorem py_dep : ∀ d : D, (py d).depth = dep d
  | .non => by simp only [py, PyData.depth, dep]
  | .bl _ => by simp only [py, PyData.depth, dep]
  | .int _ => by simp only [py, PyData.depth, dep]
  | .str _ => by simp only [py, PyData.depth, dep]
  | .tup ds => by simp only [py, PyData.depth, dep, pyL_dep ds]
  | .lst ds => by simp only [py, PyData.depth, dep, pyL_dep ds]
  | .dct _ => by simp only [py, PyData.depth, dep]
  | .ty _ => by simp only [py, PyData.depth, dep]
theorem pyL_dep : ∀ ds : List D, PyData.depthAll (pyL ds) = depL ds
  | [] => by simp only [pyL, PyData.depthAll, depL]
  | d :: ds => by simp only [pyL, PyData.depthAll, depL, py_dep d, pyL_dep ds]
end
theorem sx_beq (a b : Tx) : (sx a == sx b) = (a == b) := by
  by_cases h : a = b
  · subst h; simp
  · rw [beq_eq_false_iff_ne.mpr h, beq_eq_false_iff_ne.mpr fun e => h (sx_inj e)]
mutual
theorem py_eqv : ∀ d e : D, okD d = true → okD e = true → PyData.eqv (py d) (py e) = deq d e
  | .non, e, _, h => by cases e <;> simp_all [py, PyData.eqv, deq, okD]
  | .bl _, e, _, h => by cases e <;> simp_all [py, PyData.eqv, deq, okD]
  | .int _, e, _, h => by cases e <;> simp_all [py, PyData.eqv, deq, okD]
  | .str t, e, _, h => by
    cases e with
    | str u => simp only [py, PyData.eqv, deq, sx_beq]
    | _ => simp_all [py, PyData.eqv, deq, okD]
  | .tup ds, e, h1, h => by
    cases e with
    | tup es => simp only [py, PyData.eqv, deq]; exact pyL_eqv ds es (by simpa [okD] using h1) (by simpa [okD] using h)
    | _ => simp_all [py, PyData.eqv, deq, okD]
  | .lst ds, e, h1, h => by
    cases e with
    | lst es => simp only [py, PyData.eqv, deq]; exact pyL_eqv ds es (by simpa [okD] using h1) (by simpa [okD] using h)
    | _ => simp_all [py, PyData.eqv, deq, okD]
  | .dct _, _, h, _ => by simp [okD] at h
  | .ty _, _, h, _ => by simp [okD] at h
theorem pyL_eqv : ∀ ds es : List D, okDL ds = true → okDL es = true → PyData.eqvAll (pyL ds) (pyL es) = deqL ds es
  | [], [], _, _ => by simp only [pyL, PyData.eqvAll, deqL]
  | [], _ :: _, _, _ => by simp only [pyL, PyData.eqvAll, deqL]
  | _ :: _, [], _, _ => by simp only [pyL, PyData.eqvAll, deqL]
  | d :: ds, e :: es, h1, h2 => by
    have a1 : okD d = true ∧ okDL ds = true := by simpa [okDL] using h1
    have a2 : okD e = true ∧ okDL es = true := by simpa [okDL] using h2
    simp only [pyL, PyData.eqvAll, deqL, py_eqv d e a1.1 a2.1, pyL_eqv ds es a1.2 a2.2]
end
section
variable {K : PySem.W.Frag} {H : Hp} {M : Addr → Prop}
theorem rp_dp {d : D} {v : V} (h : Rp K H M d v) : okD d = true → Dp K H v (py d) :=
  Rp.rec (motive_1 := fun d v _ => okD d = true → Dp K H v (py d)) (motive_2 := fun ds vs _ => okDL ds = true → DpAll K H vs (pyL ds)) (motive_3 := fun _ _ _ => True)
    (fun _ => by simp only [py]; exact .non) (fun b _ => by simp only [py]; exact .bl b) (fun b _ => by simp only [py]; exact .int b) (fun b _ => by simp only [py]; exact .str _) (fun b h => by simp [okD] at h)
    (fun sq _ ih h => by simp only [py]; exact .tup sq (ih (by simpa [okD] using h))) (fun e n _ ih h => by simp only [py]; exact .lst (SqL.of e) (ih (by simpa [okD] using h))) (fun _ _ _ _ h => by simp [okD] at h)
    (fun _ => by simp only [pyL]; exact .nil) (fun {d ds v vs} _ _ ih1 ih2 h => by
      have a : okD d = true ∧ okDL ds = true := by simpa [okDL] using h
      simp only [pyL]; exact .cons (ih1 a.1) (ih2 a.2)) trivial (fun _ _ _ _ => trivial) h
theorem rpL_dp : ∀ {ds : List D} {vs : List V}, RpL K H M ds vs → okDL ds = true → DpAll K H vs (pyL ds)
  | _, _, .nil, _ => by simp only [pyL]; exact .nil
  | d :: ds, _, .cons a b, h => by
    have q : okD d = true ∧ okDL ds = true := by simpa [okDL] using h
    simp only [pyL]; exact .cons (rp_dp a q.1) (rpL_dp b q.2)
theorem rq_dp {d : D} {v : V} (h : Rq K H M d v) (ok : okD d = true) : Dp K H v (py d) := by
  cases h with
  | of h => exact rp_dp h ok
  | lst e r => simp only [py]; exact .lst (SqL.of e) (rpL_dp r (by simpa [okD] using ok))
  | dct e r => simp [okD] at ok
end
def gEq : D → D → Option D := fun d e => if (okD d && okD e && decide (min (dep d) (dep e) ≤ 64)) = true then some (.bl (deq d e)) else none
def gNe : D → D → Option D := fun d e => if (okD d && okD e && decide (min (dep d) (dep e) ≤ 64)) = true then some (.bl (!deq d e)) else none
def rEqM (K : PySem.W.Frag) (neg : Bool) : R2 := fun x y H Q => ∃ d e, Dp K H x d ∧ Dp K H y e ∧ d.canLay0 = true ∧ e.canLay0 = true ∧ min d.depth e.depth ≤ 64 ∧ Q (.bl (if neg = true then !PyData.eqv d e else PyData.eqv d e)) H
theorem hu64 {A : Around} {k : Nat} (hr : Room k A) : A.units + 64 < cLine := by have := hr.un; omega
section
variable {X : Cx} {k : Nat}
theorem op_eqM (hr : Room k X.A) : OpR X (compareOp .Eq) (rEqM X.K false) := by
  intro pins s σ H x y v u Q I rx ry h
  obtain ⟨d, e, hd, he, sd, se, hm, q⟩ := h
  obtain ⟨as, r1⟩ := Dp.reads I d x v hd rx
  obtain ⟨bs, r2⟩ := Dp.reads I e y u he ry
  exact SeqAt.compareEq_reads r1 r2 sd se (by have := hu64 hr; omega) ⟨.bl _, H, I, rfl, q⟩
theorem op_neM (hr : Room k X.A) : OpR X (compareOp .NotEq) (rEqM X.K true) := by
  intro pins s σ H x y v u Q I rx ry h
  obtain ⟨d, e, hd, he, sd, se, hm, q⟩ := h
  obtain ⟨as, r1⟩ := Dp.reads I d x v hd rx
  obtain ⟨bs, r2⟩ := Dp.reads I e y u he ry
  exact SeqAt.compareNe_reads r1 r2 sd se (by have := hu64 hr; omega) ⟨.bl _, H, I, rfl, q⟩
theorem g2_eq {K : PySem.W.Frag} : G2 K (rEqM K false) gEq := fun ρ S H d e z x y Q so rx ry q n => by
  unfold gEq at q
  split at q
  · rename_i h
    cases q
    simp only [Bool.and_eq_true, decide_eq_true_eq] at h
    refine ⟨py d, py e, rq_dp rx h.1.1, rq_dp ry h.1.2, py_can d h.1.1, py_can e h.1.2, by rw [py_dep, py_dep]; exact h.2, ?_⟩
    rw [if_neg Bool.false_ne_true, py_eqv d e h.1.1 h.1.2]
    exact nxt_here so (.bl _) n
  · cases q
theorem g2_ne {K : PySem.W.Frag} : G2 K (rEqM K true) gNe := fun ρ S H d e z x y Q so rx ry q n => by
  unfold gNe at q
  split at q
  · rename_i h
    cases q
    simp only [Bool.and_eq_true, decide_eq_true_eq] at h
    refine ⟨py d, py e, rq_dp rx h.1.1, rq_dp ry h.1.2, py_can d h.1.1, py_can e h.1.2, by rw [py_dep, py_dep]; exact h.2, ?_⟩
    rw [if_pos rfl, py_eqv d e h.1.1 h.1.2]
    exact nxt_here so (.bl _) n
  · cases q
end

/-! ### in -/
def flatD : D → Bool
  | .non => true
  | .bl _ => true
  | .int _ => true
  | .str _ => true
  | _ => false
def gInB (d e : D) : Option Bool := match e with
  | .tup es => if (flatD d && es.all flatD) = true then some (es.any fun y => deq y d) else none
  | .lst es => if (flatD d && es.all flatD) = true then some (es.any fun y => deq y d) else none
  | .str t => (match d with
    | .str [c] => some (decide (c ∈ t))
    | _ => none)
  | _ => none
def gIn : D → D → Option D := fun d e => (gInB d e).map .bl
def gNotIn : D → D → Option D := fun d e => (gInB d e).map fun b => .bl (!b)
def rInA (K : PySem.W.Frag) (neg : Bool) : R2 := fun x y H Q => rIn K neg x y H Q ∨ ∃ (c : Nat) (z : Str), x = .str ⟨#[c]⟩ ∧ y = .str z ∧ Q (.bl (if neg then !decide (c ∈ z.cps.toList) else decide (c ∈ z.cps.toList))) H
theorem op_inA {X : Cx} : OpR X (compareOp .In) (rInA X.K false) := by
  intro pins s σ H x y v u Q I rx ry h
  rcases h with h | h
  · exact op_in_seq pins s σ H x y v u Q I rx ry h
  · exact op_in_sign pins s σ H x y v u Q I rx ry h
theorem op_notInA {X : Cx} : OpR X (compareOp .NotIn) (rInA X.K true) := by
  intro pins s σ H x y v u Q I rx ry h
  rcases h with h | h
  · exact op_notIn_seq pins s σ H x y v u Q I rx ry h
  · exact op_notIn_sign pins s σ H x y v u Q I rx ry h
section
variable {K : PySem.W.Frag} {H : Hp} {M : Addr → Prop}
theorem rq_flat {d : D} {v : V} (h : Rq K H M d v) (f : flatD d = true) : flatV v = true := by
  cases d with
  | non => rw [h.non]; rfl
  | bl b => rw [h.bl]; rfl
  | int b => rw [h.int]; rfl
  | str b => rw [h.str]; rfl
  | _ => cases f
theorem eqV_deq {d e : D} {v u : V} (h : Rq K H M d v) (h' : Rq K H M e u) (f : flatD d = true) (f' : flatD e = true) : eqV v u = deq d e := by
  cases d with
  | non => cases e with
    | non => rw [h.non, h'.non]; rfl
    | bl b => rw [h.non, h'.bl]; rfl
    | int b => rw [h.non, h'.int]; rfl
    | str b => rw [h.non, h'.str]; rfl
    | _ => cases f'
  | bl c => cases e with
    | non => rw [h.bl, h'.non]; rfl
    | bl b => rw [h.bl, h'.bl]; rfl
    | int b => rw [h.bl, h'.int]; rfl
    | str b => rw [h.bl, h'.str]; rfl
    | _ => cases f'
  | int c => cases e with
    | non => rw [h.int, h'.non]; rfl
    | bl b => rw [h.int, h'.bl]; rfl
    | int b => rw [h.int, h'.int]; rfl
    | str b => rw [h.int, h'.str]; rfl
    | _ => cases f'
  | str c => cases e with
    | non => rw [h.str, h'.non]; rfl
    | bl b => rw [h.str, h'.bl]; rfl
    | int b => rw [h.str, h'.int]; rfl
    | str b => rw [h.str, h'.str]; show (sx c == sx b) = _; rw [sx_beq]; simp only [deq]
    | _ => cases f'
  | _ => cases f
theorem rpL_flat : ∀ {ds : List D} {vs : List V}, RpL K H M ds vs → ds.all flatD = true → vs.all flatV = true
  | _, _, .nil, _ => rfl
  | d :: ds, v :: vs, .cons a b, h => by
    rw [List.all_cons, Bool.and_eq_true] at h ⊢
    exact ⟨rq_flat (.of a) h.1, rpL_flat b h.2⟩
theorem rpL_in {d : D} {x : V} (hx : Rq K H M d x) (fx : flatD d = true) : ∀ {ds : List D} {vs : List V}, RpL K H M ds vs → ds.all flatD = true → inV x vs = ds.any fun y => deq y d
  | _, _, .nil, _ => rfl
  | e :: ds, v :: vs, .cons a b, h => by
    rw [List.all_cons, Bool.and_eq_true] at h
    have ih := rpL_in hx fx b h.2
    unfold inV at ih ⊢
    rw [List.any_cons, List.any_cons, ih, eqV_deq (.of a) hx h.1 fx]
end
theorem in_post {K : PySem.W.Frag} {ρ : List Addr} {S : Sto} {H : Hp} {d e : D} {x y : V} {b : Bool} {Q : VK} (neg : Bool) (rx : Rq K H (live ρ S) d x) (ry : Rq K H (live ρ S) e y) (q : gInB d e = some b) (n : Q (.bl (if neg then !b else b)) H) : rInA K neg x y H Q := by
  unfold gInB at q
  split at q
  · rename_i es
    split at q
    · rename_i h
      cases q
      rw [Bool.and_eq_true] at h
      obtain ⟨a, xs, rfl, ha, ra⟩ := ry.tup
      refine .inl ⟨a, xs, rfl, .inr ha, rq_flat rx h.1, rpL_flat ra h.2, ?_⟩
      rw [rpL_in rx h.1 ra h.2]; exact n
    · cases q
  · rename_i es
    split at q
    · rename_i h
      cases q
      rw [Bool.and_eq_true] at h
      obtain ⟨a, xs, rfl, ha, ra⟩ := ry.lstE
      refine .inl ⟨a, xs, rfl, .inl (SqL.of ha), rq_flat rx h.1, rpL_flat ra h.2, ?_⟩
      rw [rpL_in rx h.1 ra h.2]; exact n
    · cases q
  · split at q
    · rename_i t c
      cases q
      refine .inr ⟨c, _, rx.str, ry.str, ?_⟩
      have e : ∀ t : Tx, decide (c ∈ (sx t).cps.toList) = decide (c ∈ t) := fun t => by
        have e1 : (sx t).cps.toList = t := by simp [sx]
        rw [e1]
      rw [e]
      exact n
    · cases q
  · cases q
theorem g2_in {K : PySem.W.Frag} : G2 K (rInA K false) gIn := fun ρ S H d e z x y Q so rx ry q n => by
  unfold gIn at q
  cases qb : gInB d e with
  | none => rw [qb] at q; cases q
  | some b => rw [qb] at q; cases q; exact in_post false rx ry qb (nxt_here so (.bl b) n)
theorem g2_notIn {K : PySem.W.Frag} : G2 K (rInA K true) gNotIn := fun ρ S H d e z x y Q so rx ry q n => by
  unfold gNotIn at q
  cases qb : gInB d e with
  | none => rw [qb] at q; cases q
  | some b => rw [qb] at q; cases q; exact in_post true rx ry qb (nxt_here so (.bl (!b)) n)

/-! ### is None -/
def isNon : D → Bool
  | .non => true
  | _ => false
def gIs : D → D → Option D := fun d e => match e with
  | .non => some (.bl (isNon d))
  | _ => none
def gIsNot : D → D → Option D := fun d e => match e with
  | .non => some (.bl (!isNon d))
  | _ => none
theorem rq_isNon {K : PySem.W.Frag} {H : Hp} {M : Addr → Prop} {d : D} {v : V} (h : Rq K H M d v) : decide (v = .non) = isNon d := by
  cases d with
  | non => rw [h.non]; rfl
  | bl b => rw [h.bl]; rfl
  | int b => rw [h.int]; rfl
  | str b => rw [h.str]; rfl
  | ty b => rw [h.ty]; rfl
  | tup ds => obtain ⟨_, _, rfl, _⟩ := h.tup; rfl
  | lst ds => obtain ⟨_, _, rfl, _⟩ := h.lstE; rfl
  | dct ds => obtain ⟨_, _, rfl, _⟩ := h.dctE; rfl
theorem g2_is {K : PySem.W.Frag} : G2 K (fun x y H Q => y = .non ∧ Q (.bl (decide (x = .non))) H) gIs := fun ρ S H d e z x y Q so rx ry q n => by
  unfold gIs at q
  split at q
  · cases q
    refine ⟨ry.non, ?_⟩
    rw [rq_isNon rx]; exact nxt_here so (.bl _) n
  · cases q
theorem g2_isNot {K : PySem.W.Frag} : G2 K (fun x y H Q => y = .non ∧ Q (.bl (!decide (x = .non))) H) gIsNot := fun ρ S H d e z x y Q so rx ry q n => by
  unfold gIsNot at q
  split at q
  · cases q
    refine ⟨ry.non, ?_⟩
    rw [rq_isNon rx]; exact nxt_here so (.bl _) n
  · cases q
end Fro

namespace Fro
open PySem PySem.Spec L2

/-! ### built-in functions by data -/
def rdAll (S : Sto) : List W → Option (List D)
  | [] => some []
  | w :: ws => match rd S w, rdAll S ws with
    | some d, some ds => some (d :: ds)
    | _, _ => none
inductive RqL (K : PySem.W.Frag) (H : Hp) (M : Addr → Prop) : List D → List V → Prop
  | nil : RqL K H M [] []
  | cons {d : D} {ds : List D} {v : V} {vs : List V} : Rq K H M d v → RqL K H M ds vs → RqL K H M (d :: ds) (v :: vs)
theorem rdAll_ok {K : PySem.W.Frag} {ρ : List Addr} {S : Sto} {H : Hp} (so : Sok K ρ S H) : ∀ {ws : List W} {vs : List V} {ds : List D}, RpWs K ρ S H ws vs → rdAll S ws = some ds → RqL K H (live ρ S) ds vs
  | _, _, ds, .nil, e => by cases e; exact .nil
  | w :: ws, _, ds, .cons a b, e => by
    unfold rdAll at e
    cases q1 : rd S w with
    | none => rw [q1] at e; simp at e
    | some d =>
      cases q2 : rdAll S ws with
      | none => rw [q1, q2] at e; simp at e
      | some ds' =>
        rw [q1, q2] at e
        cases e
        exact .cons (rd_ok so a q1) (rdAll_ok so b q2)
def GN (K : PySem.W.Frag) (r : List V → Hp → VK → Prop) (g : List D → Option D) : Prop := ∀ (ρ : List Addr) (S : Sto) (H : Hp) (ds : List D) (z : D) (xs : List V) (Q : VK), Sok K ρ S H → RqL K H (live ρ S) ds xs → g ds = some z → Nxt K ρ S H z Q → r xs H Q
def apN (g : List D → Option D) (ws : List W) (S : Sto) : R W := match rdAll S ws with
  | some ds => (match g ds with
    | some r => .ok (.v r) S
    | none => .bad)
  | none => .bad
def cBlt (g : List D → Option D) (a : Den (List W)) : Den W := fun δ S => (a δ S).bind fun ws S1 => apN g ws S1
theorem apN_post {K : PySem.W.Frag} {ρ : List Addr} {S : Sto} {H : Hp} {r : List V → Hp → VK → Prop} {g : List D → Option D} (hg : GN K r g) {ws : List W} {xs : List V} {Q : VK} {Ex} (so : Sok K ρ S H) (rw1 : RpWs K ρ S H ws xs) (p : Post K (RpW K) ρ S H (apN g ws S) Q Ex) : r xs H Q := by
  unfold apN at p
  cases q1 : rdAll S ws with
  | none => simp only [q1] at p; exact p.elim
  | some ds =>
    cases q3 : g ds with
    | none => simp only [q1, q3] at p; exact p.elim
    | some z =>
      simp only [q1, q3] at p
      exact hg ρ S H ds z xs Q so (rdAll_ok so rw1 q1) q3 fun v H' f so' rp => p v ρ H' f so' rp
section
variable {X : Cx} {E : XP} {x : Str} {p pos : Pos} {e : Expr} {es : List Expr} {a : Den (List W)} {r : List V → Hp → VK → Prop} {g : List D → Option D}
theorem de_blt {id : String} (hc : CallR X (.builtin id) r) (hg : GN X.K r g) (hm : X.mg x = none) (hv : bootBuiltins x = some (.builtin id)) (ha : PA X (e :: es) (tA X.K E a)) (hgl : Gl X x := by rfl) (hn : x ≠ "__name__" := by decide) (hdb : (x == ("__debug__" : Str)) = false := by decide)
    (he : starEach (e :: es) X.env = (false, eval e X.env) :: starEach es X.env := by rfl) (hpl : (backTo pos (starEach es X.env)).any (·.1) = false := by rfl) : PE X (.Call (.Name x p) (e :: es) [] pos) (tE X.K E (cBlt g a)) :=
  pe_mono (pe_callB hc hgl hm hv ha hn hdb he hpl) fun σ H Q ⟨δ, ρ, S, st, so, q⟩ => tG_then st so q fun ws S1 vs ρ1 H1 f1 st1 so1 r1 p1 => apN_post hg so1 r1 p1
theorem de_bty {T : String} (hc : CallR X (.type T) r) (hg : GN X.K r g) (hm : X.mg x = none) (hv : bootBuiltins x = some (.type T)) (ha : PA X (e :: es) (tA X.K E a)) (hgl : Gl X x := by rfl) (hn : x ≠ "__name__" := by decide) (hdb : (x == ("__debug__" : Str)) = false := by decide)
    (he : starEach (e :: es) X.env = (false, eval e X.env) :: starEach es X.env := by rfl) (hpl : (backTo pos (starEach es X.env)).any (·.1) = false := by rfl) : PE X (.Call (.Name x p) (e :: es) [] pos) (tE X.K E (cBlt g a)) :=
  pe_mono (pe_callTy hc hgl hm hv ha hn hdb he hpl) fun σ H Q ⟨δ, ρ, S, st, so, q⟩ => tG_then st so q fun ws S1 vs ρ1 H1 f1 st1 so1 r1 p1 => apN_post hg so1 r1 p1
end
/-- len -/
def gLen : List D → Option D := fun ds => match ds with
  | [.lst es] => some (.int es.length)
  | [.tup es] => some (.int es.length)
  | [.str t] => if t.length ≤ 1000000 then some (.int t.length) else none
  | _ => none
def apLen (ws : List W) (S : Sto) : R W := match ws with
  | [.s ns] => .ok (.v (.int ns.length)) S
  | _ => apN gLen ws S
def cLen (a : Den (List W)) : Den W := fun δ S => (a δ S).bind fun ws S1 => apLen ws S1
theorem gn_len {K : PySem.W.Frag} : GN K (fun xs H Q => ∃ x n, xs = [x] ∧ LenV K x H n ∧ Q (.int n) H) gLen := fun ρ S H ds z xs Q so rx q n => by
  unfold gLen at q
  split at q
  · cases q
    cases rx with
    | cons a b =>
      cases b
      obtain ⟨p, ys, rfl, hy, ry⟩ := a.lstE
      exact ⟨_, ys.length, rfl, .inl ⟨ys, SqL.of hy, rfl⟩, by rw [← ry.length]; exact nxt_here so (.int _) n⟩
  · cases q
    cases rx with
    | cons a b =>
      cases b
      obtain ⟨p, ys, rfl, hy, ry⟩ := a.tup
      exact ⟨_, ys.length, rfl, .inr ⟨ys, hy, rfl⟩, by rw [← ry.length]; exact nxt_here so (.int _) n⟩
  · rename_i t
    split at q
    · rename_i h
      cases q
      cases rx with
      | cons a b =>
        cases b
        rw [a.str]
        exact ⟨_, t.length, rfl, ⟨by rw [sx_length]; exact lt_line h, (sx_length t).symm⟩, nxt_here so (.int _) n⟩
    · cases q
  · cases q
theorem de_len {X : Cx} {E : XP} {p pos : Pos} {e : Expr} {a : Den (List W)} (hm : X.mg "len" = none) (ha : PA X [e] (tA X.K E a)) (hgl : Gl X "len" := by rfl)
    (he : starEach [e] X.env = (false, eval e X.env) :: starEach [] X.env := by rfl) (hpl : (backTo pos (starEach [] X.env)).any (·.1) = false := by rfl) : PE X (.Call (.Name "len" p) [e] [] pos) (tE X.K E (cLen a)) :=
  pe_mono (pe_callB call_len hgl hm PySem.boot_len ha (by decide) (by decide) he hpl) fun σ H Q ⟨δ, ρ, S, st, so, q⟩ => tG_then st so q fun ws S1 vs ρ1 H1 f1 st1 so1 r1 p1 => by
    unfold apLen at p1
    split at p1
    · rename_i ns
      cases r1 with
      | cons a b =>
        cases b
        obtain ⟨c, rfl, sc⟩ := a
        exact ⟨_, ns.length, rfl, .inl ⟨_, sc.sq, by rw [List.length_map]⟩, p1 _ ρ1 H1 Fwd.refl so1 (.int _)⟩
    · exact apN_post gn_len so1 r1 p1
/-- isinstance -/
def tyOf : D → Option String
  | .non => some "NoneType"
  | .bl _ => some "bool"
  | .int _ => some "int"
  | .str _ => some "str"
  | .tup _ => some "tuple"
  | .lst _ => some "list"
  | .dct _ => some "dict"
  | .ty _ => none
def isiD (d : D) (T : Ty) : Option Bool := match d, T with
  | .str _, .str => some true
  | .tup _, .tup => some true
  | .lst _, .lst => some true
  | .dct _, .dct => some true
  | .int _, .int => some true
  | .bl _, .bl => some true
  | .bl _, .int => some true
  | .ty _, _ => none
  | _, _ => some false
theorem isiD_kit {d : D} {T : Ty} {b : Bool} (h : isiD d T = some b) : ∃ t, tyOf d = some t ∧ kitB t T.nm = some b := by
  cases d <;> cases T <;> first | (cases h; exact ⟨_, rfl, by decide +kernel⟩) | (cases h)
theorem rq_ty {K : PySem.W.Frag} {H : Hp} {M : Addr → Prop} {d : D} {v : V} {t : String} (h : Rq K H M d v) (e : tyOf d = some t) : TyX K H v (.type t) := by
  cases d with
  | non => cases e; rw [h.non]; exact .base .non
  | bl b => cases e; rw [h.bl]; exact .base (.bl b)
  | int b => cases e; rw [h.int]; exact .base (.int b)
  | str b => cases e; rw [h.str]; exact .base (.str _)
  | ty b => cases e
  | tup ds =>
    cases e
    obtain ⟨a, xs, rfl, sq, _⟩ := h.tup
    rcases sq with (sq | ⟨o, sq⟩) | ⟨o, its, n, l, c, _⟩
    · exact .base (.tup sq)
    · exact .fTuple sq
    · exact .kTuple l c
  | lst ds => cases e; obtain ⟨a, xs, rfl, sq, _⟩ := h.lstE; exact .base (.lst sq)
  | dct ds => cases e; obtain ⟨a, xs, rfl, sq, _⟩ := h.dctE; exact sq.elim (fun q => .base (.dK q)) (fun ⟨_, q⟩ => .fDict q)
def gIsi : List D → Option D := fun ds => match ds with
  | [d, .ty T] => (isiD d T).map .bl
  | _ => none
theorem gn_isi {K : PySem.W.Frag} : GN K (rIsi K) gIsi := fun ρ S H ds z xs Q so rx q n => by
  unfold gIsi at q
  split at q
  · rename_i d T
    cases qb : isiD d T with
    | none => rw [qb] at q; cases q
    | some b =>
      rw [qb] at q
      cases q
      obtain ⟨t, h1, h2⟩ := isiD_kit qb
      cases rx with
      | cons r1 r2 =>
        cases r2 with
        | cons r2 r3 =>
          cases r3
          rw [r2.ty]
          exact ⟨_, _, .type t, .type T.nm, b, rfl, .ty _, rq_ty r1 h1, kit_ty h2, nxt_here so (.bl b) n⟩
  · cases q
/-- all, any -/
def blL : List D → Option (List Bool)
  | [] => some []
  | .bl b :: ds => (blL ds).map (b :: ·)
  | _ :: _ => none
theorem blL_rp {K : PySem.W.Frag} {H : Hp} {M : Addr → Prop} : ∀ {ds : List D} {bs : List Bool} {vs : List V}, blL ds = some bs → RpL K H M ds vs → vs = bs.map V.bl
  | [], bs, _, e, .nil => by cases e; rfl
  | d :: ds, bs, _, e, .cons a b => by
    cases d with
    | bl c =>
      cases a
      unfold blL at e
      cases q : blL ds with
      | none => rw [q] at e; cases e
      | some cs =>
        rw [q] at e
        cases e
        rw [blL_rp q b]
        rfl
    | _ => cases e
def gAll : List D → Option D := fun ds => match ds with
  | [.lst es] => (blL es).map fun bs => .bl (bs.all id)
  | _ => none
def gAny : List D → Option D := fun ds => match ds with
  | [.lst es] => (blL es).map fun bs => .bl (bs.any id)
  | _ => none
theorem gn_all {K : PySem.W.Frag} : GN K (rAll K) gAll := fun ρ S H ds z xs Q so rx q n => by
  unfold gAll at q
  split at q
  · rename_i es
    cases qb : blL es with
    | none => rw [qb] at q; cases q
    | some bs =>
      rw [qb] at q
      cases q
      cases rx with
      | cons r1 r2 =>
        cases r2
        obtain ⟨a, ys, rfl, ha, ra⟩ := r1.lstE
        rw [blL_rp qb ra] at ha
        exact ⟨a, bs, rfl, SqL.of ha, nxt_here so (.bl _) n⟩
  · cases q
theorem gn_any {K : PySem.W.Frag} : GN K (rAny K) gAny := fun ρ S H ds z xs Q so rx q n => by
  unfold gAny at q
  split at q
  · rename_i es
    cases qb : blL es with
    | none => rw [qb] at q; cases q
    | some bs =>
      rw [qb] at q
      cases q
      cases rx with
      | cons r1 r2 =>
        cases r2
        obtain ⟨a, ys, rfl, ha, ra⟩ := r1.lstE
        rw [blL_rp qb ra] at ha
        exact ⟨a, bs, rfl, SqL.of ha, nxt_here so (.bl _) n⟩
  · cases q
/-- int, max, min -/
def gInt : List D → Option D := fun ds => match ds with
  | [.int i] => some (.int i)
  | [.bl b] => some (.int (if b then 1 else 0))
  | _ => none
theorem gn_int {K : PySem.W.Frag} : GN K (fun xs H Q => (∃ i, xs = [.int i] ∧ Q (.int i) H) ∨ ∃ k, xs = [.bl k] ∧ Q (.int (if k then 1 else 0)) H) gInt := fun ρ S H ds z xs Q so rx q n => by
  unfold gInt at q
  split at q
  · cases q
    cases rx with
    | cons r1 r2 => cases r2; exact .inl ⟨_, by rw [r1.int], nxt_here so (.int _) n⟩
  · cases q
    cases rx with
    | cons r1 r2 => cases r2; exact .inr ⟨_, by rw [r1.bl], nxt_here so (.int _) n⟩
  · cases q
def gMax2 : List D → Option D := fun ds => match ds with
  | [.int i, .int j] => some (.int (if j > i then j else i))
  | _ => none
def gMin2 : List D → Option D := fun ds => match ds with
  | [.int i, .int j] => some (.int (if j < i then j else i))
  | _ => none
theorem gn_max2 {K : PySem.W.Frag} : GN K (fun xs H Q => ∃ i j, xs = [.int i, .int j] ∧ Q (.int (if j > i then j else i)) H) gMax2 := fun ρ S H ds z xs Q so rx q n => by
  unfold gMax2 at q
  split at q
  · cases q
    cases rx with
    | cons r1 r2 => cases r2 with
      | cons r2 r3 => cases r3; exact ⟨_, _, by rw [r1.int, r2.int], nxt_here so (.int _) n⟩
  · cases q
theorem gn_min2 {K : PySem.W.Frag} : GN K (fun xs H Q => ∃ i j, xs = [.int i, .int j] ∧ Q (.int (if j < i then j else i)) H) gMin2 := fun ρ S H ds z xs Q so rx q n => by
  unfold gMin2 at q
  split at q
  · cases q
    cases rx with
    | cons r1 r2 => cases r2 with
      | cons r2 r3 => cases r3; exact ⟨_, _, by rw [r1.int, r2.int], nxt_here so (.int _) n⟩
  · cases q

/-! ### methods of lists of the store -/
def isRL (x : W) (S : Sto) : Option (Nat × List D) := match x with
  | .r i => (match S[i]? with
    | some (.lst ds) => some (i, ds)
    | _ => none)
  | _ => none
theorem isRL_ok {K : PySem.W.Frag} {ρ : List Addr} {S : Sto} {H : Hp} {w : W} {v : V} {i : Nat} {ds : List D} (so : Sok K ρ S H) (r : RpW K ρ S H w v) (e : isRL w S = some (i, ds)) : ∃ a xs, w = .r i ∧ v = .ref a ∧ ρ[i]? = some a ∧ S[i]? = some (.lst ds) ∧ H a = some (.lst xs) ∧ RpL K H (live ρ S) ds xs := by
  unfold isRL at e
  split at e
  · rename_i j
    split at e
    · rename_i ds' q
      cases e
      obtain ⟨a, rfl, ea⟩ := r
      obtain ⟨xs, ex, rl⟩ := so.obs i a _ ea q
      exact ⟨a, xs, rfl, rfl, ea, q, ex, rl⟩
    · cases e
  · cases e
def cMth (a : Den W) (k : Nat → Slots → Sto → R W) : Den W := fun δ S => (a δ S).bind fun x S1 => match isRL x S1 with
  | some (i, _) => k i δ S1
  | none => .bad
def apAppend (i : Nat) (y : W) (S : Sto) : R W := match isRL (.r i) S, toD y with
  | some (_, ds), some d => if ds.length < 1000000 then .ok (.v .non) (S.set i (.lst (ds ++ [d]))) else .bad
  | _, _ => .bad
def cAppend (a b : Den W) : Den W := cMth a fun i δ S1 => (b δ S1).bind fun y S2 => apAppend i y S2
def apExtend (i : Nat) (y : W) (S : Sto) : R W := match isRL (.r i) S, rd S y with
  | some (_, ds), some (.lst es) => if ds.length + es.length ≤ 1000000 then .ok (.v .non) (S.set i (.lst (ds ++ es))) else .bad
  | _, _ => .bad
def cExtend (a b : Den W) : Den W := cMth a fun i δ S1 => (b δ S1).bind fun y S2 => apExtend i y S2
def apPop (i : Nat) (S : Sto) : R W := match isRL (.r i) S with
  | some (_, ds) => (match ds[ds.length - 1]? with
    | some d => .ok (.v d) (S.set i (.lst ds.dropLast))
    | none => .bad)
  | _ => .bad
def cPop (a : Den W) : Den W := cMth a fun i _ S1 => apPop i S1
section
variable {K : PySem.W.Frag} {ρ : List Addr} {S : Sto} {H : Hp} {i : Nat} {v : V} {Q : VK} {Ex : Nat → List D → Sto → List Addr → Hp → Prop}
theorem append_post {y : W} {u : V} (so : Sok K ρ S H) (r : RpW K ρ S H (.r i) v) (r2 : RpW K ρ S H y u) (p : Post K (RpW K) ρ S H (apAppend i y S) Q Ex) : rAppend v [u] H Q := by
  unfold apAppend at p
  split at p
  · rename_i j ds d q1 q2
    obtain ⟨a, xs, e1, rfl, ea, es, ex, rl⟩ := isRL_ok so r q1
    cases e1
    split at p
    · rename_i hl
      refine ⟨a, xs, u, rfl, rfl, ex, by rw [← rl.length]; exact Nat.lt_trans hl (by decide), ?_⟩
      have fc : Fwd ρ S H ρ (S.set i (.lst (ds ++ [d]))) (upd H a (.lst (xs ++ [u]))) := Fwd.changed so ea es rfl
      exact p .non ρ _ fc (so.changed ea es rfl ⟨_, upd_same, (fc.rpL rl).append (.cons (fc.rp (toD_rp r2 q2)) .nil)⟩) .non
    · exact p.elim
  · exact p.elim
theorem extend_post {y : W} {u : V} (so : Sok K ρ S H) (r : RpW K ρ S H (.r i) v) (r2 : RpW K ρ S H y u) (p : Post K (RpW K) ρ S H (apExtend i y S) Q Ex) : rExtend v [u] H Q := by
  unfold apExtend at p
  split at p
  · rename_i j ds es0 q1 q2
    obtain ⟨a, xs, e1, rfl, ea, es, ex, rl⟩ := isRL_ok so r q1
    cases e1
    obtain ⟨b, ys, rfl, hb, rb⟩ := (rd_ok so r2 q2).lstE
    split at p
    · rename_i hl
      refine ⟨a, b, xs, ys, rfl, rfl, ex, hb, by rw [← rl.length, ← rb.length]; exact lt_line hl, ?_⟩
      have fc : Fwd ρ S H ρ (S.set i (.lst (ds ++ es0))) (upd H a (.lst (xs ++ ys))) := Fwd.changed so ea es rfl
      exact p .non ρ _ fc (so.changed ea es rfl ⟨_, upd_same, (fc.rpL rl).append (fc.rpL rb)⟩) .non
    · exact p.elim
  · exact p.elim
theorem pop_post (so : Sok K ρ S H) (r : RpW K ρ S H (.r i) v) (p : Post K (RpW K) ρ S H (apPop i S) Q Ex) : rPop v [] H Q := by
  unfold apPop at p
  split at p
  · rename_i j ds q1
    obtain ⟨a, xs, e1, rfl, ea, es, ex, rl⟩ := isRL_ok so r q1
    cases e1
    split at p
    · rename_i d qd
      obtain ⟨y, hy, ry⟩ := rl.get _ qd
      refine ⟨a, xs, y, rfl, rfl, ex, by rw [← rl.length]; exact hy, ?_⟩
      have fc : Fwd ρ S H ρ (S.set i (.lst ds.dropLast)) (upd H a (.lst xs.dropLast)) := Fwd.changed so ea es rfl
      exact p y ρ _ fc (so.changed ea es rfl ⟨_, upd_same, (fc.rpL rl).dropLast⟩) (fc.rp ry)
    · exact p.elim
  · exact p.elim
end
section
variable {X : Cx} {E : XP} {o e : Expr} {apos cpos : Pos} {a b : Den W}
theorem mth_then {k : Nat → Slots → Sto → R W} {σ : L2.St} {H : Hp} {Q : VK} {Q' : VK} (h : tE X.K E (cMth a k) σ H Q)
    (hk : ∀ (δ : Slots) (i : Nat) (S1 : Sto) (v : V) (ρ1 : List Addr) (H1 : Hp), RpSt X.K ρ1 S1 H1 δ σ → Sok X.K ρ1 S1 H1 → RpW X.K ρ1 S1 H1 (.r i) v → tyV X.K "list" v H1 → Post X.K (RpW X.K) ρ1 S1 H1 (k i δ S1) Q (E σ) → Q' v H1) : tE X.K E a σ H Q' := by
  obtain ⟨δ, ρ, S, st, so, p⟩ := h
  refine tG_then st so p fun x S1 v ρ1 H1 f1 st1 so1 r1 p1 => ?_
  cases q : isRL x S1 with
  | none => simp only [q] at p1; exact p1.elim
  | some z =>
    obtain ⟨i, ds⟩ := z
    simp only [q] at p1
    obtain ⟨c, xs, rfl, rfl, ea, es, ex, rl⟩ := isRL_ok so1 r1 q
    exact hk δ i S1 _ ρ1 H1 st1 so1 r1 (.inl ⟨rfl, xs, SqL.of ex⟩) p1
theorem de_append (ha : PE X o (tE X.K E a)) (hb : PE X e (tE X.K E b)) (hs : starEach [e] X.env = (false, eval e X.env) :: starEach [] X.env := by rfl)
    (hd : ∀ to t, PE X o to → PA X [e] t → PE X (.Call (.Attribute o "append" apos) [e] [] cpos) (tBM X.K "list" rAppend to t) := by exact fun _ _ ho h => pe_bm PySem.F.plainAttrs_list PySem.F.slot_list_append PySem.F.type_list_append mt_append ho h) :
    PE X (.Call (.Attribute o "append" apos) [e] [] cpos) (tE X.K E (cAppend a b)) :=
  pe_mono (hd _ _ ha (pa_cons hb pa_nil hs)) fun σ H Q h => mth_then h fun δ i S1 v ρ1 H1 st1 so1 r1 ty p1 => ⟨ty, tG_then st1 so1 p1 fun y S2 u ρ2 H2 f2 st2 so2 r2 p2 => append_post so2 (f2.rw r1) r2 p2⟩
theorem de_extend (ha : PE X o (tE X.K E a)) (hb : PE X e (tE X.K E b)) (hs : starEach [e] X.env = (false, eval e X.env) :: starEach [] X.env := by rfl)
    (hd : ∀ to t, PE X o to → PA X [e] t → PE X (.Call (.Attribute o "extend" apos) [e] [] cpos) (tBM X.K "list" rExtend to t) := by exact fun _ _ ho h => pe_bm PySem.F.plainAttrs_list PySem.F.slot_list_extend PySem.F.type_list_extend mt_extend ho h) :
    PE X (.Call (.Attribute o "extend" apos) [e] [] cpos) (tE X.K E (cExtend a b)) :=
  pe_mono (hd _ _ ha (pa_cons hb pa_nil hs)) fun σ H Q h => mth_then h fun δ i S1 v ρ1 H1 st1 so1 r1 ty p1 => ⟨ty, tG_then st1 so1 p1 fun y S2 u ρ2 H2 f2 st2 so2 r2 p2 => extend_post so2 (f2.rw r1) r2 p2⟩
theorem de_pop (ha : PE X o (tE X.K E a)) (hbase : attributeBase o "pop" X.env (eval o X.env) = eval o X.env := by rfl) (hline : (apos.endLine == cpos.line) = true := by rfl) :
    PE X (.Call (.Attribute o "pop" apos) [] [] cpos) (tE X.K E (cPop a)) :=
  pe_mono (pe_bm0 PySem.F.plainAttrs_list PySem.F.slot_list_pop PySem.F.type_list_pop mt_pop ha hbase hline) fun σ H Q h => mth_then h fun δ i S1 v ρ1 H1 st1 so1 r1 ty p1 => ⟨ty, pop_post so1 r1 p1⟩
end

/-! ### a list's place is stored -/
def gSubD (a b : Den W) : DenG := fun w δ S => match a δ S with
  | .ok x S1 => (match b δ S1 with
    | .ok (.v (.int k)) S2 => (match isRL x S2, toD w with
      | some (i, ds), some d => (match ixN ds.length k with
        | some j => some (δ, S2.set i (.lst (ds.set j d)))
        | none => none)
      | _, _ => none)
    | _ => none)
  | _ => none
theorem gok_sub {K : PySem.W.Frag} {a b : Den W} : GOk K (L2.gSub (tE K XP0 a) (tE K XP0 b) rSetL) (gSubD a b) [] := fun ρ S H δ σ w v Q δ' S' st so r e h => by
  unfold gSubD at e
  cases qa : a δ S with
  | bad => simp only [qa] at e; cases e
  | exc c cs S1 => simp only [qa] at e; cases e
  | ok x S1 =>
    simp only [qa] at e
    refine ⟨δ, ρ, S, st, so, ?_⟩
    rw [qa]
    intro o ρ1 H1 f1 so1 r1
    cases qb : b δ S1 with
    | bad => simp only [qb] at e; cases e
    | exc c cs S2 => simp only [qb] at e; cases e
    | ok y S2 =>
      refine ⟨δ, ρ1, S1, f1.st st, so1, ?_⟩
      rw [qb]
      intro iv ρ2 H2 f2 so2 r2
      cases y with
      | r i => simp only [qb] at e; cases e
      | s ns => simp only [qb] at e; cases e
      | lk es => simp only [qb] at e; cases e
      | v dk =>
        cases dk with
        | int k =>
          simp only [qb] at e
          cases q1 : isRL x S2 with
          | none => simp only [q1] at e; cases e
          | some z =>
            obtain ⟨i, ds⟩ := z
            cases q2 : toD w with
            | none => simp only [q1, q2] at e; cases e
            | some d =>
              cases q3 : ixN ds.length k with
              | none => simp only [q1, q2, q3] at e; cases e
              | some j =>
                simp only [q1, q2, q3] at e
                cases e
                cases r2
                obtain ⟨c, xs, rfl, rfl, ea, es, ex, rl⟩ := isRL_ok so2 (f2.rw r1) q1
                refine ⟨c, xs, k, j, rfl, rfl, ex, by rw [← rl.length]; exact q3, ?_⟩
                have fc : Fwd ρ2 S2 H2 ρ2 (S2.set i (.lst (ds.set j d))) (upd H2 c (.lst (xs.set j v))) := Fwd.changed so2 ea es rfl
                have f12 := f1.trans f2
                have rv := toD_rp (f12.rw r) q2
                exact h σ ρ2 _ (f12.trans fc) (so2.changed ea es rfl ⟨_, upd_same, (fc.rpL rl).set j (fc.rp rv)⟩) ((f12.trans fc).st st) rfl fun _ _ => rfl
        | _ => simp only [qb] at e; cases e

/-! ### slices -/
def cutD {α : Type} (xs : List α) (lo hi : Option Int) : List α := (xs.drop (HT.sIx xs.length 0 lo)).take (HT.sIx xs.length xs.length hi - HT.sIx xs.length 0 lo)
theorem rpL_cut {K : PySem.W.Frag} {H : Hp} {M : Addr → Prop} {ds : List D} {xs : List V} (h : RpL K H M ds xs) (lo hi : Option Int) : RpL K H M (cutD ds lo hi) (cutV xs lo hi) := by
  unfold cutD cutV
  rw [← h.length]
  exact (h.drop _).take _
def slD (d : D) (lo hi : Option Int) : Option D := match d with
  | .lst ds => some (.lst (cutD ds lo hi))
  | .tup ds => some (.tup (cutD ds lo hi))
  | _ => none
def asO (w : W) (S : Sto) : R (Option Int) := match w with
  | .v (.int i) => .ok (some i) S
  | _ => .bad
def cPart (a : Den W) : Den (Option Int) := fun δ S => (a δ S).bind asO
def cNoPart : Den (Option Int) := fun _ S => .ok none S
def apSl (x : W) (lo hi : Option Int) (S : Sto) : R W := match rd S x with
  | some d => (match slD d lo hi with
    | some z => .ok (.v z) S
    | none => .bad)
  | none => .bad
def cSl (a : Den W) (lo hi : Den (Option Int)) : Den W := fun δ S => (a δ S).bind fun x S1 => (lo δ S1).bind fun l S2 => (hi δ S2).bind fun u S3 => apSl x l u S3
abbrev tO (K : PySem.W.Frag) (E : XP) (den : Den (Option Int)) : TO := tG K (fun _ _ _ a b => a = b) E den
def rSlB (K : PySem.W.Frag) : V → Option Int → Option Int → Hp → VK → Prop := fun x lo hi H Q => rSlL K x lo hi H Q ∨ rSlA K x lo hi H Q
section
variable {X : Cx} {E : XP}
theorem po_mono {e : Option Expr} {t t' : TO} (h : PO X e t) (w : ∀ σ H Q, t' σ H Q → t σ H Q) : PO X e t' := ⟨fun pins s σ H Q I q => h.run pins s σ H Q I (w σ H Q q)⟩
theorem dp_none : PO X none (tO X.K E cNoPart) := po_mono po_none fun σ H Q ⟨δ, ρ, S, st, so, p⟩ => p none ρ H Fwd.refl so rfl
theorem dp_some {e : Expr} {a : Den W} (h : PE X e (tE X.K E a)) : PO X (some e) (tO X.K E (cPart a)) := po_mono (po_some h) fun σ H Q ⟨δ, ρ, S, st, so, p⟩ => tG_then st so p fun w S1 v ρ1 H1 f1 st1 so1 r1 p1 => by
  cases w with
  | r i => exact p1.elim
  | s i => exact p1.elim
  | lk es => exact p1.elim
  | v d =>
    cases d with
    | int i => cases r1; exact ⟨i, rfl, p1 _ ρ1 H1 Fwd.refl so1 rfl⟩
    | _ => exact p1.elim
theorem cut_whole {α : Type} {xs : List α} {lo hi : Option Int} (h : HT.sIx xs.length 0 lo = 0 ∧ HT.sIx xs.length xs.length hi = xs.length) : cutD xs lo hi = xs := by
  unfold cutD
  rw [h.1, h.2]
  simp
theorem de_sl {e : Expr} {lo hi : Option Expr} {p2 pos : Pos} {a : Den W} {l u : Den (Option Int)} (ha : PE X e (tE X.K E a)) (hl : PO X lo (tO X.K E l)) (hu : PO X hi (tO X.K E u)) : PE X (.Subscript e (.Slice lo hi none p2) pos) (tE X.K E (cSl a l u)) :=
  pe_mono (pe_slice (sl_list.or sl_tupA) ha hl hu) fun σ H Q ⟨δ, ρ, S, st, so, p⟩ => tG_then st so p fun w S1 x ρ1 H1 f1 st1 so1 r1 p1 => tG_then st1 so1 p1 fun l S2 l' ρ2 H2 f2 st2 so2 r2 p2 => tG_then st2 so2 p2 fun u S3 u' ρ3 H3 f3 st3 so3 r3 p3 => by
    cases r2
    cases r3
    have rx := f3.rw (f2.rw r1)
    unfold apSl at p3
    cases q : rd S3 w with
    | none => simp only [q] at p3; exact p3.elim
    | some d =>
      simp only [q] at p3
      have rq := rd_ok so3 rx q
      cases d with
      | lst ds =>
        obtain ⟨b, xs, rfl, hb, rb⟩ := rq.lstE
        exact .inl ⟨b, xs, rfl, SqL.of hb, nxt_lst so3 (rpL_cut rb l u) fun v H' f so' rp => p3 v ρ3 H' f so' rp⟩
      | tup ds =>
        obtain ⟨b, xs, rfl, hb, rb⟩ := rq.tup
        have nx : Nxt X.K ρ3 S3 H3 (.tup (cutD ds l u)) Q := fun v H' f so' rp => p3 v ρ3 H' f so' rp
        refine .inr ⟨b, xs, rfl, hb, fun hw => ?_, fun _ => nxt_tup so3 (rpL_cut rb l u) nx⟩
        rw [← rb.length] at hw
        rw [cut_whole hw] at nx
        exact nxt_here so3 (.tup hb rb) nx
      | _ => exact p3.elim
end

/-! ### a text's signs -/
def asS (w : W) (S : Sto) : R (List D) := match w with
  | .v (.str t) => .ok (t.map fun c => .str [c]) S
  | _ => .bad
def itS (a : Den W) : Den (List D) := fun δ S => (a δ S).bind asS
theorem jok_str {K : PySem.W.Frag} {ρ : List Addr} {S : Sto} {H : Hp} (t : Tx) : Jok K ρ S H (t.map fun c => .str [c]) (Its (sx t)) := fun i ρ' S' H' f so => by
  refine ⟨fun d e => ?_, fun hl => by rw [List.length_map] at hl; show (sx t).cps.size ≤ i; simpa [sx] using hl⟩
  rw [List.getElem?_map] at e
  cases q : t[i]? with
  | none => rw [q] at e; cases e
  | some c =>
    rw [q] at e
    cases e
    have hi : i < t.length := by
      rcases Nat.lt_or_ge i t.length with z | z
      · exact z
      · rw [List.getElem?_eq_none z] at q; cases q
    refine ⟨by show i < (sx t).cps.size; simpa [sx] using hi, fun x H'' y => ?_⟩
    obtain ⟨rfl, c', hc, rfl⟩ := y
    have e2 : t[i]? = some c' := by simpa [sx] using hc
    rw [q] at e2
    cases e2
    exact ⟨Fwd.refl, so, .str [c]⟩
theorem di_str {X : Cx} {E : XP} {tg e : Expr} {a : Den W} (h : PE X e (tE X.K E a)) : PI X tg e (tI X.K E (itS a)) := pi_mono (pi_str h) fun σ H Q ⟨δ, ρ, S, st, so, p⟩ => tG_then st so p fun w S1 v ρ1 H1 f1 st1 so1 r1 p1 => by
  cases w with
  | r i => exact p1.elim
  | s ns => exact p1.elim
  | lk es => exact p1.elim
  | v d =>
    cases d with
    | str t => cases r1; exact ⟨_, rfl, p1 _ ρ1 H1 Fwd.refl so1 (jok_str t)⟩
    | _ => exact p1.elim

/-! ### data of the written part -/
def kdV : Nat → PySem.W.Frag → Value → D → Bool
  | 0, _, _, _ => false
  | n + 1, K, u, d => match u, d with
    | .none, .non => true
    | .bool b, .bl c => b == c
    | .int i _, .int j => i == j
    | .str x _, .str t => x == sx t
    | .ref a, .tup ds => (match K.lookup a with
      | some o => o.cls == .type "tuple" && (match o.data with
        | .seq its _ => decide (its.size ≤ 1000) && kdL (kdV n K) its.toList ds
        | _ => false)
      | none => false)
    | _, _ => false
where kdL (f : Value → D → Bool) : List Value → List D → Bool
  | [], [] => true
  | u :: us, d :: ds => f u d && kdL f us ds
  | _, _ => false
theorem kdL_ok {K : PySem.W.Frag} {H : Hp} {M : Addr → Prop} {f : Value → D → Bool} (hf : ∀ u d, f u d = true → ∃ v, RelV v u ∧ Rp K H M d v) : ∀ {us : List Value} {ds : List D}, kdV.kdL f us ds = true → ∃ vs, Vals vs us ∧ RpL K H M ds vs
  | [], [], _ => ⟨[], .nil, .nil⟩
  | [], _ :: _, h => by simp [kdV.kdL] at h
  | _ :: _, [], h => by simp [kdV.kdL] at h
  | u :: us, d :: ds, h => by
    have h' : f u d = true ∧ kdV.kdL f us ds = true := by simpa [kdV.kdL] using h
    obtain ⟨v, h1, h2⟩ := hf u d h'.1
    obtain ⟨vs, h3, h4⟩ := kdL_ok hf h'.2
    exact ⟨v :: vs, .cons h1 h3, .cons h2 h4⟩
theorem kdV_ok {K : PySem.W.Frag} {H : Hp} {M : Addr → Prop} : ∀ (n : Nat) (u : Value) (d : D), kdV n K u d = true → ∃ v, RelV v u ∧ Rp K H M d v
  | 0, _, _, h => by simp [kdV] at h
  | n + 1, u, d, h => by
    unfold kdV at h
    split at h
    · exact ⟨.non, rfl, .non⟩
    · rename_i b c
      have e : b = c := by simpa using h
      subst e
      exact ⟨.bl b, rfl, .bl b⟩
    · rename_i i t j
      have e : i = j := by simpa using h
      subst e
      exact ⟨.int i, ⟨_, rfl⟩, .int i⟩
    · rename_i x t s
      have e : x = sx s := by simpa using h
      subst e
      exact ⟨.str _, ⟨_, rfl⟩, .str s⟩
    · rename_i a ds
      cases q : K.lookup a with
      | none => rw [q] at h; cases h
      | some o =>
        rw [q] at h
        simp only [Bool.and_eq_true] at h
        obtain ⟨h1, h2⟩ := h
        have hc : o.cls = .type "tuple" := by simpa using h1
        split at h2
        · rename_i its m hd
          rw [Bool.and_eq_true] at h2
          obtain ⟨vs, r1, r2⟩ := kdL_ok (kdV_ok n) h2.2
          exact ⟨.ref a, rfl, .tup (.inr ⟨o, its, m, q, hc, hd, le1000 (of_decide_eq_true h2.1), r1⟩) r2⟩
        · cases h2
    · cases h
/-- a constant of the module -/
theorem de_const {X : Cx} {E : XP} {x : Str} {d : D} {u : Value} {pos : Pos} (n : Nat) (hm : X.mg x = some u) (h : kdV n X.K u d = true) (hg : Gl X x := by rfl) (hd : (x == ("__debug__" : Str)) = false := by decide) : PE X (.Name x pos) (tE X.K E (cC d)) := by
  obtain ⟨v, hv, _⟩ := kdV_ok (H := fun _ => none) (M := fun _ => False) n u d h
  refine de_glob hm hv (fun H M => ?_) hg hd
  obtain ⟨v', hv', r⟩ := kdV_ok (H := H) (M := M) n u d h
  rw [hv.inj hv']; exact r
end Fro

namespace Fro
open PySem PySem.Spec L2

/-! ### tables of the module, keyed by texts -/
def lkT : List (Tx × D) → Tx → Option D
  | [], _ => none
  | (k, d) :: r, t => if k = t then some d else lkT r t
def kdE (n : Nat) (K : PySem.W.Frag) : List DictEntry → List (Tx × D) → Bool
  | [], [] => true
  | e :: es, (t, d) :: r => (match e.key with
    | .str x _ => x == sx t
    | _ => false) && kdV n K e.val d && kdE n K es r
  | _, _ => false
theorem kdE_find {n : Nat} {K : PySem.W.Frag} : ∀ {es : List DictEntry} {tbl : List (Tx × D)}, kdE n K es tbl = true → ∀ t : Tx,
    (es.any (·.refKey) = false) ∧ ((lkT tbl t = none ∧ es.find? (fun e => e.key.isStr (sx t)) = none) ∨ ∃ d e, lkT tbl t = some d ∧ es.find? (fun e => e.key.isStr (sx t)) = some e ∧ kdV n K e.val d = true)
  | [], [], _, t => ⟨rfl, .inl ⟨rfl, rfl⟩⟩
  | [], _ :: _, h, _ => by simp [kdE] at h
  | _ :: _, [], h, _ => by simp [kdE] at h
  | e :: es, (k, d) :: r, h, t => by
    unfold kdE at h
    simp only [Bool.and_eq_true] at h
    obtain ⟨⟨h1, h2⟩, h3⟩ := h
    obtain ⟨i1, i2⟩ := kdE_find h3 t
    cases qk : e.key with
    | str x tk =>
      rw [qk] at h1
      have ex : x = sx k := by simpa using h1
      subst ex
      have nr : e.refKey = false := by simp [DictEntry.refKey, qk]
      refine ⟨by rw [List.any_cons, nr, i1]; rfl, ?_⟩
      by_cases hk : k = t
      · subst hk
        refine .inr ⟨d, e, by simp [lkT], ?_, h2⟩
        rw [List.find?_cons]
        have : e.key.isStr (sx k) = true := by rw [qk]; simp [Value.isStr]
        rw [this]
      · have hf : e.key.isStr (sx t) = false := by
          rw [qk]
          show (sx k == sx t) = false
          rw [sx_beq]
          exact beq_eq_false_iff_ne.mpr hk
        have hl : lkT ((k, d) :: r) t = lkT r t := by
          show (if k = t then some d else lkT r t) = _
          rw [if_neg hk]
        rw [hl, List.find?_cons, hf]
        exact i2
    | _ => rw [qk] at h1; cases h1
structure KD (K : PySem.W.Frag) (w : World) (a : Addr) (tbl : List (Tx × D)) : Prop where
  ex : ∃ (es : Array DictEntry) (n m : Nat), KDict K w a es n ∧ kdE m K es.toList tbl = true
theorem KD.look {K : PySem.W.Frag} {w : World} {a : Addr} {tbl : List (Tx × D)} (h : KD K w a tbl) (t : Tx) :
    (lkT tbl t = none ∧ PySem.W.nsIn K a (sx t) = some none) ∨ ∃ d u v, lkT tbl t = some d ∧ PySem.W.nsIn K a (sx t) = some (some u) ∧ RelV v u ∧ ∀ H M, Rp K H M d v := by
  obtain ⟨es, n, m, kd, he⟩ := h.ex
  obtain ⟨h1, h2⟩ := kdE_find he t
  have hn : PySem.W.nsIn K a (sx t) = (match es.toList.find? (·.key.isStr (sx t)) with
      | some e => some (some e.val)
      | none => if es.toList.any (·.refKey) then none else some none) := by
    unfold PySem.W.nsIn
    rw [kd.at_]
    rfl
  rw [hn]
  rcases h2 with ⟨q1, q2⟩ | ⟨d, e, q1, q2, q3⟩
  · refine .inl ⟨q1, ?_⟩
    rw [q2, h1]
    rfl
  · obtain ⟨v, hv, _⟩ := kdV_ok (H := fun _ => none) (M := fun _ => False) m e.val d q3
    refine .inr ⟨d, e.val, v, q1, by rw [q2], hv, fun H M => ?_⟩
    obtain ⟨v', hv', r⟩ := kdV_ok (H := H) (M := M) m e.val d q3
    rw [hv.inj hv']; exact r
def apKIn (tbl : List (Tx × D)) (neg : Bool) (x : W) (S : Sto) : R W := match x with
  | .v (.str t) => .ok (.v (.bl (if neg then !(lkT tbl t).isSome else (lkT tbl t).isSome))) S
  | _ => .bad
def cKIn (tbl : List (Tx × D)) (neg : Bool) (a : Den W) : Den W := fun δ S => (a δ S).bind fun x S1 => apKIn tbl neg x S1
def apKGet (tbl : List (Tx × D)) (x : W) (S : Sto) : R W := match x with
  | .v (.str t) => (match lkT tbl t with
    | some d => .ok (.v d) S
    | none => .bad)
  | _ => .bad
def cKGet (tbl : List (Tx × D)) (a : Den W) : Den W := fun δ S => (a δ S).bind fun x S1 => apKGet tbl x S1
section
variable {X : Cx} {E : XP} {e : Expr} {x : Str} {p pos : Pos} {a : Den W} {d : Addr} {tbl : List (Tx × D)}
theorem de_kin (hk : KD X.K X.w d tbl) (hm : X.mg x = some (.ref d)) (ha : PE X e (tE X.K E a)) (hg : Gl X x := by rfl) (hd : (x == ("__debug__" : Str)) = false := by decide) (hmk : behindInMarks .In (.Name x p) = false := by rfl) : PE X (.Compare e [.In] [.Name x p] pos) (tE X.K E (cKIn tbl false a)) := by
  obtain ⟨es, n, m, kd, he⟩ := hk.ex
  refine pe_mono (pe_cmpR (op_in_kd kd) ha (pe_glob hg hm (v := .ref d) rfl hd) hmk) fun σ H Q ⟨δ, ρ, S, st, so, p⟩ => tG_then st so p fun w S1 v ρ1 H1 f1 st1 so1 r1 p1 => ?_
  unfold apKIn at p1
  split at p1
  · rename_i t
    cases r1
    rcases hk.look t with ⟨q1, q2⟩ | ⟨dd, u, vv, q1, q2, q3, q4⟩
    · exact ⟨_, none, rfl, rfl, q2, by rw [q1] at p1; exact p1 _ ρ1 H1 Fwd.refl so1 (.bl false)⟩
    · exact ⟨_, some u, rfl, rfl, q2, by rw [q1] at p1; exact p1 _ ρ1 H1 Fwd.refl so1 (.bl true)⟩
  · exact p1.elim
theorem de_knotin (hk : KD X.K X.w d tbl) (hm : X.mg x = some (.ref d)) (ha : PE X e (tE X.K E a)) (hg : Gl X x := by rfl) (hd : (x == ("__debug__" : Str)) = false := by decide) (hmk : behindInMarks .NotIn (.Name x p) = false := by rfl) : PE X (.Compare e [.NotIn] [.Name x p] pos) (tE X.K E (cKIn tbl true a)) := by
  obtain ⟨es, n, m, kd, he⟩ := hk.ex
  refine pe_mono (pe_cmpR (op_notIn_kd kd) ha (pe_glob hg hm (v := .ref d) rfl hd) hmk) fun σ H Q ⟨δ, ρ, S, st, so, p⟩ => tG_then st so p fun w S1 v ρ1 H1 f1 st1 so1 r1 p1 => ?_
  unfold apKIn at p1
  split at p1
  · rename_i t
    cases r1
    rcases hk.look t with ⟨q1, q2⟩ | ⟨dd, u, vv, q1, q2, q3, q4⟩
    · exact ⟨_, none, rfl, rfl, q2, by rw [q1] at p1; exact p1 _ ρ1 H1 Fwd.refl so1 (.bl true)⟩
    · exact ⟨_, some u, rfl, rfl, q2, by rw [q1] at p1; exact p1 _ ρ1 H1 Fwd.refl so1 (.bl false)⟩
  · exact p1.elim
theorem dt_kin (hk : KD X.K X.w d tbl) (hm : X.mg x = some (.ref d)) (ha : PE X e (tE X.K E a)) (hg : Gl X x := by rfl) (hd : (x == ("__debug__" : Str)) = false := by decide) (hmk : behindInMarks .In (.Name x p) = false := by rfl) : PT X (.Compare e [.In] [.Name x p] pos) (tT X.K E (cB (cKIn tbl false a))) := by
  obtain ⟨es, n, m, kd, he⟩ := hk.ex
  refine pt_mono (pt_cmpR (op_in_kd kd) ha (pe_glob hg hm (v := .ref d) rfl hd) hmk) fun σ H Q ⟨δ, ρ, S, st, so, p⟩ => ?_
  have p' : Post X.K (fun _ _ _ a b => a = b) ρ S H ((a δ S).bind fun w S1 => (apKIn tbl false w S1).bind asB) Q (E σ) := by
    have e : (cB (cKIn tbl false a)) δ S = (a δ S).bind fun w S1 => (apKIn tbl false w S1).bind asB := by
      unfold cB cKIn
      cases a δ S <;> rfl
    rw [e] at p; exact p
  refine tG_then st so p' fun w S1 v ρ1 H1 f1 st1 so1 r1 p1 => ?_
  unfold apKIn at p1
  split at p1
  · rename_i t
    cases r1
    rcases hk.look t with ⟨q1, q2⟩ | ⟨dd, u, vv, q1, q2, q3, q4⟩
    · exact ⟨_, none, rfl, rfl, q2, false, rfl, by rw [q1] at p1; exact p1 _ ρ1 H1 Fwd.refl so1 rfl⟩
    · exact ⟨_, some u, rfl, rfl, q2, true, rfl, by rw [q1] at p1; exact p1 _ ρ1 H1 Fwd.refl so1 rfl⟩
  · exact p1.elim
theorem dt_knotin (hk : KD X.K X.w d tbl) (hm : X.mg x = some (.ref d)) (ha : PE X e (tE X.K E a)) (hg : Gl X x := by rfl) (hd : (x == ("__debug__" : Str)) = false := by decide) (hmk : behindInMarks .NotIn (.Name x p) = false := by rfl) : PT X (.Compare e [.NotIn] [.Name x p] pos) (tT X.K E (cB (cKIn tbl true a))) := by
  obtain ⟨es, n, m, kd, he⟩ := hk.ex
  refine pt_mono (pt_cmpR (op_notIn_kd kd) ha (pe_glob hg hm (v := .ref d) rfl hd) hmk) fun σ H Q ⟨δ, ρ, S, st, so, p⟩ => ?_
  have p' : Post X.K (fun _ _ _ a b => a = b) ρ S H ((a δ S).bind fun w S1 => (apKIn tbl true w S1).bind asB) Q (E σ) := by
    have e : (cB (cKIn tbl true a)) δ S = (a δ S).bind fun w S1 => (apKIn tbl true w S1).bind asB := by
      unfold cB cKIn
      cases a δ S <;> rfl
    rw [e] at p; exact p
  refine tG_then st so p' fun w S1 v ρ1 H1 f1 st1 so1 r1 p1 => ?_
  unfold apKIn at p1
  split at p1
  · rename_i t
    cases r1
    rcases hk.look t with ⟨q1, q2⟩ | ⟨dd, u, vv, q1, q2, q3, q4⟩
    · exact ⟨_, none, rfl, rfl, q2, true, rfl, by rw [q1] at p1; exact p1 _ ρ1 H1 Fwd.refl so1 rfl⟩
    · exact ⟨_, some u, rfl, rfl, q2, false, rfl, by rw [q1] at p1; exact p1 _ ρ1 H1 Fwd.refl so1 rfl⟩
  · exact p1.elim
theorem de_kget (hk : KD X.K X.w d tbl) (hm : X.mg x = some (.ref d)) (ha : PE X e (tE X.K E a)) (hg : Gl X x := by rfl) (hd : (x == ("__debug__" : Str)) = false := by decide) (hs : PlainIx e := by exact fun _ _ => rfl) : PE X (.Subscript (.Name x p) e pos) (tE X.K E (cKGet tbl a)) := by
  obtain ⟨es, n, m, kd, he⟩ := hk.ex
  refine pe_mono (pe_ix ix_kdict (pe_glob hg hm (v := .ref d) rfl hd) ha hs) fun σ H Q ⟨δ, ρ, S, st, so, p⟩ => tG_then st so p fun w S1 v ρ1 H1 f1 st1 so1 r1 p1 => ?_
  unfold apKGet at p1
  split at p1
  · rename_i t
    cases r1
    rcases hk.look t with ⟨q1, q2⟩ | ⟨dd, u, vv, q1, q2, q3, q4⟩
    · simp only [q1] at p1; exact p1.elim
    · simp only [q1] at p1
      exact ⟨d, _, vv, rfl, rfl, ⟨es, n, u, kd.at_, kd.lit, q2, q3⟩, p1 _ ρ1 H1 Fwd.refl so1 (q4 _ _)⟩
  · exact p1.elim
end
end Fro

namespace Fro
open PySem PySem.Spec L2

/-! ### an object of the store is changed no more: it is a value from here on -/
def frz (w : W) (S : Sto) : R W := match w with
  | .r i => (match S[i]? with
    | some (.lst ds) => .ok (.v (.lst ds)) (S.set i .dead)
    | some (.dct es) => .ok (.v (.dct es)) (S.set i .dead)
    | _ => .bad)
  | w => .ok w S
def cFrz (a : Den W) : Den W := fun δ S => (a δ S).bind frz
section
variable {K : PySem.W.Frag} {ρ : List Addr} {S : Sto} {H : Hp}
theorem live_dead {i : Nat} {b : Addr} (h : live ρ (S.set i .dead) b) : live ρ S b ∧ ρ[i]? ≠ some b ∨ live ρ S b := by
  obtain ⟨j, o, h1, h2, h3⟩ := h
  by_cases hj : i = j
  · subst hj
    by_cases hl : i < S.length
    · rw [List.getElem?_set_self hl] at h2; cases h2; cases h3
    · rw [List.getElem?_eq_none (by rw [List.length_set]; omega)] at h2; cases h2
  · rw [List.getElem?_set_ne hj] at h2
    exact .inr ⟨j, o, h1, h2, h3⟩
theorem Fwd.frozen (i : Nat) : Fwd ρ S H ρ (S.set i .dead) H where
  ext := ⟨[], by simp⟩
  keep := fun b u _ e => e
  tups := fun b u e => e
  frzs := fun b u z e => e
  new := fun b l => by
    rcases live_dead l with q | q
    · exact .inl q.1
    · exact .inl q
theorem Sok.frozen (so : Sok K ρ S H) (i : Nat) : Sok K ρ (S.set i .dead) H := by
  have fw : Fwd ρ S H ρ (S.set i .dead) H := Fwd.frozen i
  refine ⟨by rw [List.length_set]; exact so.len, so.nd, fun j a o h1 h2 => ?_⟩
  by_cases hj : i = j
  · subst hj
    by_cases hl : i < S.length
    · rw [List.getElem?_set_self hl] at h2
      cases h2
      have q := so.obs i a S[i] h1 (List.getElem?_eq_getElem hl)
      cases e : S[i] with
      | lst ds => rw [e] at q; obtain ⟨xs, e1, _⟩ := q; exact ⟨_, e1⟩
      | dct ds => rw [e] at q; obtain ⟨xs, e1, _⟩ := q; exact ⟨_, e1⟩
      | dead => rw [e] at q; exact q
    · rw [List.getElem?_eq_none (by rw [List.length_set]; omega)] at h2; cases h2
  · rw [List.getElem?_set_ne hj] at h2
    have q := so.obs j a o h1 h2
    cases o with
    | lst ds => obtain ⟨xs, e, r⟩ := q; exact ⟨xs, e, fw.rpL r⟩
    | dct ds => obtain ⟨xs, e, r⟩ := q; exact ⟨xs, e, fw.rpE r⟩
    | dead => exact q
theorem Sok.frozenAt (so : Sok K ρ S H) {i : Nat} {a : Addr} (h1 : ρ[i]? = some a) (hl : i < S.length) : ¬ live ρ (S.set i .dead) a :=
  (so.frozen i).deadAt h1 (List.getElem?_set_self hl)
theorem frz_post {w : W} {v : V} {Q : VK} {Ex} (so : Sok K ρ S H) (r : RpW K ρ S H w v) (p : Post K (RpW K) ρ S H (frz w S) Q Ex) : Q v H := by
  cases w with
  | v d => exact p v ρ H Fwd.refl so r
  | s ns => exact p v ρ H Fwd.refl so r
  | lk es => exact p v ρ H Fwd.refl so r
  | r i =>
    obtain ⟨a, rfl, ea⟩ := r
    cases q : S[i]? with
    | none => simp only [frz, q] at p; exact p.elim
    | some ob =>
      have hl : i < S.length := by
        rcases Nat.lt_or_ge i S.length with h | h
        · exact h
        · rw [List.getElem?_eq_none h] at q; cases q
      have fw : Fwd ρ S H ρ (S.set i .dead) H := Fwd.frozen i
      cases ob with
      | dead => simp only [frz, q] at p; exact p.elim
      | lst ds =>
        simp only [frz, q] at p
        obtain ⟨xs, e, rl⟩ := so.obs i a _ ea q
        exact p (.ref a) ρ H fw (so.frozen i) (Rp.lst e (so.frozenAt ea hl) (fw.rpL rl))
      | dct es =>
        simp only [frz, q] at p
        obtain ⟨xs, e, rl⟩ := so.obs i a _ ea q
        exact p (.ref a) ρ H fw (so.frozen i) (Rp.dct (.inl e) (so.frozenAt ea hl) (fw.rpE rl))
end
theorem de_frz {X : Cx} {E : XP} {e : Expr} {a : Den W} (h : PE X e (tE X.K E a)) : PE X e (tE X.K E (cFrz a)) :=
  pe_mono h fun σ H Q ⟨δ, ρ, S, st, so, p⟩ => tG_then st so p fun w S1 v ρ1 H1 f1 st1 so1 r1 p1 => frz_post so1 r1 p1

/-- a slot's object is a value from here on -/
def cFz (i : Nat) (b : DenS) : DenS := fun δ S => match δ[i]? with
  | some (some w) => (frz w S).thenS δ fun w' S1 => b (δ.set i (some w')) S1
  | _ => .bad
theorem fz_rp {K : PySem.W.Frag} {ρ : List Addr} {S : Sto} {H : Hp} {δ : Slots} {σ : L2.St} {i : Nat} {b : DenS} {D' : Ends} {E : XP} (st : RpSt K ρ S H δ σ) (so : Sok K ρ S H) (p : PostS K ρ S H (cFz i b δ S) D' E) :
    ∃ (δ' : Slots) (S' : Sto), RpSt K ρ S' H δ' σ ∧ Sok K ρ S' H ∧ PostS K ρ S' H (b δ' S') D' E := by
  unfold cFz at p
  cases q : δ[i]? with
  | none => simp only [q] at p; exact p.elim
  | some o =>
    cases o with
    | none => simp only [q] at p; exact p.elim
    | some w =>
      simp only [q] at p
      obtain ⟨v, ev, rv⟩ := st.2 i w q
      have hset : ∀ (S' : Sto) (w' : W), Fwd ρ S H ρ S' H → RpW K ρ S' H w' v → RpSt K ρ S' H (δ.set i (some w')) σ := fun S' w' f r => by
        have := (f.st st).set i r
        rw [show σ.set i (some v) = σ from by
          apply List.ext_getElem?
          intro j
          by_cases hj : i = j
          · subst hj
            have hl : i < σ.length := by
              rcases Nat.lt_or_ge i σ.length with h | h
              · exact h
              · rw [List.getElem?_eq_none h] at ev; cases ev
            rw [List.getElem?_set_self hl, ev]
          · rw [List.getElem?_set_ne hj]] at this
        exact this
      cases w with
      | v d => exact ⟨_, S, hset S _ Fwd.refl rv, so, p⟩
      | s ns => exact ⟨_, S, hset S _ Fwd.refl rv, so, p⟩
      | lk es => exact ⟨_, S, hset S _ Fwd.refl rv, so, p⟩
      | r j =>
        obtain ⟨a, rfl, ea⟩ := rv
        cases q2 : S[j]? with
        | none => simp only [frz, q2] at p; exact p.elim
        | some ob =>
          have hl : j < S.length := by
            rcases Nat.lt_or_ge j S.length with h | h
            · exact h
            · rw [List.getElem?_eq_none h] at q2; cases q2
          have fw : Fwd ρ S H ρ (S.set j .dead) H := Fwd.frozen j
          cases ob with
          | dead => simp only [frz, q2] at p; exact p.elim
          | lst ds =>
            simp only [frz, q2] at p
            obtain ⟨xs, e, rl⟩ := so.obs j a _ ea q2
            exact ⟨_, _, hset _ (.v (.lst ds)) fw (Rp.lst e (so.frozenAt ea hl) (fw.rpL rl)), so.frozen j, PostS.later fw p⟩
          | dct es =>
            simp only [frz, q2] at p
            obtain ⟨xs, e, rl⟩ := so.obs j a _ ea q2
            exact ⟨_, _, hset _ (.v (.dct es)) fw (Rp.dct (.inl e) (so.frozenAt ea hl) (fw.rpE rl)), so.frozen j, PostS.later fw p⟩
theorem ds_fz {X : Cx} {E : XP} {s : Stmt} {b : DenS} (i : Nat) (h : PS X s (tS X.K E b)) : PS X s (tS X.K E (cFz i b)) :=
  ps_mono h fun D' σ H ⟨δ, ρ, S, st, so, p⟩ => by
    obtain ⟨δ', S', st', so', p'⟩ := fz_rp st so p
    exact ⟨δ', ρ, S', st', so', p'⟩

/-! ### calls without arguments -/
section
variable {X : Cx}
theorem de_call0 {x : Str} {p pos : Pos} {den : FDen} {k n : Nat} {f : Addr} {fd : FuncData} {ps : List Str} {ds : List Value} {dvs : List V} {dws : List W} (F : FnOk X.prog X.w X.K X.mg X.base CX0 k f fd ps (spF X.K n den)) (hr : Room k X.A)
    (hm : X.mg x = some (.ref f)) (hk : PySem.W.keepIn X.K (.ref f) = true) (hb : Binds X.K fd ps ds) (hd : Vals dvs ds) (hw : ∀ ρ S H, RpWs X.K ρ S H dws dvs) (hg : Gl X x := by rfl)
    (hdb : (x == ("__debug__" : Str)) = false := by decide) :
    PE X (.Call (.Name x p) [] [] pos) (tE X.K XP0 (cCall n den cNil dws)) := pe_mono (pe_call0 F hr hg hm hk hb hd pass0 hdb) fun σ H Q ⟨δ, ρ, S, st, so, q⟩ => ⟨dws, ρ, S, hw _ _ _, so, res_post so q⟩
theorem de_call0M {x : Str} {p pos : Pos} {den : FDen} {k n : Nat} {f : Addr} {fd : FuncData} {ps : List Str} {ds : List Value} {dvs : List V} {dws : List W} (F : FnOk X.prog X.w X.K X.mg X.base CX0 k f fd ps (spF X.K n den)) (hr : Room k X.A)
    (hm : X.mg x = some (.ref f)) (hk : PySem.W.keepIn X.K (.ref f) = true) (hb : Binds X.K fd ps ds) (hd : Vals dvs ds) (hw : ∀ ρ S H, RpWs X.K ρ S H dws dvs) (hg : Gl X x := by rfl)
    (hdb : (x == ("__debug__" : Str)) = false := by decide) :
    PE X (.Call (.Name x p) [] [] pos) (tE X.K XP0 (cCallM n den cNil dws)) := pe_mono (pe_call0 F hr hg hm hk hb hd pass0 hdb) fun σ H Q ⟨δ, ρ, S, st, so, q⟩ => ⟨dws, ρ, S, hw _ _ _, so, resM_post so q⟩
end

/-! ### a, b = x, y -/
def cPar (is : List Nat) (a : Den (List W)) : DenS := fun δ S => (a δ S).thenS δ fun ws S1 => if ws.length = is.length then .nx ((is.zip ws).foldl (fun δ p => δ.set p.1 (some p.2)) δ) S1 else .bad
section
variable {X : Cx} {E : XP}
theorem ds_par (i j : Nat) {x y : Str} {e e' : Expr} {a : Den (List W)} {px py pt pos : Pos} {kt k2 pt2} (hN : X.N.Nodup) (ha : PA X [e, e'] (tA X.K E a)) (hc : X.calm = true := by rfl) (hi : X.N[i]? = some x := by rfl) (hj : X.N[j]? = some y := by rfl) (hij : i ≠ j := by decide)
    (hx : X.env.scope.names.lookup x = some .local := by rfl) (hy : X.env.scope.names.lookup y = some .local := by rfl)
    (hw : swappedStores [.Tuple [.Name x px, .Name y py] kt pt] (.Tuple [e, e'] k2 pt2) X.env = pure (some [x, y]) := by rfl)
    (hs : swapsWithSole [.Tuple [.Name x px, .Name y py] kt pt] (.Tuple [e, e'] k2 pt2) pos.line X.env = pure false := by rfl) :
    PS X (.Assign [.Tuple [.Name x px, .Name y py] kt pt] (.Tuple [e, e'] k2 pt2) pos) (tS X.K E (cPar [i, j] a)) :=
  ps_mono (ps_par hc hN hi hj hij hx hy ha hw hs) fun D' σ H ⟨δ, ρ, S, st, so, p⟩ => tG_thenS st so p fun ws S1 vs ρ1 H1 f1 st1 so1 r1 p1 => by
    by_cases hl : ws.length = [i, j].length
    · rw [if_pos hl] at p1
      match ws, vs, r1, hl with
      | [w1, w2], _, .cons (v := v1) q1 (.cons (v := v2) q2 .nil), _ => exact ⟨v1, v2, rfl, p1 _ ρ1 H1 Fwd.refl so1 ((st1.set i q1).set j q2)⟩
    · rw [if_neg hl] at p1; exact p1.elim
theorem ds_par3 (i j l : Nat) {x y z : Str} {e e' e'' : Expr} {a : Den (List W)} {px py pz pt pos : Pos} {kt k2 pt2} (hN : X.N.Nodup) (ha : PA X [e, e', e''] (tA X.K E a)) (hc : X.calm = true := by rfl) (hi : X.N[i]? = some x := by rfl) (hj : X.N[j]? = some y := by rfl) (hl : X.N[l]? = some z := by rfl) (hij : i ≠ j := by decide) (hil : i ≠ l := by decide) (hjl : j ≠ l := by decide)
    (hx : X.env.scope.names.lookup x = some .local := by rfl) (hy : X.env.scope.names.lookup y = some .local := by rfl) (hz : X.env.scope.names.lookup z = some .local := by rfl)
    (hw : swappedStores [.Tuple [.Name x px, .Name y py, .Name z pz] kt pt] (.Tuple [e, e', e''] k2 pt2) X.env = pure (some [x, y, z]) := by rfl)
    (hs : swapsWithSole [.Tuple [.Name x px, .Name y py, .Name z pz] kt pt] (.Tuple [e, e', e''] k2 pt2) pos.line X.env = pure false := by rfl) :
    PS X (.Assign [.Tuple [.Name x px, .Name y py, .Name z pz] kt pt] (.Tuple [e, e', e''] k2 pt2) pos) (tS X.K E (cPar [i, j, l] a)) :=
  ps_mono (ps_par3 hc hN hi hj hl hij hil hjl hx hy hz ha hw hs) fun D' σ H ⟨δ, ρ, S, st, so, p⟩ => tG_thenS st so p fun ws S1 vs ρ1 H1 f1 st1 so1 r1 p1 => by
    by_cases hl : ws.length = [i, j, l].length
    · rw [if_pos hl] at p1
      match ws, vs, r1, hl with
      | [w1, w2, w3], _, .cons (v := v1) q1 (.cons (v := v2) q2 (.cons (v := v3) q3 .nil)), _ => exact ⟨v1, v2, v3, rfl, p1 _ ρ1 H1 Fwd.refl so1 (((st1.set i q1).set j q2).set l q3)⟩
    · rw [if_neg hl] at p1; exact p1.elim
end

/-! ### methods of texts -/
def asX (w : W) (S : Sto) : R Tx := match w with
  | .v (.str t) => .ok t S
  | _ => .bad
def ap1 (g : D → Option D) (y : W) (S : Sto) : R W := match rd S y with
  | some e => (match g e with
    | some r => .ok (.v r) S
    | none => .bad)
  | none => .bad
def cM1 (g : Tx → D → Option D) (a b : Den W) : Den W := fun δ S => (a δ S).bind fun w S1 => (asX w S1).bind fun t S2 => (b δ S2).bind fun y S3 => ap1 (g t) y S3
def cM0 (g : Tx → Option D) (a : Den W) : Den W := fun δ S => (a δ S).bind fun w S1 => (asX w S1).bind fun t S2 => match g t with
  | some r => .ok (.v r) S2
  | none => .bad
def GM1 (K : PySem.W.Frag) (r : V → List V → Hp → VK → Prop) (g : Tx → D → Option D) : Prop := ∀ (ρ : List Addr) (S : Sto) (H : Hp) (t : Tx) (e z : D) (y : V) (Q : VK), Sok K ρ S H → Rq K H (live ρ S) e y → g t e = some z → Nxt K ρ S H z Q → r (.str (sx t)) [y] H Q
def GM0 (K : PySem.W.Frag) (r : V → List V → Hp → VK → Prop) (g : Tx → Option D) : Prop := ∀ (ρ : List Addr) (S : Sto) (H : Hp) (t : Tx) (z : D) (Q : VK), Sok K ρ S H → g t = some z → Nxt K ρ S H z Q → r (.str (sx t)) [] H Q
theorem asX_then {K : PySem.W.Frag} {α β : Type} {rel : Rl α β} {ρ : List Addr} {S : Sto} {H : Hp} {w : W} {v : V} {k : Tx → Sto → R α} {Q : β → Hp → Prop} {Ex} (r : RpW K ρ S H w v) (p : Post K rel ρ S H ((asX w S).bind k) Q Ex) : ∃ t, v = .str (sx t) ∧ Post K rel ρ S H (k t S) Q Ex := by
  cases w with
  | v d =>
    cases d with
    | str t => cases r; exact ⟨t, rfl, p⟩
    | _ => exact p.elim
  | r i => exact p.elim
  | s ns => exact p.elim
  | lk es => exact p.elim
section
variable {X : Cx} {E : XP} {o e : Expr} {apos pos : Pos} {a b : Den W} {name : Str}
theorem de_m1 {id : String} {r : V → List V → Hp → VK → Prop} {g : Tx → D → Option D} (slot : Slot "str" name id) (ty : typeOf (.builtin id) = pure (.type "method_descriptor")) (rule : MtR X id r) (hg : GM1 X.K r g) (ha : PE X o (tE X.K E a)) (hb : PE X e (tE X.K E b))
    (hs : starEach [e] X.env = [(false, eval e X.env)] := by rfl) (hbase : attributeBase o name X.env (eval o X.env) = eval o X.env := by rfl) (hline : (apos.endLine == pos.line) = true := by rfl) : PE X (.Call (.Attribute o name apos) [e] [] pos) (tE X.K E (cM1 g a b)) :=
  pe_mono (pe_m1 slot ty rule ha hb hs hbase hline) fun σ H Q ⟨δ, ρ, S, st, so, p⟩ => tG_then st so p fun w S1 x ρ1 H1 f1 st1 so1 r1 p1 => by
    obtain ⟨t, rfl, p2⟩ := asX_then r1 p1
    refine ⟨⟨_, rfl⟩, tG_then st1 so1 p2 fun y S2 u ρ2 H2 f2 st2 so2 r2 p3 => ?_⟩
    unfold ap1 at p3
    cases q1 : rd S2 y with
    | none => simp only [q1] at p3; exact p3.elim
    | some d =>
      cases q3 : g t d with
      | none => simp only [q1, q3] at p3; exact p3.elim
      | some z =>
        simp only [q1, q3] at p3
        exact hg ρ2 S2 H2 t d z u Q so2 (rd_ok so2 r2 q1) q3 fun v H' f so' rp => p3 v ρ2 H' f so' rp
theorem de_m0 {id : String} {r : V → List V → Hp → VK → Prop} {g : Tx → Option D} (slot : Slot "str" name id) (ty : typeOf (.builtin id) = pure (.type "method_descriptor")) (rule : MtR X id r) (hg : GM0 X.K r g) (ha : PE X o (tE X.K E a))
    (hbase : attributeBase o name X.env (eval o X.env) = eval o X.env := by rfl) (hline : (apos.endLine == pos.line) = true := by rfl) : PE X (.Call (.Attribute o name apos) [] [] pos) (tE X.K E (cM0 g a)) :=
  pe_mono (pe_m0 slot ty rule ha hbase hline) fun σ H Q ⟨δ, ρ, S, st, so, p⟩ => tG_then st so p fun w S1 x ρ1 H1 f1 st1 so1 r1 p1 => by
    obtain ⟨t, rfl, p2⟩ := asX_then r1 p1
    refine ⟨⟨_, rfl⟩, ?_⟩
    cases q3 : g t with
    | none => simp only [q3] at p2; exact p2.elim
    | some z =>
      simp only [q3] at p2
      exact hg ρ1 S1 H1 t z Q so1 q3 fun v H' f so' rp => p2 v ρ1 H' f so' rp
end
/-- the texts of a row -/
def txs : List D → Option (List Tx)
  | [] => some []
  | .str t :: r => (txs r).map (t :: ·)
  | _ => none
theorem txs_rp {K : PySem.W.Frag} {H : Hp} {M : Addr → Prop} : ∀ {ds : List D} {ts : List Tx} {vs : List V}, txs ds = some ts → RpL K H M ds vs → vs = (ts.map sx).map V.str
  | [], ts, _, e, .nil => by cases e; rfl
  | .str t :: r, ts, _, e, .cons a b => by
    unfold txs at e
    cases q : txs r with
    | none => rw [q] at e; cases e
    | some us =>
      rw [q] at e
      cases e
      cases a
      rw [txs_rp q b]
      rfl
  | .non :: _, _, _, e, _ => by cases e
  | .bl _ :: _, _, _, e, _ => by cases e
  | .int _ :: _, _, _, e, _ => by cases e
  | .tup _ :: _, _, _, e, _ => by cases e
  | .lst _ :: _, _, _, e, _ => by cases e
  | .dct _ :: _, _, _, e, _ => by cases e
  | .ty _ :: _, _, _, e, _ => by cases e
def joinT (s : Tx) : List Tx → Tx
  | [] => []
  | [p] => p
  | p :: q :: r => p ++ (s ++ joinT s (q :: r))
theorem joinT_eq (s : Tx) : ∀ ts : List Tx, TL.joinL s ts = joinT s ts
  | [] => rfl
  | [_] => rfl
  | p :: q :: r => by
    show p ++ (s ++ TL.joinL s (q :: r)) = p ++ (s ++ joinT s (q :: r))
    rw [joinT_eq s (q :: r)]
def gJoin (s : Tx) : D → Option D := fun d => match (match d with
    | .lst ds => txs ds
    | .tup ds => txs ds
    | _ => none) with
  | some ts => if (ts.map List.length).sum + ts.length * s.length ≤ 1000000 then some (.str (joinT s ts)) else none
  | none => none
theorem gm_join {K : PySem.W.Frag} : GM1 K (fun x xs H Q => ∃ a p, ∃ ys : List Str, x = .str a ∧ xs = [.ref p] ∧ (SqL K H p (ys.map V.str) ∨ SqT K H p (ys.map V.str)) ∧
    (ys.map (·.length)).sum + ys.length * a.length ≤ 16777216 ∧ Q (.str (Txt.join a ys)) H) gJoin := fun ρ S H t e z y Q so r q n => by
  have fin : ∀ ts : List Tx, (if (ts.map List.length).sum + ts.length * t.length ≤ 1000000 then some (D.str (joinT t ts)) else none) = some z →
      ((ts.map sx).map (·.length)).sum + (ts.map sx).length * (sx t).length ≤ 16777216 ∧ Q (.str (Txt.join (sx t) (ts.map sx))) H := fun ts h => by
    by_cases hl : (ts.map List.length).sum + ts.length * t.length ≤ 1000000
    · rw [if_pos hl] at h
      cases h
      refine ⟨?_, ?_⟩
      · have e1 : ((ts.map sx).map (·.length)) = ts.map List.length := SX.lens ts
        rw [e1, List.length_map, sx_length]
        omega
      · have e2 : Txt.join (sx t) (ts.map sx) = sx (joinT t ts) := (SX.join_S t ts).trans (congrArg sx (joinT_eq t ts))
        rw [e2]
        exact nxt_here so (.str _) n
    · rw [if_neg hl] at h; cases h
  unfold gJoin at q
  cases e with
  | lst ds =>
    simp only at q
    cases q1 : txs ds with
    | none => rw [q1] at q; cases q
    | some ts =>
      rw [q1] at q
      obtain ⟨h1, h2⟩ := fin ts q
      obtain ⟨a, xs, rfl, ea, rl⟩ := r.lstE
      cases txs_rp q1 rl
      exact ⟨_, a, ts.map sx, rfl, rfl, .inl (SqL.of ea), h1, h2⟩
  | tup ds =>
    simp only at q
    cases q1 : txs ds with
    | none => rw [q1] at q; cases q
    | some ts =>
      rw [q1] at q
      obtain ⟨h1, h2⟩ := fin ts q
      obtain ⟨a, xs, rfl, ea, rl⟩ := r.tup
      cases txs_rp q1 rl
      exact ⟨_, a, ts.map sx, rfl, rfl, .inr ea, h1, h2⟩
  | non => cases q
  | bl _ => cases q
  | int _ => cases q
  | str _ => cases q
  | dct _ => cases q
  | ty _ => cases q
theorem de_join {X : Cx} {E : XP} {o e : Expr} {apos pos : Pos} {a b : Den W} (ha : PE X o (tE X.K E a)) (hb : PE X e (tE X.K E b))
    (hs : starEach [e] X.env = [(false, eval e X.env)] := by rfl) (hbase : attributeBase o "join" X.env (eval o X.env) = eval o X.env := by rfl) (hline : (apos.endLine == pos.line) = true := by rfl) : PE X (.Call (.Attribute o "join" apos) [e] [] pos) (tE X.K E (cM1 gJoin a b)) :=
  de_m1 F.slot_str_join F.type_str_join mt_join gm_join ha hb hs hbase hline
end Fro

namespace Fro
open PySem PySem.Spec L2

section
variable {P : Program} {w : World} {K : PySem.W.Frag} {mg : Str → Option Value} {base : Heap}
theorem fn_denD {x qual : Str} {params : Arguments} {stm : List Stmt} {scope : Scope} {dvs : List V} {kws : List (Str × V)} {f : Addr} {fd : FuncData} {N ps : List Str} {k n m : Nat} {body : DenS} (F : FunD K x qual params stm scope dvs kws f fd) (S : FnScope N ps scope)
    (hb : ∀ (cdv : Value) (A : Around) (outer : List Env) (s : Shared) (H : Hp) (E : XK), Room k (A.deeper (PyProof.Rows.envOfC qual scope s.heap.objs.size f cdv)) → PSs (cxOf CX0 P w K mg base N qual scope f cdv A outer s H E).nox stm (tS K XP0 body)) (hn : ps.length = n := by rfl) (hm : N.length = m := by rfl) :
    FnOk P w K mg base CX0 (k + 1) f fd ps (spF K n (fdef m body)) := by
  subst hn; subst hm
  refine F.ok S (fun vs H Q E h => ?_) (fun cdv A outer s H vs Q E hr h => ?_)
  · obtain ⟨ws, ρ, S, r, so, p⟩ := h
    by_cases hl : ws.length = ps.length
    · rw [← r.length]; exact hl
    · unfold chk at p; rw [if_neg hl] at p; exact p.elim
  · obtain ⟨ws, ρ, S, r, so, p⟩ := h
    by_cases hl : ws.length = ps.length
    · unfold chk at p
      rw [if_pos hl] at p
      exact ⟨_, (hb cdv A outer s H E hr).nox, slots0 N.length ws, ρ, S, start_rp r, so, end_post so p⟩
    · unfold chk at p; rw [if_neg hl] at p; exact p.elim
theorem fn_zero {f : Addr} {fd : FuncData} {ps : List Str} {k n : Nat} {den : FDen} (h : den = fun _ _ => .bad) : FnOk P w K mg base CX0 k f fd ps (spF K n den) := by
  subst h
  have no : ∀ vs H Q E, ¬ spF K n (fun _ _ => .bad) vs H Q E := fun vs H Q E ⟨ws, ρ, S, r, so, p⟩ => by
    unfold chk at p
    split at p <;> exact p
  exact ⟨fun vs H Q E h => absurd h (no vs H Q E), fun A outer s H args us vs Q E _ _ _ _ h => absurd h (no vs H Q E)⟩
end

/-- the law's own end -/
theorem end_sp {K : PySem.W.Frag} {H : Hp} {a : Addr} {ns : List Int} {fd : FDen} {E : XK} (h : fd [.s ns] [] = .ok (.v (.bl true)) []) (hS : SqL K H a (ns.map V.int)) : spF K 1 fd [.ref a] H (fun v _ => v = .bl true) E := by
  have nl : ∀ b, ¬ live [] [] b := fun b ⟨i, o, h1, _⟩ => by simp at h1
  refine ⟨[.s ns], [], [], .cons ⟨a, rfl, Scr.of hS (nl a)⟩ .nil, ⟨rfl, List.nodup_nil, fun i a o h1 _ => by simp at h1⟩, ?_⟩
  unfold chk
  rw [if_pos (show [W.s ns].length = 1 from rfl), h]
  intro v H' f so r
  cases r
  rfl
theorem dfl_one {K : PySem.W.Frag} {u : Value} {d : D} {v : V} {n : Nat} (h : kdV n K u d = true) (hv : RelV v u) : ∀ ρ S H, RpW K ρ S H (.v d) v := fun ρ S H => by
  obtain ⟨v', hv', r⟩ := kdV_ok (H := H) (M := live ρ S) n u d h
  rw [hv.inj hv']; exact r

/-! ### -x -/
def apNeg (x : W) (S : Sto) : R W := match x with
  | .v (.int i) => .ok (.v (.int (-i))) S
  | _ => .bad
def cNeg (a : Den W) : Den W := fun δ S => (a δ S).bind fun x S1 => apNeg x S1
theorem de_neg {X : Cx} {E : XP} {e : Expr} {pos : Pos} {a : Den W} (h : PE X e (tE X.K E a)) : PE X (.UnaryOp .USub e pos) (tE X.K E (cNeg a)) :=
  pe_mono (pe_un un_neg h) fun σ H Q ⟨δ, ρ, S, st, so, p⟩ => tG_then st so p fun w S1 v ρ1 H1 f1 st1 so1 r1 p1 => by
    unfold apNeg at p1
    split at p1
    · rename_i i
      cases r1
      exact ⟨i, rfl, p1 _ ρ1 H1 Fwd.refl so1 (.int _)⟩
    · exact p1.elim
/-! ### is True -/
def gIsB : D → D → Option D := fun d e => match d, e with
  | .bl a, .bl b => some (.bl (decide (a = b)))
  | _, _ => none
def gIsNotB : D → D → Option D := fun d e => match d, e with
  | .bl a, .bl b => some (.bl (!decide (a = b)))
  | _, _ => none
theorem g2_isB {K : PySem.W.Frag} : G2 K rIsB gIsB := fun ρ S H d e z x y Q so rx ry q n => by
  unfold gIsB at q
  split at q
  · cases q
    exact ⟨_, _, rx.bl, ry.bl, nxt_here so (.bl _) n⟩
  · cases q
theorem g2_isNotB {K : PySem.W.Frag} : G2 K rNotB gIsNotB := fun ρ S H d e z x y Q so rx ry q n => by
  unfold gIsNotB at q
  split at q
  · cases q
    exact ⟨_, _, rx.bl, ry.bl, nxt_here so (.bl _) n⟩
  · cases q
/-! ### xs[::-1] -/
def apRev (x : W) (S : Sto) : R W := match rd S x with
  | some (.lst ds) => .ok (.v (.lst ds.reverse)) S
  | _ => .bad
def cRev (a : Den W) : Den W := fun δ S => (a δ S).bind fun x S1 => apRev x S1
theorem de_rev {X : Cx} {E : XP} {e : Expr} {k : Nat} {p1 p2 p3 pos : Pos} {a : Den W} (h : PE X e (tE X.K E a)) : PE X (.Subscript e (.Slice none none (some (.UnaryOp .USub (.Constant (.int 1) k p1) p2)) p3) pos) (tE X.K E (cRev a)) :=
  pe_mono (pe_revL h) fun σ H Q ⟨δ, ρ, S, st, so, p⟩ => tG_then st so p fun w S1 v ρ1 H1 f1 st1 so1 r1 p1 => by
    unfold apRev at p1
    split at p1
    · rename_i ds q
      obtain ⟨b, xs, rfl, hb, rb⟩ := (rd_ok so1 r1 q).lstE
      exact ⟨b, xs, rfl, SqL.of hb, nxt_lst so1 rb.reverse fun v H' f so' rp => p1 v ρ1 H' f so' rp⟩
    · exact p1.elim
/-! ### name = [..] -/
section
variable {X : Cx} {E : XP}
theorem asg_comp {g : TG} {dg : DenG} {ts vs : List Nat} {it : Den (List D)} {tt : Den Bool} {te : Den W} (i : Nat) (hgo : GOk X.K g dg ts) (hts : ∀ j ∈ ts, j ∈ vs) {D' : Ends} {σ : L2.St} {H : Hp}
    (h : tS X.K E (cAsg (cComp it dg tt te vs) (gN i)) D' σ H) : tAsg (tLc (tI X.K E it) g (tT X.K XP0 tt) (tE X.K XP0 te) vs) (gName i) D' σ H := by
  have hm : ∀ {den : Den W}, tS X.K E (cAsg den (gN i)) D' σ H → tE X.K E den σ H fun x H1 => gName i x σ H1 D'.nx := fun {den} ⟨δ, ρ, S, st, so, p⟩ => tG_thenS st so p fun w S1 v ρ1 H1 f1 st1 so1 r1 p1 => asg_post (gok_name i) st1 so1 r1 p1
  have q := hm h
  refine comp_post hgo hts (kf := fun S1 S2 => if S2.length = S1.length + 1 then (match S2[S1.length]? with
    | some (.lst acc) => .ok (.v (.lst acc)) (S2.take S1.length)
    | _ => .bad) else .bad) (fun ρ1 ρ2 S1 S2 H1 H2 D' so1 nD f so2 e p => ?_) q
  by_cases hl : S2.length = S1.length + 1
  · simp only [if_pos hl] at p
    cases q : S2[S1.length]? with
    | none => rw [q] at p; exact p.elim
    | some ob =>
      cases ob with
      | dct es => rw [q] at p; exact p.elim
      | dead => rw [q] at p; exact p.elim
      | lst acc =>
        rw [q] at p
        obtain ⟨xs, ex, rl⟩ := so2.obs _ _ _ e q
        obtain ⟨more, em⟩ := f.ext
        have t := so2.take S1.length
        rw [em, take_pre so1.len, ← em] at t
        refine p (.ref D') ρ1 H2 (f.cut so1.len so2.len) t.1 (Rp.lst ex (fun l => so1.notIn nD ?_) (rl.weak t.2))
        obtain ⟨j, o, h1, _, _⟩ := l
        exact List.mem_of_getElem? h1
  · simp only [if_neg hl] at p; exact p.elim
theorem ds_setComp (i : Nat) {y : Str} {py : Pos} {elt tg iter : Expr} {ifs : List Expr} {scope : Scope} {own : List (Str × Nat)} {pos spos : Pos} {it : Den (List D)} {g : TG} {dg : DenG} {ts : List Nat} {tt : Den Bool} {te : Den W} (hc : X.calm = true) (hN : X.N.Nodup) (hi : PI X tg iter (tI X.K E it)) (hgo : GOk X.K g dg ts) (ok : blkC X.N X.env.scope scope own = true)
    (hg : ∀ (s : Shared) (H : Hp) (C : Addr) (cl : List (Str × Addr)) (fp : List Addr), PG (X.blk s H scope (compEnvC scope cl C X.env) fp) tg g) (ht : ∀ (s : Shared) (H : Hp) (C : Addr) (cl : List (Str × Addr)) (fp : List Addr), PTs (X.blk s H scope (compEnvC scope cl C X.env) fp) ifs (tT X.K XP0 tt))
    (he : ∀ (s : Shared) (H : Hp) (C : Addr) (cl : List (Str × Addr)) (fp : List Addr), PE (X.blk s H scope (compEnvC scope cl C X.env) fp) elt (tE X.K XP0 te)) (hs : ∀ x, foldedSetIterable iter X.env x = pure x := by intro _; rfl) (hts : ∀ j ∈ ts, j ∈ own.map (·.2) := by decide)
    (hy : X.N[i]? = some y := by rfl) (hyl : X.env.scope.names.lookup y = some .local := by rfl) (hsw : swapsWith (.ListComp elt [⟨tg, iter, ifs, 0⟩] scope pos) (some (.Name y py)) spos.line X.env = pure true := by exact sw_true rfl rfl rfl (by decide +kernel)) :
    PS X (.Assign [.Name y py] (.ListComp elt [⟨tg, iter, ifs, 0⟩] scope pos) spos) (tS X.K E (cAsg (cComp it dg tt te (own.map (·.2))) (gN i))) :=
  ps_mono (ps_setLc hc hN hy hyl hsw hi (blkOk_by ok) hg ht he hs) fun D' σ H h => asg_comp i hgo hts h
end
end Fro

namespace Fro
open PySem PySem.Spec L2

/-! ### dicts keyed by texts, as data -/
def hasE (es : List (Tx × D)) (t : Tx) : Bool := es.any fun e => e.1 == t
def putE (es : List (Tx × D)) (t : Tx) (d : D) : List (Tx × D) := if hasE es t = true then es.map fun e => if e.1 = t then (e.1, d) else e else es ++ [(t, d)]
def mergeE (es more : List (Tx × D)) : List (Tx × D) := more.foldl (fun acc e => putE acc e.1 e.2) es
section
variable {K : PySem.W.Frag} {H : Hp} {M : Addr → Prop}
theorem key_dec (t u : Tx) : decide ((Sum.inr (sx t) : Key) = Sum.inr (sx u)) = (t == u) := by
  by_cases h : t = u
  · subst h; simp
  · have : (Sum.inr (sx t) : Key) ≠ Sum.inr (sx u) := fun e => h (sx_inj (Sum.inr.inj e))
    rw [decide_eq_false this, beq_eq_false_iff_ne.mpr h]
theorem rpE_get : ∀ {es : List (Tx × D)} {kvs : List (Key × V)} (t : Tx), RpE K H M es kvs → (lkT es t = none ∧ valV kvs (Sum.inr (sx t)) = none) ∨ ∃ d v, lkT es t = some d ∧ valV kvs (Sum.inr (sx t)) = some v ∧ Rp K H M d v
  | _, _, t, .nil => .inl ⟨rfl, rfl⟩
  | _, _, t, .cons (t := u) (d := d) (es := es) (v := v) a b => by
    by_cases h : u = t
    · subst h
      exact .inr ⟨d, v, if_pos rfl, valV_pos rfl, a⟩
    · have hk : ¬ ((Sum.inr (sx u), v) : Key × V).1 = Sum.inr (sx t) := fun e => h (sx_inj (Sum.inr.inj e))
      rw [valV_neg hk, show lkT ((u, d) :: es) t = lkT es t from if_neg h]
      exact rpE_get t b
theorem rpE_len : ∀ {es : List (Tx × D)} {kvs : List (Key × V)}, RpE K H M es kvs → es.length = kvs.length
  | _, _, .nil => rfl
  | _, _, .cons _ b => by rw [List.length_cons, List.length_cons, rpE_len b]
theorem rpE_has : ∀ {es : List (Tx × D)} {kvs : List (Key × V)} (t : Tx), RpE K H M es kvs → (kvs.any fun kv => decide (kv.1 = Sum.inr (sx t))) = hasE es t
  | _, _, t, .nil => rfl
  | _, _, t, .cons (t := u) a b => by
    have ih := rpE_has t b
    unfold hasE at ih ⊢
    rw [List.any_cons, List.any_cons, ih, key_dec]
theorem rpE_map : ∀ {es : List (Tx × D)} {kvs : List (Key × V)} (t : Tx) {d : D} {v : V}, RpE K H M es kvs → Rp K H M d v → RpE K H M (es.map fun e => if e.1 = t then (e.1, d) else e) (kvs.map fun kv => if kv.1 = Sum.inr (sx t) then (kv.1, v) else kv)
  | _, _, t, d, v, .nil, _ => .nil
  | _, _, t, d, v, .cons (t := u) (d := d') (v := v') a b, r => by
    rw [List.map_cons, List.map_cons]
    have ih := rpE_map t b r
    by_cases h : u = t
    · subst h
      rw [if_pos rfl, if_pos rfl]
      exact .cons r ih
    · rw [if_neg h, if_neg (fun e => h (sx_inj (Sum.inr.inj e)))]
      exact .cons a ih
theorem rpE_snoc : ∀ {es : List (Tx × D)} {kvs : List (Key × V)} (t : Tx) {d : D} {v : V}, RpE K H M es kvs → Rp K H M d v → RpE K H M (es ++ [(t, d)]) (kvs ++ [(Sum.inr (sx t), v)])
  | _, _, t, d, v, .nil, r => .cons r .nil
  | _, _, t, d, v, .cons a b, r => .cons a (rpE_snoc t b r)
theorem rpE_put {es : List (Tx × D)} {kvs : List (Key × V)} (t : Tx) {d : D} {v : V} (h : RpE K H M es kvs) (r : Rp K H M d v) : RpE K H M (putE es t d) (putK kvs (Sum.inr (sx t)) v) := by
  unfold putE putK
  rw [rpE_has t h]
  by_cases q : hasE es t = true
  · rw [if_pos q, if_pos q]; exact rpE_map t h r
  · rw [if_neg q, if_neg q]; exact rpE_snoc t h r
theorem rpE_merge : ∀ {more : List (Tx × D)} {mkv : List (Key × V)} {es : List (Tx × D)} {kvs : List (Key × V)}, RpE K H M more mkv → RpE K H M es kvs → RpE K H M (mergeE es more) (mergeK kvs mkv)
  | _, _, es, kvs, .nil, h => h
  | _, _, es, kvs, .cons (t := t) (d := d) (es := r) (v := v) (kvs := rk) a b, h => by
    show RpE K H M (mergeE (putE es t d) r) (mergeK (putK kvs (Sum.inr (sx t)) v) rk)
    exact rpE_merge b (rpE_put t h a)
theorem rpE_atI : ∀ {es : List (Tx × D)} {kvs : List (Key × V)} (i : Nat) {e : Tx × D}, RpE K H M es kvs → es[i]? = some e → ∃ v, kvs[i]? = some (Sum.inr (sx e.1), v) ∧ Rp K H M e.2 v
  | _, _, _, _, .nil, e => by simp at e
  | _, _, 0, _, .cons a _, e => by simp at e; subst e; exact ⟨_, rfl, a⟩
  | _, _, i + 1, _, .cons _ b, e => by
    obtain ⟨v, h1, h2⟩ := rpE_atI i b (by simpa using e)
    exact ⟨v, by simpa using h1, h2⟩
end

/-! ### d.get(k, x); d[k] -/
def apDGet2 (x y z : W) (S : Sto) : R W := match rd S x, y with
  | some (.dct es), .v (.str t) => (match lkT es t with
    | some d => .ok (.v d) S
    | none => .ok z S)
  | _, _ => .bad
def isDct (x : W) (S : Sto) : Bool := match rd S x with
  | some (.dct _) => true
  | _ => false
def cDGet2 (a b c : Den W) : Den W := fun δ S => (a δ S).bind fun x S1 => if isDct x S1 = true then (b δ S1).bind fun y S2 => (c δ S2).bind fun z S3 => apDGet2 x y z S3 else .bad
def apDIx (x y : W) (S : Sto) : R W := match rd S x, y with
  | some (.dct es), .v (.str t) => (match lkT es t with
    | some d => .ok (.v d) S
    | none => .bad)
  | _, _ => .bad
def cDIx (a b : Den W) : Den W := fun δ S => (a δ S).bind fun x S1 => (b δ S1).bind fun y S2 => apDIx x y S2
def apDIn (neg : Bool) (y x : W) (S : Sto) : R W := match rd S x, y with
  | some (.dct es), .v (.str t) => .ok (.v (.bl (if neg then !(lkT es t).isSome else (lkT es t).isSome))) S
  | _, _ => .bad
def cDIn (neg : Bool) (b a : Den W) : Den W := fun δ S => (b δ S).bind fun y S1 => (a δ S1).bind fun x S2 => apDIn neg y x S2
section
variable {K : PySem.W.Frag} {ρ : List Addr} {S : Sto} {H : Hp}
theorem isDct_ok {x : W} {v : V} (so : Sok K ρ S H) (r : RpW K ρ S H x v) (h : isDct x S = true) : ∃ a, v = .ref a ∧ IsD H a := by
  unfold isDct at h
  cases q : rd S x with
  | none => simp only [q] at h; cases h
  | some d =>
    cases d with
    | dct es =>
      obtain ⟨a, kvs, rfl, hd, _⟩ := (rd_ok so r q).dctE
      exact ⟨a, rfl, .inl ⟨kvs, hd⟩⟩
    | _ => simp only [q] at h; cases h
theorem dGet_at {x : W} {v : V} {es : List (Tx × D)} (so : Sok K ρ S H) (r : RpW K ρ S H x v) (q : rd S x = some (.dct es)) (t : Tx) :
    ∃ a, v = .ref a ∧ ((lkT es t = none ∧ DGet H a (.str (sx t)) none) ∨ ∃ d u, lkT es t = some d ∧ DGet H a (.str (sx t)) (some u) ∧ Rp K H (live ρ S) d u) := by
  obtain ⟨a, kvs, rfl, hd, re⟩ := (rd_ok so r q).dctE
  refine ⟨a, rfl, ?_⟩
  rcases rpE_get t re with ⟨h1, h2⟩ | ⟨d, u, h1, h2, h3⟩
  · exact .inl ⟨h1, .inl ⟨kvs, Sum.inr (sx t), hd, rfl, h2.symm⟩⟩
  · exact .inr ⟨d, u, h1, .inl ⟨kvs, Sum.inr (sx t), hd, rfl, h2.symm⟩, h3⟩
end
section
variable {X : Cx} {E : XP} {k : Nat} {o e f : Expr} {apos cpos pos : Pos} {a b c : Den W}
theorem hu1 {A : Around} (hr : Room k A) : A.units + 1 < cLine := by have := hr.un; omega
theorem de_dget2 (hr : Room k X.A) (ho : PE X o (tE X.K E a)) (he : PE X e (tE X.K E b)) (hf : PE X f (tE X.K E c)) (m : M2 X o "get" apos e f cpos := by exact ⟨rfl, rfl, rfl, rfl⟩) : PE X (.Call (.Attribute o "get" apos) [e, f] [] cpos) (tE X.K E (cDGet2 a b c)) :=
  pe_mono (pe_dget2 (hu1 hr) ho he hf m) fun σ H Q ⟨δ, ρ, S, st, so, p⟩ => tG_then st so p fun x S1 v ρ1 H1 f1 st1 so1 r1 p1 => by
    by_cases hd : isDct x S1 = true
    · rw [if_pos hd] at p1
      obtain ⟨a, rfl, ia⟩ := isDct_ok so1 r1 hd
      refine ⟨a, rfl, ia, tG_then st1 so1 p1 fun y S2 u ρ2 H2 f2 st2 so2 r2 p2 => tG_then st2 so2 p2 fun z S3 w ρ3 H3 f3 st3 so3 r3 p3 => ?_⟩
      have rx := f3.rw (f2.rw r1)
      have ry := f3.rw r2
      unfold apDGet2 at p3
      split at p3
      · rename_i es t q
        obtain ⟨a', ea, h⟩ := dGet_at so3 rx q t
        cases ea
        cases ry
        rcases h with ⟨h1, h2⟩ | ⟨d, u, h1, h2, h3⟩
        · rw [h1] at p3
          exact ⟨none, h2, p3 w ρ3 H3 Fwd.refl so3 r3⟩
        · rw [h1] at p3
          exact ⟨some u, h2, p3 u ρ3 H3 Fwd.refl so3 h3⟩
      · exact p3.elim
    · rw [if_neg hd] at p1; exact p1.elim
theorem de_dix (hr : Room k X.A) (ho : PE X o (tE X.K E a)) (he : PE X e (tE X.K E b)) (hs : PlainIx e := by exact fun _ _ => rfl) : PE X (.Subscript o e pos) (tE X.K E (cDIx a b)) :=
  pe_mono (pe_dget (hu1 hr) ho he hs) fun σ H Q ⟨δ, ρ, S, st, so, p⟩ => tG_then st so p fun x S1 v ρ1 H1 f1 st1 so1 r1 p1 => tG_then st1 so1 p1 fun y S2 u ρ2 H2 f2 st2 so2 r2 p2 => by
    have rx := f2.rw r1
    unfold apDIx at p2
    split at p2
    · rename_i es t q
      obtain ⟨a', rfl, h⟩ := dGet_at so2 rx q t
      cases r2
      rcases h with ⟨h1, h2⟩ | ⟨d, u, h1, h2, h3⟩
      · rw [h1] at p2; exact p2.elim
      · rw [h1] at p2
        exact ⟨a', u, rfl, h2, p2 u ρ2 H2 Fwd.refl so2 h3⟩
    · exact p2.elim
theorem din_post {K : PySem.W.Frag} {ρ : List Addr} {S : Sto} {H : Hp} {y x : W} {u v : V} {Q : VK} {Ex} (neg : Bool) (so : Sok K ρ S H) (ry : RpW K ρ S H y u) (rx : RpW K ρ S H x v) (p : Post K (RpW K) ρ S H (apDIn neg y x S) Q Ex) : ∃ a o, v = .ref a ∧ DGet H a u o ∧ Q (.bl (if neg then !o.isSome else o.isSome)) H := by
  unfold apDIn at p
  split at p
  · rename_i es t q
    obtain ⟨a', rfl, h⟩ := dGet_at so rx q t
    cases ry
    rcases h with ⟨h1, h2⟩ | ⟨d, u, h1, h2, h3⟩
    · refine ⟨a', none, rfl, h2, p _ ρ H Fwd.refl so ?_⟩
      rw [h1]
      exact .bl _
    · refine ⟨a', some u, rfl, h2, p _ ρ H Fwd.refl so ?_⟩
      rw [h1]
      exact .bl _
  · exact p.elim
theorem de_din (hr : Room k X.A) (he : PE X e (tE X.K E b)) (ho : PE X o (tE X.K E a)) (hm : behindInMarks .In o = false := by rfl) : PE X (.Compare e [.In] [o] pos) (tE X.K E (cDIn false b a)) :=
  pe_mono (pe_cmp (pc_din (hu1 hr) he ho) hm) fun σ H Q ⟨δ, ρ, S, st, so, p⟩ => tG_then st so p fun y S1 u ρ1 H1 f1 st1 so1 r1 p1 => tG_then st1 so1 p1 fun x S2 v ρ2 H2 f2 st2 so2 r2 p2 => din_post false so2 (f2.rw r1) r2 p2
theorem de_dnotin (hr : Room k X.A) (he : PE X e (tE X.K E b)) (ho : PE X o (tE X.K E a)) (hm : behindInMarks .NotIn o = false := by rfl) : PE X (.Compare e [.NotIn] [o] pos) (tE X.K E (cDIn true b a)) :=
  pe_mono (pe_cmp (pc_dnotin (hu1 hr) he ho) hm) fun σ H Q ⟨δ, ρ, S, st, so, p⟩ => tG_then st so p fun y S1 u ρ1 H1 f1 st1 so1 r1 p1 => tG_then st1 so1 p1 fun x S2 v ρ2 H2 f2 st2 so2 r2 p2 => din_post true so2 (f2.rw r1) r2 p2
end
end Fro

namespace Fro
open PySem PySem.Spec L2

/-! ### {k: v, ..} -/
abbrev Prs := List (Den W × Den W)
def oneP (x y : W) (S : Sto) : R (Tx × D) := match x, y with
  | .v (.str t), .v d => .ok (t, d) S
  | _, _ => .bad
def pairsD : Prs → Den (List (Tx × D))
  | [] => fun _ S => .ok [] S
  | (a, b) :: r => fun δ S => (a δ S).bind fun x S1 => (b δ S1).bind fun y S2 => (oneP x y S2).bind fun e S3 => (pairsD r δ S3).bind fun es S4 => .ok (e :: es) S4
def endDict (n : Nat) (es : List (Tx × D)) (S1 : Sto) : R W := match S1[n]? with
  | some (.dct []) => if es.length ≤ 15 ∧ S1.length = n + 1 then .ok (.v (.dct (mergeE [] es))) (S1.take n) else .bad
  | _ => .bad
def cDict (ps : Prs) : Den W := fun δ S => (pairsD ps δ (S ++ [.dct []])).bind fun es S1 => endDict S.length es S1
theorem RpE.app : ∀ {K : PySem.W.Frag} {H : Hp} {M : Addr → Prop} {es : List (Tx × D)} {kvs : List (Key × V)}, RpE K H M es kvs → ∀ {fs : List (Tx × D)} {kvs' : List (Key × V)}, RpE K H M fs kvs' → RpE K H M (es ++ fs) (kvs ++ kvs')
  | _, _, _, _, _, .nil, _, _, h => h
  | _, _, _, _, _, .cons a b, _, _, h => .cons a (b.app h)
section
variable {K : PySem.W.Frag} {E : XP}
/-- what follows is kept at the place where it was wanted -/
theorem tG_thenB {α β γ ε : Type} {rel : Rl α β} {rel2 : Rl γ ε} {den : Den α} {k : α → Sto → R γ} {δ : Slots} {σ : L2.St} {ρ0 ρ : List Addr} {S0 S : Sto} {H0 H : Hp} {Q : ε → Hp → Prop} {Q' : β → Hp → Prop} (f0 : Fwd ρ0 S0 H0 ρ S H)
    (st : RpSt K ρ S H δ σ) (so : Sok K ρ S H) (h : Post K rel2 ρ0 S0 H0 ((den δ S).bind k) Q (E σ))
    (hk : ∀ (a : α) (S1 : Sto) (b : β) (ρ1 : List Addr) (H1 : Hp), Fwd ρ S H ρ1 S1 H1 → RpSt K ρ1 S1 H1 δ σ → Sok K ρ1 S1 H1 → rel ρ1 S1 H1 a b → Post K rel2 ρ0 S0 H0 (k a S1) Q (E σ) → Q' b H1) : tG K rel E den σ H Q' := by
  refine ⟨δ, ρ, S, st, so, ?_⟩
  cases e : den δ S with
  | ok a S1 =>
    rw [e] at h
    exact fun b ρ1 H1 f so1 q => hk a S1 b ρ1 H1 f (f.st st) so1 q h
  | exc c ds S1 => rw [e] at h; exact fun ρ1 H1 f so1 => h ρ1 H1 (f0.trans f) so1
  | bad => rw [e] at h; exact h
theorem pairs_bind {a b : Den W} {r : Prs} {k : List (Tx × D) → Sto → R W} {δ : Slots} {S : Sto} : ((pairsD ((a, b) :: r) δ S).bind k) = ((a δ S).bind fun x S1 => (b δ S1).bind fun y S2 => (oneP x y S2).bind fun e S3 => (pairsD r δ S3).bind fun es S4 => k (e :: es) S4) := by
  show R.bind (R.bind (a δ S) _) k = _
  cases a δ S with
  | bad => rfl
  | exc c ds S1 => rfl
  | ok x S1 =>
    show R.bind (R.bind (b δ S1) _) k = R.bind (b δ S1) _
    cases b δ S1 with
    | bad => rfl
    | exc c ds S1 => rfl
    | ok y S2 =>
      show R.bind (R.bind (oneP x y S2) _) k = R.bind (oneP x y S2) _
      cases oneP x y S2 with
      | bad => rfl
      | exc c ds S1 => rfl
      | ok e S3 =>
        show R.bind (R.bind (pairsD r δ S3) _) k = R.bind (pairsD r δ S3) _
        cases pairsD r δ S3 <;> rfl
theorem pairs_then {ρ0 : List Addr} {S0 : Sto} {H0 : Hp} : ∀ {ps : Prs} {k : List (Tx × D) → Sto → R W} {δ : Slots} {σ : L2.St} {ρ : List Addr} {S : Sto} {H : Hp} {Q : VK} {Q' : List (V × V) → Hp → Prop}, Fwd ρ0 S0 H0 ρ S H → RpSt K ρ S H δ σ → Sok K ρ S H → Post K (RpW K) ρ0 S0 H0 ((pairsD ps δ S).bind k) Q (E σ) →
    (∀ (es : List (Tx × D)) (S1 : Sto) (kvs : List (Key × V)) (ρ1 : List Addr) (H1 : Hp), Fwd ρ S H ρ1 S1 H1 → Sok K ρ1 S1 H1 → RpE K H1 (live ρ1 S1) es kvs → Post K (RpW K) ρ0 S0 H0 (k es S1) Q (E σ) → Q' (kvs.map fun kv => (kV kv.1, kv.2)) H1) →
    tPairs (ps.map fun p => (tE K E p.1, tE K E p.2)) σ H Q'
  | [], k, δ, σ, ρ, S, H, Q, Q', f0, st, so, p, h => h [] S [] ρ H Fwd.refl so .nil p
  | (a, b) :: r, k, δ, σ, ρ, S, H, Q, Q', f0, st, so, p, h => by
    rw [pairs_bind] at p
    rw [List.map_cons]
    refine tG_thenB f0 st so p fun x S1 v ρ1 H1 f1 st1 so1 r1 p1 => tG_thenB (f0.trans f1) st1 so1 p1 fun y S2 u ρ2 H2 f2 st2 so2 r2 p2 => ?_
    have rx := f2.rw r1
    unfold oneP at p2
    split at p2
    · rename_i t d
      cases rx
      refine pairs_then (f0.trans (f1.trans f2)) st2 so2 p2 fun es S3 kvs ρ3 H3 f3 so3 re p3 => ?_
      exact h ((t, d) :: es) S3 ((Sum.inr (sx t), u) :: kvs) ρ3 H3 (f1.trans (f2.trans f3)) so3 (.cons (f3.rp r2) re) p3
    · exact p2.elim
/-- an object that no one of the store is may be written at -/
theorem Sok.wrote {ρ : List Addr} {S : Sto} {H : Hp} {p : Addr} {o u : HO} (so : Sok K ρ S H) (n : ¬ live ρ S p) (hu : H p = some u) (hk : ∀ d v, Rp K H (live ρ S) d v → Rp K (upd H p o) (live ρ S) d v) : Sok K ρ S (upd H p o) := by
  have hkL : ∀ {ds : List D} {vs : List V}, RpL K H (live ρ S) ds vs → RpL K (upd H p o) (live ρ S) ds vs := fun {ds vs} h => by
    induction ds generalizing vs with
    | nil => cases h; exact .nil
    | cons d ds ih => cases h with | cons a b => exact .cons (hk _ _ a) (ih b)
  have hkE : ∀ {ds : List (Tx × D)} {vs : List (Key × V)}, RpE K H (live ρ S) ds vs → RpE K (upd H p o) (live ρ S) ds vs := fun {ds vs} h => by
    induction ds generalizing vs with
    | nil => cases h; exact .nil
    | cons d ds ih => cases h with | cons a b => exact .cons (hk _ _ a) (ih b)
  refine ⟨so.len, so.nd, fun i a ob h1 h2 => ?_⟩
  have q := so.obs i a ob h1 h2
  cases ob with
  | lst ds =>
    obtain ⟨xs, e, r⟩ := q
    have ne : a ≠ p := fun z => n (z ▸ ⟨i, _, h1, h2, rfl⟩)
    exact ⟨xs, by rw [upd_ne ne]; exact e, hkL r⟩
  | dct ds =>
    obtain ⟨xs, e, r⟩ := q
    have ne : a ≠ p := fun z => n (z ▸ ⟨i, _, h1, h2, rfl⟩)
    exact ⟨xs, by rw [upd_ne ne]; exact e, hkE r⟩
  | dead =>
    obtain ⟨z, e⟩ := q
    by_cases ne : a = p
    · rw [ne]; exact ⟨o, upd_same⟩
    · exact ⟨z, by rw [upd_ne ne]; exact e⟩
theorem dict_post {ps : Prs} {σ : L2.St} {H : Hp} {Q : VK} (h : tE K E (cDict ps) σ H Q) : tDisp (ps.map fun p => (tE K E p.1, tE K E p.2)) σ H Q := fun p np => by
  obtain ⟨δ, ρ, S, st, so, ps'⟩ := h
  have fg : Fwd ρ S H (ρ ++ [p]) (S ++ [.dct []]) (upd H p (.dK [])) := Fwd.grown so np _
  have sg : Sok K (ρ ++ [p]) (S ++ [.dct []]) (upd H p (.dK [])) := so.grown np _ ⟨[], upd_same, .nil⟩
  have ep : (ρ ++ [p])[S.length]? = some p := by rw [← so.len]; simp
  refine pairs_then fg (fg.st st) sg ps' fun es S1 kvs ρ1 H1 f1 so1 re p1 => ?_
  have e1 : ρ1[S.length]? = some p := f1.at ep
  unfold endDict at p1
  split at p1
  · rename_i q
    split at p1
    · rename_i hc
      obtain ⟨xs, ex, rx⟩ := so1.obs _ _ _ e1 q
      cases rx
      refine ⟨ex, kvs, rfl, by rw [← rpE_len re]; exact hc.1, ?_⟩
      have fc : Fwd ρ1 S1 H1 ρ1 (S1.set S.length (.dct (mergeE [] es))) (upd H1 p (.dK (mergeK [] kvs))) := Fwd.changed so1 e1 q rfl
      have rm : RpE K (upd H1 p (.dK (mergeK [] kvs))) (live ρ1 (S1.set S.length (.dct (mergeE [] es)))) (mergeE [] es) (mergeK [] kvs) := fc.rpE (rpE_merge re .nil)
      have sc : Sok K ρ1 (S1.set S.length (.dct (mergeE [] es))) (upd H1 p (.dK (mergeK [] kvs))) := so1.changed e1 q rfl ⟨_, upd_same, rm⟩
      have ff : Fwd ρ S H ρ1 (S1.set S.length (.dct (mergeE [] es))) (upd H1 p (.dK (mergeK [] kvs))) := fg.trans (f1.trans fc)
      obtain ⟨more, em⟩ := ff.ext
      have t := sc.take S.length
      have ecut : (S1.set S.length (.dct (mergeE [] es))).take S.length = S1.take S.length := by
        apply List.ext_getElem?
        intro j
        by_cases hj : j < S.length
        · rw [List.getElem?_take_of_lt hj, List.getElem?_take_of_lt hj, List.getElem?_set_ne (by omega)]
        · rw [List.getElem?_eq_none (by rw [List.length_take]; omega), List.getElem?_eq_none (by rw [List.length_take]; omega)]
      rw [em, take_pre so.len, ← em] at t
      have fcut := ff.cut so.len sc.len
      rw [ecut] at t fcut
      have np' : ¬ live ρ (S1.take S.length) p := fun l => so.notIn np (by
        obtain ⟨j, o, h1, _, _⟩ := l
        exact List.mem_of_getElem? h1)
      exact p1 (.ref p) ρ _ fcut t.1 (Rp.dct (.inl upd_same) np' (rm.weak t.2))
    · exact p1.elim
  · exact p1.elim
end
section
variable {X : Cx} {E : XP} {pos : Pos}
theorem de_dict {keys : List (Option Expr)} {values : List Expr} {ps : Prs} (h : PPs X pos keys values (ps.map fun p => (tE X.K E p.1, tE X.K E p.2))) (hall : keys.all (·.isSome) = true := by rfl) (hl : keys.length = values.length := by rfl) (h0 : keys ≠ [] := by exact fun z => nomatch z) (h15 : keys.length ≤ 15 := by decide) :
    PE X (.Dict keys values pos) (tE X.K E (cDict ps)) := pe_mono (pe_disp h hall hl h0 h15) fun σ H Q z => dict_post z
theorem dd_nil : PPs X pos [] [] (([] : Prs).map fun p => (tE X.K E p.1, tE X.K E p.2)) := pps_nil
theorem dd_cons {k v : Expr} {ks : List (Option Expr)} {vs : List Expr} {a b : Den W} {r : Prs} (hk : PE X k (tE X.K E a)) (hv : PE X v (tE X.K E b)) (hr : PPs X pos ks vs (r.map fun p => (tE X.K E p.1, tE X.K E p.2))) : PPs X pos (some k :: ks) (v :: vs) (((a, b) :: r).map fun p => (tE X.K E p.1, tE X.K E p.2)) := pps_cons hk hv hr
def cDict0 : Den W := fun _ S => .ok (.v (.dct [])) S
def cDict0M : Den W := fun _ S => .ok (.r S.length) (S ++ [.dct []])
end
end Fro

namespace Fro
open PySem PySem.Spec L2

/-! ### a dict that is walked is locked -/
section
variable {K : PySem.W.Frag} {H : Hp} {M : Addr → Prop} {a : Addr} {kvs : List (Key × V)} {od : Obj}
/-- what stands for data stands for it when a dict is locked, or let go -/
theorem Rp.swap {H' : Hp} (hne : ∀ b, b ≠ a → H' b = H b) (h1 : Rd H a (.dK kvs)) (h2 : Rd H' a (.dK kvs)) (h3 : ∀ xs, H a ≠ some (.tup xs)) (h4 : ∀ o xs, H a ≠ some (.frz o (.tup xs))) (h5 : ∀ xs, H a ≠ some (.lst xs)) {d : D} {v : V} (h : Rp K H M d v) : Rp K H' M d v := by
  have hT : ∀ {b : Addr} {xs : List V}, SqT K H b xs → SqT K H' b xs := fun {b xs} q => by
    rcases q with (q | ⟨o, q⟩) | q
    · exact .inl (.inl ((hne b fun z => h3 xs (z ▸ q)).trans q))
    · exact .inl (.inr ⟨o, (hne b fun z => h4 o xs (z ▸ q)).trans q⟩)
    · exact .inr q
  have uq : ∀ {ks : List (Key × V)}, Rd H a (.dK ks) → ks = kvs := fun {ks} q => by
    rcases q with q | ⟨o, q⟩ <;> rcases h1 with h | ⟨o', h⟩ <;> (first | (rw [h] at q; cases q; rfl) | (rw [h] at q; cases q))
  have hD : ∀ {b : Addr} {ks : List (Key × V)}, Rd H b (.dK ks) → Rd H' b (.dK ks) := fun {b ks} q => by
    by_cases hb : b = a
    · subst hb
      rw [uq q]; exact h2
    · rcases q with q | ⟨o, q⟩
      · exact .inl ((hne b hb).trans q)
      · exact .inr ⟨o, (hne b hb).trans q⟩
  exact Rp.rec (motive_1 := fun d v _ => Rp K H' M d v) (motive_2 := fun ds vs _ => RpL K H' M ds vs) (motive_3 := fun es kvs _ => RpE K H' M es kvs)
    .non .bl .int .str .ty (fun q _ z => .tup (hT q) z) (fun {b xs ds} e n _ z => .lst ((hne b fun y => h5 xs (y ▸ e)).trans e) n z) (fun e n _ z => .dct (hD e) n z)
    .nil (fun _ _ x y => .cons x y) .nil (fun _ _ x y => .cons x y) h
theorem RpE.of {H H' : Hp} {M M' : Addr → Prop} (hk : ∀ d v, Rp K H M d v → Rp K H' M' d v) : ∀ {es : List (Tx × D)} {kvs : List (Key × V)}, RpE K H M es kvs → RpE K H' M' es kvs
  | _, _, .nil => .nil
  | _, _, .cons a b => .cons (hk _ _ a) (RpE.of hk b)
theorem rp_lock (h : H a = some (.dK kvs)) {d : D} {v : V} (r : Rp K H M d v) : Rp K (upd H a (.frz od (.dK kvs))) M d v :=
  r.swap (fun b hb => upd_ne hb) (.inl h) (.inr ⟨od, upd_same⟩) (fun xs z => by rw [h] at z; cases z) (fun o xs z => by rw [h] at z; cases z) (fun xs z => by rw [h] at z; cases z)
theorem rp_unlock (h : H a = some (.frz od (.dK kvs))) {d : D} {v : V} (r : Rp K H M d v) : Rp K (upd H a (.dK kvs)) M d v :=
  r.swap (fun b hb => upd_ne hb) (.inr ⟨od, h⟩) (.inl upd_same) (fun xs z => by rw [h] at z; cases z) (fun o xs z => by rw [h] at z; cases z) (fun xs z => by rw [h] at z; cases z)
end
/-- a locked dict is a dict -/
def unlk : W → W
  | .lk es => .v (.dct es)
  | w => w
def unlkS (δ : Slots) : Slots := δ.map fun o => o.map unlk
section
variable {K : PySem.W.Frag} {ρ : List Addr} {S : Sto} {H : Hp} {a : Addr} {kvs : List (Key × V)} {od : Obj}
theorem unlk_rp {w : W} {v : V} (h : RpW K ρ S H w v) : RpW K ρ S H (unlk w) v := by
  cases w with
  | lk es => obtain ⟨b, o, ks, rfl, q, n, r⟩ := h; exact Rp.dct (.inr ⟨o, q⟩) n r
  | _ => exact h
theorem rw_lock (h : H a = some (.dK kvs)) {w : W} {v : V} (r : RpW K ρ S H w v) : RpW K ρ S (upd H a (.frz od (.dK kvs))) w v := by
  cases w with
  | v d => exact rp_lock h r
  | r i => exact r
  | s ns =>
    obtain ⟨b, rfl, q⟩ := r
    refine ⟨b, rfl, ?_⟩
    rcases q with ⟨q, n⟩ | ⟨o, q⟩ | q
    · exact .inl ⟨by rw [upd_ne (fun z => by rw [z, h] at q; cases q)]; exact q, n⟩
    · exact .inr (.inl ⟨o, by rw [upd_ne (fun z => by rw [z, h] at q; cases q)]; exact q⟩)
    · exact .inr (.inr q)
  | lk es =>
    obtain ⟨b, o, ks, rfl, q, n, r⟩ := r
    exact ⟨b, o, ks, rfl, by rw [upd_ne (fun z => by rw [z, h] at q; cases q)]; exact q, n, RpE.of (fun _ _ => rp_lock h) r⟩
theorem rw_unlock (h : H a = some (.frz od (.dK kvs))) {w : W} {v : V} (r : RpW K ρ S H w v) : RpW K ρ S (upd H a (.dK kvs)) (unlk w) v := by
  cases w with
  | v d => exact rp_unlock h r
  | r i => exact r
  | s ns =>
    obtain ⟨b, rfl, q⟩ := r
    refine ⟨b, rfl, ?_⟩
    rcases q with ⟨q, n⟩ | ⟨o, q⟩ | q
    · exact .inl ⟨by rw [upd_ne (fun z => by rw [z, h] at q; cases q)]; exact q, n⟩
    · exact .inr (.inl ⟨o, by rw [upd_ne (fun z => by rw [z, h] at q; cases q)]; exact q⟩)
    · exact .inr (.inr q)
  | lk es =>
    have r' := unlk_rp r
    exact rp_unlock h r'
theorem sok_lock (so : Sok K ρ S H) (n : ¬ live ρ S a) (h : H a = some (.dK kvs)) : Sok K ρ S (upd H a (.frz od (.dK kvs))) := so.wrote n h fun _ _ => rp_lock h
theorem sok_unlock (so : Sok K ρ S H) (n : ¬ live ρ S a) (h : H a = some (.frz od (.dK kvs))) : Sok K ρ S (upd H a (.dK kvs)) := so.wrote n h fun _ _ => rp_unlock h
theorem st_lock {δ : Slots} {σ : L2.St} (h : H a = some (.dK kvs)) (st : RpSt K ρ S H δ σ) : RpSt K ρ S (upd H a (.frz od (.dK kvs))) δ σ := ⟨st.1, fun i w e => let ⟨v, h1, h2⟩ := st.2 i w e; ⟨v, h1, rw_lock h h2⟩⟩
theorem unlkS_at {δ : Slots} {i : Nat} {w : W} (e : (unlkS δ)[i]? = some (some w)) : ∃ w', δ[i]? = some (some w') ∧ w = unlk w' := by
  unfold unlkS at e
  rw [List.getElem?_map] at e
  cases q : δ[i]? with
  | none => rw [q] at e; cases e
  | some o =>
    rw [q] at e
    cases o with
    | none => cases e
    | some w' => cases e; exact ⟨w', rfl, rfl⟩
theorem st_unlock {δ : Slots} {σ : L2.St} (h : H a = some (.frz od (.dK kvs))) (st : RpSt K ρ S H δ σ) : RpSt K ρ S (upd H a (.dK kvs)) (unlkS δ) σ := ⟨by unfold unlkS; rw [List.length_map]; exact st.1, fun i w e => by
  obtain ⟨w', e', rfl⟩ := unlkS_at e
  obtain ⟨v, h1, h2⟩ := st.2 i w' e'
  exact ⟨v, h1, rw_unlock h h2⟩⟩
theorem st_unlk {δ : Slots} {σ : L2.St} (st : RpSt K ρ S H δ σ) : RpSt K ρ S H (unlkS δ) σ := ⟨by unfold unlkS; rw [List.length_map]; exact st.1, fun i w e => by
  obtain ⟨w', e', rfl⟩ := unlkS_at e
  obtain ⟨v, h1, h2⟩ := st.2 i w' e'
  exact ⟨v, h1, unlk_rp h2⟩⟩
/-- there and back -/
theorem fwd_locked {ρ1 : List Addr} {S1 : Sto} {H1 : Hp} (h : H a = some (.dK kvs)) (n : ¬ live ρ S a) (f : Fwd ρ S (upd H a (.frz od (.dK kvs))) ρ1 S1 H1) : H1 a = some (.frz od (.dK kvs)) ∧ ¬ live ρ1 S1 a ∧ Fwd ρ S H ρ1 S1 (upd H1 a (.dK kvs)) := by
  have h1 : H1 a = some (.frz od (.dK kvs)) := f.frzs _ _ _ upd_same
  refine ⟨h1, fun l => ?_, ⟨f.ext, fun b o nb e => ?_, fun b xs e => ?_, fun b o u e => ?_, fun b l => ?_⟩⟩
  · rcases f.new _ l with z | z
    · exact n z
    · rw [upd_same] at z; cases z
  · by_cases hb : b = a
    · subst hb
      rw [h] at e
      rw [upd_same]; exact e
    · rw [upd_ne hb]
      exact f.keep b o nb (by rw [upd_ne hb]; exact e)
  · have hb : b ≠ a := fun z => by rw [z, h] at e; cases e
    rw [upd_ne hb]
    exact f.tups b xs (by rw [upd_ne hb]; exact e)
  · have hb : b ≠ a := fun z => by rw [z, h] at e; cases e
    rw [upd_ne hb]
    exact f.frzs b o u (by rw [upd_ne hb]; exact e)
  · rcases f.new b l with z | z
    · exact .inl z
    · by_cases hb : b = a
      · subst hb
        rw [upd_same] at z; cases z
      · rw [upd_ne hb] at z; exact .inr z
/-- the slot of a dict, locked -/
theorem st_slot {δ : Slots} {σ : L2.St} {i : Nat} {es : List (Tx × D)} {v : V} (st : RpSt K ρ S H δ σ) (e : σ[i]? = some (some v)) (r : RpW K ρ S H (.lk es) v) : RpSt K ρ S H (δ.set i (some (.lk es))) σ := by
  have q := st.set i r
  rw [show σ.set i (some v) = σ from by
    apply List.ext_getElem?
    intro j
    by_cases hj : i = j
    · subst hj
      have hl : i < σ.length := by
        rcases Nat.lt_or_ge i σ.length with h | h
        · exact h
        · rw [List.getElem?_eq_none h] at e; cases e
      rw [List.getElem?_set_self hl, e]
    · rw [List.getElem?_set_ne hj]] at q
  exact q
end
def okLk (r : R W) : R W := match r with
  | .ok w S => .ok (unlk w) S
  | _ => .bad
/-- an expression that walks the dict in slot i -/
def cLk (i : Nat) (den : Den W) : Den W := fun δ S => match δ[i]? with
  | some (some (.v (.dct es))) => okLk (den (δ.set i (some (.lk es))) S)
  | some (some (.lk _)) => okLk (den δ S)
  | _ => .bad
def okLkS (r : RS) : RS := match r with
  | .nx δ S => .nx (unlkS δ) S
  | .rt w S => .rt (unlk w) S
  | .bk δ S => .bk (unlkS δ) S
  | .ct δ S => .ct (unlkS δ) S
  | _ => .bad
def cLkS (i : Nat) (den : DenS) : DenS := fun δ S => match δ[i]? with
  | some (some (.v (.dct es))) => okLkS (den (δ.set i (some (.lk es))) S)
  | some (some (.lk _)) => okLkS (den δ S)
  | _ => .bad
section
variable {X : Cx} {E : XP}
theorem lk_here {den : Den W} {δ : Slots} {σ : L2.St} {ρ : List Addr} {S : Sto} {H : Hp} {Q : VK} {Ex} (p : Post X.K (RpW X.K) ρ S H (okLk (den δ S)) Q Ex) : Post X.K (RpW X.K) ρ S H (den δ S) Q (E σ) := by
  cases q : den δ S with
  | bad => rw [q] at p; exact p
  | exc c ds S1 => rw [q] at p; exact p.elim
  | ok w S1 => rw [q] at p; exact fun v ρ1 H1 f so r => p v ρ1 H1 f so (unlk_rp r)
theorem de_lk (i : Nat) {e : Expr} {den : Den W} (h : PE X e (tE X.K E den)) : PE X e (tE X.K E (cLk i den)) := ⟨fun pins s σ H Q I ⟨δ, ρ, S, st, so, p⟩ => by
  unfold cLk at p
  split at p
  · rename_i es q
    obtain ⟨v, ev, rv⟩ := st.2 i _ q
    cases rv with
    | dct hd n re =>
      rename_i a kvs
      rcases hd with hd | ⟨o, hd⟩
      · refine (pe_lock h).run pins s σ H Q I ⟨a, _, hd, trivial, fun od => ⟨δ.set i (some (.lk es)), ρ, S, st_slot (st_lock hd st) ev ⟨a, od, kvs, rfl, upd_same, n, RpE.of (fun _ _ => rp_lock hd) re⟩, sok_lock so n hd, ?_⟩⟩
        cases qd : den (δ.set i (some (.lk es))) S with
        | bad => rw [qd] at p; exact p.elim
        | exc c ds S1 => rw [qd] at p; exact p.elim
        | ok w S1 =>
          rw [qd] at p
          intro v1 ρ1 H1 f so1 r
          obtain ⟨h1, n1, ff⟩ := fwd_locked hd n f
          exact ⟨h1, p v1 ρ1 _ ff (sok_unlock so1 n1 h1) (rw_unlock h1 r)⟩
      · exact h.run pins s σ H Q I ⟨_, ρ, S, st_slot st ev ⟨a, o, kvs, rfl, hd, n, re⟩, so, lk_here p⟩
  · exact h.run pins s σ H Q I ⟨δ, ρ, S, st, so, lk_here p⟩
  · exact p.elim⟩
theorem lkS_here {den : DenS} {δ : Slots} {ρ : List Addr} {S : Sto} {H : Hp} {D' : Ends} (p : PostS X.K ρ S H (okLkS (den δ S)) D' E) : PostS X.K ρ S H (den δ S) D' E := by
  cases q : den δ S with
  | bad => rw [q] at p; exact p
  | xc c ds δ1 S1 => rw [q] at p; exact p.elim
  | rt w S1 => rw [q] at p; exact fun v ρ1 H1 f so r => p v ρ1 H1 f so (unlk_rp r)
  | nx δ1 S1 => rw [q] at p; exact fun v ρ1 H1 f so r => p v ρ1 H1 f so (st_unlk r)
  | bk δ1 S1 => rw [q] at p; exact fun v ρ1 H1 f so r => p v ρ1 H1 f so (st_unlk r)
  | ct δ1 S1 => rw [q] at p; exact fun v ρ1 H1 f so r => p v ρ1 H1 f so (st_unlk r)
theorem ds_lk (i : Nat) {s : Stmt} {den : DenS} (h : PS X s (tS X.K E den)) : PS X s (tS X.K E (cLkS i den)) := ⟨fun pins s σ H D' I ⟨δ, ρ, S, st, so, p⟩ => by
  unfold cLkS at p
  split at p
  · rename_i es q
    obtain ⟨v, ev, rv⟩ := st.2 i _ q
    cases rv with
    | dct hd n re =>
      rename_i a kvs
      rcases hd with hd | ⟨o, hd⟩
      · refine (ps_lock h).run pins s σ H D' I ⟨a, _, hd, trivial, fun od => ⟨δ.set i (some (.lk es)), ρ, S, st_slot (st_lock hd st) ev ⟨a, od, kvs, rfl, upd_same, n, RpE.of (fun _ _ => rp_lock hd) re⟩, sok_lock so n hd, ?_⟩⟩
        cases qd : den (δ.set i (some (.lk es))) S with
        | bad => rw [qd] at p; exact p.elim
        | xc c ds δ1 S1 => rw [qd] at p; exact p.elim
        | rt w S1 =>
          rw [qd] at p
          intro v1 ρ1 H1 f so1 r
          obtain ⟨h1, n1, ff⟩ := fwd_locked hd n f
          exact ⟨h1, p v1 ρ1 _ ff (sok_unlock so1 n1 h1) (rw_unlock h1 r)⟩
        | nx δ1 S1 =>
          rw [qd] at p
          intro v1 ρ1 H1 f so1 r
          obtain ⟨h1, n1, ff⟩ := fwd_locked hd n f
          exact ⟨h1, p v1 ρ1 _ ff (sok_unlock so1 n1 h1) (st_unlock h1 r)⟩
        | bk δ1 S1 =>
          rw [qd] at p
          intro v1 ρ1 H1 f so1 r
          obtain ⟨h1, n1, ff⟩ := fwd_locked hd n f
          exact ⟨h1, p v1 ρ1 _ ff (sok_unlock so1 n1 h1) (st_unlock h1 r)⟩
        | ct δ1 S1 =>
          rw [qd] at p
          intro v1 ρ1 H1 f so1 r
          obtain ⟨h1, n1, ff⟩ := fwd_locked hd n f
          exact ⟨h1, p v1 ρ1 _ ff (sok_unlock so1 n1 h1) (st_unlock h1 r)⟩
      · exact h.run pins s σ H D' I ⟨_, ρ, S, st_slot st ev ⟨a, o, kvs, rfl, hd, n, re⟩, so, lkS_here p⟩
  · exact h.run pins s σ H D' I ⟨δ, ρ, S, st, so, lkS_here p⟩
  · exact p.elim⟩
end

/-! ### items, values, keys of a locked dict -/
def itemsD (es : List (Tx × D)) : List D := es.map fun e => .tup [.str e.1, e.2]
def valsD (es : List (Tx × D)) : List D := es.map fun e => e.2
def keysD (es : List (Tx × D)) : List D := es.map fun e => .str e.1
def asLk (g : List (Tx × D) → List D) (w : W) (S : Sto) : R (List D) := match w with
  | .lk es => .ok (g es) S
  | _ => .bad
def itI (a : Den W) : Den (List D) := fun δ S => (a δ S).bind (asLk itemsD)
def itV (a : Den W) : Den (List D) := fun δ S => (a δ S).bind (asLk valsD)
def itK (a : Den W) : Den (List D) := fun δ S => (a δ S).bind (asLk keysD)
section
variable {K : PySem.W.Frag} {ρ : List Addr} {S : Sto} {H : Hp} {a : Addr} {kvs : List (Key × V)} {o : Obj} {es : List (Tx × D)}
theorem jok_items (h : H a = some (.frz o (.dK kvs))) (r : RpE K H (live ρ S) es kvs) : Jok K ρ S H (itemsD es) (Iti a o kvs) := fun i ρ' S' H' f so => by
  have h' := f.frzs _ _ _ h
  have r' := f.rpE r
  refine ⟨fun d e => ?_, fun hl => ⟨h', by rw [← rpE_len r]; unfold itemsD at hl; rw [List.length_map] at hl; exact hl⟩⟩
  unfold itemsD at e
  rw [List.getElem?_map] at e
  cases q : es[i]? with
  | none => rw [q] at e; cases e
  | some en =>
    rw [q] at e
    cases e
    obtain ⟨v, hv, rv⟩ := rpE_atI i r' q
    have hi : i < kvs.length := (List.getElem?_eq_some_iff.mp hv).1
    refine ⟨⟨h', hi⟩, fun x H'' y => ?_⟩
    obtain ⟨T, k, u, e1, rfl, nT, rfl⟩ := y
    rw [hv] at e1
    cases e1
    have fl : Fwd ρ' S' H' ρ' S' (upd H' T (.tup [kV (Sum.inr (sx en.1)), v])) := Fwd.laid so nT
    exact ⟨fl, so.laid nT, .tup (SqT.of upd_same) (.cons (.str _) (.cons (fl.rp rv) .nil))⟩
theorem jok_vals (h : H a = some (.frz o (.dK kvs))) (r : RpE K H (live ρ S) es kvs) : Jok K ρ S H (valsD es) (Itd a o kvs) := fun i ρ' S' H' f so => by
  have h' := f.frzs _ _ _ h
  have r' := f.rpE r
  refine ⟨fun d e => ?_, fun hl => ⟨h', by rw [← rpE_len r]; unfold valsD at hl; rw [List.length_map] at hl; exact hl⟩⟩
  unfold valsD at e
  rw [List.getElem?_map] at e
  cases q : es[i]? with
  | none => rw [q] at e; cases e
  | some en =>
    rw [q] at e
    cases e
    obtain ⟨v, hv, rv⟩ := rpE_atI i r' q
    have hi : i < kvs.length := (List.getElem?_eq_some_iff.mp hv).1
    refine ⟨⟨h', hi⟩, fun x H'' y => ?_⟩
    obtain ⟨rfl, k, e1⟩ := y
    rw [hv] at e1
    cases e1
    exact ⟨Fwd.refl, so, rv⟩
theorem jok_keys (h : H a = some (.frz o (.dK kvs))) (r : RpE K H (live ρ S) es kvs) : Jok K ρ S H (keysD es) (Itk a o kvs) := fun i ρ' S' H' f so => by
  have h' := f.frzs _ _ _ h
  have r' := f.rpE r
  refine ⟨fun d e => ?_, fun hl => ⟨h', by rw [← rpE_len r]; unfold keysD at hl; rw [List.length_map] at hl; exact hl⟩⟩
  unfold keysD at e
  rw [List.getElem?_map] at e
  cases q : es[i]? with
  | none => rw [q] at e; cases e
  | some en =>
    rw [q] at e
    cases e
    obtain ⟨v, hv, rv⟩ := rpE_atI i r' q
    have hi : i < kvs.length := (List.getElem?_eq_some_iff.mp hv).1
    refine ⟨⟨h', hi⟩, fun x H'' y => ?_⟩
    obtain ⟨rfl, k, u, e1, rfl⟩ := y
    rw [hv] at e1
    cases e1
    exact ⟨Fwd.refl, so, .str _⟩
end
section
variable {X : Cx} {E : XP} {tg e : Expr} {a : Den W} {apos cpos tpos : Pos}
theorem di_items {elts : List Expr} {kk : Nat} (h : PE X e (tE X.K E a)) (hbase : attributeBase e "items" X.env (eval e X.env) = eval e X.env := by rfl) (hline : (apos.endLine == cpos.line) = true := by rfl) :
    PI X (.Tuple elts kk tpos) (.Call (.Attribute e "items" apos) [] [] cpos) (tI X.K E (itI a)) := pi_mono (pi_items h hbase hline) fun σ H Q ⟨δ, ρ, S, st, so, p⟩ => tG_then st so p fun w S1 v ρ1 H1 f1 st1 so1 r1 p1 => by
  cases w with
  | lk es => obtain ⟨d, o, kvs, rfl, q, n, re⟩ := r1; exact ⟨d, o, kvs, rfl, q, p1 _ ρ1 H1 Fwd.refl so1 (jok_items q re)⟩
  | _ => exact p1.elim
theorem di_vals (h : PE X e (tE X.K E a)) (hbase : attributeBase e "values" X.env (eval e X.env) = eval e X.env := by rfl) (hline : (apos.endLine == cpos.line) = true := by rfl) :
    PI X tg (.Call (.Attribute e "values" apos) [] [] cpos) (tI X.K E (itV a)) := pi_mono (pi_values h hbase hline) fun σ H Q ⟨δ, ρ, S, st, so, p⟩ => tG_then st so p fun w S1 v ρ1 H1 f1 st1 so1 r1 p1 => by
  cases w with
  | lk es => obtain ⟨d, o, kvs, rfl, q, n, re⟩ := r1; exact ⟨d, o, kvs, rfl, q, p1 _ ρ1 H1 Fwd.refl so1 (jok_vals q re)⟩
  | _ => exact p1.elim
theorem di_keys (h : PE X e (tE X.K E a)) : PI X tg e (tI X.K E (itK a)) := pi_mono (pi_keys h) fun σ H Q ⟨δ, ρ, S, st, so, p⟩ => tG_then st so p fun w S1 v ρ1 H1 f1 st1 so1 r1 p1 => by
  cases w with
  | lk es => obtain ⟨d, o, kvs, rfl, q, n, re⟩ := r1; exact ⟨d, o, rfl, .inl ⟨kvs, q, p1 _ ρ1 H1 Fwd.refl so1 (jok_keys q re)⟩⟩
  | _ => exact p1.elim
theorem de_dict0 {pos : Pos} : PE X (.Dict [] [] pos) (tE X.K E cDict0) := pe_mono pe_dnewK fun σ H Q ⟨δ, ρ, S, st, so, p⟩ => fun d hd => p (.ref d) ρ _ (Fwd.laid so hd) (so.laid hd) (Rp.dct (.inl upd_same) (so.notNone hd) .nil)
theorem de_dict0M {pos : Pos} : PE X (.Dict [] [] pos) (tE X.K E cDict0M) := pe_mono pe_dnewK fun σ H Q ⟨δ, ρ, S, st, so, p⟩ => fun d hd => p (.ref d) (ρ ++ [d]) _ (Fwd.grown so hd _) (so.grown hd _ ⟨[], upd_same, .nil⟩) ⟨d, rfl, by rw [← so.len]; simp⟩
end
end Fro

namespace Fro
open PySem PySem.Spec L2

/-! ### what is never reached -/
def cNever : Den W := fun _ _ => .bad
theorem de_never {X : Cx} {E : XP} {e : Expr} : PE X e (tE X.K E cNever) := ⟨fun pins s σ H Q I ⟨δ, ρ, S, st, so, p⟩ => p.elim⟩

/-! ### a comprehension's turns, within another one -/
section
variable {K : PySem.W.Frag} {E : XP}
theorem comp_turns {g : TG} {dg : DenG} {ts vs : List Nat} {tt : Den Bool} {te : Den W} (hg : GOk K g dg ts) (ht : ∀ j ∈ ts, j ∈ vs) {kf : Sto → R W} {σ : L2.St} {Q : VK} {n : Nat} {D' : Addr} {ρ1 ρ4 : List Addr} {S1 S4 : Sto} {H1 H4 : Hp} {δ : Slots} {ds : List D} {J : It} {Ex} {Nx : Hp → Prop}
    (f4 : Fwd ρ1 S1 H1 ρ4 S4 H4) (ed4 : ρ4[n]? = some D') (so4 : Sok K ρ4 S4 H4) (st4 : RpSt K ρ4 S4 H4 δ σ) (j4 : Jok K ρ4 S4 H4 ds J)
    (p4 : Post K (RpW K) ρ1 S1 H1 ((compL dg tt te n ds (wipeD δ vs) S4).bind fun _ S2 => kf S2) Q Ex)
    (hend : ∀ (ρ' : List Addr) (S' : Sto) (H' : Hp), Fwd ρ1 S1 H1 ρ' S' H' → Fwd ρ4 S4 H4 ρ' S' H' → ρ'[n]? = some D' → Sok K ρ' S' H' → Post K (RpW K) ρ1 S1 H1 (kf S') Q Ex → Nx H') :
    ∃ W1 : Nat → Nat → Hp → Prop, (∃ m, W1 0 m H4) ∧ ∀ j k H, W1 j k H → (J.stop j H ∧ Nx H) ∨ (J.go j H ∧ ∃ Nx1 : Hp → Prop, (∀ H', Nx1 H' → ∃ k', k' < k ∧ W1 (j + 1) k' H') ∧ ∀ x H', J.yld j H x H' → g x (wipe σ vs) H' fun σ3 H5 => wipe σ3 vs = wipe σ vs ∧ (tT K XP0 tt) σ3 H5 fun b H6 =>
      if b = true then (tE K XP0 te) σ3 H6 fun y H7 => ∃ acc, H7 D' = some (.lst acc) ∧ acc.length < sizeLine ∧ Nx1 (upd H7 D' (.lst (acc ++ [y]))) else Nx1 H6) := by
  refine ⟨fun i m H' => i + m = ds.length ∧ ∃ (ρ' : List Addr) (S' : Sto), Fwd ρ1 S1 H1 ρ' S' H' ∧ Fwd ρ4 S4 H4 ρ' S' H' ∧ ρ'[n]? = some D' ∧ Sok K ρ' S' H' ∧ Post K (RpW K) ρ1 S1 H1 ((compL dg tt te n (ds.drop i) (wipeD δ vs) S').bind fun _ S2 => kf S2) Q Ex,
    ⟨ds.length, by omega, ρ4, S4, f4, Fwd.refl, ed4, so4, by rw [List.drop_zero]; exact p4⟩, fun i m H' hW => ?_⟩
  obtain ⟨em, ρ', S', f', fz, ed, so', p'⟩ := hW
  obtain ⟨jg, js⟩ := j4 i ρ' S' H' fz so'
  by_cases hl : i < ds.length
  · have edr : ds.drop i = ds[i] :: ds.drop (i + 1) := List.drop_eq_getElem_cons hl
    rw [edr] at p'
    obtain ⟨g1, g2⟩ := jg ds[i] (List.getElem?_eq_getElem hl)
    refine .inr ⟨g1, fun H2 => ∃ (ρ2 : List Addr) (S2 : Sto), Fwd ρ1 S1 H1 ρ2 S2 H2 ∧ Fwd ρ4 S4 H4 ρ2 S2 H2 ∧ ρ2[n]? = some D' ∧ Sok K ρ2 S2 H2 ∧ Post K (RpW K) ρ1 S1 H1 ((compL dg tt te n (ds.drop (i + 1)) (wipeD δ vs) S2).bind fun _ S2 => kf S2) Q Ex,
      fun H2 ⟨ρ2, S2, a1, a0, a2, a3, a4⟩ => ⟨m - 1, by omega, by omega, ρ2, S2, a1, a0, a2, a3, a4⟩, fun x H3 y => ?_⟩
    obtain ⟨fy, soy, ry⟩ := g2 x H3 y
    unfold compL at p'
    cases q : dg (.v ds[i]) (wipeD δ vs) S' with
    | none => simp only [q] at p'; exact p'.elim
    | some z =>
      obtain ⟨δ3, S3⟩ := z
      simp only [q] at p'
      have f3 : Fwd ρ1 S1 H1 ρ' S' H3 := f'.trans fy
      have f3z : Fwd ρ4 S4 H4 ρ' S' H3 := fz.trans fy
      refine hg ρ' S' H3 (wipeD δ vs) (wipe σ vs) (.v ds[i]) x _ δ3 S3 (wipe_rp vs (f3z.st st4)) soy ry q fun σ4 ρ5 H5 f5 so5 st5 l5 k5 => ?_
      refine ⟨wipe_same ht l5 k5, δ3, ρ5, S3, st5, so5, ?_⟩
      have e5 : ρ5[n]? = some D' := f5.at ed
      cases qt : tt δ3 S3 with
      | bad => rw [qt] at p'; exact p'.elim
      | exc c cs S5 => rw [qt] at p'; exact p'.elim
      | ok c S6 =>
        rw [qt] at p'
        intro b ρ6 H6 f6 so6 rb
        cases rb
        have e6 := f6.at e5
        cases c with
        | false =>
          rw [if_neg Bool.false_ne_true]
          exact ⟨ρ6, S6, (f3.trans f5).trans f6, (f3z.trans f5).trans f6, e6, so6, p'⟩
        | true =>
          rw [if_pos rfl]
          refine ⟨δ3, ρ6, S6, f6.st st5, so6, ?_⟩
          have p5 : Post K (RpW K) ρ1 S1 H1 (((te δ3 S6).noexc.bind fun w S3 => match w, S3[n]? with
            | .v e, some (.lst acc) => if acc.length < 1000000 then compL dg tt te n (ds.drop (i + 1)) (wipeD δ vs) (S3.set n (.lst (acc ++ [e]))) else .bad
            | _, _ => .bad).bind fun _ S2 => kf S2) Q Ex := p'
          cases qe : te δ3 S6 with
          | bad => rw [qe] at p5; exact p5.elim
          | exc c cs S6 => rw [qe] at p5; exact p5.elim
          | ok w S7 =>
            rw [qe] at p5
            intro y7 ρ7 H7 f7 so7 r7
            have e7 := f7.at e6
            cases w with
            | v e =>
              cases qn : S7[n]? with
              | none => simp only [R.noexc_ok, R.bind_ok, qn] at p5; exact p5.elim
              | some ob =>
                cases ob with
                | lst acc =>
                  simp only [R.noexc_ok, R.bind_ok, qn] at p5
                  obtain ⟨xs, ex, rl⟩ := so7.obs _ _ _ e7 qn
                  by_cases ha : acc.length < 1000000
                  · simp only [if_pos ha] at p5
                    refine ⟨xs, ex, by rw [← rl.length]; exact Nat.lt_trans ha (by decide), ?_⟩
                    have fc : Fwd ρ7 S7 H7 ρ7 (S7.set n (.lst (acc ++ [e]))) (upd H7 D' (.lst (xs ++ [y7]))) := Fwd.changed so7 e7 qn rfl
                    exact ⟨ρ7, _, ((f3.trans f5).trans (f6.trans f7)).trans fc, ((f3z.trans f5).trans (f6.trans f7)).trans fc, e7, so7.changed e7 qn rfl ⟨_, upd_same, (fc.rpL rl).append (.cons (fc.rp r7) .nil)⟩, p5⟩
                  · simp only [if_neg ha] at p5; exact p5.elim
                | _ => simp only [R.noexc_ok, R.bind_ok, qn] at p5; exact p5.elim
            | _ => exact p5.elim
  · refine .inl ⟨js (by omega), ?_⟩
    rw [List.drop_eq_nil_of_le (by omega)] at p'
    exact hend ρ' S' H' f' fz ed so' p'
end
/-! ### two fors -/
def comp2L (dg : DenG) (tt : Den Bool) (it1 : Den (List D)) (dg1 : DenG) (tt1 : Den Bool) (te : Den W) (vs1 : List Nat) (n : Nat) : List D → Slots → Sto → R Unit
  | [], _, S => .ok () S
  | d :: ds, δ, S => match dg (.v d) δ S with
    | none => .bad
    | some (δ1, S1) => (tt δ1 S1).noexc.bind fun c S2 => if c then (it1 δ1 S2).noexc.bind fun es S3 => (compL dg1 tt1 te n es (wipeD δ1 vs1) S3).bind fun _ S4 => comp2L dg tt it1 dg1 tt1 te vs1 n ds δ S4
      else comp2L dg tt it1 dg1 tt1 te vs1 n ds δ S2
def endComp (n : Nat) (S2 : Sto) : R W := if S2.length = n + 1 then (match S2[n]? with
    | some (.lst acc) => .ok (.v (.lst acc)) (S2.take n)
    | _ => .bad) else .bad
def cComp2 (it : Den (List D)) (dg : DenG) (tt : Den Bool) (it1 : Den (List D)) (dg1 : DenG) (tt1 : Den Bool) (te : Den W) (vs vs1 : List Nat) : Den W := fun δ S => (it δ S).bind fun ds S1 =>
  (comp2L dg tt it1 dg1 tt1 te vs1 S1.length ds (wipeD δ vs) (S1 ++ [.lst []])).bind fun _ S2 => endComp S1.length S2
theorem endComp_post {K : PySem.W.Frag} {ρ1 ρ2 : List Addr} {S1 S2 : Sto} {H1 H2 : Hp} {D' : Addr} {Q : VK} {Ex} (so1 : Sok K ρ1 S1 H1) (nD : H1 D' = none) (f : Fwd ρ1 S1 H1 ρ2 S2 H2) (so2 : Sok K ρ2 S2 H2) (e : ρ2[S1.length]? = some D') (p : Post K (RpW K) ρ1 S1 H1 (endComp S1.length S2) Q Ex) : Q (.ref D') H2 := by
  unfold endComp at p
  by_cases hl : S2.length = S1.length + 1
  · simp only [if_pos hl] at p
    cases q : S2[S1.length]? with
    | none => rw [q] at p; exact p.elim
    | some ob =>
      cases ob with
      | lst acc =>
        rw [q] at p
        obtain ⟨xs, ex, rl⟩ := so2.obs _ _ _ e q
        obtain ⟨more, em⟩ := f.ext
        have t := so2.take S1.length
        rw [em, take_pre so1.len, ← em] at t
        refine p (.ref D') ρ1 H2 (f.cut so1.len so2.len) t.1 (Rp.lst ex (fun l => so1.notIn nD ?_) (rl.weak t.2))
        obtain ⟨j, o, h1, _, _⟩ := l
        exact List.mem_of_getElem? h1
      | _ => rw [q] at p; exact p.elim
  · simp only [if_neg hl] at p; exact p.elim
section
variable {K : PySem.W.Frag} {E : XP}
theorem comp2_post {it it1 : Den (List D)} {g g1 : TG} {dg dg1 : DenG} {ts ts1 vs vs1 : List Nat} {tt tt1 : Den Bool} {te : Den W} (hg : GOk K g dg ts) (ht : ∀ j ∈ ts, j ∈ vs) (hg1 : GOk K g1 dg1 ts1) (ht1 : ∀ j ∈ ts1, j ∈ vs1) {σ : L2.St} {H : Hp} {Q : VK}
    (h : tE K E (cComp2 it dg tt it1 dg1 tt1 te vs vs1) σ H Q) : tLc2 (tI K E it) g (tT K XP0 tt) (tI K XP0 it1) g1 (tT K XP0 tt1) (tE K XP0 te) vs vs1 σ H Q := by
  obtain ⟨δ, ρ, S, st, so, p⟩ := h
  refine tG_then st so p fun ds S1 J ρ1 H1 f1 st1 so1 j1 p1 => fun D' nD => ?_
  have fg : Fwd ρ1 S1 H1 (ρ1 ++ [D']) (S1 ++ [.lst []]) (upd H1 D' (.lst [])) := Fwd.grown so1 nD _
  have sg : Sok K (ρ1 ++ [D']) (S1 ++ [.lst []]) (upd H1 D' (.lst [])) := so1.grown nD _ ⟨[], upd_same, .nil⟩
  refine ⟨fun i m H' => i + m = ds.length ∧ ∃ (ρ' : List Addr) (S' : Sto), Fwd ρ1 S1 H1 ρ' S' H' ∧ ρ'[S1.length]? = some D' ∧ Sok K ρ' S' H' ∧ Post K (RpW K) ρ1 S1 H1 ((comp2L dg tt it1 dg1 tt1 te vs1 S1.length (ds.drop i) (wipeD δ vs) S').bind fun _ S2 => endComp S1.length S2) Q (E σ),
    ⟨ds.length, by omega, _, _, fg, by rw [← so1.len]; simp, sg, by rw [List.drop_zero]; exact p1⟩, fun i m H' hW => ?_⟩
  obtain ⟨em, ρ', S', f', ed, so', p'⟩ := hW
  obtain ⟨jg, js⟩ := j1 i ρ' S' H' f' so'
  by_cases hl : i < ds.length
  · have edr : ds.drop i = ds[i] :: ds.drop (i + 1) := List.drop_eq_getElem_cons hl
    rw [edr] at p'
    obtain ⟨g1', g2⟩ := jg ds[i] (List.getElem?_eq_getElem hl)
    refine .inr ⟨g1', fun H2 => ∃ (ρ2 : List Addr) (S2 : Sto), Fwd ρ1 S1 H1 ρ2 S2 H2 ∧ ρ2[S1.length]? = some D' ∧ Sok K ρ2 S2 H2 ∧ Post K (RpW K) ρ1 S1 H1 ((comp2L dg tt it1 dg1 tt1 te vs1 S1.length (ds.drop (i + 1)) (wipeD δ vs) S2).bind fun _ S2 => endComp S1.length S2) Q (E σ),
      fun H2 ⟨ρ2, S2, a1, a2, a3, a4⟩ => ⟨m - 1, by omega, by omega, ρ2, S2, a1, a2, a3, a4⟩, fun x H3 y => ?_⟩
    obtain ⟨fy, soy, ry⟩ := g2 x H3 y
    unfold comp2L at p'
    cases q : dg (.v ds[i]) (wipeD δ vs) S' with
    | none => simp only [q] at p'; exact p'.elim
    | some z =>
      obtain ⟨δ3, S3⟩ := z
      simp only [q] at p'
      have f3 : Fwd ρ1 S1 H1 ρ' S' H3 := f'.trans fy
      refine hg ρ' S' H3 (wipeD δ vs) (wipe σ vs) (.v ds[i]) x _ δ3 S3 (wipe_rp vs (f3.st st1)) soy ry q fun σ4 ρ4 H4 f4 so4 st4 l4 k4 => ?_
      refine ⟨wipe_same ht l4 k4, δ3, ρ4, S3, st4, so4, ?_⟩
      have f14 : Fwd ρ1 S1 H1 ρ4 S3 H4 := f3.trans f4
      have e4 : ρ4[S1.length]? = some D' := f4.at ed
      cases qt : tt δ3 S3 with
      | bad => rw [qt] at p'; exact p'.elim
      | exc c cs S5 => rw [qt] at p'; exact p'.elim
      | ok c S5 =>
        rw [qt] at p'
        intro b ρ5 H5 f5 so5 rb
        cases rb
        have f15 := f14.trans f5
        have e5 := f5.at e4
        cases c with
        | false =>
          rw [if_neg Bool.false_ne_true]
          exact ⟨ρ5, S5, f15, e5, so5, p'⟩
        | true =>
          rw [if_pos rfl]
          refine ⟨δ3, ρ5, S5, f5.st st4, so5, ?_⟩
          have p5 : Post K (RpW K) ρ1 S1 H1 (((it1 δ3 S5).noexc.bind fun es S3 => (compL dg1 tt1 te S1.length es (wipeD δ3 vs1) S3).bind fun _ S4 => comp2L dg tt it1 dg1 tt1 te vs1 S1.length (ds.drop (i + 1)) (wipeD δ vs) S4).bind fun _ S2 => endComp S1.length S2) Q (E σ) := p'
          cases qi : it1 δ3 S5 with
          | bad => rw [qi] at p5; exact p5.elim
          | exc c cs S6 => rw [qi] at p5; exact p5.elim
          | ok es S6 =>
            rw [qi] at p5
            intro J1 ρ6 H6 f6 so6 j6
            have p6 : Post K (RpW K) ρ1 S1 H1 ((compL dg1 tt1 te S1.length es (wipeD δ3 vs1) S6).bind fun _ S4 => ((comp2L dg tt it1 dg1 tt1 te vs1 S1.length (ds.drop (i + 1)) (wipeD δ vs) S4).bind fun _ S2 => endComp S1.length S2)) Q (E σ) := by
              have e : ∀ r : R Unit, ((r.bind fun _ S4 => comp2L dg tt it1 dg1 tt1 te vs1 S1.length (ds.drop (i + 1)) (wipeD δ vs) S4).bind fun _ S2 => endComp S1.length S2) = r.bind fun _ S4 => ((comp2L dg tt it1 dg1 tt1 te vs1 S1.length (ds.drop (i + 1)) (wipeD δ vs) S4).bind fun _ S2 => endComp S1.length S2) := fun r => by cases r <;> rfl
              rw [← e]; exact p5
            exact comp_turns hg1 ht1 (f15.trans f6) (f6.at e5) so6 (f6.st (f5.st st4)) j6 p6 fun ρ7 S7 H7 f7 _ e7 so7 p7 => ⟨ρ7, S7, f7, e7, so7, p7⟩
  · refine .inl ⟨js (by omega), ?_⟩
    rw [List.drop_eq_nil_of_le (by omega)] at p'
    exact endComp_post so1 nD f' so' ed p'
end
section
variable {X : Cx} {E : XP}
theorem de_comp2 {elt tg iter tg1 iter1 : Expr} {ifs ifs1 : List Expr} {scope : Scope} {own : List (Str × Nat)} {pos : Pos} {it it1 : Den (List D)} {g g1 : TG} {dg dg1 : DenG} {ts ts1 vs1 : List Nat} {tt tt1 : Den Bool} {te : Den W} (hc : X.calm = true) (hN : X.N.Nodup) (hi : PI X tg iter (tI X.K E it)) (hgo : GOk X.K g dg ts) (hgo1 : GOk X.K g1 dg1 ts1) (ok : blkC X.N X.env.scope scope own = true)
    (hg : ∀ (s : Shared) (H : Hp) (C : Addr) (cl : List (Str × Addr)) (fp : List Addr), PG (X.blk s H scope (compEnvC scope cl C X.env) fp) tg g) (ht : ∀ (s : Shared) (H : Hp) (C : Addr) (cl : List (Str × Addr)) (fp : List Addr), PTs (X.blk s H scope (compEnvC scope cl C X.env) fp) ifs (tT X.K XP0 tt))
    (hi1 : ∀ (s : Shared) (H : Hp) (C : Addr) (cl : List (Str × Addr)) (fp : List Addr), PI (X.blk s H scope (compEnvC scope cl C X.env) fp) tg1 iter1 (tI X.K XP0 it1))
    (hg1 : ∀ (s : Shared) (H : Hp) (C : Addr) (cl : List (Str × Addr)) (fp : List Addr), PG (X.blk s H scope (compEnvC scope cl C X.env) fp) tg1 g1) (ht1 : ∀ (s : Shared) (H : Hp) (C : Addr) (cl : List (Str × Addr)) (fp : List Addr), PTs (X.blk s H scope (compEnvC scope cl C X.env) fp) ifs1 (tT X.K XP0 tt1))
    (he : ∀ (s : Shared) (H : Hp) (C : Addr) (cl : List (Str × Addr)) (fp : List Addr), PE (X.blk s H scope (compEnvC scope cl C X.env) fp) elt (tE X.K XP0 te)) (hs : ∀ x, foldedSetIterable iter X.env x = pure x := by intro _; rfl) (hs1 : ∀ env x, foldedSetIterable iter1 env x = pure x := by intro _ _; rfl) (hts : ∀ j ∈ ts, j ∈ own.map (·.2) := by decide) (hts1 : ∀ j ∈ ts1, j ∈ vs1 := by decide) (hv : ∀ i ∈ vs1, i ∈ own.map (·.2) := by decide) :
    PE X (.ListComp elt [⟨tg, iter, ifs, 0⟩, ⟨tg1, iter1, ifs1, 0⟩] scope pos) (tE X.K E (cComp2 it dg tt it1 dg1 tt1 te (own.map (·.2)) vs1)) :=
  pe_mono (pe_lc2 hc hN hi (blkOk_by ok) hv hg ht hi1 hg1 ht1 he hs hs1) fun σ H Q h => comp2_post hgo hts hgo1 hts1 h
end
end Fro

namespace Fro
open PySem PySem.Spec L2

/-! ### {k: v for ..} -/
def dputL (n : Nat) (k w : W) (S : Sto) : Option Sto := match k, w, S[n]? with
  | .v (.str t), .v e, some (.dct acc) => if acc.length < 1000000 then some (S.set n (.dct (putE acc t e))) else none
  | _, _, _ => none
def dcompL (dg : DenG) (tt : Den Bool) (tk tv : Den W) (n : Nat) : List D → Slots → Sto → R Unit
  | [], _, S => .ok () S
  | d :: ds, δ, S => match dg (.v d) δ S with
    | none => .bad
    | some (δ1, S1) => (tt δ1 S1).noexc.bind fun c S2 => if c then (tk δ1 S2).noexc.bind fun k S3 => (tv δ1 S3).noexc.bind fun w S4 => match dputL n k w S4 with
        | some S5 => dcompL dg tt tk tv n ds δ S5
        | none => .bad
      else dcompL dg tt tk tv n ds δ S2
def endDComp (n : Nat) (S2 : Sto) : R W := if S2.length = n + 1 then (match S2[n]? with
    | some (.dct acc) => .ok (.v (.dct acc)) (S2.take n)
    | _ => .bad) else .bad
def cDComp (it : Den (List D)) (dg : DenG) (tt : Den Bool) (tk tv : Den W) (vs : List Nat) : Den W := fun δ S => (it δ S).bind fun ds S1 =>
  (dcompL dg tt tk tv S1.length ds (wipeD δ vs) (S1 ++ [.dct []])).bind fun _ S2 => endDComp S1.length S2
section
variable {K : PySem.W.Frag} {E : XP}
theorem dput_ok {n : Nat} {k w : W} {S S' : Sto} {ρ : List Addr} {H : Hp} {D' : Addr} {y z : V} (so : Sok K ρ S H) (e : ρ[n]? = some D') (rk : RpW K ρ S H k y) (rv : RpW K ρ S H w z) (h : dputL n k w S = some S') :
    ∃ (kvs : List (Key × V)) (kk : Key), y = kV kk ∧ H D' = some (.dK kvs) ∧ kvs.length < sizeLine ∧ Fwd ρ S H ρ S' (upd H D' (.dK (putK kvs kk z))) ∧ Sok K ρ S' (upd H D' (.dK (putK kvs kk z))) := by
  unfold dputL at h
  split at h
  · rename_i t d acc q
    split at h
    · rename_i ha
      cases h
      obtain ⟨kvs, ex, re⟩ := so.obs _ _ _ e q
      cases rk
      have fc : Fwd ρ S H ρ (S.set n (.dct (putE acc t d))) (upd H D' (.dK (putK kvs (Sum.inr (sx t)) z))) := Fwd.changed so e q rfl
      exact ⟨kvs, Sum.inr (sx t), rfl, ex, by rw [← rpE_len re]; exact Nat.lt_trans ha (by decide), fc, so.changed e q rfl ⟨_, upd_same, rpE_put t (fc.rpE re) (fc.rp rv)⟩⟩
    · cases h
  · cases h
theorem dcomp_post {it : Den (List D)} {g : TG} {dg : DenG} {ts vs : List Nat} {tt : Den Bool} {tk tv : Den W} (hg : GOk K g dg ts) (ht : ∀ j ∈ ts, j ∈ vs) {σ : L2.St} {H : Hp} {Q : VK}
    (h : tE K E (cDComp it dg tt tk tv vs) σ H Q) : tDc (tI K E it) g (tT K XP0 tt) (tE K XP0 tk) (tE K XP0 tv) vs σ H Q := by
  obtain ⟨δ, ρ, S, st, so, p⟩ := h
  refine tG_then st so p fun ds S1 J ρ1 H1 f1 st1 so1 j1 p1 => fun D' nD => ?_
  have fg : Fwd ρ1 S1 H1 (ρ1 ++ [D']) (S1 ++ [.dct []]) (upd H1 D' (.dK [])) := Fwd.grown so1 nD _
  have sg : Sok K (ρ1 ++ [D']) (S1 ++ [.dct []]) (upd H1 D' (.dK [])) := so1.grown nD _ ⟨[], upd_same, .nil⟩
  refine ⟨fun i m H' => i + m = ds.length ∧ ∃ (ρ' : List Addr) (S' : Sto), Fwd ρ1 S1 H1 ρ' S' H' ∧ ρ'[S1.length]? = some D' ∧ Sok K ρ' S' H' ∧ Post K (RpW K) ρ1 S1 H1 ((dcompL dg tt tk tv S1.length (ds.drop i) (wipeD δ vs) S').bind fun _ S2 => endDComp S1.length S2) Q (E σ),
    ⟨ds.length, by omega, _, _, fg, by rw [← so1.len]; simp, sg, by rw [List.drop_zero]; exact p1⟩, fun i m H' hW => ?_⟩
  obtain ⟨em, ρ', S', f', ed, so', p'⟩ := hW
  obtain ⟨jg, js⟩ := j1 i ρ' S' H' f' so'
  by_cases hl : i < ds.length
  · have edr : ds.drop i = ds[i] :: ds.drop (i + 1) := List.drop_eq_getElem_cons hl
    rw [edr] at p'
    obtain ⟨g1, g2⟩ := jg ds[i] (List.getElem?_eq_getElem hl)
    refine .inr ⟨g1, fun H2 => ∃ (ρ2 : List Addr) (S2 : Sto), Fwd ρ1 S1 H1 ρ2 S2 H2 ∧ ρ2[S1.length]? = some D' ∧ Sok K ρ2 S2 H2 ∧ Post K (RpW K) ρ1 S1 H1 ((dcompL dg tt tk tv S1.length (ds.drop (i + 1)) (wipeD δ vs) S2).bind fun _ S2 => endDComp S1.length S2) Q (E σ),
      fun H2 ⟨ρ2, S2, a1, a2, a3, a4⟩ => ⟨m - 1, by omega, by omega, ρ2, S2, a1, a2, a3, a4⟩, fun x H3 y => ?_⟩
    obtain ⟨fy, soy, ry⟩ := g2 x H3 y
    unfold dcompL at p'
    cases q : dg (.v ds[i]) (wipeD δ vs) S' with
    | none => simp only [q] at p'; exact p'.elim
    | some z =>
      obtain ⟨δ3, S3⟩ := z
      simp only [q] at p'
      have f3 : Fwd ρ1 S1 H1 ρ' S' H3 := f'.trans fy
      refine hg ρ' S' H3 (wipeD δ vs) (wipe σ vs) (.v ds[i]) x _ δ3 S3 (wipe_rp vs (f3.st st1)) soy ry q fun σ4 ρ4 H4 f4 so4 st4 l4 k4 => ?_
      refine ⟨wipe_same ht l4 k4, δ3, ρ4, S3, st4, so4, ?_⟩
      have f14 : Fwd ρ1 S1 H1 ρ4 S3 H4 := f3.trans f4
      have e4 : ρ4[S1.length]? = some D' := f4.at ed
      cases qt : tt δ3 S3 with
      | bad => rw [qt] at p'; exact p'.elim
      | exc c cs S5 => rw [qt] at p'; exact p'.elim
      | ok c S5 =>
        rw [qt] at p'
        intro b ρ5 H5 f5 so5 rb
        cases rb
        have f15 := f14.trans f5
        have e5 := f5.at e4
        cases c with
        | false =>
          rw [if_neg Bool.false_ne_true]
          exact ⟨ρ5, S5, f15, e5, so5, p'⟩
        | true =>
          rw [if_pos rfl]
          refine ⟨δ3, ρ5, S5, f5.st st4, so5, ?_⟩
          have p5 : Post K (RpW K) ρ1 S1 H1 (((tk δ3 S5).noexc.bind fun k S3 => (tv δ3 S3).noexc.bind fun w S4 => match dputL S1.length k w S4 with
            | some S5 => dcompL dg tt tk tv S1.length (ds.drop (i + 1)) (wipeD δ vs) S5
            | none => .bad).bind fun _ S2 => endDComp S1.length S2) Q (E σ) := p'
          cases qk : tk δ3 S5 with
          | bad => rw [qk] at p5; exact p5.elim
          | exc c cs S6 => rw [qk] at p5; exact p5.elim
          | ok k S6 =>
            rw [qk] at p5
            intro y6 ρ6 H6 f6 so6 r6
            refine ⟨δ3, ρ6, S6, f6.st (f5.st st4), so6, ?_⟩
            have p6 : Post K (RpW K) ρ1 S1 H1 (((tv δ3 S6).noexc.bind fun w S4 => match dputL S1.length k w S4 with
              | some S5 => dcompL dg tt tk tv S1.length (ds.drop (i + 1)) (wipeD δ vs) S5
              | none => .bad).bind fun _ S2 => endDComp S1.length S2) Q (E σ) := p5
            cases qv : tv δ3 S6 with
            | bad => rw [qv] at p6; exact p6.elim
            | exc c cs S7 => rw [qv] at p6; exact p6.elim
            | ok w S7 =>
              rw [qv] at p6
              intro y7 ρ7 H7 f7 so7 r7
              have p7 : Post K (RpW K) ρ1 S1 H1 ((match dputL S1.length k w S7 with
                | some S5 => dcompL dg tt tk tv S1.length (ds.drop (i + 1)) (wipeD δ vs) S5
                | none => .bad).bind fun _ S2 => endDComp S1.length S2) Q (E σ) := p6
              cases qd : dputL S1.length k w S7 with
              | none => rw [qd] at p7; exact p7.elim
              | some S8 =>
                rw [qd] at p7
                have e7 := f7.at (f6.at e5)
                obtain ⟨kvs, kk, ek, eh, el, fc, sc⟩ := dput_ok so7 e7 (f7.rw r6) r7 qd
                exact ⟨kvs, kk, ek, eh, el, ρ7, S8, ((f15.trans f6).trans f7).trans fc, e7, sc, p7⟩
  · refine .inl ⟨js (by omega), ?_⟩
    rw [List.drop_eq_nil_of_le (by omega)] at p'
    have pe : Post K (RpW K) ρ1 S1 H1 (endDComp S1.length S') Q (E σ) := p'
    unfold endDComp at pe
    by_cases hl2 : S'.length = S1.length + 1
    · simp only [if_pos hl2] at pe
      cases q : S'[S1.length]? with
      | none => rw [q] at pe; exact pe.elim
      | some ob =>
        cases ob with
        | dct acc =>
          rw [q] at pe
          obtain ⟨xs, ex, rl⟩ := so'.obs _ _ _ ed q
          obtain ⟨more, em⟩ := f'.ext
          have t := so'.take S1.length
          rw [em, take_pre so1.len, ← em] at t
          refine pe (.ref D') ρ1 H' (f'.cut so1.len so'.len) t.1 (Rp.dct (.inl ex) (fun l => so1.notIn nD ?_) (rl.weak t.2))
          obtain ⟨j, o, h1, _, _⟩ := l
          exact List.mem_of_getElem? h1
        | _ => rw [q] at pe; exact pe.elim
    · simp only [if_neg hl2] at pe; exact pe.elim
end
section
variable {X : Cx} {E : XP}
theorem de_dcomp {kx vx tg iter : Expr} {ifs : List Expr} {scope : Scope} {own : List (Str × Nat)} {pos : Pos} {it : Den (List D)} {g : TG} {dg : DenG} {ts : List Nat} {tt : Den Bool} {tk tv : Den W} (hc : X.calm = true) (hN : X.N.Nodup) (hi : PI X tg iter (tI X.K E it)) (hgo : GOk X.K g dg ts) (ok : blkC X.N X.env.scope scope own = true)
    (hg : ∀ (s : Shared) (H : Hp) (C : Addr) (cl : List (Str × Addr)) (fp : List Addr), PG (X.blk s H scope (compEnvC scope cl C X.env) fp) tg g) (ht : ∀ (s : Shared) (H : Hp) (C : Addr) (cl : List (Str × Addr)) (fp : List Addr), PTs (X.blk s H scope (compEnvC scope cl C X.env) fp) ifs (tT X.K XP0 tt))
    (hk : ∀ (s : Shared) (H : Hp) (C : Addr) (cl : List (Str × Addr)) (fp : List Addr), PE (X.blk s H scope (compEnvC scope cl C X.env) fp) kx (tE X.K XP0 tk))
    (he : ∀ (s : Shared) (H : Hp) (C : Addr) (cl : List (Str × Addr)) (fp : List Addr), PE (X.blk s H scope (compEnvC scope cl C X.env) fp) vx (tE X.K XP0 tv)) (hs : ∀ x, foldedSetIterable iter X.env x = pure x := by intro _; rfl) (hts : ∀ j ∈ ts, j ∈ own.map (·.2) := by decide) :
    PE X (.DictComp kx vx [⟨tg, iter, ifs, 0⟩] scope pos) (tE X.K E (cDComp it dg tt tk tv (own.map (·.2)))) :=
  pe_mono (pe_dc hc hN hi (blkOk_by ok) hg ht hk he hs) fun σ H Q h => dcomp_post hgo hts h
end
end Fro

namespace Fro
open PySem PySem.Spec L2 PyProof.Rows

/-! ### name = {.. for ..} -/
section
variable {X : Cx} {E : XP}
theorem swD_true {kx vx : Expr} {gs : List Comprehension} {scope : Scope} {pos py : Pos} {y : Str} {l : Nat} {env : Env} (hk : env.scope.kind = .function) (hy : env.scope.names.lookup y = some .local) (hl : (py.line == pos.line) = true) (ha : (scope.names.any fun (n, k) => n == y && (k == .local || k == .cell)) = false) :
    swapsWith (.DictComp kx vx gs scope pos) (some (.Name y py)) l env = pure true := by
  have k1 : env.blockKind = .function := by unfold Env.blockKind; rw [hk]; rfl
  have k2 : env.kindOf y = some .local := hy
  unfold swapsWith
  simp only [k1, k2, ha, Expr.pos, hl]
  rfl
theorem ps_setDc {i : Nat} {y : Str} {py : Pos} {kx vx tg iter : Expr} {ifs : List Expr} {scope : Scope} {own : List (Str × Nat)} {pos spos : Pos} {wi : TI} {g : TG} {tt : TT} {tk tv : TE} (hc : X.calm = true) (hN : X.N.Nodup) (hy : X.N[i]? = some y) (hyl : X.env.scope.names.lookup y = some .local) (hsw : swapsWith (.DictComp kx vx [⟨tg, iter, ifs, 0⟩] scope pos) (some (.Name y py)) spos.line X.env = pure true) (hi : PI X tg iter wi) (ok : BlkOk X.N X.env.scope scope own)
    (hg : ∀ (s : Shared) (H : Hp) (C : Addr) (cl : List (Str × Addr)) (fp : List Addr), PG (X.blk s H scope (compEnvC scope cl C X.env) fp) tg g) (ht : ∀ (s : Shared) (H : Hp) (C : Addr) (cl : List (Str × Addr)) (fp : List Addr), PTs (X.blk s H scope (compEnvC scope cl C X.env) fp) ifs tt) (hk : ∀ (s : Shared) (H : Hp) (C : Addr) (cl : List (Str × Addr)) (fp : List Addr), PE (X.blk s H scope (compEnvC scope cl C X.env) fp) kx tk) (he : ∀ (s : Shared) (H : Hp) (C : Addr) (cl : List (Str × Addr)) (fp : List Addr), PE (X.blk s H scope (compEnvC scope cl C X.env) fp) vx tv) (hs : ∀ x, foldedSetIterable iter X.env x = pure x) :
    PS X (.Assign [.Name y py] (.DictComp kx vx [⟨tg, iter, ifs, 0⟩] scope pos) spos) (tAsg (tDc wi g tt tk tv (own.map (·.2))) (gName i)) := by
  refine ⟨fun pins s σ H D I h => ?_⟩
  rw [exec_Assign_Name_used _ _ _ _ hsw]
  refine wpAny_bind (wpAny_standAt (wpAny_bind ?_))
  show wpAny _ X.A (do let _ ← comprehension (.DictComp kx vx [⟨tg, iter, ifs, 0⟩] scope pos) scope X.env (firstIterPos [⟨tg, iter, ifs, 0⟩] pos) newDict false (eval iter X.env) (some (assign (.Name y py) X.env))) _ _ s
  have h' : tDc wi g tt tk tv (own.map (·.2)) σ H (fun x H1 => gName i x σ H1 D.nx) := h
  refine wpAny_bind (thn (dc_core (Qf := fun _ s' => SP X pins D .next s') hc hN I hi ok hg ht hk he hs h' fun L C s' m H' I' q hn f => ?_) fun _ s' hq => wpAny_pure (wpAny_pure hq))
  show wpAny _ _ (assign (.Name y py) X.env (.ref L)) _ _ _
  refine wpAny_assign_Name (store_ok2 (v := V.ref L) I' hN hy (.inl hyl) rfl (fun s2 I2 ⟨a, sb, ha⟩ => ?_) (.inr hyl))
  obtain ⟨g0, g1, g2, g3, g4, g5⟩ := f
  have haC : C ≠ a := by
    rcases ha with z | z
    · rw [z]; exact g1
    · exact fun e => g4 y a z e.symm
  exact ⟨m, hn.sameBut sb haC, fun h3 sb3 => ⟨_, H', I2.turned (t' := s2.toks) (fun b o hb e => (sb3.2 b hb).trans e) g0 g1 g3 g4 g5, q⟩⟩
theorem ds_setDComp (i : Nat) {y : Str} {py : Pos} {kx vx tg iter : Expr} {ifs : List Expr} {scope : Scope} {own : List (Str × Nat)} {pos spos : Pos} {it : Den (List D)} {g : TG} {dg : DenG} {ts : List Nat} {tt : Den Bool} {tk tv : Den W} (hc : X.calm = true) (hN : X.N.Nodup) (hi : PI X tg iter (tI X.K E it)) (hgo : GOk X.K g dg ts) (ok : blkC X.N X.env.scope scope own = true)
    (hg : ∀ (s : Shared) (H : Hp) (C : Addr) (cl : List (Str × Addr)) (fp : List Addr), PG (X.blk s H scope (compEnvC scope cl C X.env) fp) tg g) (ht : ∀ (s : Shared) (H : Hp) (C : Addr) (cl : List (Str × Addr)) (fp : List Addr), PTs (X.blk s H scope (compEnvC scope cl C X.env) fp) ifs (tT X.K XP0 tt)) (hk : ∀ (s : Shared) (H : Hp) (C : Addr) (cl : List (Str × Addr)) (fp : List Addr), PE (X.blk s H scope (compEnvC scope cl C X.env) fp) kx (tE X.K XP0 tk)) (he : ∀ (s : Shared) (H : Hp) (C : Addr) (cl : List (Str × Addr)) (fp : List Addr), PE (X.blk s H scope (compEnvC scope cl C X.env) fp) vx (tE X.K XP0 tv))
    (hs : ∀ x, foldedSetIterable iter X.env x = pure x := by intro _; rfl) (hts : ∀ j ∈ ts, j ∈ own.map (·.2) := by decide) (hy : X.N[i]? = some y := by rfl) (hyl : X.env.scope.names.lookup y = some .local := by rfl) (hsw : swapsWith (.DictComp kx vx [⟨tg, iter, ifs, 0⟩] scope pos) (some (.Name y py)) spos.line X.env = pure true := by exact swD_true rfl rfl rfl (by decide +kernel)) :
    PS X (.Assign [.Name y py] (.DictComp kx vx [⟨tg, iter, ifs, 0⟩] scope pos) spos) (tS X.K E (cAsg (cDComp it dg tt tk tv (own.map (·.2))) (gN i))) :=
  ps_mono (ps_setDc hc hN hy hyl hsw hi (blkOk_by ok) hg ht hk he hs) fun D' σ H ⟨δ, ρ, S, st, so, p⟩ => dcomp_post hgo hts (tG_thenS st so p fun w S1 v ρ1 H1 f1 st1 so1 r1 p1 => asg_post (gok_name i) st1 so1 r1 p1)
end

/-! ### calls of built-in classes -/
theorem CallR.or {X : Cx} {f : Value} {r r' : List V → Hp → VK → Prop} (h : CallR X f r) (h' : CallR X f r') : CallR X f fun xs H Q => r xs H Q ∨ r' xs H Q := fun pins s σ H xs us Q I rx q => q.elim (h pins s σ H xs us Q I rx) (h' pins s σ H xs us Q I rx)
def signs (t : Tx) : List D := t.map fun c => .str [c]
def gTuple : List D → Option D := fun ds => match ds with
  | [.lst xs] => some (.tup xs)
  | [.tup xs] => some (.tup xs)
  | _ => none
def gList : List D → Option D := fun ds => match ds with
  | [.lst xs] => some (.lst xs)
  | [.tup xs] => some (.lst xs)
  | [.str t] => if t.length ≤ 1000000 then some (.lst (signs t)) else none
  | _ => none
def txI (i : Int) : Tx := (Str.ofString (toString i)).cps.toList
theorem sx_txI (i : Int) : sx (txI i) = Str.ofString (toString i) := by
  unfold sx txI
  simp
def tTrue : Tx := [84, 114, 117, 101]
def tFalse : Tx := [70, 97, 108, 115, 101]
def gStr : List D → Option D := fun ds => match ds with
  | [.int i] => if i.natAbs < 18446744073709551616 then some (.str (txI i)) else none
  | [.bl b] => some (.str (if b then tTrue else tFalse))
  | [.str t] => some (.str t)
  | _ => none
def gIntT : List D → Option D := fun ds => match ds with
  | [.int i] => some (.int i)
  | [.bl b] => some (.int (if b then 1 else 0))
  | [.str t] => if t.length ≤ 640 then (PySem.intText? (sx t)).map .int else none
  | _ => none
section
variable {X : Cx} {K : PySem.W.Frag}
theorem rql1 {H : Hp} {M : Addr → Prop} {d : D} {xs : List V} (h : RqL K H M [d] xs) : ∃ v, xs = [v] ∧ Rq K H M d v := by
  cases h with
  | cons a b => cases b; exact ⟨_, rfl, a⟩
theorem gn_tuple : GN K (fun xs H Q => ∃ p ys, xs = [.ref p] ∧ ((SqL K H p ys ∧ ∀ l, H l = none → Q (.ref l) (upd H l (.tup ys))) ∨ (SqT K H p ys ∧ Q (.ref p) H))) gTuple := fun ρ S H ds z xs Q so rx q n => by
  unfold gTuple at q
  split at q
  · obtain ⟨v, rfl, r⟩ := rql1 rx
    cases q
    obtain ⟨a, ys, rfl, ha, ra⟩ := r.lstE
    exact ⟨a, ys, rfl, .inl ⟨SqL.of ha, nxt_tup so ra n⟩⟩
  · obtain ⟨v, rfl, r⟩ := rql1 rx
    cases q
    obtain ⟨a, ys, rfl, ha, ra⟩ := r.tup
    exact ⟨a, ys, rfl, .inr ⟨ha, nxt_here so (.tup ha ra) n⟩⟩
  · cases q
/-- list(text) -/
theorem call_list_text : X.calm = true → CallR X (.type "list") (fun xs H Q => ∃ t : Tx, xs = [.str (sx t)] ∧ t.length ≤ 1000000 ∧ ∀ l, H l = none → Q (.ref l) (upd H l (.lst (t.map fun c => V.str ⟨#[c]⟩)))) := fun hc => by
  intro pins s σ H xs us Q I r h
  obtain ⟨t, rfl, hl, q⟩ := h
  obtain ⟨u, rfl, tk, rfl⟩ := vals1 r
  have hz : (sx t).cps.size = t.length := by simp [sx]
  refine PySem.call_list_str (I.ok.hd hc) (sx t) tk (fun h' tk' acc c' kp e it => ?_) (by rw [hz]; exact lt_line hl)
  have hv : Vals (t.map fun c => V.str ⟨#[c]⟩) acc.toList := by
    have ha : acc.toList.length = t.length := by rw [Array.length_toList, it.1, hz]
    have key : ∀ (t : Tx) (l : List Value), l.length = t.length → (∀ (j : Nat) (v : Value), l[j]? = some v → ∃ c u, t[j]? = some c ∧ v = Value.str ⟨#[c]⟩ u) → Vals (t.map fun c => V.str ⟨#[c]⟩) l := by
      intro t
      induction t with
      | nil =>
        intro l hl _
        cases l with
        | nil => exact .nil
        | cons a b => cases hl
      | cons c t ih =>
        intro l hl hh
        cases l with
        | nil => cases hl
        | cons a b =>
          obtain ⟨c', u, e1, e2⟩ := hh 0 a rfl
          cases e1
          subst e2
          exact .cons ⟨u, rfl⟩ (ih b (by simpa using hl) fun j v hj => by simpa using hh (j + 1) v (by simpa using hj))
    refine key t acc.toList ha fun j v hj => ?_
    obtain ⟨c, u, e1, e2⟩ := it.2 j v (by simpa using hj)
    exact ⟨c, u, by simpa [sx] using e1, e2⟩
  exact ⟨.ref s.heap.objs.size, _, I.laid (t' := tk') kp (Nat.le_refl _) (show ObjOk X.prog X.w _ h' _ (.lst _) from ⟨by rw [List.length_map]; exact lt_line hl, acc.toList, c', hv, by simpa using e⟩), rfl, q _ (I.hok.fresh (Nat.le_refl _))⟩
def rListA (K : PySem.W.Frag) : List V → Hp → VK → Prop := fun xs H Q => (∃ p ys, xs = [.ref p] ∧ (SqL K H p ys ∨ SqT K H p ys) ∧ ∀ l, H l = none → Q (.ref l) (upd H l (.lst ys))) ∨ ∃ t : Tx, xs = [.str (sx t)] ∧ t.length ≤ 1000000 ∧ ∀ l, H l = none → Q (.ref l) (upd H l (.lst (t.map fun c => V.str ⟨#[c]⟩)))
theorem call_listA (hc : X.calm = true) : CallR X (.type "list") (rListA X.K) := call_list_of.or (call_list_text hc)
theorem rp_signs {H : Hp} {M : Addr → Prop} : ∀ t : Tx, RpL K H M (signs t) (t.map fun c => V.str ⟨#[c]⟩)
  | [] => .nil
  | c :: t => .cons (.str [c]) (rp_signs t)
theorem gn_list : GN K (rListA K) gList := fun ρ S H ds z xs Q so rx q n => by
  unfold gList at q
  split at q
  · obtain ⟨v, rfl, r⟩ := rql1 rx
    cases q
    obtain ⟨a, ys, rfl, ha, ra⟩ := r.lstE
    exact .inl ⟨a, ys, rfl, .inl (SqL.of ha), nxt_lst so ra n⟩
  · obtain ⟨v, rfl, r⟩ := rql1 rx
    cases q
    obtain ⟨a, ys, rfl, ha, ra⟩ := r.tup
    exact .inl ⟨a, ys, rfl, .inr ha, nxt_lst so ra n⟩
  · obtain ⟨v, rfl, r⟩ := rql1 rx
    split at q
    · rename_i hl
      cases q
      refine .inr ⟨_, by rw [r.str], hl, nxt_lst so (rp_signs _) n⟩
    · cases q
  · cases q
theorem call_str_bl : CallR X (.type "str") (fun xs H Q => ∃ b : Bool, xs = [.bl b] ∧ Q (.str (if b then "True" else "False")) H) := by
  intro pins s σ H xs us Q I r h
  obtain ⟨b, rfl, q⟩ := h
  obtain ⟨u, rfl, r1⟩ := vals1 r
  cases r1
  exact PySem.P.str_of_bool ⟨.str _, H, I.tok _, ⟨_, rfl⟩, q⟩
def rStrA : List V → Hp → VK → Prop := fun xs H Q => ((∃ i : Int, xs = [.int i] ∧ i.natAbs.log2 < 1920 ∧ Q (.str (toString i)) H) ∨ ∃ b : Bool, xs = [.bl b] ∧ Q (.str (if b then "True" else "False")) H) ∨ ∃ a, xs = [.str a] ∧ Q (.str a) H
theorem call_strA : CallR X (.type "str") rStrA := (call_str_int.or call_str_bl).or SkE.call_str_str
theorem gn_str : GN K rStrA gStr := fun ρ S H ds z xs Q so rx q n => by
  unfold gStr at q
  split at q
  · obtain ⟨v, rfl, r⟩ := rql1 rx
    rename_i i
    split at q
    · rename_i hl
      cases q
      refine .inl (.inl ⟨i, by rw [r.int], ?_, ?_⟩)
      · by_cases h0 : i.natAbs = 0
        · rw [h0]; decide
        · exact Nat.lt_of_lt_of_le ((Nat.log2_lt h0).mpr (show i.natAbs < 2 ^ 64 from hl)) (show 64 ≤ 1920 by decide)
      · have := nxt_here so (.str (txI i)) n
        rw [sx_txI] at this
        exact this
    · cases q
  · obtain ⟨v, rfl, r⟩ := rql1 rx
    rename_i b
    cases q
    refine .inl (.inr ⟨b, by rw [r.bl], ?_⟩)
    have := nxt_here so (.str (if b then tTrue else tFalse)) n
    cases b with
    | true => exact this
    | false => exact this
  · obtain ⟨v, rfl, r⟩ := rql1 rx
    cases q
    exact .inr ⟨_, by rw [r.str], nxt_here so (.str _) n⟩
  · cases q
def rIntA : List V → Hp → VK → Prop := fun xs H Q => ((∃ i, xs = [.int i] ∧ Q (.int i) H) ∨ ∃ k, xs = [.bl k] ∧ Q (.int (if k then 1 else 0)) H) ∨ ∃ a n, xs = [.str a] ∧ PySem.intText? a = some n ∧ a.length ≤ 640 ∧ Q (.int n) H
theorem call_intA : CallR X (.type "int") rIntA := CallR.or call_int1 call_int_str
theorem gn_intT : GN K rIntA gIntT := fun ρ S H ds z xs Q so rx q n => by
  unfold gIntT at q
  split at q
  · obtain ⟨v, rfl, r⟩ := rql1 rx
    cases q
    exact .inl (.inl ⟨_, by rw [r.int], nxt_here so (.int _) n⟩)
  · obtain ⟨v, rfl, r⟩ := rql1 rx
    cases q
    exact .inl (.inr ⟨_, by rw [r.bl], nxt_here so (.int _) n⟩)
  · obtain ⟨v, rfl, r⟩ := rql1 rx
    rename_i t
    split at q
    · rename_i hl
      cases qi : PySem.intText? (sx t) with
      | none => rw [qi] at q; cases q
      | some m =>
        rw [qi] at q
        cases q
        exact .inr ⟨_, m, by rw [r.str], qi, by rw [sx_length]; exact hl, nxt_here so (.int _) n⟩
    · cases q
  · cases q
end
/-! ### max of a list -/
def intL : List D → Option (List Int)
  | [] => some []
  | .int i :: r => (intL r).map (i :: ·)
  | _ => none
def maxI : Int → List Int → Int
  | m, [] => m
  | m, n :: r => maxI (if m < n then n else m) r
def minI : Int → List Int → Int
  | m, [] => m
  | m, n :: r => minI (if n < m then n else m) r
def gMaxL : List D → Option D := fun ds => match ds with
  | [.lst xs] => (match intL xs with
    | some (n :: ns) => some (.int (maxI n ns))
    | _ => none)
  | _ => none
theorem maxI_ge : ∀ (m : Int) (ns : List Int), m ≤ maxI m ns ∧ ∀ y ∈ ns, y ≤ maxI m ns
  | m, [] => ⟨Int.le_refl _, fun y h => by cases h⟩
  | m, n :: r => by
    have ih := maxI_ge (if m < n then n else m) r
    show m ≤ maxI (if m < n then n else m) r ∧ ∀ y ∈ n :: r, y ≤ maxI (if m < n then n else m) r
    have h1 : m ≤ (if m < n then n else m) := by split <;> omega
    have h2 : n ≤ (if m < n then n else m) := by split <;> omega
    refine ⟨Int.le_trans h1 ih.1, fun y hy => ?_⟩
    rcases List.mem_cons.mp hy with rfl | hy
    · exact Int.le_trans h2 ih.1
    · exact ih.2 y hy
theorem maxI_mem : ∀ (m : Int) (ns : List Int), maxI m ns ∈ m :: ns
  | m, [] => List.mem_cons_self
  | m, n :: r => by
    have ih := maxI_mem (if m < n then n else m) r
    show maxI (if m < n then n else m) r ∈ m :: n :: r
    rcases List.mem_cons.mp ih with h | h
    · rw [h]
      split
      · exact List.mem_cons_of_mem _ List.mem_cons_self
      · exact List.mem_cons_self
    · exact List.mem_cons_of_mem _ (List.mem_cons_of_mem _ h)
theorem intL_rp {K : PySem.W.Frag} {H : Hp} {M : Addr → Prop} : ∀ {ds : List D} {ns : List Int} {vs : List V}, intL ds = some ns → RpL K H M ds vs → vs = ns.map V.int
  | [], _, _, e, .nil => by cases e; rfl
  | .int i :: r, ns, _, e, .cons a b => by
    unfold intL at e
    cases q : intL r with
    | none => rw [q] at e; cases e
    | some ms =>
      rw [q] at e
      cases e
      cases a
      rw [intL_rp q b]
      rfl
  | .non :: _, _, _, e, _ => by cases e
  | .bl _ :: _, _, _, e, _ => by cases e
  | .str _ :: _, _, _, e, _ => by cases e
  | .tup _ :: _, _, _, e, _ => by cases e
  | .lst _ :: _, _, _, e, _ => by cases e
  | .dct _ :: _, _, _, e, _ => by cases e
  | .ty _ :: _, _, _, e, _ => by cases e
theorem gn_maxL {K : PySem.W.Frag} : GN K (rMax K) gMaxL := fun ρ S H ds z xs Q so rx q n => by
  unfold gMaxL at q
  split at q
  · rename_i ys
    obtain ⟨v, rfl, r⟩ := rql1 rx
    split at q
    · rename_i m ms qi
      cases q
      obtain ⟨a, us, rfl, ha, ra⟩ := r.lstE
      rw [intL_rp qi ra] at ha
      refine ⟨a, m :: ms, rfl, SqL.of ha, by simp, fun k hk hmax => ?_⟩
      have e : k = maxI m ms := by
        have h1 := hmax _ (maxI_mem m ms)
        have h2 := maxI_ge m ms
        have h3 : k ≤ maxI m ms := by
          rcases List.mem_cons.mp hk with rfl | hk
          · exact h2.1
          · exact h2.2 k hk
        omega
      rw [e]
      exact nxt_here so (.int _) n
    · cases q
  · cases q
/-! ### texts -/
def gStarts : Tx → D → Option D := fun t d => match d with
  | .str u => some (.bl (u.isPrefixOf t))
  | _ => none
theorem starts_eq (t u : Tx) : Txt.startswith (sx t) (sx u) = u.isPrefixOf t := by
  unfold Txt.startswith Builtin.Str.subAt
  rw [sx_length, sx_length]
  have e : ((sx t).cps.extract 0 (0 + u.length) == (sx u).cps) = (t.take u.length == u) := by
    have h1 : (sx t).cps.extract 0 (0 + u.length) = (t.take u.length).toArray := by
      simp [sx]
    rw [h1]
    show ((t.take u.length).toArray == u.toArray) = _
    by_cases h : t.take u.length = u
    · rw [h]; simp
    · rw [beq_eq_false_iff_ne.mpr h]
      exact beq_eq_false_iff_ne.mpr fun z => h (by simpa using congrArg Array.toList z)
  rw [e]
  by_cases h : u.isPrefixOf t = true
  · have hp := List.isPrefixOf_iff_prefix.mp h
    rw [h]
    have h1 := hp.length_le
    have h2 := List.prefix_iff_eq_take.mp hp
    rw [← h2]
    simp
    omega
  · have hf : u.isPrefixOf t = false := Bool.eq_false_iff.mpr h
    rw [hf]
    by_cases h2 : t.take u.length = u
    · exact absurd (List.isPrefixOf_iff_prefix.mpr (List.prefix_iff_eq_take.mpr h2.symm)) h
    · rw [beq_eq_false_iff_ne.mpr h2, Bool.and_false]
theorem gm_starts {K : PySem.W.Frag} : GM1 K (fun x xs H Q => ∃ a b, x = .str a ∧ xs = [.str b] ∧ Q (.bl (Txt.startswith a b)) H) gStarts := fun ρ S H t e z y Q so ry q n => by
  unfold gStarts at q
  split at q
  · cases q
    refine ⟨_, _, rfl, by rw [ry.str], ?_⟩
    rw [starts_eq]
    exact nxt_here so (.bl _) n
  · cases q
section
variable {X : Cx} {E : XP} {o e : Expr} {apos pos : Pos} {a b : Den W}
theorem de_starts (ha : PE X o (tE X.K E a)) (hb : PE X e (tE X.K E b)) (hs : starEach [e] X.env = [(false, eval e X.env)] := by rfl) (hbase : attributeBase o "startswith" X.env (eval o X.env) = eval o X.env := by rfl) (hline : (apos.endLine == pos.line) = true := by rfl) :
    PE X (.Call (.Attribute o "startswith" apos) [e] [] pos) (tE X.K E (cM1 gStarts a b)) := de_m1 F.slot_str_startswith F.type_str_startswith mt_startswith gm_starts ha hb hs hbase hline
end
/-- a part of a text -/
def apSlT (x : W) (lo hi : Option Int) (S : Sto) : R W := match x with
  | .v (.str t) => if t.length ≤ 1000000 then .ok (.v (.str (cutD t lo hi))) S else .bad
  | _ => .bad
def cSlT (a : Den W) (lo hi : Den (Option Int)) : Den W := fun δ S => (a δ S).bind fun x S1 => (lo δ S1).bind fun l S2 => (hi δ S2).bind fun u S3 => apSlT x l u S3
theorem de_slT {X : Cx} {E : XP} {e : Expr} {lo hi : Option Expr} {p2 pos : Pos} {a : Den W} {l u : Den (Option Int)} (ha : PE X e (tE X.K E a)) (hl : PO X lo (tO X.K E l)) (hu : PO X hi (tO X.K E u)) : PE X (.Subscript e (.Slice lo hi none p2) pos) (tE X.K E (cSlT a l u)) :=
  pe_mono (pe_slice sl_str ha hl hu) fun σ H Q ⟨δ, ρ, S, st, so, p⟩ => tG_then st so p fun w S1 x ρ1 H1 f1 st1 so1 r1 p1 => tG_then st1 so1 p1 fun l S2 l' ρ2 H2 f2 st2 so2 r2 p2 => tG_then st2 so2 p2 fun u S3 u' ρ3 H3 f3 st3 so3 r3 p3 => by
    cases r2
    cases r3
    have rx := f3.rw (f2.rw r1)
    unfold apSlT at p3
    split at p3
    · rename_i t
      split at p3
      · rename_i hl
        cases rx
        refine ⟨_, rfl, by rw [sx_length]; exact lt_line hl, p3 _ ρ3 H3 Fwd.refl so3 ?_⟩
        have e : cutS (sx t) l u = sx (cutD t l u) := by
          unfold cutS cutD
          rw [sx_length]
          simp [sx]
        rw [e]
        exact Rp.str _
      · exact p3.elim
    · exact p3.elim
end Fro

namespace Fro
open PySem PySem.Spec L2

/-! ### xs.index(y) -/
def idxD (d : D) : List D → Option Nat
  | [] => none
  | e :: r => if deq e d = true then some 0 else (idxD d r).map (· + 1)
def gIndex : D → D → Option D := fun d e => match d with
  | .lst ds => if (flatD e && ds.all flatD) = true then (idxD e ds).map fun j => .int j else none
  | _ => none
def isLst (x : W) (S : Sto) : Bool := match rd S x with
  | some (.lst _) => true
  | _ => false
def cIndex (a b : Den W) : Den W := fun δ S => (a δ S).bind fun x S1 => if isLst x S1 = true then (b δ S1).bind fun y S2 => ap2 gIndex x y S2 else .bad
theorem idxD_ok {K : PySem.W.Frag} {H : Hp} {M : Addr → Prop} {d : D} {y : V} (hy : Rq K H M d y) (fy : flatD d = true) : ∀ {ds : List D} {vs : List V} {j : Nat}, RpL K H M ds vs → ds.all flatD = true → idxD d ds = some j → ∃ z, vs[j]? = some z ∧ eqV z y = true ∧ ∀ (m : Nat) (z' : V), m < j → vs[m]? = some z' → eqV z' y = false
  | _, _, _, .nil, _, e => by cases e
  | e :: ds, v :: vs, j, .cons a b, h, q => by
    rw [List.all_cons, Bool.and_eq_true] at h
    have ev := eqV_deq (.of a) hy h.1 fy
    unfold idxD at q
    by_cases hd : deq e d = true
    · rw [if_pos hd] at q
      cases q
      exact ⟨v, rfl, by rw [ev, hd], fun m z' hm => by omega⟩
    · rw [if_neg hd] at q
      cases qi : idxD d ds with
      | none => rw [qi] at q; cases q
      | some k =>
        rw [qi] at q
        cases q
        obtain ⟨z, h1, h2, h3⟩ := idxD_ok hy fy b h.2 qi
        refine ⟨z, by simpa using h1, h2, fun m z' hm hz => ?_⟩
        cases m with
        | zero =>
          have : v = z' := by simpa using hz
          subst this
          rw [ev]
          exact Bool.eq_false_iff.mpr hd
        | succ m => exact h3 m z' (by have hm2 : m + 1 < k + 1 := hm; omega) (by simpa using hz)
theorem index_post {K : PySem.W.Frag} {ρ : List Addr} {S : Sto} {H : Hp} {x y : W} {v u : V} {Q : VK} {Ex} (so : Sok K ρ S H) (rx : RpW K ρ S H x v) (ry : RpW K ρ S H y u) (p : Post K (RpW K) ρ S H (ap2 gIndex x y S) Q Ex) : rIndex K v [u] H Q := by
  unfold ap2 at p
  cases q1 : rd S x with
  | none => simp only [q1] at p; exact p.elim
  | some d =>
    cases q2 : rd S y with
    | none => simp only [q1, q2] at p; exact p.elim
    | some e =>
      cases q3 : gIndex d e with
      | none => simp only [q1, q2, q3] at p; exact p.elim
      | some z =>
        simp only [q1, q2, q3] at p
        unfold gIndex at q3
        split at q3
        · rename_i ds
          split at q3
          · rename_i hf
            rw [Bool.and_eq_true] at hf
            cases qi : idxD e ds with
            | none => rw [qi] at q3; cases q3
            | some j =>
              rw [qi] at q3
              cases q3
              have ry' := rd_ok so ry q2
              obtain ⟨a, ys, rfl, ha, ra⟩ := (rd_ok so rx q1).lstE
              obtain ⟨zz, h1, h2, h3⟩ := idxD_ok ry' hf.1 ra hf.2 qi
              exact ⟨a, ys, u, j, zz, rfl, rfl, SqL.of ha, rq_flat ry' hf.1, rpL_flat ra hf.2, h1, h2, h3, p _ ρ H Fwd.refl so (.int _)⟩
          · cases q3
        · cases q3
section
variable {X : Cx} {E : XP} {o e : Expr} {apos cpos : Pos} {a b : Den W}
theorem de_index (ha : PE X o (tE X.K E a)) (hb : PE X e (tE X.K E b)) (hs : starEach [e] X.env = (false, eval e X.env) :: starEach [] X.env := by rfl)
    (hd : ∀ to t, PE X o to → PA X [e] t → PE X (.Call (.Attribute o "index" apos) [e] [] cpos) (tBM X.K "list" (rIndex X.K) to t) := by exact fun _ _ ho h => pe_bm PySem.F.plainAttrs_list PySem.F.slot_list_index PySem.F.type_list_index mt_index ho h) :
    PE X (.Call (.Attribute o "index" apos) [e] [] cpos) (tE X.K E (cIndex a b)) :=
  pe_mono (hd _ _ ha (pa_cons hb pa_nil hs)) fun σ H Q ⟨δ, ρ, S, st, so, p⟩ => tG_then st so p fun x S1 v ρ1 H1 f1 st1 so1 r1 p1 => by
    by_cases hl : isLst x S1 = true
    · rw [if_pos hl] at p1
      have ty : tyV X.K "list" v H1 := by
        unfold isLst at hl
        cases q : rd S1 x with
        | none => simp only [q] at hl; cases hl
        | some d =>
          cases d with
          | lst ds =>
            obtain ⟨c, ys, rfl, hc, _⟩ := (rd_ok so1 r1 q).lstE
            exact .inl ⟨rfl, ys, SqL.of hc⟩
          | _ => simp only [q] at hl; cases hl
      exact ⟨ty, tG_then st1 so1 p1 fun y S2 u ρ2 H2 f2 st2 so2 r2 p2 => index_post so2 (f2.rw r1) r2 p2⟩
    · rw [if_neg hl] at p1; exact p1.elim
end

/-! ### range(a, b, c), range(a, b) -/
def rangeC (c : Int) : Int → Nat → List D
  | _, 0 => []
  | lo, n + 1 => .int lo :: rangeC c (lo + c) n
theorem rangeC_length (c : Int) : ∀ (n : Nat) (lo : Int), (rangeC c lo n).length = n
  | 0, _ => rfl
  | n + 1, lo => by
    show (rangeC c (lo + c) n).length + 1 = n + 1
    rw [rangeC_length c n]
theorem rangeC_get (c : Int) : ∀ (n i : Nat) (lo : Int) (d : D), (rangeC c lo n)[i]? = some d → i < n ∧ d = .int (lo + i * c)
  | 0, i, lo, d, e => by simp [rangeC] at e
  | n + 1, 0, lo, d, e => by
    have : D.int lo = d := by simpa [rangeC] using e
    exact ⟨Nat.succ_pos _, by rw [← this]; simp⟩
  | n + 1, i + 1, lo, d, e => by
    obtain ⟨h1, h2⟩ := rangeC_get c n i (lo + c) d (by simpa [rangeC] using e)
    refine ⟨Nat.succ_lt_succ h1, ?_⟩
    rw [h2]
    congr 1
    have : ((i + 1 : Nat) : Int) * c = (i : Int) * c + c := by
      rw [show ((i + 1 : Nat) : Int) = (i : Int) + 1 from rfl, Int.add_mul, Int.one_mul]
    omega
theorem jok_rangeC {K : PySem.W.Frag} {ρ : List Addr} {S : Sto} {H : Hp} (lo c : Int) (n : Nat) : Jok K ρ S H (rangeC c lo n) (Itc lo c n) := fun i ρ' S' H' f so => by
  refine ⟨fun d e => ?_, fun hl => by rw [rangeC_length] at hl; exact hl⟩
  obtain ⟨h1, rfl⟩ := rangeC_get c n i lo d e
  refine ⟨h1, fun x H'' y => ?_⟩
  obtain ⟨rfl, rfl⟩ := y
  exact ⟨Fwd.refl, so, .int _⟩
def asR3 (ws : List W) (S : Sto) : R (List D) := match ws with
  | [.v (.int i), .v (.int j), .v (.int c)] => if 0 < c ∧ c < 1000000 ∧ -1000000 < i ∧ i < 1000000 ∧ -1000000 < j ∧ j < 1000000 then .ok (rangeC c i (Builtin.Range.rangeSize i j c).toNat) S else .bad
  | _ => .bad
def itR3 (a : Den (List W)) : Den (List D) := fun δ S => (a δ S).bind asR3
theorem size_pos {i j c : Int} (hc : 0 < c) : ((Builtin.Range.rangeSize i j c).toNat : Int) = Builtin.Range.rangeSize i j c := by
  have : 0 ≤ Builtin.Range.rangeSize i j c := by
    unfold Builtin.Range.rangeSize
    rw [if_pos hc]
    split
    · have := Int.ediv_nonneg (a := j - i - 1) (b := c) (by omega) (by omega)
      omega
    · exact Int.le_refl 0
  omega
theorem small_of {i j c : Int} (h : 0 < c ∧ c < 1000000 ∧ -1000000 < i ∧ i < 1000000 ∧ -1000000 < j ∧ j < 1000000) : Builtin.Range.small i j c = true := by
  have hs : 0 ≤ Builtin.Range.rangeSize i j c ∧ Builtin.Range.rangeSize i j c ≤ 2000001 := by
    unfold Builtin.Range.rangeSize
    rw [if_pos h.1]
    split
    · have h1 := Int.ediv_nonneg (a := j - i - 1) (b := c) (by omega) (by omega)
      have h2 := Int.ediv_le_self (a := j - i - 1) c (by omega)
      omega
    · omega
  unfold Builtin.Range.small
  generalize Builtin.Range.rangeSize i j c = n at hs
  simp only [Builtin.Range.rangeFitsLong, Bool.and_eq_true, Bool.or_eq_true, decide_eq_true_eq, beq_iff_eq, if_pos h.1]
  omega
theorem di_range3 {X : Cx} {E : XP} {tg e1 e2 e3 : Expr} {p pos : Pos} {a : Den (List W)} (hm : X.mg "range" = none) (h : PA X [e1, e2, e3] (tA X.K E a)) (hg : Gl X "range" := by rfl) (hs : starEach [e1, e2, e3] X.env = (false, eval e1 X.env) :: starEach [e2, e3] X.env := by rfl) (hpl : (backTo pos (starEach [e2, e3] X.env)).any (·.1) = false := by rfl) :
    PI X tg (.Call (.Name "range" p) [e1, e2, e3] [] pos) (tI X.K E (itR3 a)) := pi_mono (pi_range3 hg hm h hs hpl) fun σ H Q ⟨δ, ρ, S, st, so, p⟩ => tG_then st so p fun ws S1 vs ρ1 H1 f1 st1 so1 r1 p1 => by
  unfold asR3 at p1
  split at p1
  · rename_i i j c
    cases r1 with
    | cons ra rb => cases rb with
      | cons rb rc => cases rc with
        | cons rc rd =>
          cases rd
          cases ra
          cases rb
          cases rc
          split at p1
          · rename_i hc
            refine ⟨i, j, c, _, rfl, ⟨by omega, by omega, ?_, (size_pos hc.1).symm⟩, p1 _ ρ1 H1 Fwd.refl so1 (jok_rangeC i c _)⟩
            exact small_of hc
          · exact p1.elim
  · exact p1.elim

/-! ### a list or a tuple, walked -/
def asLT (w : W) (S : Sto) : R (List D) := match w with
  | .v (.lst ds) => .ok ds S
  | .v (.tup ds) => .ok ds S
  | _ => .bad
def itLT (a : Den W) : Den (List D) := fun δ S => (a δ S).bind asLT
theorem di_lt {X : Cx} {E : XP} {tg e : Expr} {a : Den W} (h : PE X e (tE X.K E a)) : PI X tg e (tI X.K E (itLT a)) := ⟨fun pins s σ H R I ⟨δ, ρ, S, st, so, p⟩ => by
  have q0 : tE X.K E a σ H fun x H1 => ∃ c, x = .ref c ∧ (((∃ xs, SqL X.K H1 c xs) ∧ R (Itl X.K c) H1) ∨ ((∃ xs, SqT X.K H1 c xs) ∧ R (Itt X.K c) H1)) := tG_then st so p fun w S1 v ρ1 H1 f1 st1 so1 r1 p1 => by
    unfold asLT at p1
    split at p1
    · cases r1 with
      | lst e n rl => exact ⟨_, rfl, .inl ⟨⟨_, SqL.of e⟩, p1 _ ρ1 H1 Fwd.refl so1 (jok_list e n rl)⟩⟩
    · cases r1 with
      | tup e rl => exact ⟨_, rfl, .inr ⟨⟨_, e⟩, p1 _ ρ1 H1 Fwd.refl so1 (jok_tup e rl)⟩⟩
    · exact p1.elim
  refine thn (h.run pins s σ H _ I q0) fun v s1 ⟨x, H1, I1, r1, c, ec, q⟩ => ?_
  subst ec
  cases r1
  have fp : ∀ b ∈ [s1.heap.objs.size], FpOk X pins H1 b := fun b hb => by
    have z : b = s1.heap.objs.size := by simpa using hb
    rw [z]
    exact I1.fpOk (Nat.le_refl _) (I1.hok.fresh (Nat.le_refl _))
  rcases q with ⟨⟨xs, hq⟩, q⟩ | ⟨⟨xs, hq⟩, q⟩
  · obtain ⟨its, rv, pl, hz⟩ := I1.list hq
    exact wpAny_pyIter_list pl.isList ⟨s1.heap.objs.size, [s1.heap.objs.size], _, _, H1, rfl, I1.kept (t' := s1.toks) fun b o z => Heap.get?_push_of_some _ z, turn_list c _, ⟨_, Heap.get?_push_size _ rfl, rfl, rfl⟩, fp, q⟩
  · obtain ⟨its, rv, pl, hz⟩ := I1.tuple hq
    exact wpAny_pyIter_tuple (show s1.heap.IsTuple c its.toArray from pl) ⟨s1.heap.objs.size, [s1.heap.objs.size], _, _, H1, rfl, I1.kept (t' := s1.toks) fun b o z => Heap.get?_push_of_some _ z, turn_tuple c _, ⟨_, Heap.get?_push_size _ rfl, rfl, rfl⟩, fp, q⟩⟩
end Fro

namespace Fro
open PySem PySem.Spec L2

/-! ### xs + ys, a new list that is changed later -/
def apCatM (x y : W) (S : Sto) : R W := match rd S x, rd S y with
  | some (.lst ds), some (.lst es) => if ds.length + es.length ≤ 1000000 then .ok (.r S.length) (S ++ [.lst (ds ++ es)]) else .bad
  | _, _ => .bad
def cCatM (a b : Den W) : Den W := fun δ S => (a δ S).bind fun x S1 => (b δ S1).bind fun y S2 => apCatM x y S2
theorem grown_post {K : PySem.W.Frag} {ρ : List Addr} {S : Sto} {H : Hp} {ds : List D} {xs : List V} {Q : VK} {Ex} (so : Sok K ρ S H) (r : RpL K H (live ρ S) ds xs) (p : Post K (RpW K) ρ S H (.ok (.r S.length) (S ++ [.lst ds])) Q Ex) (q : Addr) (nq : H q = none) : Q (.ref q) (upd H q (.lst xs)) := by
  have fg : Fwd ρ S H (ρ ++ [q]) (S ++ [.lst ds]) (upd H q (.lst xs)) := Fwd.grown so nq _
  exact p (.ref q) (ρ ++ [q]) _ fg (so.grown nq _ ⟨xs, upd_same, fg.rpL r⟩) ⟨q, rfl, by rw [← so.len]; simp⟩
theorem de_catM {X : Cx} {E : XP} {e e' : Expr} {pos : Pos} {a b : Den W} (ha : PE X e (tE X.K E a)) (hb : PE X e' (tE X.K E b)) : PE X (.BinOp e .Add e' pos) (tE X.K E (cCatM a b)) :=
  pe_mono (pe_op op_cat ha hb) fun σ H Q ⟨δ, ρ, S, st, so, p⟩ => tG_then st so p fun w S1 x ρ1 H1 f1 st1 so1 r1 p1 => tG_then st1 so1 p1 fun u S2 y ρ2 H2 f2 st2 so2 r2 p2 => by
    have rx := f2.rw r1
    unfold apCatM at p2
    split at p2
    · rename_i ds es q1 q2
      split at p2
      · rename_i hl
        obtain ⟨c, xs, rfl, hc, rc⟩ := (rd_ok so2 rx q1).lstE
        obtain ⟨d, ys, rfl, hd, rd'⟩ := (rd_ok so2 r2 q2).lstE
        exact ⟨c, d, xs, ys, rfl, rfl, hc, hd, by rw [← rc.length, ← rd'.length]; exact lt_line hl, fun q nq => grown_post so2 (rc.append rd') p2 q nq⟩
      · exact p2.elim
    · exact p2.elim
/-! ### list(x), a new list that is changed later -/
def apListM (ws : List W) (S : Sto) : R W := match ws with
  | [w] => (match rd S w with
    | some (.lst ds) => .ok (.r S.length) (S ++ [.lst ds])
    | some (.tup ds) => .ok (.r S.length) (S ++ [.lst ds])
    | _ => .bad)
  | _ => .bad
def cListM (a : Den (List W)) : Den W := fun δ S => (a δ S).bind fun ws S1 => apListM ws S1
theorem de_listM {X : Cx} {E : XP} {p pos : Pos} {e : Expr} {a : Den (List W)} (hm : X.mg "list" = none) (ha : PA X [e] (tA X.K E a)) (hgl : Gl X "list" := by rfl) (he : starEach [e] X.env = (false, eval e X.env) :: starEach [] X.env := by rfl) (hpl : (backTo pos (starEach [] X.env)).any (·.1) = false := by rfl) : PE X (.Call (.Name "list" p) [e] [] pos) (tE X.K E (cListM a)) :=
  pe_mono (pe_callTy call_list_of hgl hm (by decide +kernel) ha (by decide) (by decide) he hpl) fun σ H Q ⟨δ, ρ, S, st, so, p⟩ => tG_then st so p fun ws S1 xs ρ1 H1 f1 st1 so1 r1 p1 => by
    unfold apListM at p1
    split at p1
    · cases r1 with
      | cons r rr =>
        cases rr
        split at p1
        · rename_i ds q
          obtain ⟨c, ys, rfl, hc, rc⟩ := (rd_ok so1 r q).lstE
          exact ⟨c, ys, rfl, .inl (SqL.of hc), fun q nq => grown_post so1 rc p1 q nq⟩
        · rename_i ds q
          obtain ⟨c, ys, rfl, hc, rc⟩ := (rd_ok so1 r q).tup
          exact ⟨c, ys, rfl, .inr hc, fun q nq => grown_post so1 rc p1 q nq⟩
        · exact p1.elim
    · exact p1.elim
end Fro

namespace Fro
open PySem PySem.Spec L2
/-! ### constants -/
def k_BARRED : D := (.tup [(.str [97, 108, 108]), (.str [102, 117, 110]), (.str [105, 110]), (.str [108, 101, 116]), (.str [116, 114, 117, 101]), (.str [102, 97, 108, 115, 101])])
def k_MOST_SIGNS : D := (.int 8)
def k_LETTERS : D := (.str [97, 98, 99, 100, 101, 102, 103, 104, 105, 106, 107, 108, 109, 110, 111, 112, 113, 114, 115, 116, 117, 118, 119, 120, 121, 122])
def k_MARK : D := (.str [48, 46])
def tbl_WORDS : List (Tx × D) := [([73, 110, 116], (.int 0)), ([66, 111, 111, 108], (.int 0)), ([85, 110, 105, 116], (.int 0)), ([76, 105, 115, 116], (.int 1)), ([80, 97, 105, 114], (.int 2)), ([84, 111], (.int 2))]
/-! ### denotations -/
def b__law_source_of : DenS :=
    (cSeq (cAsg (cIf (cB (op2 gGe (cVar 0) (cC (.int 0)))) (cVar 0) (op2 gSub (op2 gSub (cC (.int 0)) (op2 gMul (cC (.int 3)) (cVar 0))) (cC (.int 1)))) (gN 0))
    (cRet (cLstM (cCons (op2 gMul (cVar 0) (cBlt gInt (cCons (op2 gGe (cVar 0) (op2 gPow (cC (.int 10)) (cC (.int 18)))) cNil))) (cCons (op2 gMod (cBlt gInt (cCons (cVar 0) cNil)) (cC (.int 2147483647))) (cCons (cC (.int 0)) cNil))))))
def f__law_source_of : FDen := fdef 1 b__law_source_of
def b_is_name : DenS :=
    (cSeq (cIfS (cOr (cNot (cB (cBlt gIsi (cCons (cVar 0) (cCons (cC (.ty .str)) cNil))))) (cB (op2 gIn (cVar 0) (cC k_BARRED))))
    (cRet (cC (.bl false)))
    cNx)
    (cRet (cAndV (cChain gLe gLe (cC (.int 1)) (cLen (cCons (cVar 0) cNil)) (cC k_MOST_SIGNS)) (cBlt gAll (cCons (cComp (itS (cVar 0)) (gN 1) cYes (op2 gIn (cVar 1) (cC k_LETTERS)) [1]) cNil)))))
def f_is_name : FDen := fdef 2 b_is_name
def b_is_kind (f : FDen) : DenS :=
    (cSeq (cIfS (cOr (cNot (cB (cBlt gIsi (cCons (cVar 0) (cCons (cC (.ty .tup)) cNil))))) (cB (op2 gEq (cVar 0) (cTup cNil))))
    (cRet (cC (.bl false)))
    cNx)
    (cSeq (cIfS (cB (op2 gEq (cIx (cVar 0) (cC (.int 0))) (cC (.str [118, 97, 114]))))
    (cRet (cAndV (op2 gEq (cLen (cCons (cVar 0) cNil)) (cC (.int 2))) (cCall 1 f_is_name (cCons (cIx (cVar 0) (cC (.int 1))) cNil) [])))
    cNx)
    (cSeq (cIfS (cB (op2 gEq (cIx (cVar 0) (cC (.int 0))) (cC (.str [97, 108, 108]))))
    (cRet (cAndV (op2 gEq (cLen (cCons (cVar 0) cNil)) (cC (.int 3))) (cAndV (cCall 1 f_is_name (cCons (cIx (cVar 0) (cC (.int 1))) cNil) []) (cCall 1 f (cCons (cIx (cVar 0) (cC (.int 2))) cNil) []))))
    cNx)
    (cSeq (cIfS (cOr (cB (op2 gNe (cIx (cVar 0) (cC (.int 0))) (cC (.str [99, 111, 110])))) (cOr (cB (op2 gNe (cLen (cCons (cVar 0) cNil)) (cC (.int 3)))) (cOr (cNot (cB (cBlt gIsi (cCons (cIx (cVar 0) (cC (.int 1))) (cCons (cC (.ty .str)) cNil))))) (cB (cKIn tbl_WORDS true (cIx (cVar 0) (cC (.int 1))))))))
    (cRet (cC (.bl false)))
    cNx)
    (cSeq (cIfS (cOr (cNot (cB (cBlt gIsi (cCons (cIx (cVar 0) (cC (.int 2))) (cCons (cC (.ty .tup)) cNil))))) (cB (op2 gNe (cLen (cCons (cIx (cVar 0) (cC (.int 2))) cNil)) (cKGet tbl_WORDS (cIx (cVar 0) (cC (.int 1)))))))
    (cRet (cC (.bl false)))
    cNx)
    (cRet (cBlt gAll (cCons (cComp (itT (cIx (cVar 0) (cC (.int 2)))) (gN 1) cYes (cCall 1 f (cCons (cVar 1) cNil) []) [1]) cNil))))))))
def f_is_kind : Nat → FDen
  | 0 => fun _ _ => .bad
  | n + 1 => fdef 2 (b_is_kind (f_is_kind n))
def b_want_kind : DenS :=
    (cIfS (cNot (cB (cCall 1 (f_is_kind 30) (cCons (cVar 0) cNil) [])))
    cBad
    cNx)
def f_want_kind : FDen := fdef 1 b_want_kind
def l1_letter : DenS :=
    (cSeq (cAsg (op2 gAdd (cIx (cC k_LETTERS) (op2 gMod (cBlt gInt (cCons (op2 gSub (cVar 2) (cC (.int 1))) cNil)) (cC (.int 26)))) (cVar 1)) (gN 1))
    (cAsg (op2 gDiv (op2 gSub (cVar 2) (cC (.int 1))) (cC (.int 26))) (gN 2)))
def b_letter : DenS :=
    (cSeq (cAsg (cIx (cC k_LETTERS) (op2 gMod (cBlt gInt (cCons (cVar 0) cNil)) (cC (.int 26)))) (gN 1))
    (cSeq (cAsg (op2 gDiv (cVar 0) (cC (.int 26))) (gN 2))
    (cSeq (cWhile 100000 (cB (op2 gGt (cVar 2) (cC (.int 0)))) l1_letter)
    (cRet (cVar 1)))))
def f_letter : FDen := fdef 3 b_letter
def l1_first_letters : DenS :=
    (cAsg (op2 gAdd (cVar 1) (cC (.int 1))) (gN 1))
def b_first_letters : DenS :=
    (cSeq (cAsg (cC (.int 0)) (gN 1))
    (cSeq (cWhile 100000 (cOr (cB (op2 gIn (cCall 1 f_letter (cCons (cVar 1) cNil) []) (cVar 0))) (cB (op2 gIn (cCall 1 f_letter (cCons (cVar 1) cNil) []) (cC k_BARRED)))) l1_first_letters)
    (cRet (cCall 1 f_letter (cCons (cVar 1) cNil) []))))
def f_first_letters : FDen := fdef 2 b_first_letters
def b_exchange (f : FDen) : DenS :=
    (cSeq (cIfS (cB (op2 gEq (cIx (cVar 0) (cC (.int 0))) (cC (.str [118, 97, 114]))))
    (cRet (cDGet2 (cVar 1) (cIx (cVar 0) (cC (.int 1))) (cVar 0)))
    cNx)
    (cSeq (cIfS (cB (op2 gEq (cIx (cVar 0) (cC (.int 0))) (cC (.str [97, 108, 108]))))
    (cSeq (cLkS 1 (cAsg (cDComp (itI (cVar 1)) (gT 2 (gsCons (gN 3) (gsCons (gN 4) gsNil))) (cB (op2 gNe (cVar 3) (cIx (cVar 0) (cC (.int 1))))) (cVar 3) (cVar 4) [3, 4]) (gN 2)))
    (cRet (cTup (cCons (cC (.str [97, 108, 108])) (cCons (cIx (cVar 0) (cC (.int 1))) (cCons (cCall 2 f (cCons (cIx (cVar 0) (cC (.int 2))) (cCons (cVar 2) cNil)) []) cNil))))))
    cNx)
    (cRet (cTup (cCons (cC (.str [99, 111, 110])) (cCons (cIx (cVar 0) (cC (.int 1))) (cCons (cBlt gTuple (cCons (cComp (itT (cIx (cVar 0) (cC (.int 2)))) (gN 4) cYes (cCall 2 f (cCons (cVar 4) (cCons (cVar 1) cNil)) []) [4]) cNil)) cNil)))))))
def f_exchange : Nat → FDen
  | 0 => fun _ _ => .bad
  | n + 1 => fdef 5 (b_exchange (f_exchange n))
def b_relettered (f : FDen) : DenS :=
    (cSeq (cIfS (cB (op2 gEq (cIx (cVar 0) (cC (.int 0))) (cC (.str [118, 97, 114]))))
    (cRet (cVar 0))
    cNx)
    (cSeq (cIfS (cB (op2 gEq (cIx (cVar 0) (cC (.int 0))) (cC (.str [97, 108, 108]))))
    (cSeq (cAsg (cCall 1 f_first_letters (cCons (cVar 1) cNil) []) (gN 2))
    (cRet (cTup (cCons (cC (.str [97, 108, 108])) (cCons (cVar 2) (cCons (cCall 2 f (cCons (cCall 2 (f_exchange 30) (cCons (cIx (cVar 0) (cC (.int 2))) (cCons (cDict [((cIx (cVar 0) (cC (.int 1))), (cTup (cCons (cC (.str [118, 97, 114])) (cCons (cVar 2) cNil))))]) cNil)) []) (cCons (op2 gAdd (cVar 1) (cLst (cCons (cVar 2) cNil))) cNil)) []) cNil))))))
    cNx)
    (cRet (cTup (cCons (cC (.str [99, 111, 110])) (cCons (cIx (cVar 0) (cC (.int 1))) (cCons (cBlt gTuple (cCons (cComp (itT (cIx (cVar 0) (cC (.int 2)))) (gN 3) cYes (cCall 2 f (cCons (cVar 3) (cCons (cVar 1) cNil)) []) [3]) cNil)) cNil)))))))
def f_relettered : Nat → FDen
  | 0 => fun _ _ => .bad
  | n + 1 => fdef 4 (b_relettered (f_relettered n))
def l1_free_of (f : FDen) : DenS :=
    (cExpr (cExtend (cVar 2) (cComp (itL (cCall 2 f (cCons (cVar 3) (cCons (cVar 1) cNil)) [])) (gN 4) (cB (op2 gNotIn (cVar 4) (cVar 2))) (cVar 4) [4])))
def b_free_of (f : FDen) : DenS :=
    (cSeq (cIfS (cB (op2 gEq (cIx (cVar 0) (cC (.int 0))) (cC (.str [118, 97, 114]))))
    (cRet (cIf (cB (op2 gIn (cIx (cVar 0) (cC (.int 1))) (cVar 1))) (cLstM cNil) (cLstM (cCons (cIx (cVar 0) (cC (.int 1))) cNil))))
    cNx)
    (cSeq (cIfS (cB (op2 gEq (cIx (cVar 0) (cC (.int 0))) (cC (.str [97, 108, 108]))))
    (cRet (cCallM 2 f (cCons (cIx (cVar 0) (cC (.int 2))) (cCons (op2 gAdd (cVar 1) (cTup (cCons (cIx (cVar 0) (cC (.int 1))) cNil))) cNil)) []))
    cNx)
    (cSeq (cAsg (cLstM cNil) (gN 2))
    (cSeq (cFor (itT (cIx (cVar 0) (cC (.int 2)))) (gN 3) (l1_free_of f))
    (cRet (cVar 2))))))
def f_free_of : Nat → FDen
  | 0 => fun _ _ => .bad
  | n + 1 => fdef 5 (b_free_of (f_free_of n))
def l1_marked_from (f : FDen) : DenS :=
    (cSeq (cAsg (cCall 2 f (cCons (cVar 6) (cCons (cVar 1) cNil)) []) (gT 2 (gsCons (gN 3) (gsCons (gN 1) gsNil))))
    (cExpr (cAppend (cVar 5) (cVar 3))))
def b_marked_from (f : FDen) : DenS :=
    (cSeq (cIfS (cB (op2 gEq (cIx (cVar 0) (cC (.int 0))) (cC (.str [118, 97, 114]))))
    (cRet (cTup (cCons (cVar 0) (cCons (cVar 1) cNil))))
    cNx)
    (cSeq (cIfS (cB (op2 gEq (cIx (cVar 0) (cC (.int 0))) (cC (.str [97, 108, 108]))))
    (cSeq (cAsg (op2 gAdd (cC k_MARK) (cBlt gStr (cCons (cVar 1) cNil))) (gN 2))
    (cSeq (cAsg (cCall 2 f (cCons (cCall 2 (f_exchange 30) (cCons (cIx (cVar 0) (cC (.int 2))) (cCons (cDict [((cIx (cVar 0) (cC (.int 1))), (cTup (cCons (cC (.str [118, 97, 114])) (cCons (cVar 2) cNil))))]) cNil)) []) (cCons (op2 gAdd (cVar 1) (cC (.int 1))) cNil)) []) (gT 2 (gsCons (gN 3) (gsCons (gN 4) gsNil))))
    (cRet (cTup (cCons (cTup (cCons (cC (.str [97, 108, 108])) (cCons (cVar 2) (cCons (cVar 3) cNil)))) (cCons (cVar 4) cNil))))))
    cNx)
    (cSeq (cAsg (cLstM cNil) (gN 5))
    (cSeq (cFor (itT (cIx (cVar 0) (cC (.int 2)))) (gN 6) (l1_marked_from f))
    (cRet (cTup (cCons (cTup (cCons (cC (.str [99, 111, 110])) (cCons (cIx (cVar 0) (cC (.int 1))) (cCons (cBlt gTuple (cCons (cVar 5) cNil)) cNil)))) (cCons (cVar 1) cNil))))))))
def f_marked_from : Nat → FDen
  | 0 => fun _ _ => .bad
  | n + 1 => fdef 7 (b_marked_from (f_marked_from n))
def b_numbers_in (f : FDen) : DenS :=
    (cSeq (cIfS (cB (op2 gEq (cIx (cVar 0) (cC (.int 0))) (cC (.str [99, 111, 110]))))
    (cRet (cComp2 (itT (cIx (cVar 0) (cC (.int 2)))) (gN 1) cYes (itL (cCall 1 f (cCons (cVar 1) cNil) [])) (gN 2) cYes (cVar 2) [1, 2] [2]))
    cNx)
    (cSeq (cAsg (cIf (cB (op2 gEq (cIx (cVar 0) (cC (.int 0))) (cC (.str [97, 108, 108])))) (cCall 1 f (cCons (cIx (cVar 0) (cC (.int 2))) cNil) []) (cLst cNil)) (gN 3))
    (cRet (cIf (cB (cM1 gStarts (cIx (cVar 0) (cC (.int 1))) (cC k_MARK))) (op2 gAdd (cVar 3) (cLst (cCons cNever cNil))) (cVar 3)))))
def f_numbers_in : Nat → FDen
  | 0 => fun _ _ => .bad
  | n + 1 => fdef 4 (b_numbers_in (f_numbers_in n))
def b_marked : DenS :=
    (cRet (cCall 2 (f_marked_from 30) (cCons (cVar 0) (cCons (cBlt gMaxL (cCons (op2 gAdd (cLst (cCons (cVar 1) cNil)) (cComp (itL (cCall 1 (f_numbers_in 30) (cCons (cVar 0) cNil) [])) (gN 2) cYes (op2 gAdd (cVar 2) (cC (.int 1))) [2])) cNil)) cNil)) []))
def f_marked : FDen := fdef 3 b_marked
def b_plain_of : DenS :=
    (cRet (cCall 2 (f_relettered 30) (cCons (cIx (cCall 2 f_marked (cCons (cVar 0) cNil) [.v (.int 0)]) (cC (.int 0))) (cCons (cCall 2 (f_free_of 30) (cCons (cVar 0) cNil) [.v (.tup [])]) cNil)) []))
def f_plain_of : FDen := fdef 1 b_plain_of
def b_plain : DenS :=
    (cSeq (cExpr (cCall 1 f_want_kind (cCons (cVar 0) cNil) []))
    (cRet (cCall 1 f_plain_of (cCons (cVar 0) cNil) [])))
def f_plain : FDen := fdef 1 b_plain
def b__law_cell_at : DenS :=
    (cSeq (cIfS (cB (op2 gLt (cVar 1) (cLen (cCons (cVar 0) cNil))))
    (cRet (cIx (cVar 0) (cVar 1)))
    cNx)
    (cRet (cC (.int 0))))
def f__law_cell_at : FDen := fdef 2 b__law_cell_at
def b__law_inside (f : FDen) : DenS :=
    (cSeq (cIfS (cB (op2 gEq (cIx (cVar 0) (cC (.int 0))) (cC (.str [118, 97, 114]))))
    (cRet (cIf (cB (op2 gIn (cIx (cVar 0) (cC (.int 1))) (cVar 1))) (cTup (cCons (cC (.str [97, 116])) (cCons (cIndex (cVar 1) (cIx (cVar 0) (cC (.int 1)))) cNil))) (cVar 0)))
    cNx)
    (cSeq (cIfS (cB (op2 gEq (cIx (cVar 0) (cC (.int 0))) (cC (.str [97, 108, 108]))))
    (cRet (cTup (cCons (cC (.str [97, 108, 108])) (cCons (cCall 2 f (cCons (cIx (cVar 0) (cC (.int 2))) (cCons (op2 gAdd (cLst (cCons (cIx (cVar 0) (cC (.int 1))) cNil)) (cVar 1)) cNil)) []) cNil))))
    cNx)
    (cRet (cTup (cCons (cC (.str [99, 111, 110])) (cCons (cIx (cVar 0) (cC (.int 1))) (cCons (cBlt gTuple (cCons (cComp (itT (cIx (cVar 0) (cC (.int 2)))) (gN 2) cYes (cCall 2 f (cCons (cVar 2) (cCons (cVar 1) cNil)) []) [2]) cNil)) cNil)))))))
def f__law_inside : Nat → FDen
  | 0 => fun _ _ => .bad
  | n + 1 => fdef 3 (b__law_inside (f__law_inside n))
def l1__law_first : DenS :=
    (cAsg (op2 gAdd (cVar 2) (cComp (itS (cVar 1)) (gN 4) cYes (op2 gAdd (cVar 3) (cVar 4)) [4])) (gN 2))
def b__law_first : DenS :=
    (cSeq (cAsg (cC (.str [97, 98, 99, 100, 101, 102, 103, 104, 105, 106, 107, 108, 109, 110, 111, 112, 113, 114, 115, 116, 117, 118, 119, 120, 121, 122])) (gN 1))
    (cSeq (cAsg (cBlt gList (cCons (cVar 1) cNil)) (gN 2))
    (cSeq (cFor (itS (cC (.str [97, 98, 99, 100]))) (gN 3) l1__law_first)
    (cRet (cIx (cComp (itL (cVar 2)) (gN 5) (cB (op2 gNotIn (cVar 5) (cVar 0))) (cVar 5) [5]) (cC (.int 0)))))))
def f__law_first : FDen := fdef 6 b__law_first
def b__law_outside (f : FDen) : DenS :=
    (cSeq (cIfS (cB (op2 gEq (cIx (cVar 0) (cC (.int 0))) (cC (.str [118, 97, 114]))))
    (cRet (cVar 0))
    cNx)
    (cSeq (cIfS (cB (op2 gEq (cIx (cVar 0) (cC (.int 0))) (cC (.str [97, 116]))))
    (cRet (cTup (cCons (cC (.str [118, 97, 114])) (cCons (cIx (cVar 1) (cIx (cVar 0) (cC (.int 1)))) cNil))))
    cNx)
    (cSeq (cIfS (cB (op2 gEq (cIx (cVar 0) (cC (.int 0))) (cC (.str [97, 108, 108]))))
    (cSeq (cAsg (cCall 1 f__law_first (cCons (op2 gAdd (cVar 2) (cVar 1)) cNil) []) (gN 3))
    (cRet (cTup (cCons (cC (.str [97, 108, 108])) (cCons (cVar 3) (cCons (cCall 3 f (cCons (cIx (cVar 0) (cC (.int 1))) (cCons (op2 gAdd (cLst (cCons (cVar 3) cNil)) (cVar 1)) (cCons (cVar 2) cNil))) []) cNil))))))
    cNx)
    (cRet (cTup (cCons (cC (.str [99, 111, 110])) (cCons (cIx (cVar 0) (cC (.int 1))) (cCons (cBlt gTuple (cCons (cComp (itT (cIx (cVar 0) (cC (.int 2)))) (gN 4) cYes (cCall 3 f (cCons (cVar 4) (cCons (cVar 1) (cCons (cVar 2) cNil))) []) [4]) cNil)) cNil))))))))
def f__law_outside : Nat → FDen
  | 0 => fun _ _ => .bad
  | n + 1 => fdef 5 (b__law_outside (f__law_outside n))
def l1__law_frees (f : FDen) : DenS :=
    (cAsg (op2 gAdd (cVar 1) (cComp (itL (cCall 1 f (cCons (cVar 2) cNil) [])) (gN 3) (cB (op2 gNotIn (cVar 3) (cVar 1))) (cVar 3) [3])) (gN 1))
def b__law_frees (f : FDen) : DenS :=
    (cSeq (cIfS (cB (op2 gEq (cIx (cVar 0) (cC (.int 0))) (cC (.str [118, 97, 114]))))
    (cRet (cLst (cCons (cIx (cVar 0) (cC (.int 1))) cNil)))
    cNx)
    (cSeq (cAsg (cLst cNil) (gN 1))
    (cSeq (cFor (itLT (cIx (cLst (cCons (cLst cNil) (cCons (cLst (cCons (cIx (cVar 0) (cC (.int 1))) cNil)) (cCons (cIx (cVar 0) (cNeg (cC (.int 1)))) cNil)))) (cIndex (cLst (cCons (cC (.str [97, 116])) (cCons (cC (.str [97, 108, 108])) (cCons (cC (.str [99, 111, 110])) cNil)))) (cIx (cVar 0) (cC (.int 0)))))) (gN 2) (l1__law_frees f))
    (cRet (cVar 1)))))
def f__law_frees : Nat → FDen
  | 0 => fun _ _ => .bad
  | n + 1 => fdef 4 (b__law_frees (f__law_frees n))
def b__law_plain : DenS :=
    (cSeq (cAsg (cCall 2 (f__law_inside 30) (cCons (cVar 0) (cCons (cLst cNil) cNil)) []) (gN 1))
    (cRet (cCall 3 (f__law_outside 30) (cCons (cVar 1) (cCons (cLst cNil) (cCons (cCall 1 (f__law_frees 30) (cCons (cVar 1) cNil) []) cNil))) [])))
def f__law_plain : FDen := fdef 2 b__law_plain
def b_free : DenS :=
    (cSeq (cExpr (cCall 1 f_want_kind (cCons (cVar 0) cNil) []))
    (cRet (cCallM 2 (f_free_of 30) (cCons (cVar 0) cNil) [.v (.tup [])])))
def f_free : FDen := fdef 1 b_free
def b__law_right : DenS :=
    (cSeq (cAsg (cCall 1 f__law_plain (cCons (cVar 0) cNil) []) (gN 1))
    (cRet (cAndV (op2 gEq (cCall 1 f_plain (cCons (cVar 0) cNil) []) (cVar 1)) (cAndV (op2 gEq (cCall 1 f_plain (cCons (cVar 1) cNil) []) (cVar 1)) (op2 gEq (cCall 1 f_free (cCons (cVar 1) cNil) []) (cCall 1 (f__law_frees 30) (cCons (cCall 2 (f__law_inside 30) (cCons (cVar 0) (cCons (cLst cNil) cNil)) []) cNil) []))))))
def f__law_right : FDen := fdef 2 b__law_right
def b__law_next : DenS :=
    (cSeq (cIfS (cB (op2 gGt (cIx (cVar 0) (cC (.int 0))) (cC (.int 0))))
    (cSeq (cAsg (op2 gMod (cBlt gInt (cCons (cIx (cVar 0) (cC (.int 0))) cNil)) (cVar 1)) (gN 2))
    (cSeq (cAsg (op2 gDiv (cIx (cVar 0) (cC (.int 0))) (cVar 1)) (gSubD (cVar 0) (cC (.int 0))))
    (cRet (cVar 2))))
    cNx)
    (cSeq (cAsg (op2 gAdd (cIx (cVar 0) (cC (.int 2))) (cC (.int 1))) (gSubD (cVar 0) (cC (.int 2))))
    (cSeq (cAsg (cC (.int 2147483647)) (gN 3))
    (cSeq (cAsg (op2 gMod (cBlt gInt (cCons (op2 gAdd (op2 gAdd (cIx (cVar 0) (cC (.int 1))) (op2 gMul (cC (.int 104729)) (cIx (cVar 0) (cC (.int 2))))) (cC (.int 7919))) cNil)) (cVar 3)) (gN 4))
    (cSeq (cAsg (op2 gMod (cBlt gInt (cCons (op2 gMul (cVar 4) (cC (.int 48271))) cNil)) (cVar 3)) (gN 4))
    (cSeq (cAsg (op2 gMod (cBlt gInt (cCons (op2 gMul (cVar 4) (op2 gAdd (op2 gDiv (cVar 4) (cC (.int 1009))) (cC (.int 69621)))) cNil)) (cVar 3)) (gN 4))
    (cSeq (cAsg (op2 gMod (cBlt gInt (cCons (op2 gMul (cVar 4) (op2 gAdd (op2 gDiv (cVar 4) (cC (.int 2003))) (cC (.int 40692)))) cNil)) (cC (.int 2147483399))) (gN 4))
    (cRet (op2 gMod (cBlt gInt (cCons (op2 gDiv (cVar 4) (cC (.int 7))) cNil)) (cVar 1))))))))))
def f__law_next : FDen := fdef 5 b__law_next
def b__law_one : DenS :=
    (cRet (cIx (cVar 1) (cCall 2 f__law_next (cCons (cVar 0) (cCons (cLen (cCons (cVar 1) cNil)) cNil)) [])))
def f__law_one : FDen := fdef 2 b__law_one
def l1__law_all_letters : DenS :=
    (cSeq (cAsg (cTup (cCons (cCall 2 f__law_one (cCons (cVar 0) (cCons (cLst (cCons (cC (.str [84, 111])) (cCons (cC (.str [80, 97, 105, 114])) cNil))) cNil)) []) (cCons (cSl (cVar 1) (cPart (op2 gSub (cLen (cCons (cVar 1) cNil)) (op2 gMod (cLen (cCons (cVar 1) cNil)) (cC (.int 2))))) cNoPart) cNil))) (gT 2 (gsCons (gN 4) (gsCons (gN 5) gsNil))))
    (cSeq (cAsg (cCatM (cComp (itR3 (cCons (cC (.int 0)) (cCons (op2 gSub (cLen (cCons (cVar 1) cNil)) (cC (.int 1))) (cCons (cC (.int 2)) cNil)))) (gN 6) cYes (cTup (cCons (cC (.str [99, 111, 110])) (cCons (cVar 4) (cCons (cTup (cCons (cIx (cVar 1) (cVar 6)) (cCons (cIx (cVar 1) (op2 gAdd (cVar 6) (cC (.int 1)))) cNil))) cNil)))) [6]) (cVar 5)) (gN 1))
    (cIfS (cB (op2 gEq (cCall 2 f__law_next (cCons (cVar 0) (cCons (cC (.int 2)) cNil)) []) (cC (.int 0))))
    (cAsg (cTup (cCons (cC (.str [97, 108, 108])) (cCons (cCall 2 f__law_one (cCons (cVar 0) (cCons (cLst (cCons (cC (.str [122, 122])) (cCons (cC (.str [97, 98])) (cCons (cC (.str [113])) cNil)))) cNil)) []) (cCons (cIx (cVar 1) (cC (.int 0))) cNil)))) (gSubD (cVar 1) (cC (.int 0))))
    cNx)))
def b__law_all_letters : DenS :=
    (cSeq (cAsg (cCompM (itS (cSlT (cC (.str [97, 98, 99, 100, 101, 102, 103, 104, 105, 106, 107, 108, 109, 110, 111, 112, 113, 114, 115, 116, 117, 118, 119, 120, 121, 122])) (cPart (cCall 2 f__law_next (cCons (cVar 0) (cCons (cC (.int 3)) cNil)) [])) cNoPart)) (gN 2) cYes (cTup (cCons (cC (.str [118, 97, 114])) (cCons (cVar 2) cNil))) [2]) (gN 1))
    (cSeq (cExpr (cAppend (cVar 1) (cTup (cCons (cC (.str [97, 108, 108])) (cCons (cC (.str [113])) (cCons (cTup (cCons (cC (.str [97, 108, 108])) (cCons (cC (.str [97, 97])) (cCons (cTup (cCons (cC (.str [99, 111, 110])) (cCons (cC (.str [84, 111])) (cCons (cTup (cCons (cTup (cCons (cC (.str [118, 97, 114])) (cCons (cC (.str [97, 97])) cNil))) (cCons (cTup (cCons (cC (.str [118, 97, 114])) (cCons (cC (.str [113])) cNil))) cNil))) cNil)))) cNil)))) cNil))))))
    (cSeq (cFor (itR0 (cCons (cC (.int 6)) cNil)) (gN 3) l1__law_all_letters)
    (cRet (cIx (cVar 1) (cC (.int 0)))))))
def f__law_all_letters : FDen := fdef 7 b__law_all_letters
def l1__law_many_free : DenS :=
    (cSeq (cAsg (cSl (cVar 2) (cPart (op2 gSub (cLen (cCons (cVar 2) cNil)) (op2 gMod (cLen (cCons (cVar 2) cNil)) (cC (.int 2))))) cNoPart) (gN 6))
    (cAsg (op2 gAdd (cComp (itR3 (cCons (cC (.int 0)) (cCons (op2 gSub (cLen (cCons (cVar 2) cNil)) (cC (.int 1))) (cCons (cC (.int 2)) cNil)))) (gN 7) cYes (cTup (cCons (cC (.str [99, 111, 110])) (cCons (cC (.str [80, 97, 105, 114])) (cCons (cTup (cCons (cIx (cVar 2) (cVar 7)) (cCons (cIx (cVar 2) (op2 gAdd (cVar 7) (cC (.int 1)))) cNil))) cNil)))) [7]) (cVar 6)) (gN 2)))
def b__law_many_free : DenS :=
    (cSeq (cAsg (cC (.str [97, 98, 99, 100, 101, 102, 103, 104, 105, 106, 107, 108, 109, 110, 111, 112, 113, 114, 115, 116, 117, 118, 119, 120, 121, 122])) (gN 1))
    (cSeq (cAsg (cSl (cComp (itL (op2 gAdd (cBlt gList (cCons (cVar 1) cNil)) (cComp (itS (cVar 1)) (gN 4) cYes (op2 gAdd (cC (.str [97])) (cVar 4)) [4]))) (gN 3) cYes (cTup (cCons (cC (.str [118, 97, 114])) (cCons (cVar 3) cNil))) [3]) (cPart (cCall 2 f__law_next (cCons (cVar 0) (cCons (cC (.int 2)) cNil)) [])) cNoPart) (gN 2))
    (cSeq (cFor (itR0 (cCons (cC (.int 6)) cNil)) (gN 5) l1__law_many_free)
    (cSeq (cAsg (cTup (cCons (cC (.str [99, 111, 110])) (cCons (cC (.str [84, 111])) (cCons (cTup (cCons (cTup (cCons (cC (.str [118, 97, 114])) (cCons (cC (.str [108, 111, 110, 103, 110, 97, 109, 101])) cNil))) (cCons (cIx (cVar 2) (cC (.int 0))) cNil))) cNil)))) (gN 8))
    (cRet (cTup (cCons (cC (.str [97, 108, 108])) (cCons (cC (.str [108, 111, 110, 103, 110, 97, 109, 101])) (cCons (cTup (cCons (cC (.str [99, 111, 110])) (cCons (cC (.str [84, 111])) (cCons (cTup (cCons (cTup (cCons (cC (.str [97, 108, 108])) (cCons (cC (.str [111, 116, 104, 101, 114])) (cCons (cTup (cCons (cC (.str [118, 97, 114])) (cCons (cC (.str [111, 116, 104, 101, 114])) cNil))) cNil)))) (cCons (cVar 8) cNil))) cNil)))) cNil)))))))))
def f__law_many_free : FDen := fdef 9 b__law_many_free
def b__law_kind (f : FDen) : DenS :=
    (cSeq (cAsg (cCall 2 f__law_next (cCons (cVar 0) (cCons (cC (.int 12)) cNil)) []) (gN 3))
    (cSeq (cIfS (cOr (cB (op2 gEq (cVar 1) (cC (.int 0)))) (cB (op2 gLt (cVar 3) (cC (.int 4)))))
    (cSeq (cIfS (cOr (cB (op2 gEq (cVar 3) (cC (.int 3)))) (cB (op2 gEq (op2 gMod (cBlt gInt (cCons (cVar 3) cNil)) (cC (.int 12))) (cC (.int 11)))))
    (cRet (cTup (cCons (cC (.str [99, 111, 110])) (cCons (cCall 2 f__law_one (cCons (cVar 0) (cCons (cLst (cCons (cC (.str [73, 110, 116])) (cCons (cC (.str [66, 111, 111, 108])) (cCons (cC (.str [85, 110, 105, 116])) cNil)))) cNil)) []) (cCons (cTup cNil) cNil)))))
    cNx)
    (cRet (cTup (cCons (cC (.str [118, 97, 114])) (cCons (cCall 2 f__law_one (cCons (cVar 0) (cCons (cVar 2) cNil)) []) cNil)))))
    cNx)
    (cSeq (cIfS (cB (op2 gLt (cVar 3) (cC (.int 8))))
    (cRet (cTup (cCons (cC (.str [97, 108, 108])) (cCons (cCall 2 f__law_one (cCons (cVar 0) (cCons (cVar 2) cNil)) []) (cCons (cCall 3 f (cCons (cVar 0) (cCons (op2 gSub (cVar 1) (cC (.int 1))) (cCons (cVar 2) cNil))) []) cNil)))))
    cNx)
    (cSeq (cIfS (cB (op2 gEq (cVar 3) (cC (.int 8))))
    (cRet (cTup (cCons (cC (.str [99, 111, 110])) (cCons (cC (.str [76, 105, 115, 116])) (cCons (cTup (cCons (cCall 3 f (cCons (cVar 0) (cCons (op2 gSub (cVar 1) (cC (.int 1))) (cCons (cVar 2) cNil))) []) cNil)) cNil)))))
    cNx)
    (cSeq (cAsg (cCall 3 f (cCons (cVar 0) (cCons (op2 gSub (cVar 1) (cC (.int 1))) (cCons (cVar 2) cNil))) []) (gN 4))
    (cRet (cTup (cCons (cC (.str [99, 111, 110])) (cCons (cCall 2 f__law_one (cCons (cVar 0) (cCons (cLst (cCons (cC (.str [84, 111])) (cCons (cC (.str [80, 97, 105, 114])) (cCons (cC (.str [84, 111])) cNil)))) cNil)) []) (cCons (cTup (cCons (cVar 4) (cCons (cCall 3 f (cCons (cVar 0) (cCons (op2 gSub (cVar 1) (cC (.int 1))) (cCons (cVar 2) cNil))) []) cNil))) cNil))))))))))
def f__law_kind : Nat → FDen
  | 0 => fun _ _ => .bad
  | n + 1 => fdef 5 (b__law_kind (f__law_kind n))
def l1__law_deep : DenS :=
    (cSeq (cAsg (cCall 2 f__law_one (cCons (cVar 0) (cCons (cVar 1) cNil)) []) (gN 4))
    (cSeq (cAsg (cTup (cCons (cC (.str [97, 108, 108])) (cCons (cVar 4) (cCons (cVar 2) cNil)))) (gN 2))
    (cIfS (cB (op2 gEq (op2 gMod (cBlt gInt (cCons (cVar 3) cNil)) (cC (.int 9))) (cC (.int 8))))
    (cAsg (cTup (cCons (cC (.str [99, 111, 110])) (cCons (cC (.str [84, 111])) (cCons (cTup (cCons (cVar 2) (cCons (cTup (cCons (cC (.str [118, 97, 114])) (cCons (cCall 2 f__law_one (cCons (cVar 0) (cCons (cVar 1) cNil)) []) cNil))) cNil))) cNil)))) (gN 2))
    cNx)))
def b__law_deep : DenS :=
    (cSeq (cAsg (cTup (cCons (cC (.str [118, 97, 114])) (cCons (cCall 2 f__law_one (cCons (cVar 0) (cCons (cVar 1) cNil)) []) cNil))) (gN 2))
    (cSeq (cFor (itR0 (cCons (op2 gAdd (cC (.int 1)) (cCall 2 f__law_next (cCons (cVar 0) (cCons (cC (.int 25)) cNil)) [])) cNil)) (gN 3) l1__law_deep)
    (cRet (cVar 2))))
def f__law_deep : FDen := fdef 5 b__law_deep
def l2_law : DenS :=
    (cSeq (cAsg (cSl (cLst (cCons (cC (.str [97])) (cCons (cC (.str [98])) (cCons (cC (.str [99])) (cCons (cC (.str [100])) (cCons (cC (.str [108, 111, 110, 103, 110, 97, 109, 101])) (cCons (cC (.str [122])) (cCons (cC (.str [97, 97])) cNil)))))))) (cPart (cCall 2 f__law_next (cCons (cVar 2) (cCons (cC (.int 3)) cNil)) [])) cNoPart) (gN 4))
    (cIfS (cOr (cNot (cB (cCall 1 f__law_right (cCons (cCall 3 (f__law_kind 7) (cCons (cVar 2) (cCons (cC (.int 5)) (cCons (cVar 4) cNil))) []) cNil) []))) (cNot (cB (cCall 1 f__law_right (cCons (cCall 2 f__law_deep (cCons (cVar 2) (cCons (cVar 4) cNil)) []) cNil) []))))
    (cRet (cC (.bl false)))
    cNx))
def l1_law : DenS :=
    (cSeq (cAsg (cCallM 1 f__law_source_of (cCons (cCall 2 f__law_cell_at (cCons (cVar 0) (cCons (cVar 1) cNil)) []) cNil) []) (gN 2))
    (cSeq (cFor (itR0 (cCons (cC (.int 8)) cNil)) (gN 3) l2_law)
    (cIfS (cOr (cNot (cB (cCall 1 f__law_right (cCons (cCall 1 f__law_all_letters (cCons (cVar 2) cNil) []) cNil) []))) (cNot (cB (cCall 1 f__law_right (cCons (cCall 1 f__law_many_free (cCons (cVar 2) cNil) []) cNil) []))))
    (cRet (cC (.bl false)))
    cNx)))
def b_law : DenS :=
    (cSeq (cFor (itR0 (cCons (cBlt gMax2 (cCons (cC (.int 1)) (cCons (cBlt gMin2 (cCons (cC (.int 4)) (cCons (cLen (cCons (cVar 0) cNil)) cNil))) cNil))) cNil)) (gN 1) l1_law)
    (cSeq (cAsg (cTup (cCons (cC (.str [97, 108, 108])) (cCons (cC (.str [120])) (cCons (cTup (cCons (cC (.str [99, 111, 110])) (cCons (cC (.str [84, 111])) (cCons (cTup (cCons (cTup (cCons (cC (.str [97, 108, 108])) (cCons (cC (.str [120])) (cCons (cTup (cCons (cC (.str [118, 97, 114])) (cCons (cC (.str [120])) cNil))) cNil)))) (cCons (cTup (cCons (cC (.str [99, 111, 110])) (cCons (cC (.str [84, 111])) (cCons (cTup (cCons (cTup (cCons (cC (.str [118, 97, 114])) (cCons (cC (.str [120])) cNil))) (cCons (cTup (cCons (cC (.str [118, 97, 114])) (cCons (cC (.str [97])) cNil))) cNil))) cNil)))) cNil))) cNil)))) cNil)))) (gN 5))
    (cSeq (cAsg (cTup (cCons (cC (.str [97, 108, 108])) (cCons (cC (.str [98])) (cCons (cTup (cCons (cC (.str [99, 111, 110])) (cCons (cC (.str [84, 111])) (cCons (cTup (cCons (cTup (cCons (cC (.str [97, 108, 108])) (cCons (cC (.str [99])) (cCons (cTup (cCons (cC (.str [118, 97, 114])) (cCons (cC (.str [99])) cNil))) cNil)))) (cCons (cTup (cCons (cC (.str [99, 111, 110])) (cCons (cC (.str [84, 111])) (cCons (cTup (cCons (cTup (cCons (cC (.str [118, 97, 114])) (cCons (cC (.str [98])) cNil))) (cCons (cTup (cCons (cC (.str [118, 97, 114])) (cCons (cC (.str [97])) cNil))) cNil))) cNil)))) cNil))) cNil)))) cNil)))) (gN 6))
    (cRet (op2 gEq (cCall 1 f_plain (cCons (cVar 5) cNil) []) (cVar 6))))))
def f_law : FDen := fdef 7 b_law
end Fro

namespace Fro
open PySem PySem.Spec L2
/-! ### the text -/
def topS (i : Nat) : Stmt := PySem.Challenge.pw_frostkinds_k03_plain_forms.main.body.getD i (.Pass ⟨0, 0, 0, 0⟩)
abbrev s__law_source_of : Stmt := topS 25
theorem sc__law_source_of : FnScope ["_law_cell"] ["_law_cell"] (defScope s__law_source_of) := ⟨rfl, rfl, rfl, by decide +kernel, rfl, by decide +kernel, by decide +kernel⟩
abbrev s_is_name : Stmt := topS 9
theorem sc_is_name : FnScope ["value", "sign"] ["value"] (defScope s_is_name) := ⟨rfl, rfl, rfl, by decide +kernel, rfl, by decide +kernel, by decide +kernel⟩
abbrev s_is_kind : Stmt := topS 10
theorem sc_is_kind : FnScope ["thing", "one"] ["thing"] (defScope s_is_kind) := ⟨rfl, rfl, rfl, by decide +kernel, rfl, by decide +kernel, by decide +kernel⟩
abbrev s_want_kind : Stmt := topS 11
theorem sc_want_kind : FnScope ["thing"] ["thing"] (defScope s_want_kind) := ⟨rfl, rfl, rfl, by decide +kernel, rfl, by decide +kernel, by decide +kernel⟩
abbrev s_letter : Stmt := topS 12
theorem sc_letter : FnScope ["number", "found", "rest"] ["number"] (defScope s_letter) := ⟨rfl, rfl, rfl, by decide +kernel, rfl, by decide +kernel, by decide +kernel⟩
abbrev s_first_letters : Stmt := topS 13
theorem sc_first_letters : FnScope ["taken", "number"] ["taken"] (defScope s_first_letters) := ⟨rfl, rfl, rfl, by decide +kernel, rfl, by decide +kernel, by decide +kernel⟩
abbrev s_exchange : Stmt := topS 15
theorem sc_exchange : FnScope ["kind", "changes", "rest", "name", "one"] ["kind", "changes"] (defScope s_exchange) := ⟨rfl, rfl, rfl, by decide +kernel, rfl, by decide +kernel, by decide +kernel⟩
abbrev s_relettered : Stmt := topS 19
theorem sc_relettered : FnScope ["kind", "taken", "name", "one"] ["kind", "taken"] (defScope s_relettered) := ⟨rfl, rfl, rfl, by decide +kernel, rfl, by decide +kernel, by decide +kernel⟩
abbrev s_free_of : Stmt := topS 14
theorem sc_free_of : FnScope ["kind", "inside", "found", "one", "name"] ["kind", "inside"] (defScope s_free_of) := ⟨rfl, rfl, rfl, by decide +kernel, rfl, by decide +kernel, by decide +kernel⟩
abbrev s_marked_from : Stmt := topS 18
theorem sc_marked_from : FnScope ["kind", "first", "name", "found", "last", "parts", "one"] ["kind", "first"] (defScope s_marked_from) := ⟨rfl, rfl, rfl, by decide +kernel, rfl, by decide +kernel, by decide +kernel⟩
abbrev s_numbers_in : Stmt := topS 16
theorem sc_numbers_in : FnScope ["kind", "one", "number", "found"] ["kind"] (defScope s_numbers_in) := ⟨rfl, rfl, rfl, by decide +kernel, rfl, by decide +kernel, by decide +kernel⟩
abbrev s_marked : Stmt := topS 17
theorem sc_marked : FnScope ["kind", "first", "number"] ["kind", "first"] (defScope s_marked) := ⟨rfl, rfl, rfl, by decide +kernel, rfl, by decide +kernel, by decide +kernel⟩
abbrev s_plain_of : Stmt := topS 20
theorem sc_plain_of : FnScope ["kind"] ["kind"] (defScope s_plain_of) := ⟨rfl, rfl, rfl, by decide +kernel, rfl, by decide +kernel, by decide +kernel⟩
abbrev s_plain : Stmt := topS 22
theorem sc_plain : FnScope ["kind"] ["kind"] (defScope s_plain) := ⟨rfl, rfl, rfl, by decide +kernel, rfl, by decide +kernel, by decide +kernel⟩
abbrev s__law_cell_at : Stmt := topS 24
theorem sc__law_cell_at : FnScope ["_law_script", "_law_k"] ["_law_script", "_law_k"] (defScope s__law_cell_at) := ⟨rfl, rfl, rfl, by decide +kernel, rfl, by decide +kernel, by decide +kernel⟩
abbrev s__law_inside : Stmt := topS 29
theorem sc__law_inside : FnScope ["_law_kind_here", "_law_names", "_law_one_here"] ["_law_kind_here", "_law_names"] (defScope s__law_inside) := ⟨rfl, rfl, rfl, by decide +kernel, rfl, by decide +kernel, by decide +kernel⟩
abbrev s__law_first : Stmt := topS 31
theorem sc__law_first : FnScope ["_law_taken", "_law_signs", "_law_rows", "_law_one_here", "_law_other", "_law_name"] ["_law_taken"] (defScope s__law_first) := ⟨rfl, rfl, rfl, by decide +kernel, rfl, by decide +kernel, by decide +kernel⟩
abbrev s__law_outside : Stmt := topS 32
theorem sc__law_outside : FnScope ["_law_form", "_law_names", "_law_taken", "_law_new", "_law_one_here"] ["_law_form", "_law_names", "_law_taken"] (defScope s__law_outside) := ⟨rfl, rfl, rfl, by decide +kernel, rfl, by decide +kernel, by decide +kernel⟩
abbrev s__law_frees : Stmt := topS 30
theorem sc__law_frees : FnScope ["_law_form", "_law_rows", "_law_one_here", "_law_name"] ["_law_form"] (defScope s__law_frees) := ⟨rfl, rfl, rfl, by decide +kernel, rfl, by decide +kernel, by decide +kernel⟩
abbrev s__law_plain : Stmt := topS 33
theorem sc__law_plain : FnScope ["_law_kind_here", "_law_form"] ["_law_kind_here"] (defScope s__law_plain) := ⟨rfl, rfl, rfl, by decide +kernel, rfl, by decide +kernel, by decide +kernel⟩
abbrev s_free : Stmt := topS 21
theorem sc_free : FnScope ["kind"] ["kind"] (defScope s_free) := ⟨rfl, rfl, rfl, by decide +kernel, rfl, by decide +kernel, by decide +kernel⟩
abbrev s__law_right : Stmt := topS 37
theorem sc__law_right : FnScope ["_law_kind_here", "_law_due"] ["_law_kind_here"] (defScope s__law_right) := ⟨rfl, rfl, rfl, by decide +kernel, rfl, by decide +kernel, by decide +kernel⟩
abbrev s__law_next : Stmt := topS 26
theorem sc__law_next : FnScope ["_law_source", "_law_many", "_law_drawn", "_law_prime", "_law_number"] ["_law_source", "_law_many"] (defScope s__law_next) := ⟨rfl, rfl, rfl, by decide +kernel, rfl, by decide +kernel, by decide +kernel⟩
abbrev s__law_one : Stmt := topS 27
theorem sc__law_one : FnScope ["_law_source", "_law_some"] ["_law_source", "_law_some"] (defScope s__law_one) := ⟨rfl, rfl, rfl, by decide +kernel, rfl, by decide +kernel, by decide +kernel⟩
abbrev s__law_all_letters : Stmt := topS 35
theorem sc__law_all_letters : FnScope ["_law_source", "_law_rows", "_law_name", "_law_turn", "_law_word", "_law_rest", "_law_k"] ["_law_source"] (defScope s__law_all_letters) := ⟨rfl, rfl, rfl, by decide +kernel, rfl, by decide +kernel, by decide +kernel⟩
abbrev s__law_many_free : Stmt := topS 36
theorem sc__law_many_free : FnScope ["_law_source", "_law_signs", "_law_rows", "_law_name", "_law_other", "_law_turn", "_law_rest", "_law_k", "_law_inner"] ["_law_source"] (defScope s__law_many_free) := ⟨rfl, rfl, rfl, by decide +kernel, rfl, by decide +kernel, by decide +kernel⟩
abbrev s__law_kind : Stmt := topS 28
theorem sc__law_kind : FnScope ["_law_source", "_law_deep_here", "_law_names", "_law_way", "_law_left"] ["_law_source", "_law_deep_here", "_law_names"] (defScope s__law_kind) := ⟨rfl, rfl, rfl, by decide +kernel, rfl, by decide +kernel, by decide +kernel⟩
abbrev s__law_deep : Stmt := topS 34
theorem sc__law_deep : FnScope ["_law_source", "_law_names", "_law_kind_here", "_law_turn", "_law_name"] ["_law_source", "_law_names"] (defScope s__law_deep) := ⟨rfl, rfl, rfl, by decide +kernel, rfl, by decide +kernel, by decide +kernel⟩
abbrev s_law : Stmt := topS 38
theorem sc_law : FnScope ["_law_script", "_law_k", "_law_source", "_law_turn", "_law_names", "_law_kind_here", "_law_shown"] ["_law_script"] (defScope s_law) := ⟨rfl, rfl, rfl, by decide +kernel, rfl, by decide +kernel, by decide +kernel⟩
/-- what the top has written -/
structure Top (w : World) (K : PySem.W.Frag) (mg : Str → Option Value) where
  z_all : mg "all" = none
  z_int : mg "int" = none
  z_isinstance : mg "isinstance" = none
  z_len : mg "len" = none
  z_list : mg "list" = none
  z_max : mg "max" = none
  z_min : mg "min" = none
  z_range : mg "range" = none
  z_str : mg "str" = none
  z_tuple : mg "tuple" = none
  u_BARRED : Value
  m_BARRED : mg "BARRED" = some u_BARRED
  c_BARRED : kdV 8 K u_BARRED k_BARRED = true
  u_MOST_SIGNS : Value
  m_MOST_SIGNS : mg "MOST_SIGNS" = some u_MOST_SIGNS
  c_MOST_SIGNS : kdV 8 K u_MOST_SIGNS k_MOST_SIGNS = true
  u_LETTERS : Value
  m_LETTERS : mg "LETTERS" = some u_LETTERS
  c_LETTERS : kdV 8 K u_LETTERS k_LETTERS = true
  u_MARK : Value
  m_MARK : mg "MARK" = some u_MARK
  c_MARK : kdV 8 K u_MARK k_MARK = true
  t_WORDS : Addr
  m_WORDS : mg "WORDS" = some (.ref t_WORDS)
  kd_WORDS : KD K w t_WORDS tbl_WORDS
  a__law_source_of : Addr
  d__law_source_of : FuncData
  v__law_source_of : List V
  F__law_source_of : FunD K "_law_source_of" "_law_source_of" (defArgs s__law_source_of) (defBody s__law_source_of) (defScope s__law_source_of) v__law_source_of [] a__law_source_of d__law_source_of
  m__law_source_of : mg "_law_source_of" = some (.ref a__law_source_of)
  b__law_source_of : Binds K d__law_source_of ["_law_cell"] []
  a_is_name : Addr
  d_is_name : FuncData
  v_is_name : List V
  F_is_name : FunD K "is_name" "is_name" (defArgs s_is_name) (defBody s_is_name) (defScope s_is_name) v_is_name [] a_is_name d_is_name
  m_is_name : mg "is_name" = some (.ref a_is_name)
  b_is_name : Binds K d_is_name ["value"] []
  a_is_kind : Addr
  d_is_kind : FuncData
  v_is_kind : List V
  F_is_kind : FunD K "is_kind" "is_kind" (defArgs s_is_kind) (defBody s_is_kind) (defScope s_is_kind) v_is_kind [] a_is_kind d_is_kind
  m_is_kind : mg "is_kind" = some (.ref a_is_kind)
  b_is_kind : Binds K d_is_kind ["thing"] []
  a_want_kind : Addr
  d_want_kind : FuncData
  v_want_kind : List V
  F_want_kind : FunD K "want_kind" "want_kind" (defArgs s_want_kind) (defBody s_want_kind) (defScope s_want_kind) v_want_kind [] a_want_kind d_want_kind
  m_want_kind : mg "want_kind" = some (.ref a_want_kind)
  b_want_kind : Binds K d_want_kind ["thing"] []
  a_letter : Addr
  d_letter : FuncData
  v_letter : List V
  F_letter : FunD K "letter" "letter" (defArgs s_letter) (defBody s_letter) (defScope s_letter) v_letter [] a_letter d_letter
  m_letter : mg "letter" = some (.ref a_letter)
  b_letter : Binds K d_letter ["number"] []
  a_first_letters : Addr
  d_first_letters : FuncData
  v_first_letters : List V
  F_first_letters : FunD K "first_letters" "first_letters" (defArgs s_first_letters) (defBody s_first_letters) (defScope s_first_letters) v_first_letters [] a_first_letters d_first_letters
  m_first_letters : mg "first_letters" = some (.ref a_first_letters)
  b_first_letters : Binds K d_first_letters ["taken"] []
  a_exchange : Addr
  d_exchange : FuncData
  v_exchange : List V
  F_exchange : FunD K "exchange" "exchange" (defArgs s_exchange) (defBody s_exchange) (defScope s_exchange) v_exchange [] a_exchange d_exchange
  m_exchange : mg "exchange" = some (.ref a_exchange)
  b_exchange : Binds K d_exchange ["kind", "changes"] []
  a_relettered : Addr
  d_relettered : FuncData
  v_relettered : List V
  F_relettered : FunD K "relettered" "relettered" (defArgs s_relettered) (defBody s_relettered) (defScope s_relettered) v_relettered [] a_relettered d_relettered
  m_relettered : mg "relettered" = some (.ref a_relettered)
  b_relettered : Binds K d_relettered ["kind", "taken"] []
  a_free_of : Addr
  d_free_of : FuncData
  v_free_of : List V
  F_free_of : FunD K "free_of" "free_of" (defArgs s_free_of) (defBody s_free_of) (defScope s_free_of) v_free_of [] a_free_of d_free_of
  m_free_of : mg "free_of" = some (.ref a_free_of)
  b_free_of : Binds K d_free_of ["kind", "inside"] []
  e1_free_of : List Value
  y1_free_of : List V
  bd1_free_of : Binds K d_free_of ["kind", "inside"] e1_free_of
  vd1_free_of : Vals y1_free_of e1_free_of
  wd1_free_of : ∀ ρ S H, RpWs K ρ S H [.v (.tup [])] y1_free_of
  a_marked_from : Addr
  d_marked_from : FuncData
  v_marked_from : List V
  F_marked_from : FunD K "marked_from" "marked_from" (defArgs s_marked_from) (defBody s_marked_from) (defScope s_marked_from) v_marked_from [] a_marked_from d_marked_from
  m_marked_from : mg "marked_from" = some (.ref a_marked_from)
  b_marked_from : Binds K d_marked_from ["kind", "first"] []
  a_numbers_in : Addr
  d_numbers_in : FuncData
  v_numbers_in : List V
  F_numbers_in : FunD K "numbers_in" "numbers_in" (defArgs s_numbers_in) (defBody s_numbers_in) (defScope s_numbers_in) v_numbers_in [] a_numbers_in d_numbers_in
  m_numbers_in : mg "numbers_in" = some (.ref a_numbers_in)
  b_numbers_in : Binds K d_numbers_in ["kind"] []
  a_marked : Addr
  d_marked : FuncData
  v_marked : List V
  F_marked : FunD K "marked" "marked" (defArgs s_marked) (defBody s_marked) (defScope s_marked) v_marked [] a_marked d_marked
  m_marked : mg "marked" = some (.ref a_marked)
  b_marked : Binds K d_marked ["kind", "first"] []
  e1_marked : List Value
  y1_marked : List V
  bd1_marked : Binds K d_marked ["kind", "first"] e1_marked
  vd1_marked : Vals y1_marked e1_marked
  wd1_marked : ∀ ρ S H, RpWs K ρ S H [.v (.int 0)] y1_marked
  a_plain_of : Addr
  d_plain_of : FuncData
  v_plain_of : List V
  F_plain_of : FunD K "plain_of" "plain_of" (defArgs s_plain_of) (defBody s_plain_of) (defScope s_plain_of) v_plain_of [] a_plain_of d_plain_of
  m_plain_of : mg "plain_of" = some (.ref a_plain_of)
  b_plain_of : Binds K d_plain_of ["kind"] []
  a_plain : Addr
  d_plain : FuncData
  v_plain : List V
  F_plain : FunD K "plain" "plain" (defArgs s_plain) (defBody s_plain) (defScope s_plain) v_plain [] a_plain d_plain
  m_plain : mg "plain" = some (.ref a_plain)
  b_plain : Binds K d_plain ["kind"] []
  a__law_cell_at : Addr
  d__law_cell_at : FuncData
  v__law_cell_at : List V
  F__law_cell_at : FunD K "_law_cell_at" "_law_cell_at" (defArgs s__law_cell_at) (defBody s__law_cell_at) (defScope s__law_cell_at) v__law_cell_at [] a__law_cell_at d__law_cell_at
  m__law_cell_at : mg "_law_cell_at" = some (.ref a__law_cell_at)
  b__law_cell_at : Binds K d__law_cell_at ["_law_script", "_law_k"] []
  a__law_inside : Addr
  d__law_inside : FuncData
  v__law_inside : List V
  F__law_inside : FunD K "_law_inside" "_law_inside" (defArgs s__law_inside) (defBody s__law_inside) (defScope s__law_inside) v__law_inside [] a__law_inside d__law_inside
  m__law_inside : mg "_law_inside" = some (.ref a__law_inside)
  b__law_inside : Binds K d__law_inside ["_law_kind_here", "_law_names"] []
  a__law_first : Addr
  d__law_first : FuncData
  v__law_first : List V
  F__law_first : FunD K "_law_first" "_law_first" (defArgs s__law_first) (defBody s__law_first) (defScope s__law_first) v__law_first [] a__law_first d__law_first
  m__law_first : mg "_law_first" = some (.ref a__law_first)
  b__law_first : Binds K d__law_first ["_law_taken"] []
  a__law_outside : Addr
  d__law_outside : FuncData
  v__law_outside : List V
  F__law_outside : FunD K "_law_outside" "_law_outside" (defArgs s__law_outside) (defBody s__law_outside) (defScope s__law_outside) v__law_outside [] a__law_outside d__law_outside
  m__law_outside : mg "_law_outside" = some (.ref a__law_outside)
  b__law_outside : Binds K d__law_outside ["_law_form", "_law_names", "_law_taken"] []
  a__law_frees : Addr
  d__law_frees : FuncData
  v__law_frees : List V
  F__law_frees : FunD K "_law_frees" "_law_frees" (defArgs s__law_frees) (defBody s__law_frees) (defScope s__law_frees) v__law_frees [] a__law_frees d__law_frees
  m__law_frees : mg "_law_frees" = some (.ref a__law_frees)
  b__law_frees : Binds K d__law_frees ["_law_form"] []
  a__law_plain : Addr
  d__law_plain : FuncData
  v__law_plain : List V
  F__law_plain : FunD K "_law_plain" "_law_plain" (defArgs s__law_plain) (defBody s__law_plain) (defScope s__law_plain) v__law_plain [] a__law_plain d__law_plain
  m__law_plain : mg "_law_plain" = some (.ref a__law_plain)
  b__law_plain : Binds K d__law_plain ["_law_kind_here"] []
  a_free : Addr
  d_free : FuncData
  v_free : List V
  F_free : FunD K "free" "free" (defArgs s_free) (defBody s_free) (defScope s_free) v_free [] a_free d_free
  m_free : mg "free" = some (.ref a_free)
  b_free : Binds K d_free ["kind"] []
  a__law_right : Addr
  d__law_right : FuncData
  v__law_right : List V
  F__law_right : FunD K "_law_right" "_law_right" (defArgs s__law_right) (defBody s__law_right) (defScope s__law_right) v__law_right [] a__law_right d__law_right
  m__law_right : mg "_law_right" = some (.ref a__law_right)
  b__law_right : Binds K d__law_right ["_law_kind_here"] []
  a__law_next : Addr
  d__law_next : FuncData
  v__law_next : List V
  F__law_next : FunD K "_law_next" "_law_next" (defArgs s__law_next) (defBody s__law_next) (defScope s__law_next) v__law_next [] a__law_next d__law_next
  m__law_next : mg "_law_next" = some (.ref a__law_next)
  b__law_next : Binds K d__law_next ["_law_source", "_law_many"] []
  a__law_one : Addr
  d__law_one : FuncData
  v__law_one : List V
  F__law_one : FunD K "_law_one" "_law_one" (defArgs s__law_one) (defBody s__law_one) (defScope s__law_one) v__law_one [] a__law_one d__law_one
  m__law_one : mg "_law_one" = some (.ref a__law_one)
  b__law_one : Binds K d__law_one ["_law_source", "_law_some"] []
  a__law_all_letters : Addr
  d__law_all_letters : FuncData
  v__law_all_letters : List V
  F__law_all_letters : FunD K "_law_all_letters" "_law_all_letters" (defArgs s__law_all_letters) (defBody s__law_all_letters) (defScope s__law_all_letters) v__law_all_letters [] a__law_all_letters d__law_all_letters
  m__law_all_letters : mg "_law_all_letters" = some (.ref a__law_all_letters)
  b__law_all_letters : Binds K d__law_all_letters ["_law_source"] []
  a__law_many_free : Addr
  d__law_many_free : FuncData
  v__law_many_free : List V
  F__law_many_free : FunD K "_law_many_free" "_law_many_free" (defArgs s__law_many_free) (defBody s__law_many_free) (defScope s__law_many_free) v__law_many_free [] a__law_many_free d__law_many_free
  m__law_many_free : mg "_law_many_free" = some (.ref a__law_many_free)
  b__law_many_free : Binds K d__law_many_free ["_law_source"] []
  a__law_kind : Addr
  d__law_kind : FuncData
  v__law_kind : List V
  F__law_kind : FunD K "_law_kind" "_law_kind" (defArgs s__law_kind) (defBody s__law_kind) (defScope s__law_kind) v__law_kind [] a__law_kind d__law_kind
  m__law_kind : mg "_law_kind" = some (.ref a__law_kind)
  b__law_kind : Binds K d__law_kind ["_law_source", "_law_deep_here", "_law_names"] []
  a__law_deep : Addr
  d__law_deep : FuncData
  v__law_deep : List V
  F__law_deep : FunD K "_law_deep" "_law_deep" (defArgs s__law_deep) (defBody s__law_deep) (defScope s__law_deep) v__law_deep [] a__law_deep d__law_deep
  m__law_deep : mg "_law_deep" = some (.ref a__law_deep)
  b__law_deep : Binds K d__law_deep ["_law_source", "_law_names"] []
  a_law : Addr
  d_law : FuncData
  v_law : List V
  F_law : FunD K "law" "law" (defArgs s_law) (defBody s_law) (defScope s_law) v_law [] a_law d_law
end Fro

namespace Fro
open PySem PySem.Spec L2
section
variable {P : Program} {w : World} {K : PySem.W.Frag} {mg : Str → Option Value} {base : Heap}
theorem o__law_source_of (T : Top w K mg) : FnOk P w K mg base CX0 1 T.a__law_source_of T.d__law_source_of ["_law_cell"] (spF K 1 f__law_source_of) := fn_denD T.F__law_source_of sc__law_source_of fun cdv A outer s H E hr =>
    (dss_cons (ds_set 0 sc__law_source_of.nd (de_if (dt_cmp op_ge g2_ge (de_var 0) de_int) (de_var 0) (de_bin op_sub g2_sub (de_bin op_sub g2_sub de_int (de_bin op_mulA g2_mul de_int (de_var 0))) de_int)))
    (dss_one (ds_ret (de_lstM (da_cons (de_bin op_mulA g2_mul (de_var 0) (de_bty call_int1 gn_int T.z_int (by decide +kernel) (da_cons (de_cmp op_ge g2_ge (de_var 0) (de_bin op_pow g2_pow de_int de_int)) da_nil))) (da_cons (de_bin op_mod g2_mod (de_bty call_int1 gn_int T.z_int (by decide +kernel) (da_cons (de_var 0) da_nil)) de_int) (da_cons de_int da_nil)))))))
end
section
variable {P : Program} {w : World} {K : PySem.W.Frag} {mg : Str → Option Value} {base : Heap}
theorem o_is_name (T : Top w K mg) : FnOk P w K mg base CX0 1 T.a_is_name T.d_is_name ["value"] (spF K 1 f_is_name) := fn_denD T.F_is_name sc_is_name fun cdv A outer s H E hr =>
    (dss_cons (ds_if (dw_or (dt_not (dt_val (de_blt call_isi gn_isi T.z_isinstance (by decide +kernel) (da_cons (de_var 0) (da_cons (de_type .str T.z_str (by decide +kernel)) da_nil))))) (dw_or1 (dt_cmp op_inA g2_in (de_var 0) (de_const 8 T.m_BARRED T.c_BARRED)))).pt
    (dss_one (ds_ret de_bl))
    dss_nil)
    (dss_one (ds_ret (de_and (de_chain op_le op_le g2_le g2_le de_int (de_len T.z_len (da_cons (de_var 0) da_nil)) (de_const 8 T.m_MOST_SIGNS T.c_MOST_SIGNS)) (de_one (de_blt (cr_all rfl) gn_all T.z_all (by decide +kernel) (da_cons (de_comp (own := [("sign", 1)]) rfl sc_is_name.nd (di_str (de_var 0)) (gok_name 1) (blk_by (N := ["value", "sign"]) (sc := defScope s_is_name) (by decide +kernel)) (fun _ _ _ _ _ => (pg_name (i := 1) sc_is_name.nd rfl (by first | exact Or.inl rfl | exact Or.inr rfl))) (fun _ _ _ _ _ => dts_nil) (fun _ _ _ _ _ => (de_cmp op_inA g2_in (de_var 1) (de_const 8 T.m_LETTERS T.c_LETTERS)))) da_nil)))))))
end
section
variable {P : Program} {w : World} {K : PySem.W.Frag} {mg : Str → Option Value} {base : Heap}
theorem o_is_kind (T : Top w K mg) : ∀ m : Nat, FnOk P w K mg base CX0 (m + 1) T.a_is_kind T.d_is_kind ["thing"] (spF K 1 (f_is_kind m))
  | 0 => fn_zero rfl
  | m + 1 => by
    have ih := o_is_kind T m
    have ok : FnOk P w K mg base CX0 (m + 1 + 1) T.a_is_kind T.d_is_kind ["thing"] (spF K 1 (fdef 2 (b_is_kind (f_is_kind m)))) := fn_denD T.F_is_kind sc_is_kind fun cdv A outer s H E hr =>
    (dss_cons (ds_if (dw_or (dt_not (dt_val (de_blt call_isi gn_isi T.z_isinstance (by decide +kernel) (da_cons (de_var 0) (da_cons (de_type .tup T.z_tuple (by decide +kernel)) da_nil))))) (dw_or1 (dt_cmp (op_eqM hr) g2_eq (de_var 0) (de_tup da_nil)))).pt
    (dss_one (ds_ret de_bl))
    dss_nil)
    (dss_cons (ds_if (dt_cmp (op_eqM hr) g2_eq (de_ix (de_var 0) de_int) (de_str [118, 97, 114]))
    (dss_one (ds_ret (de_and (de_cmp (op_eqM hr) g2_eq (de_len T.z_len (da_cons (de_var 0) da_nil)) de_int) (de_one (de_call (o_is_name T) (hr.mono (by omega)) T.m_is_name T.F_is_name.kp T.b_is_name .nil (fun _ _ _ => .nil) (da_cons (de_ix (de_var 0) de_int) da_nil))))))
    dss_nil)
    (dss_cons (ds_if (dt_cmp (op_eqM hr) g2_eq (de_ix (de_var 0) de_int) (de_str [97, 108, 108]))
    (dss_one (ds_ret (de_and (de_cmp (op_eqM hr) g2_eq (de_len T.z_len (da_cons (de_var 0) da_nil)) de_int) (de_and (de_call (o_is_name T) (hr.mono (by omega)) T.m_is_name T.F_is_name.kp T.b_is_name .nil (fun _ _ _ => .nil) (da_cons (de_ix (de_var 0) de_int) da_nil)) (de_one (de_call ih hr T.m_is_kind T.F_is_kind.kp T.b_is_kind .nil (fun _ _ _ => .nil) (da_cons (de_ix (de_var 0) de_int) da_nil)))))))
    dss_nil)
    (dss_cons (ds_if (dw_or (dt_cmp (op_neM hr) g2_ne (de_ix (de_var 0) de_int) (de_str [99, 111, 110])) (dw_or (dt_cmp (op_neM hr) g2_ne (de_len T.z_len (da_cons (de_var 0) da_nil)) de_int) (dw_or (dt_not (dt_val (de_blt call_isi gn_isi T.z_isinstance (by decide +kernel) (da_cons (de_ix (de_var 0) de_int) (da_cons (de_type .str T.z_str (by decide +kernel)) da_nil))))) (dw_or1 (dt_knotin T.kd_WORDS T.m_WORDS (de_ix (de_var 0) de_int)))))).pt
    (dss_one (ds_ret de_bl))
    dss_nil)
    (dss_cons (ds_if (dw_or (dt_not (dt_val (de_blt call_isi gn_isi T.z_isinstance (by decide +kernel) (da_cons (de_ix (de_var 0) de_int) (da_cons (de_type .tup T.z_tuple (by decide +kernel)) da_nil))))) (dw_or1 (dt_cmp (op_neM hr) g2_ne (de_len T.z_len (da_cons (de_ix (de_var 0) de_int) da_nil)) (de_kget T.kd_WORDS T.m_WORDS (de_ix (de_var 0) de_int))))).pt
    (dss_one (ds_ret de_bl))
    dss_nil)
    (dss_one (ds_ret (de_blt (cr_all rfl) gn_all T.z_all (by decide +kernel) (da_cons (de_comp (own := [("one", 1)]) rfl sc_is_kind.nd (di_tup (de_ix (de_var 0) de_int)) (gok_name 1) (blk_by (N := ["thing", "one"]) (sc := defScope s_is_kind) (by decide +kernel)) (fun _ _ _ _ _ => (pg_name (i := 1) sc_is_kind.nd rfl (by first | exact Or.inl rfl | exact Or.inr rfl))) (fun _ _ _ _ _ => dts_nil) (fun _ _ _ _ _ => (de_call ih hr T.m_is_kind T.F_is_kind.kp T.b_is_kind .nil (fun _ _ _ => .nil) (da_cons (de_var 1) da_nil)))) da_nil)))))))))
    exact ok.mono (by omega)
end
section
variable {P : Program} {w : World} {K : PySem.W.Frag} {mg : Str → Option Value} {base : Heap}
theorem o_want_kind (T : Top w K mg) : FnOk P w K mg base CX0 32 T.a_want_kind T.d_want_kind ["thing"] (spF K 1 f_want_kind) := fn_denD T.F_want_kind sc_want_kind fun cdv A outer s H E hr =>
    (dss_one (ds_if (dt_not (dt_val (de_call (o_is_kind T 30) (hr.mono (by omega)) T.m_is_kind T.F_is_kind.kp T.b_is_kind .nil (fun _ _ _ => .nil) (da_cons (de_var 0) da_nil))))
    (dss_one ds_dead)
    dss_nil))
end
end Fro

namespace Fro
open PySem PySem.Spec L2
section
variable {P : Program} {w : World} {K : PySem.W.Frag} {mg : Str → Option Value} {base : Heap}
theorem o_letter (T : Top w K mg) : FnOk P w K mg base CX0 1 T.a_letter T.d_letter ["number"] (spF K 1 f_letter) := fn_denD T.F_letter sc_letter fun cdv A outer s H E hr =>
    (dss_cons (ds_set 1 sc_letter.nd (de_ix (de_const 8 T.m_LETTERS T.c_LETTERS) (de_bin op_mod g2_mod (de_bty call_int1 gn_int T.z_int (by decide +kernel) (da_cons (de_var 0) da_nil)) de_int)))
    (dss_cons (ds_set 2 sc_letter.nd (de_bin op_fdiv g2_div (de_var 0) de_int))
    (dss_cons (ds_while 100000 PassesOwn.never (dt_cmp op_gt g2_gt (de_var 2) de_int)
    (dss_cons (ds_set 1 sc_letter.nd (de_bin op_addA g2_add (de_ix (de_const 8 T.m_LETTERS T.c_LETTERS) (de_bin op_mod g2_mod (de_bty call_int1 gn_int T.z_int (by decide +kernel) (da_cons (de_bin op_sub g2_sub (de_var 2) de_int) da_nil)) de_int)) (de_var 1)))
    (dss_one (ds_set 2 sc_letter.nd (de_bin op_fdiv g2_div (de_bin op_sub g2_sub (de_var 2) de_int) de_int)))))
    (dss_one (ds_ret (de_var 1))))))
end
section
variable {P : Program} {w : World} {K : PySem.W.Frag} {mg : Str → Option Value} {base : Heap}
theorem o_first_letters (T : Top w K mg) : FnOk P w K mg base CX0 2 T.a_first_letters T.d_first_letters ["taken"] (spF K 1 f_first_letters) := fn_denD T.F_first_letters sc_first_letters fun cdv A outer s H E hr =>
    (dss_cons (ds_set 1 sc_first_letters.nd de_int)
    (dss_cons (ds_while 100000 PassesOwn.never (dw_or (dt_cmp op_inA g2_in (de_call (o_letter T) (hr.mono (by omega)) T.m_letter T.F_letter.kp T.b_letter .nil (fun _ _ _ => .nil) (da_cons (de_var 1) da_nil)) (de_var 0)) (dw_or1 (dt_cmp op_inA g2_in (de_call (o_letter T) (hr.mono (by omega)) T.m_letter T.F_letter.kp T.b_letter .nil (fun _ _ _ => .nil) (da_cons (de_var 1) da_nil)) (de_const 8 T.m_BARRED T.c_BARRED)))).pt
    (dss_one (ds_set 1 sc_first_letters.nd (de_bin op_addA g2_add (de_var 1) de_int))))
    (dss_one (ds_ret (de_call (o_letter T) (hr.mono (by omega)) T.m_letter T.F_letter.kp T.b_letter .nil (fun _ _ _ => .nil) (da_cons (de_var 1) da_nil))))))
end
section
variable {P : Program} {w : World} {K : PySem.W.Frag} {mg : Str → Option Value} {base : Heap}
theorem o_exchange (T : Top w K mg) : ∀ m : Nat, FnOk P w K mg base CX0 (m + 0) T.a_exchange T.d_exchange ["kind", "changes"] (spF K 2 (f_exchange m))
  | 0 => fn_zero rfl
  | m + 1 => by
    have ih := o_exchange T m
    have ok : FnOk P w K mg base CX0 (m + 0 + 1) T.a_exchange T.d_exchange ["kind", "changes"] (spF K 2 (fdef 5 (b_exchange (f_exchange m)))) := fn_denD T.F_exchange sc_exchange fun cdv A outer s H E hr =>
    (dss_cons (ds_if (dt_cmp (op_eqM hr) g2_eq (de_ix (de_var 0) de_int) (de_str [118, 97, 114]))
    (dss_one (ds_ret (de_dget2 hr (de_var 1) (de_ix (de_var 0) de_int) (de_var 0))))
    dss_nil)
    (dss_cons (ds_if (dt_cmp (op_eqM hr) g2_eq (de_ix (de_var 0) de_int) (de_str [97, 108, 108]))
    (dss_cons (ds_lk 1 (ds_setDComp 2 (own := [("name", 3), ("one", 4)]) rfl sc_exchange.nd (di_items (de_var 1)) (gok_tup (gsok_cons (gok_name 3) (gsok_cons (gok_name 4) gsok_nil))) (blk_by (N := ["kind", "changes", "rest", "name", "one"]) (sc := defScope s_exchange) (by decide +kernel)) (fun _ _ _ _ _ => (pg_tup rfl (pgs_cons (pg_name (i := 3) sc_exchange.nd rfl (by first | exact Or.inl rfl | exact Or.inr rfl)) (pgs_cons (pg_name (i := 4) sc_exchange.nd rfl (by first | exact Or.inl rfl | exact Or.inr rfl)) pgs_nil)))) (fun _ _ _ _ _ => (dts_one (dt_cmp (op_neM hr) g2_ne (de_var 3) (de_ix (de_var 0) de_int)))) (fun _ _ _ _ _ => (de_var 3)) (fun _ _ _ _ _ => (de_var 4))))
    (dss_one (ds_ret (de_tup (da_cons (de_str [97, 108, 108]) (da_cons (de_ix (de_var 0) de_int) (da_cons (de_call ih hr T.m_exchange T.F_exchange.kp T.b_exchange .nil (fun _ _ _ => .nil) (da_cons (de_ix (de_var 0) de_int) (da_cons (de_var 2) da_nil))) da_nil)))))))
    dss_nil)
    (dss_one (ds_ret (de_tup (da_cons (de_str [99, 111, 110]) (da_cons (de_ix (de_var 0) de_int) (da_cons (de_bty call_tuple_of gn_tuple T.z_tuple (by decide +kernel) (da_cons (de_comp (own := [("one", 4)]) rfl sc_exchange.nd (di_tup (de_ix (de_var 0) de_int)) (gok_name 4) (blk_by (N := ["kind", "changes", "rest", "name", "one"]) (sc := defScope s_exchange) (by decide +kernel)) (fun _ _ _ _ _ => (pg_name (i := 4) sc_exchange.nd rfl (by first | exact Or.inl rfl | exact Or.inr rfl))) (fun _ _ _ _ _ => dts_nil) (fun _ _ _ _ _ => (de_call ih hr T.m_exchange T.F_exchange.kp T.b_exchange .nil (fun _ _ _ => .nil) (da_cons (de_var 4) (da_cons (de_var 1) da_nil))))) da_nil)) da_nil))))))))
    exact ok.mono (by omega)
end
section
variable {P : Program} {w : World} {K : PySem.W.Frag} {mg : Str → Option Value} {base : Heap}
theorem o_relettered (T : Top w K mg) : ∀ m : Nat, FnOk P w K mg base CX0 (m + 30) T.a_relettered T.d_relettered ["kind", "taken"] (spF K 2 (f_relettered m))
  | 0 => fn_zero rfl
  | m + 1 => by
    have ih := o_relettered T m
    have ok : FnOk P w K mg base CX0 (m + 30 + 1) T.a_relettered T.d_relettered ["kind", "taken"] (spF K 2 (fdef 4 (b_relettered (f_relettered m)))) := fn_denD T.F_relettered sc_relettered fun cdv A outer s H E hr =>
    (dss_cons (ds_if (dt_cmp (op_eqM hr) g2_eq (de_ix (de_var 0) de_int) (de_str [118, 97, 114]))
    (dss_one (ds_ret (de_var 0)))
    dss_nil)
    (dss_cons (ds_if (dt_cmp (op_eqM hr) g2_eq (de_ix (de_var 0) de_int) (de_str [97, 108, 108]))
    (dss_cons (ds_set 2 sc_relettered.nd (de_call (o_first_letters T) (hr.mono (by omega)) T.m_first_letters T.F_first_letters.kp T.b_first_letters .nil (fun _ _ _ => .nil) (da_cons (de_var 1) da_nil)))
    (dss_one (ds_ret (de_tup (da_cons (de_str [97, 108, 108]) (da_cons (de_var 2) (da_cons (de_call ih hr T.m_relettered T.F_relettered.kp T.b_relettered .nil (fun _ _ _ => .nil) (da_cons (de_call (o_exchange T 30) (hr.mono (by omega)) T.m_exchange T.F_exchange.kp T.b_exchange .nil (fun _ _ _ => .nil) (da_cons (de_ix (de_var 0) de_int) (da_cons (de_dict (dd_cons (de_ix (de_var 0) de_int) (de_tup (da_cons (de_str [118, 97, 114]) (da_cons (de_var 2) da_nil))) dd_nil)) da_nil))) (da_cons (de_bin op_addA g2_add (de_var 1) (de_lst (da_cons (de_var 2) da_nil))) da_nil))) da_nil)))))))
    dss_nil)
    (dss_one (ds_ret (de_tup (da_cons (de_str [99, 111, 110]) (da_cons (de_ix (de_var 0) de_int) (da_cons (de_bty call_tuple_of gn_tuple T.z_tuple (by decide +kernel) (da_cons (de_comp (own := [("one", 3)]) rfl sc_relettered.nd (di_tup (de_ix (de_var 0) de_int)) (gok_name 3) (blk_by (N := ["kind", "taken", "name", "one"]) (sc := defScope s_relettered) (by decide +kernel)) (fun _ _ _ _ _ => (pg_name (i := 3) sc_relettered.nd rfl (by first | exact Or.inl rfl | exact Or.inr rfl))) (fun _ _ _ _ _ => dts_nil) (fun _ _ _ _ _ => (de_call ih hr T.m_relettered T.F_relettered.kp T.b_relettered .nil (fun _ _ _ => .nil) (da_cons (de_var 3) (da_cons (de_var 1) da_nil))))) da_nil)) da_nil))))))))
    exact ok.mono (by omega)
end
end Fro

namespace Fro
open PySem PySem.Spec L2
section
variable {P : Program} {w : World} {K : PySem.W.Frag} {mg : Str → Option Value} {base : Heap}
theorem o_free_of (T : Top w K mg) : ∀ m : Nat, FnOk P w K mg base CX0 (m + 0) T.a_free_of T.d_free_of ["kind", "inside"] (spF K 2 (f_free_of m))
  | 0 => fn_zero rfl
  | m + 1 => by
    have ih := o_free_of T m
    have ok : FnOk P w K mg base CX0 (m + 0 + 1) T.a_free_of T.d_free_of ["kind", "inside"] (spF K 2 (fdef 5 (b_free_of (f_free_of m)))) := fn_denD T.F_free_of sc_free_of fun cdv A outer s H E hr =>
    (dss_cons (ds_if (dt_cmp (op_eqM hr) g2_eq (de_ix (de_var 0) de_int) (de_str [118, 97, 114]))
    (dss_one (ds_ret (de_if (dt_cmp op_inA g2_in (de_ix (de_var 0) de_int) (de_var 1)) (de_lstM da_nil) (de_lstM (da_cons (de_ix (de_var 0) de_int) da_nil)))))
    dss_nil)
    (dss_cons (ds_if (dt_cmp (op_eqM hr) g2_eq (de_ix (de_var 0) de_int) (de_str [97, 108, 108]))
    (dss_one (ds_ret (de_callM ih hr T.m_free_of T.F_free_of.kp T.b_free_of .nil (fun _ _ _ => .nil) (da_cons (de_ix (de_var 0) de_int) (da_cons (de_bin op_addA g2_add (de_var 1) (de_tup (da_cons (de_ix (de_var 0) de_int) da_nil))) da_nil)))))
    dss_nil)
    (dss_cons (ds_set 2 sc_free_of.nd (de_lstM da_nil))
    (dss_cons (ds_for PassesOwn.never rfl (di_tup (de_ix (de_var 0) de_int)) (pg_name (i := 3) sc_free_of.nd rfl (by first | exact Or.inl rfl | exact Or.inr rfl)) (gok_name 3)
    (dss_one (ds_expr (de_extend (de_var 2) (de_comp (own := [("name", 4)]) rfl sc_free_of.nd (di_list (de_call ih hr T.m_free_of T.F_free_of.kp T.b_free_of .nil (fun _ _ _ => .nil) (da_cons (de_var 3) (da_cons (de_var 1) da_nil)))) (gok_name 4) (blk_by (N := ["kind", "inside", "found", "one", "name"]) (sc := defScope s_free_of) (by decide +kernel)) (fun _ _ _ _ _ => (pg_name (i := 4) sc_free_of.nd rfl (by first | exact Or.inl rfl | exact Or.inr rfl))) (fun _ _ _ _ _ => (dts_one (dt_cmp op_notInA g2_notIn (de_var 4) (de_var 2)))) (fun _ _ _ _ _ => (de_var 4)))))))
    (dss_one (ds_ret (de_var 2)))))))
    exact ok.mono (by omega)
end
section
variable {P : Program} {w : World} {K : PySem.W.Frag} {mg : Str → Option Value} {base : Heap}
theorem o_marked_from (T : Top w K mg) : ∀ m : Nat, FnOk P w K mg base CX0 (m + 30) T.a_marked_from T.d_marked_from ["kind", "first"] (spF K 2 (f_marked_from m))
  | 0 => fn_zero rfl
  | m + 1 => by
    have ih := o_marked_from T m
    have ok : FnOk P w K mg base CX0 (m + 30 + 1) T.a_marked_from T.d_marked_from ["kind", "first"] (spF K 2 (fdef 7 (b_marked_from (f_marked_from m)))) := fn_denD T.F_marked_from sc_marked_from fun cdv A outer s H E hr =>
    (dss_cons (ds_if (dt_cmp (op_eqM hr) g2_eq (de_ix (de_var 0) de_int) (de_str [118, 97, 114]))
    (dss_one (ds_ret (de_tup (da_cons (de_var 0) (da_cons (de_var 1) da_nil)))))
    dss_nil)
    (dss_cons (ds_if (dt_cmp (op_eqM hr) g2_eq (de_ix (de_var 0) de_int) (de_str [97, 108, 108]))
    (dss_cons (ds_set 2 sc_marked_from.nd (de_bin op_addA g2_add (de_const 8 T.m_MARK T.c_MARK) (de_bty call_strA gn_str T.z_str (by decide +kernel) (da_cons (de_var 1) da_nil))))
    (dss_cons (ds_asg (de_call ih hr T.m_marked_from T.F_marked_from.kp T.b_marked_from .nil (fun _ _ _ => .nil) (da_cons (de_call (o_exchange T 30) (hr.mono (by omega)) T.m_exchange T.F_exchange.kp T.b_exchange .nil (fun _ _ _ => .nil) (da_cons (de_ix (de_var 0) de_int) (da_cons (de_dict (dd_cons (de_ix (de_var 0) de_int) (de_tup (da_cons (de_str [118, 97, 114]) (da_cons (de_var 2) da_nil))) dd_nil)) da_nil))) (da_cons (de_bin op_addA g2_add (de_var 1) de_int) da_nil))) (pg_tup rfl (pgs_cons (pg_name (i := 3) sc_marked_from.nd rfl (by first | exact Or.inl rfl | exact Or.inr rfl)) (pgs_cons (pg_name (i := 4) sc_marked_from.nd rfl (by first | exact Or.inl rfl | exact Or.inr rfl)) pgs_nil))) (gok_tup (gsok_cons (gok_name 3) (gsok_cons (gok_name 4) gsok_nil))))
    (dss_one (ds_ret (de_tup (da_cons (de_tup (da_cons (de_str [97, 108, 108]) (da_cons (de_var 2) (da_cons (de_var 3) da_nil)))) (da_cons (de_var 4) da_nil)))))))
    dss_nil)
    (dss_cons (ds_set 5 sc_marked_from.nd (de_lstM da_nil))
    (dss_cons (ds_for PassesOwn.never rfl (di_tup (de_ix (de_var 0) de_int)) (pg_name (i := 6) sc_marked_from.nd rfl (by first | exact Or.inl rfl | exact Or.inr rfl)) (gok_name 6)
    (dss_cons (ds_asg (de_call ih hr T.m_marked_from T.F_marked_from.kp T.b_marked_from .nil (fun _ _ _ => .nil) (da_cons (de_var 6) (da_cons (de_var 1) da_nil))) (pg_tup rfl (pgs_cons (pg_name (i := 3) sc_marked_from.nd rfl (by first | exact Or.inl rfl | exact Or.inr rfl)) (pgs_cons (pg_name (i := 1) sc_marked_from.nd rfl (by first | exact Or.inl rfl | exact Or.inr rfl)) pgs_nil))) (gok_tup (gsok_cons (gok_name 3) (gsok_cons (gok_name 1) gsok_nil))))
    (dss_one (ds_expr (de_append (de_var 5) (de_var 3))))))
    (dss_one (ds_ret (de_tup (da_cons (de_tup (da_cons (de_str [99, 111, 110]) (da_cons (de_ix (de_var 0) de_int) (da_cons (de_bty call_tuple_of gn_tuple T.z_tuple (by decide +kernel) (da_cons (de_var 5) da_nil)) da_nil)))) (da_cons (de_var 1) da_nil)))))))))
    exact ok.mono (by omega)
end
section
variable {P : Program} {w : World} {K : PySem.W.Frag} {mg : Str → Option Value} {base : Heap}
theorem o_numbers_in (T : Top w K mg) : ∀ m : Nat, FnOk P w K mg base CX0 (m + 0) T.a_numbers_in T.d_numbers_in ["kind"] (spF K 1 (f_numbers_in m))
  | 0 => fn_zero rfl
  | m + 1 => by
    have ih := o_numbers_in T m
    have ok : FnOk P w K mg base CX0 (m + 0 + 1) T.a_numbers_in T.d_numbers_in ["kind"] (spF K 1 (fdef 4 (b_numbers_in (f_numbers_in m)))) := fn_denD T.F_numbers_in sc_numbers_in fun cdv A outer s H E hr =>
    (dss_cons (ds_if (dt_cmp (op_eqM hr) g2_eq (de_ix (de_var 0) de_int) (de_str [99, 111, 110]))
    (dss_one (ds_ret (de_comp2 (own := [("one", 1), ("number", 2)]) (vs1 := [2]) rfl sc_numbers_in.nd (di_tup (de_ix (de_var 0) de_int)) (gok_name 1) (gok_name 2) (blk_by (N := ["kind", "one", "number", "found"]) (sc := defScope s_numbers_in) (by decide +kernel)) (fun _ _ _ _ _ => (pg_name (i := 1) sc_numbers_in.nd rfl (by first | exact Or.inl rfl | exact Or.inr rfl))) (fun _ _ _ _ _ => dts_nil) (fun _ _ _ _ _ => (di_list (de_call ih hr T.m_numbers_in T.F_numbers_in.kp T.b_numbers_in .nil (fun _ _ _ => .nil) (da_cons (de_var 1) da_nil)))) (fun _ _ _ _ _ => (pg_name (i := 2) sc_numbers_in.nd rfl (by first | exact Or.inl rfl | exact Or.inr rfl))) (fun _ _ _ _ _ => dts_nil) (fun _ _ _ _ _ => (de_var 2)))))
    dss_nil)
    (dss_cons (ds_set 3 sc_numbers_in.nd (de_if (dt_cmp (op_eqM hr) g2_eq (de_ix (de_var 0) de_int) (de_str [97, 108, 108])) (de_call ih hr T.m_numbers_in T.F_numbers_in.kp T.b_numbers_in .nil (fun _ _ _ => .nil) (da_cons (de_ix (de_var 0) de_int) da_nil)) (de_lst da_nil)))
    (dss_one (ds_ret (de_if (dt_val (de_starts (de_ix (de_var 0) de_int) (de_const 8 T.m_MARK T.c_MARK))) (de_bin op_addA g2_add (de_var 3) (de_lst (da_cons de_never da_nil))) (de_var 3))))))
    exact ok.mono (by omega)
end
section
variable {P : Program} {w : World} {K : PySem.W.Frag} {mg : Str → Option Value} {base : Heap}
theorem o_marked (T : Top w K mg) : FnOk P w K mg base CX0 61 T.a_marked T.d_marked ["kind", "first"] (spF K 2 f_marked) := fn_denD T.F_marked sc_marked fun cdv A outer s H E hr =>
    (dss_one (ds_ret (de_call (o_marked_from T 30) (hr.mono (by omega)) T.m_marked_from T.F_marked_from.kp T.b_marked_from .nil (fun _ _ _ => .nil) (da_cons (de_var 0) (da_cons (de_blt (cr_max rfl) gn_maxL T.z_max (by decide +kernel) (da_cons (de_bin op_addA g2_add (de_lst (da_cons (de_var 1) da_nil)) (de_comp (own := [("number", 2)]) rfl sc_marked.nd (di_list (de_call (o_numbers_in T 30) (hr.mono (by omega)) T.m_numbers_in T.F_numbers_in.kp T.b_numbers_in .nil (fun _ _ _ => .nil) (da_cons (de_var 0) da_nil))) (gok_name 2) (blk_by (N := ["kind", "first", "number"]) (sc := defScope s_marked) (by decide +kernel)) (fun _ _ _ _ _ => (pg_name (i := 2) sc_marked.nd rfl (by first | exact Or.inl rfl | exact Or.inr rfl))) (fun _ _ _ _ _ => dts_nil) (fun _ _ _ _ _ => (de_bin op_addA g2_add (de_var 2) de_int)))) da_nil)) da_nil)))))
end
end Fro

namespace Fro
open PySem PySem.Spec L2
section
variable {P : Program} {w : World} {K : PySem.W.Frag} {mg : Str → Option Value} {base : Heap}
theorem o_plain_of (T : Top w K mg) : FnOk P w K mg base CX0 62 T.a_plain_of T.d_plain_of ["kind"] (spF K 1 f_plain_of) := fn_denD T.F_plain_of sc_plain_of fun cdv A outer s H E hr =>
    (dss_one (ds_ret (de_call (o_relettered T 30) (hr.mono (by omega)) T.m_relettered T.F_relettered.kp T.b_relettered .nil (fun _ _ _ => .nil) (da_cons (de_ix (de_call (o_marked T) (hr.mono (by omega)) T.m_marked T.F_marked.kp T.bd1_marked T.vd1_marked T.wd1_marked (da_cons (de_var 0) da_nil)) de_int) (da_cons (de_call (o_free_of T 30) (hr.mono (by omega)) T.m_free_of T.F_free_of.kp T.bd1_free_of T.vd1_free_of T.wd1_free_of (da_cons (de_var 0) da_nil)) da_nil)))))
end
section
variable {P : Program} {w : World} {K : PySem.W.Frag} {mg : Str → Option Value} {base : Heap}
theorem o_plain (T : Top w K mg) : FnOk P w K mg base CX0 63 T.a_plain T.d_plain ["kind"] (spF K 1 f_plain) := fn_denD T.F_plain sc_plain fun cdv A outer s H E hr =>
    (dss_cons (ds_expr (de_call (o_want_kind T) (hr.mono (by omega)) T.m_want_kind T.F_want_kind.kp T.b_want_kind .nil (fun _ _ _ => .nil) (da_cons (de_var 0) da_nil)))
    (dss_one (ds_ret (de_call (o_plain_of T) (hr.mono (by omega)) T.m_plain_of T.F_plain_of.kp T.b_plain_of .nil (fun _ _ _ => .nil) (da_cons (de_var 0) da_nil)))))
end
section
variable {P : Program} {w : World} {K : PySem.W.Frag} {mg : Str → Option Value} {base : Heap}
theorem o__law_cell_at (T : Top w K mg) : FnOk P w K mg base CX0 1 T.a__law_cell_at T.d__law_cell_at ["_law_script", "_law_k"] (spF K 2 f__law_cell_at) := fn_denD T.F__law_cell_at sc__law_cell_at fun cdv A outer s H E hr =>
    (dss_cons (ds_if (dt_cmp op_lt g2_lt (de_var 1) (de_len T.z_len (da_cons (de_var 0) da_nil)))
    (dss_one (ds_ret (de_ix (de_var 0) (de_var 1))))
    dss_nil)
    (dss_one (ds_ret de_int)))
end
section
variable {P : Program} {w : World} {K : PySem.W.Frag} {mg : Str → Option Value} {base : Heap}
theorem o__law_inside (T : Top w K mg) : ∀ m : Nat, FnOk P w K mg base CX0 (m + 0) T.a__law_inside T.d__law_inside ["_law_kind_here", "_law_names"] (spF K 2 (f__law_inside m))
  | 0 => fn_zero rfl
  | m + 1 => by
    have ih := o__law_inside T m
    have ok : FnOk P w K mg base CX0 (m + 0 + 1) T.a__law_inside T.d__law_inside ["_law_kind_here", "_law_names"] (spF K 2 (fdef 3 (b__law_inside (f__law_inside m)))) := fn_denD T.F__law_inside sc__law_inside fun cdv A outer s H E hr =>
    (dss_cons (ds_if (dt_cmp (op_eqM hr) g2_eq (de_ix (de_var 0) de_int) (de_str [118, 97, 114]))
    (dss_one (ds_ret (de_if (dt_cmp op_inA g2_in (de_ix (de_var 0) de_int) (de_var 1)) (de_tup (da_cons (de_str [97, 116]) (da_cons (de_index (de_var 1) (de_ix (de_var 0) de_int)) da_nil))) (de_var 0))))
    dss_nil)
    (dss_cons (ds_if (dt_cmp (op_eqM hr) g2_eq (de_ix (de_var 0) de_int) (de_str [97, 108, 108]))
    (dss_one (ds_ret (de_tup (da_cons (de_str [97, 108, 108]) (da_cons (de_call ih hr T.m__law_inside T.F__law_inside.kp T.b__law_inside .nil (fun _ _ _ => .nil) (da_cons (de_ix (de_var 0) de_int) (da_cons (de_bin op_addA g2_add (de_lst (da_cons (de_ix (de_var 0) de_int) da_nil)) (de_var 1)) da_nil))) da_nil)))))
    dss_nil)
    (dss_one (ds_ret (de_tup (da_cons (de_str [99, 111, 110]) (da_cons (de_ix (de_var 0) de_int) (da_cons (de_bty call_tuple_of gn_tuple T.z_tuple (by decide +kernel) (da_cons (de_comp (own := [("_law_one_here", 2)]) rfl sc__law_inside.nd (di_tup (de_ix (de_var 0) de_int)) (gok_name 2) (blk_by (N := ["_law_kind_here", "_law_names", "_law_one_here"]) (sc := defScope s__law_inside) (by decide +kernel)) (fun _ _ _ _ _ => (pg_name (i := 2) sc__law_inside.nd rfl (by first | exact Or.inl rfl | exact Or.inr rfl))) (fun _ _ _ _ _ => dts_nil) (fun _ _ _ _ _ => (de_call ih hr T.m__law_inside T.F__law_inside.kp T.b__law_inside .nil (fun _ _ _ => .nil) (da_cons (de_var 2) (da_cons (de_var 1) da_nil))))) da_nil)) da_nil))))))))
    exact ok.mono (by omega)
end
end Fro

namespace Fro
open PySem PySem.Spec L2
section
variable {P : Program} {w : World} {K : PySem.W.Frag} {mg : Str → Option Value} {base : Heap}
theorem o__law_first (T : Top w K mg) : FnOk P w K mg base CX0 1 T.a__law_first T.d__law_first ["_law_taken"] (spF K 1 f__law_first) := fn_denD T.F__law_first sc__law_first fun cdv A outer s H E hr =>
    (dss_cons (ds_set 1 sc__law_first.nd (de_str [97, 98, 99, 100, 101, 102, 103, 104, 105, 106, 107, 108, 109, 110, 111, 112, 113, 114, 115, 116, 117, 118, 119, 120, 121, 122]))
    (dss_cons (ds_set 2 sc__law_first.nd (de_bty (call_listA rfl) gn_list T.z_list (by decide +kernel) (da_cons (de_var 1) da_nil)))
    (dss_cons (ds_for PassesOwn.never rfl (di_str (de_str [97, 98, 99, 100])) (pg_name (i := 3) sc__law_first.nd rfl (by first | exact Or.inl rfl | exact Or.inr rfl)) (gok_name 3)
    (dss_one (ds_set 2 sc__law_first.nd (de_bin op_addA g2_add (de_var 2) (de_comp (own := [("_law_other", 4)]) rfl sc__law_first.nd (di_str (de_var 1)) (gok_name 4) (blk_by (N := ["_law_taken", "_law_signs", "_law_rows", "_law_one_here", "_law_other", "_law_name"]) (sc := defScope s__law_first) (by decide +kernel)) (fun _ _ _ _ _ => (pg_name (i := 4) sc__law_first.nd rfl (by first | exact Or.inl rfl | exact Or.inr rfl))) (fun _ _ _ _ _ => dts_nil) (fun _ _ _ _ _ => (de_bin op_addA g2_add (de_var 3) (de_var 4))))))))
    (dss_one (ds_ret (de_ix (de_comp (own := [("_law_name", 5)]) rfl sc__law_first.nd (di_list (de_var 2)) (gok_name 5) (blk_by (N := ["_law_taken", "_law_signs", "_law_rows", "_law_one_here", "_law_other", "_law_name"]) (sc := defScope s__law_first) (by decide +kernel)) (fun _ _ _ _ _ => (pg_name (i := 5) sc__law_first.nd rfl (by first | exact Or.inl rfl | exact Or.inr rfl))) (fun _ _ _ _ _ => (dts_one (dt_cmp op_notInA g2_notIn (de_var 5) (de_var 0)))) (fun _ _ _ _ _ => (de_var 5))) de_int))))))
end
section
variable {P : Program} {w : World} {K : PySem.W.Frag} {mg : Str → Option Value} {base : Heap}
theorem o__law_outside (T : Top w K mg) : ∀ m : Nat, FnOk P w K mg base CX0 (m + 1) T.a__law_outside T.d__law_outside ["_law_form", "_law_names", "_law_taken"] (spF K 3 (f__law_outside m))
  | 0 => fn_zero rfl
  | m + 1 => by
    have ih := o__law_outside T m
    have ok : FnOk P w K mg base CX0 (m + 1 + 1) T.a__law_outside T.d__law_outside ["_law_form", "_law_names", "_law_taken"] (spF K 3 (fdef 5 (b__law_outside (f__law_outside m)))) := fn_denD T.F__law_outside sc__law_outside fun cdv A outer s H E hr =>
    (dss_cons (ds_if (dt_cmp (op_eqM hr) g2_eq (de_ix (de_var 0) de_int) (de_str [118, 97, 114]))
    (dss_one (ds_ret (de_var 0)))
    dss_nil)
    (dss_cons (ds_if (dt_cmp (op_eqM hr) g2_eq (de_ix (de_var 0) de_int) (de_str [97, 116]))
    (dss_one (ds_ret (de_tup (da_cons (de_str [118, 97, 114]) (da_cons (de_ix (de_var 1) (de_ix (de_var 0) de_int)) da_nil)))))
    dss_nil)
    (dss_cons (ds_if (dt_cmp (op_eqM hr) g2_eq (de_ix (de_var 0) de_int) (de_str [97, 108, 108]))
    (dss_cons (ds_set 3 sc__law_outside.nd (de_call (o__law_first T) (hr.mono (by omega)) T.m__law_first T.F__law_first.kp T.b__law_first .nil (fun _ _ _ => .nil) (da_cons (de_bin op_addA g2_add (de_var 2) (de_var 1)) da_nil)))
    (dss_one (ds_ret (de_tup (da_cons (de_str [97, 108, 108]) (da_cons (de_var 3) (da_cons (de_call ih hr T.m__law_outside T.F__law_outside.kp T.b__law_outside .nil (fun _ _ _ => .nil) (da_cons (de_ix (de_var 0) de_int) (da_cons (de_bin op_addA g2_add (de_lst (da_cons (de_var 3) da_nil)) (de_var 1)) (da_cons (de_var 2) da_nil)))) da_nil)))))))
    dss_nil)
    (dss_one (ds_ret (de_tup (da_cons (de_str [99, 111, 110]) (da_cons (de_ix (de_var 0) de_int) (da_cons (de_bty call_tuple_of gn_tuple T.z_tuple (by decide +kernel) (da_cons (de_comp (own := [("_law_one_here", 4)]) rfl sc__law_outside.nd (di_tup (de_ix (de_var 0) de_int)) (gok_name 4) (blk_by (N := ["_law_form", "_law_names", "_law_taken", "_law_new", "_law_one_here"]) (sc := defScope s__law_outside) (by decide +kernel)) (fun _ _ _ _ _ => (pg_name (i := 4) sc__law_outside.nd rfl (by first | exact Or.inl rfl | exact Or.inr rfl))) (fun _ _ _ _ _ => dts_nil) (fun _ _ _ _ _ => (de_call ih hr T.m__law_outside T.F__law_outside.kp T.b__law_outside .nil (fun _ _ _ => .nil) (da_cons (de_var 4) (da_cons (de_var 1) (da_cons (de_var 2) da_nil)))))) da_nil)) da_nil)))))))))
    exact ok.mono (by omega)
end
section
variable {P : Program} {w : World} {K : PySem.W.Frag} {mg : Str → Option Value} {base : Heap}
theorem o__law_frees (T : Top w K mg) : ∀ m : Nat, FnOk P w K mg base CX0 (m + 0) T.a__law_frees T.d__law_frees ["_law_form"] (spF K 1 (f__law_frees m))
  | 0 => fn_zero rfl
  | m + 1 => by
    have ih := o__law_frees T m
    have ok : FnOk P w K mg base CX0 (m + 0 + 1) T.a__law_frees T.d__law_frees ["_law_form"] (spF K 1 (fdef 4 (b__law_frees (f__law_frees m)))) := fn_denD T.F__law_frees sc__law_frees fun cdv A outer s H E hr =>
    (dss_cons (ds_if (dt_cmp (op_eqM hr) g2_eq (de_ix (de_var 0) de_int) (de_str [118, 97, 114]))
    (dss_one (ds_ret (de_lst (da_cons (de_ix (de_var 0) de_int) da_nil))))
    dss_nil)
    (dss_cons (ds_set 1 sc__law_frees.nd (de_lst da_nil))
    (dss_cons (ds_for PassesOwn.never rfl (di_lt (de_ix (de_lst (da_cons (de_lst da_nil) (da_cons (de_lst (da_cons (de_ix (de_var 0) de_int) da_nil)) (da_cons (de_ix (de_var 0) (de_neg de_int)) da_nil)))) (de_index (de_lst (da_cons (de_str [97, 116]) (da_cons (de_str [97, 108, 108]) (da_cons (de_str [99, 111, 110]) da_nil)))) (de_ix (de_var 0) de_int)))) (pg_name (i := 2) sc__law_frees.nd rfl (by first | exact Or.inl rfl | exact Or.inr rfl)) (gok_name 2)
    (dss_one (ds_set 1 sc__law_frees.nd (de_bin op_addA g2_add (de_var 1) (de_comp (own := [("_law_name", 3)]) rfl sc__law_frees.nd (di_list (de_call ih hr T.m__law_frees T.F__law_frees.kp T.b__law_frees .nil (fun _ _ _ => .nil) (da_cons (de_var 2) da_nil))) (gok_name 3) (blk_by (N := ["_law_form", "_law_rows", "_law_one_here", "_law_name"]) (sc := defScope s__law_frees) (by decide +kernel)) (fun _ _ _ _ _ => (pg_name (i := 3) sc__law_frees.nd rfl (by first | exact Or.inl rfl | exact Or.inr rfl))) (fun _ _ _ _ _ => (dts_one (dt_cmp op_notInA g2_notIn (de_var 3) (de_var 1)))) (fun _ _ _ _ _ => (de_var 3)))))))
    (dss_one (ds_ret (de_var 1))))))
    exact ok.mono (by omega)
end
section
variable {P : Program} {w : World} {K : PySem.W.Frag} {mg : Str → Option Value} {base : Heap}
theorem o__law_plain (T : Top w K mg) : FnOk P w K mg base CX0 32 T.a__law_plain T.d__law_plain ["_law_kind_here"] (spF K 1 f__law_plain) := fn_denD T.F__law_plain sc__law_plain fun cdv A outer s H E hr =>
    (dss_cons (ds_set 1 sc__law_plain.nd (de_call (o__law_inside T 30) (hr.mono (by omega)) T.m__law_inside T.F__law_inside.kp T.b__law_inside .nil (fun _ _ _ => .nil) (da_cons (de_var 0) (da_cons (de_lst da_nil) da_nil))))
    (dss_one (ds_ret (de_call (o__law_outside T 30) (hr.mono (by omega)) T.m__law_outside T.F__law_outside.kp T.b__law_outside .nil (fun _ _ _ => .nil) (da_cons (de_var 1) (da_cons (de_lst da_nil) (da_cons (de_call (o__law_frees T 30) (hr.mono (by omega)) T.m__law_frees T.F__law_frees.kp T.b__law_frees .nil (fun _ _ _ => .nil) (da_cons (de_var 1) da_nil)) da_nil)))))))
end
end Fro

namespace Fro
open PySem PySem.Spec L2
section
variable {P : Program} {w : World} {K : PySem.W.Frag} {mg : Str → Option Value} {base : Heap}
theorem o_free (T : Top w K mg) : FnOk P w K mg base CX0 33 T.a_free T.d_free ["kind"] (spF K 1 f_free) := fn_denD T.F_free sc_free fun cdv A outer s H E hr =>
    (dss_cons (ds_expr (de_call (o_want_kind T) (hr.mono (by omega)) T.m_want_kind T.F_want_kind.kp T.b_want_kind .nil (fun _ _ _ => .nil) (da_cons (de_var 0) da_nil)))
    (dss_one (ds_ret (de_callM (o_free_of T 30) (hr.mono (by omega)) T.m_free_of T.F_free_of.kp T.bd1_free_of T.vd1_free_of T.wd1_free_of (da_cons (de_var 0) da_nil)))))
end
section
variable {P : Program} {w : World} {K : PySem.W.Frag} {mg : Str → Option Value} {base : Heap}
theorem o__law_right (T : Top w K mg) : FnOk P w K mg base CX0 64 T.a__law_right T.d__law_right ["_law_kind_here"] (spF K 1 f__law_right) := fn_denD T.F__law_right sc__law_right fun cdv A outer s H E hr =>
    (dss_cons (ds_set 1 sc__law_right.nd (de_call (o__law_plain T) (hr.mono (by omega)) T.m__law_plain T.F__law_plain.kp T.b__law_plain .nil (fun _ _ _ => .nil) (da_cons (de_var 0) da_nil)))
    (dss_one (ds_ret (de_and (de_cmp (op_eqM hr) g2_eq (de_call (o_plain T) (hr.mono (by omega)) T.m_plain T.F_plain.kp T.b_plain .nil (fun _ _ _ => .nil) (da_cons (de_var 0) da_nil)) (de_var 1)) (de_and (de_cmp (op_eqM hr) g2_eq (de_call (o_plain T) (hr.mono (by omega)) T.m_plain T.F_plain.kp T.b_plain .nil (fun _ _ _ => .nil) (da_cons (de_var 1) da_nil)) (de_var 1)) (de_one (de_cmp (op_eqM hr) g2_eq (de_call (o_free T) (hr.mono (by omega)) T.m_free T.F_free.kp T.b_free .nil (fun _ _ _ => .nil) (da_cons (de_var 1) da_nil)) (de_call (o__law_frees T 30) (hr.mono (by omega)) T.m__law_frees T.F__law_frees.kp T.b__law_frees .nil (fun _ _ _ => .nil) (da_cons (de_call (o__law_inside T 30) (hr.mono (by omega)) T.m__law_inside T.F__law_inside.kp T.b__law_inside .nil (fun _ _ _ => .nil) (da_cons (de_var 0) (da_cons (de_lst da_nil) da_nil))) da_nil)))))))))
end
section
variable {P : Program} {w : World} {K : PySem.W.Frag} {mg : Str → Option Value} {base : Heap}
theorem o__law_next (T : Top w K mg) : FnOk P w K mg base CX0 1 T.a__law_next T.d__law_next ["_law_source", "_law_many"] (spF K 2 f__law_next) := fn_denD T.F__law_next sc__law_next fun cdv A outer s H E hr =>
    (dss_cons (ds_if (dt_cmp op_gt g2_gt (de_ix (de_var 0) de_int) de_int)
    (dss_cons (ds_set 2 sc__law_next.nd (de_bin op_mod g2_mod (de_bty call_int1 gn_int T.z_int (by decide +kernel) (da_cons (de_ix (de_var 0) de_int) da_nil)) (de_var 1)))
    (dss_cons (ds_asg (de_bin op_fdiv g2_div (de_ix (de_var 0) de_int) (de_var 1)) (pg_sub (de_var 0) de_int set_list) gok_sub)
    (dss_one (ds_ret (de_var 2)))))
    dss_nil)
    (dss_cons (ds_asg (de_bin op_addA g2_add (de_ix (de_var 0) de_int) de_int) (pg_sub (de_var 0) de_int set_list) gok_sub)
    (dss_cons (ds_set 3 sc__law_next.nd de_int)
    (dss_cons (ds_set 4 sc__law_next.nd (de_bin op_mod g2_mod (de_bty call_int1 gn_int T.z_int (by decide +kernel) (da_cons (de_bin op_addA g2_add (de_bin op_addA g2_add (de_ix (de_var 0) de_int) (de_bin op_mulA g2_mul de_int (de_ix (de_var 0) de_int))) de_int) da_nil)) (de_var 3)))
    (dss_cons (ds_set 4 sc__law_next.nd (de_bin op_mod g2_mod (de_bty call_int1 gn_int T.z_int (by decide +kernel) (da_cons (de_bin op_mulA g2_mul (de_var 4) de_int) da_nil)) (de_var 3)))
    (dss_cons (ds_set 4 sc__law_next.nd (de_bin op_mod g2_mod (de_bty call_int1 gn_int T.z_int (by decide +kernel) (da_cons (de_bin op_mulA g2_mul (de_var 4) (de_bin op_addA g2_add (de_bin op_fdiv g2_div (de_var 4) de_int) de_int)) da_nil)) (de_var 3)))
    (dss_cons (ds_set 4 sc__law_next.nd (de_bin op_mod g2_mod (de_bty call_int1 gn_int T.z_int (by decide +kernel) (da_cons (de_bin op_mulA g2_mul (de_var 4) (de_bin op_addA g2_add (de_bin op_fdiv g2_div (de_var 4) de_int) de_int)) da_nil)) de_int))
    (dss_one (ds_ret (de_bin op_mod g2_mod (de_bty call_int1 gn_int T.z_int (by decide +kernel) (da_cons (de_bin op_fdiv g2_div (de_var 4) de_int) da_nil)) (de_var 1)))))))))))
end
section
variable {P : Program} {w : World} {K : PySem.W.Frag} {mg : Str → Option Value} {base : Heap}
theorem o__law_one (T : Top w K mg) : FnOk P w K mg base CX0 2 T.a__law_one T.d__law_one ["_law_source", "_law_some"] (spF K 2 f__law_one) := fn_denD T.F__law_one sc__law_one fun cdv A outer s H E hr =>
    (dss_one (ds_ret (de_ix (de_var 1) (de_call (o__law_next T) (hr.mono (by omega)) T.m__law_next T.F__law_next.kp T.b__law_next .nil (fun _ _ _ => .nil) (da_cons (de_var 0) (da_cons (de_len T.z_len (da_cons (de_var 1) da_nil)) da_nil))))))
end
end Fro

namespace Fro
open PySem PySem.Spec L2
section
variable {P : Program} {w : World} {K : PySem.W.Frag} {mg : Str → Option Value} {base : Heap}
theorem o__law_all_letters (T : Top w K mg) : FnOk P w K mg base CX0 3 T.a__law_all_letters T.d__law_all_letters ["_law_source"] (spF K 1 f__law_all_letters) := fn_denD T.F__law_all_letters sc__law_all_letters fun cdv A outer s H E hr =>
    (dss_cons (ds_set 1 sc__law_all_letters.nd (de_compM (own := [("_law_name", 2)]) rfl sc__law_all_letters.nd (di_str (de_slT (de_str [97, 98, 99, 100, 101, 102, 103, 104, 105, 106, 107, 108, 109, 110, 111, 112, 113, 114, 115, 116, 117, 118, 119, 120, 121, 122]) (dp_some (de_call (o__law_next T) (hr.mono (by omega)) T.m__law_next T.F__law_next.kp T.b__law_next .nil (fun _ _ _ => .nil) (da_cons (de_var 0) (da_cons de_int da_nil)))) dp_none)) (gok_name 2) (blk_by (N := ["_law_source", "_law_rows", "_law_name", "_law_turn", "_law_word", "_law_rest", "_law_k"]) (sc := defScope s__law_all_letters) (by decide +kernel)) (fun _ _ _ _ _ => (pg_name (i := 2) sc__law_all_letters.nd rfl (by first | exact Or.inl rfl | exact Or.inr rfl))) (fun _ _ _ _ _ => dts_nil) (fun _ _ _ _ _ => (de_tup (da_cons (de_str [118, 97, 114]) (da_cons (de_var 2) da_nil))))))
    (dss_cons (ds_expr (de_append (de_var 1) (de_tup (da_cons (de_str [97, 108, 108]) (da_cons (de_str [113]) (da_cons (de_tup (da_cons (de_str [97, 108, 108]) (da_cons (de_str [97, 97]) (da_cons (de_tup (da_cons (de_str [99, 111, 110]) (da_cons (de_str [84, 111]) (da_cons (de_tup (da_cons (de_tup (da_cons (de_str [118, 97, 114]) (da_cons (de_str [97, 97]) da_nil))) (da_cons (de_tup (da_cons (de_str [118, 97, 114]) (da_cons (de_str [113]) da_nil))) da_nil))) da_nil)))) da_nil)))) da_nil))))))
    (dss_cons (ds_for PassesOwn.never rfl (di_range T.z_range (da_cons de_int da_nil)) (pg_name (i := 3) sc__law_all_letters.nd rfl (by first | exact Or.inl rfl | exact Or.inr rfl)) (gok_name 3)
    (dss_cons (ds_asg (de_tup (da_cons (de_call (o__law_one T) (hr.mono (by omega)) T.m__law_one T.F__law_one.kp T.b__law_one .nil (fun _ _ _ => .nil) (da_cons (de_var 0) (da_cons (de_lst (da_cons (de_str [84, 111]) (da_cons (de_str [80, 97, 105, 114]) da_nil))) da_nil))) (da_cons (de_sl (de_var 1) (dp_some (de_bin op_sub g2_sub (de_len T.z_len (da_cons (de_var 1) da_nil)) (de_bin op_mod g2_mod (de_len T.z_len (da_cons (de_var 1) da_nil)) de_int))) dp_none) da_nil))) (pg_tup rfl (pgs_cons (pg_name (i := 4) sc__law_all_letters.nd rfl (by first | exact Or.inl rfl | exact Or.inr rfl)) (pgs_cons (pg_name (i := 5) sc__law_all_letters.nd rfl (by first | exact Or.inl rfl | exact Or.inr rfl)) pgs_nil))) (gok_tup (gsok_cons (gok_name 4) (gsok_cons (gok_name 5) gsok_nil))))
    (dss_cons (ds_set 1 sc__law_all_letters.nd (de_catM (de_comp (own := [("_law_k", 6)]) rfl sc__law_all_letters.nd (di_range3 T.z_range (da_cons de_int (da_cons (de_bin op_sub g2_sub (de_len T.z_len (da_cons (de_var 1) da_nil)) de_int) (da_cons de_int da_nil)))) (gok_name 6) (blk_by (N := ["_law_source", "_law_rows", "_law_name", "_law_turn", "_law_word", "_law_rest", "_law_k"]) (sc := defScope s__law_all_letters) (by decide +kernel)) (fun _ _ _ _ _ => (pg_name (i := 6) sc__law_all_letters.nd rfl (by first | exact Or.inl rfl | exact Or.inr rfl))) (fun _ _ _ _ _ => dts_nil) (fun _ _ _ _ _ => (de_tup (da_cons (de_str [99, 111, 110]) (da_cons (de_var 4) (da_cons (de_tup (da_cons (de_ix (de_var 1) (de_var 6)) (da_cons (de_ix (de_var 1) (de_bin op_addA g2_add (de_var 6) de_int)) da_nil))) da_nil)))))) (de_var 5)))
    (dss_one (ds_if (dt_cmp (op_eqM hr) g2_eq (de_call (o__law_next T) (hr.mono (by omega)) T.m__law_next T.F__law_next.kp T.b__law_next .nil (fun _ _ _ => .nil) (da_cons (de_var 0) (da_cons de_int da_nil))) de_int)
    (dss_one (ds_asg (de_tup (da_cons (de_str [97, 108, 108]) (da_cons (de_call (o__law_one T) (hr.mono (by omega)) T.m__law_one T.F__law_one.kp T.b__law_one .nil (fun _ _ _ => .nil) (da_cons (de_var 0) (da_cons (de_lst (da_cons (de_str [122, 122]) (da_cons (de_str [97, 98]) (da_cons (de_str [113]) da_nil)))) da_nil))) (da_cons (de_ix (de_var 1) de_int) da_nil)))) (pg_sub (de_var 1) de_int set_list) gok_sub))
    dss_nil)))))
    (dss_one (ds_ret (de_ix (de_var 1) de_int))))))
end
section
variable {P : Program} {w : World} {K : PySem.W.Frag} {mg : Str → Option Value} {base : Heap}
theorem o__law_many_free (T : Top w K mg) : FnOk P w K mg base CX0 2 T.a__law_many_free T.d__law_many_free ["_law_source"] (spF K 1 f__law_many_free) := fn_denD T.F__law_many_free sc__law_many_free fun cdv A outer s H E hr =>
    (dss_cons (ds_set 1 sc__law_many_free.nd (de_str [97, 98, 99, 100, 101, 102, 103, 104, 105, 106, 107, 108, 109, 110, 111, 112, 113, 114, 115, 116, 117, 118, 119, 120, 121, 122]))
    (dss_cons (ds_set 2 sc__law_many_free.nd (de_sl (de_comp (own := [("_law_name", 3)]) rfl sc__law_many_free.nd (di_list (de_bin op_addA g2_add (de_bty (call_listA rfl) gn_list T.z_list (by decide +kernel) (da_cons (de_var 1) da_nil)) (de_comp (own := [("_law_other", 4)]) rfl sc__law_many_free.nd (di_str (de_var 1)) (gok_name 4) (blk_by (N := ["_law_source", "_law_signs", "_law_rows", "_law_name", "_law_other", "_law_turn", "_law_rest", "_law_k", "_law_inner"]) (sc := defScope s__law_many_free) (by decide +kernel)) (fun _ _ _ _ _ => (pg_name (i := 4) sc__law_many_free.nd rfl (by first | exact Or.inl rfl | exact Or.inr rfl))) (fun _ _ _ _ _ => dts_nil) (fun _ _ _ _ _ => (de_bin op_addA g2_add (de_str [97]) (de_var 4)))))) (gok_name 3) (blk_by (N := ["_law_source", "_law_signs", "_law_rows", "_law_name", "_law_other", "_law_turn", "_law_rest", "_law_k", "_law_inner"]) (sc := defScope s__law_many_free) (by decide +kernel)) (fun _ _ _ _ _ => (pg_name (i := 3) sc__law_many_free.nd rfl (by first | exact Or.inl rfl | exact Or.inr rfl))) (fun _ _ _ _ _ => dts_nil) (fun _ _ _ _ _ => (de_tup (da_cons (de_str [118, 97, 114]) (da_cons (de_var 3) da_nil))))) (dp_some (de_call (o__law_next T) (hr.mono (by omega)) T.m__law_next T.F__law_next.kp T.b__law_next .nil (fun _ _ _ => .nil) (da_cons (de_var 0) (da_cons de_int da_nil)))) dp_none))
    (dss_cons (ds_for PassesOwn.never rfl (di_range T.z_range (da_cons de_int da_nil)) (pg_name (i := 5) sc__law_many_free.nd rfl (by first | exact Or.inl rfl | exact Or.inr rfl)) (gok_name 5)
    (dss_cons (ds_set 6 sc__law_many_free.nd (de_sl (de_var 2) (dp_some (de_bin op_sub g2_sub (de_len T.z_len (da_cons (de_var 2) da_nil)) (de_bin op_mod g2_mod (de_len T.z_len (da_cons (de_var 2) da_nil)) de_int))) dp_none))
    (dss_one (ds_set 2 sc__law_many_free.nd (de_bin op_addA g2_add (de_comp (own := [("_law_k", 7)]) rfl sc__law_many_free.nd (di_range3 T.z_range (da_cons de_int (da_cons (de_bin op_sub g2_sub (de_len T.z_len (da_cons (de_var 2) da_nil)) de_int) (da_cons de_int da_nil)))) (gok_name 7) (blk_by (N := ["_law_source", "_law_signs", "_law_rows", "_law_name", "_law_other", "_law_turn", "_law_rest", "_law_k", "_law_inner"]) (sc := defScope s__law_many_free) (by decide +kernel)) (fun _ _ _ _ _ => (pg_name (i := 7) sc__law_many_free.nd rfl (by first | exact Or.inl rfl | exact Or.inr rfl))) (fun _ _ _ _ _ => dts_nil) (fun _ _ _ _ _ => (de_tup (da_cons (de_str [99, 111, 110]) (da_cons (de_str [80, 97, 105, 114]) (da_cons (de_tup (da_cons (de_ix (de_var 2) (de_var 7)) (da_cons (de_ix (de_var 2) (de_bin op_addA g2_add (de_var 7) de_int)) da_nil))) da_nil)))))) (de_var 6))))))
    (dss_cons (ds_set 8 sc__law_many_free.nd (de_tup (da_cons (de_str [99, 111, 110]) (da_cons (de_str [84, 111]) (da_cons (de_tup (da_cons (de_tup (da_cons (de_str [118, 97, 114]) (da_cons (de_str [108, 111, 110, 103, 110, 97, 109, 101]) da_nil))) (da_cons (de_ix (de_var 2) de_int) da_nil))) da_nil)))))
    (dss_one (ds_ret (de_tup (da_cons (de_str [97, 108, 108]) (da_cons (de_str [108, 111, 110, 103, 110, 97, 109, 101]) (da_cons (de_tup (da_cons (de_str [99, 111, 110]) (da_cons (de_str [84, 111]) (da_cons (de_tup (da_cons (de_tup (da_cons (de_str [97, 108, 108]) (da_cons (de_str [111, 116, 104, 101, 114]) (da_cons (de_tup (da_cons (de_str [118, 97, 114]) (da_cons (de_str [111, 116, 104, 101, 114]) da_nil))) da_nil)))) (da_cons (de_var 8) da_nil))) da_nil)))) da_nil))))))))))
end
section
variable {P : Program} {w : World} {K : PySem.W.Frag} {mg : Str → Option Value} {base : Heap}
theorem o__law_kind (T : Top w K mg) : ∀ m : Nat, FnOk P w K mg base CX0 (m + 2) T.a__law_kind T.d__law_kind ["_law_source", "_law_deep_here", "_law_names"] (spF K 3 (f__law_kind m))
  | 0 => fn_zero rfl
  | m + 1 => by
    have ih := o__law_kind T m
    have ok : FnOk P w K mg base CX0 (m + 2 + 1) T.a__law_kind T.d__law_kind ["_law_source", "_law_deep_here", "_law_names"] (spF K 3 (fdef 5 (b__law_kind (f__law_kind m)))) := fn_denD T.F__law_kind sc__law_kind fun cdv A outer s H E hr =>
    (dss_cons (ds_set 3 sc__law_kind.nd (de_call (o__law_next T) (hr.mono (by omega)) T.m__law_next T.F__law_next.kp T.b__law_next .nil (fun _ _ _ => .nil) (da_cons (de_var 0) (da_cons de_int da_nil))))
    (dss_cons (ds_if (dw_or (dt_cmp (op_eqM hr) g2_eq (de_var 1) de_int) (dw_or1 (dt_cmp op_lt g2_lt (de_var 3) de_int))).pt
    (dss_cons (ds_if (dw_or (dt_cmp (op_eqM hr) g2_eq (de_var 3) de_int) (dw_or1 (dt_cmp (op_eqM hr) g2_eq (de_bin op_mod g2_mod (de_bty call_int1 gn_int T.z_int (by decide +kernel) (da_cons (de_var 3) da_nil)) de_int) de_int))).pt
    (dss_one (ds_ret (de_tup (da_cons (de_str [99, 111, 110]) (da_cons (de_call (o__law_one T) (hr.mono (by omega)) T.m__law_one T.F__law_one.kp T.b__law_one .nil (fun _ _ _ => .nil) (da_cons (de_var 0) (da_cons (de_lst (da_cons (de_str [73, 110, 116]) (da_cons (de_str [66, 111, 111, 108]) (da_cons (de_str [85, 110, 105, 116]) da_nil)))) da_nil))) (da_cons (de_tup da_nil) da_nil))))))
    dss_nil)
    (dss_one (ds_ret (de_tup (da_cons (de_str [118, 97, 114]) (da_cons (de_call (o__law_one T) (hr.mono (by omega)) T.m__law_one T.F__law_one.kp T.b__law_one .nil (fun _ _ _ => .nil) (da_cons (de_var 0) (da_cons (de_var 2) da_nil))) da_nil))))))
    dss_nil)
    (dss_cons (ds_if (dt_cmp op_lt g2_lt (de_var 3) de_int)
    (dss_one (ds_ret (de_tup (da_cons (de_str [97, 108, 108]) (da_cons (de_call (o__law_one T) (hr.mono (by omega)) T.m__law_one T.F__law_one.kp T.b__law_one .nil (fun _ _ _ => .nil) (da_cons (de_var 0) (da_cons (de_var 2) da_nil))) (da_cons (de_call ih hr T.m__law_kind T.F__law_kind.kp T.b__law_kind .nil (fun _ _ _ => .nil) (da_cons (de_var 0) (da_cons (de_bin op_sub g2_sub (de_var 1) de_int) (da_cons (de_var 2) da_nil)))) da_nil))))))
    dss_nil)
    (dss_cons (ds_if (dt_cmp (op_eqM hr) g2_eq (de_var 3) de_int)
    (dss_one (ds_ret (de_tup (da_cons (de_str [99, 111, 110]) (da_cons (de_str [76, 105, 115, 116]) (da_cons (de_tup (da_cons (de_call ih hr T.m__law_kind T.F__law_kind.kp T.b__law_kind .nil (fun _ _ _ => .nil) (da_cons (de_var 0) (da_cons (de_bin op_sub g2_sub (de_var 1) de_int) (da_cons (de_var 2) da_nil)))) da_nil)) da_nil))))))
    dss_nil)
    (dss_cons (ds_set 4 sc__law_kind.nd (de_call ih hr T.m__law_kind T.F__law_kind.kp T.b__law_kind .nil (fun _ _ _ => .nil) (da_cons (de_var 0) (da_cons (de_bin op_sub g2_sub (de_var 1) de_int) (da_cons (de_var 2) da_nil)))))
    (dss_one (ds_ret (de_tup (da_cons (de_str [99, 111, 110]) (da_cons (de_call (o__law_one T) (hr.mono (by omega)) T.m__law_one T.F__law_one.kp T.b__law_one .nil (fun _ _ _ => .nil) (da_cons (de_var 0) (da_cons (de_lst (da_cons (de_str [84, 111]) (da_cons (de_str [80, 97, 105, 114]) (da_cons (de_str [84, 111]) da_nil)))) da_nil))) (da_cons (de_tup (da_cons (de_var 4) (da_cons (de_call ih hr T.m__law_kind T.F__law_kind.kp T.b__law_kind .nil (fun _ _ _ => .nil) (da_cons (de_var 0) (da_cons (de_bin op_sub g2_sub (de_var 1) de_int) (da_cons (de_var 2) da_nil)))) da_nil))) da_nil)))))))))))
    exact ok.mono (by omega)
end
section
variable {P : Program} {w : World} {K : PySem.W.Frag} {mg : Str → Option Value} {base : Heap}
theorem o__law_deep (T : Top w K mg) : FnOk P w K mg base CX0 3 T.a__law_deep T.d__law_deep ["_law_source", "_law_names"] (spF K 2 f__law_deep) := fn_denD T.F__law_deep sc__law_deep fun cdv A outer s H E hr =>
    (dss_cons (ds_set 2 sc__law_deep.nd (de_tup (da_cons (de_str [118, 97, 114]) (da_cons (de_call (o__law_one T) (hr.mono (by omega)) T.m__law_one T.F__law_one.kp T.b__law_one .nil (fun _ _ _ => .nil) (da_cons (de_var 0) (da_cons (de_var 1) da_nil))) da_nil))))
    (dss_cons (ds_for PassesOwn.never rfl (di_range T.z_range (da_cons (de_bin op_addA g2_add de_int (de_call (o__law_next T) (hr.mono (by omega)) T.m__law_next T.F__law_next.kp T.b__law_next .nil (fun _ _ _ => .nil) (da_cons (de_var 0) (da_cons de_int da_nil)))) da_nil)) (pg_name (i := 3) sc__law_deep.nd rfl (by first | exact Or.inl rfl | exact Or.inr rfl)) (gok_name 3)
    (dss_cons (ds_set 4 sc__law_deep.nd (de_call (o__law_one T) (hr.mono (by omega)) T.m__law_one T.F__law_one.kp T.b__law_one .nil (fun _ _ _ => .nil) (da_cons (de_var 0) (da_cons (de_var 1) da_nil))))
    (dss_cons (ds_set 2 sc__law_deep.nd (de_tup (da_cons (de_str [97, 108, 108]) (da_cons (de_var 4) (da_cons (de_var 2) da_nil)))))
    (dss_one (ds_if (dt_cmp (op_eqM hr) g2_eq (de_bin op_mod g2_mod (de_bty call_int1 gn_int T.z_int (by decide +kernel) (da_cons (de_var 3) da_nil)) de_int) de_int)
    (dss_one (ds_set 2 sc__law_deep.nd (de_tup (da_cons (de_str [99, 111, 110]) (da_cons (de_str [84, 111]) (da_cons (de_tup (da_cons (de_var 2) (da_cons (de_tup (da_cons (de_str [118, 97, 114]) (da_cons (de_call (o__law_one T) (hr.mono (by omega)) T.m__law_one T.F__law_one.kp T.b__law_one .nil (fun _ _ _ => .nil) (da_cons (de_var 0) (da_cons (de_var 1) da_nil))) da_nil))) da_nil))) da_nil))))))
    dss_nil)))))
    (dss_one (ds_ret (de_var 2)))))
end
end Fro

namespace Fro
open PySem PySem.Spec L2
section
variable {P : Program} {w : World} {K : PySem.W.Frag} {mg : Str → Option Value} {base : Heap}
theorem o_law (T : Top w K mg) : FnOk P w K mg base CX0 65 T.a_law T.d_law ["_law_script"] (spF K 1 f_law) := fn_denD T.F_law sc_law fun cdv A outer s H E hr =>
    (dss_cons (ds_for PassesOwn.never rfl (di_range T.z_range (da_cons (de_blt (call_max2 rfl) gn_max2 T.z_max (by decide +kernel) (da_cons de_int (da_cons (de_blt (call_min2 rfl) gn_min2 T.z_min (by decide +kernel) (da_cons de_int (da_cons (de_len T.z_len (da_cons (de_var 0) da_nil)) da_nil))) da_nil))) da_nil)) (pg_name (i := 1) sc_law.nd rfl (by first | exact Or.inl rfl | exact Or.inr rfl)) (gok_name 1)
    (dss_cons (ds_set 2 sc_law.nd (de_callM (o__law_source_of T) (hr.mono (by omega)) T.m__law_source_of T.F__law_source_of.kp T.b__law_source_of .nil (fun _ _ _ => .nil) (da_cons (de_call (o__law_cell_at T) (hr.mono (by omega)) T.m__law_cell_at T.F__law_cell_at.kp T.b__law_cell_at .nil (fun _ _ _ => .nil) (da_cons (de_var 0) (da_cons (de_var 1) da_nil))) da_nil)))
    (dss_cons (ds_for PassesOwn.never rfl (di_range T.z_range (da_cons de_int da_nil)) (pg_name (i := 3) sc_law.nd rfl (by first | exact Or.inl rfl | exact Or.inr rfl)) (gok_name 3)
    (dss_cons (ds_set 4 sc_law.nd (de_sl (de_lst (da_cons (de_str [97]) (da_cons (de_str [98]) (da_cons (de_str [99]) (da_cons (de_str [100]) (da_cons (de_str [108, 111, 110, 103, 110, 97, 109, 101]) (da_cons (de_str [122]) (da_cons (de_str [97, 97]) da_nil)))))))) (dp_some (de_call (o__law_next T) (hr.mono (by omega)) T.m__law_next T.F__law_next.kp T.b__law_next .nil (fun _ _ _ => .nil) (da_cons (de_var 2) (da_cons de_int da_nil)))) dp_none))
    (dss_one (ds_if (dw_or (dt_not (dt_val (de_call (o__law_right T) (hr.mono (by omega)) T.m__law_right T.F__law_right.kp T.b__law_right .nil (fun _ _ _ => .nil) (da_cons (de_call (o__law_kind T 7) (hr.mono (by omega)) T.m__law_kind T.F__law_kind.kp T.b__law_kind .nil (fun _ _ _ => .nil) (da_cons (de_var 2) (da_cons de_int (da_cons (de_var 4) da_nil)))) da_nil)))) (dw_or1 (dt_not (dt_val (de_call (o__law_right T) (hr.mono (by omega)) T.m__law_right T.F__law_right.kp T.b__law_right .nil (fun _ _ _ => .nil) (da_cons (de_call (o__law_deep T) (hr.mono (by omega)) T.m__law_deep T.F__law_deep.kp T.b__law_deep .nil (fun _ _ _ => .nil) (da_cons (de_var 2) (da_cons (de_var 4) da_nil))) da_nil)))))).pt
    (dss_one (ds_ret de_bl))
    dss_nil))))
    (dss_one (ds_if (dw_or (dt_not (dt_val (de_call (o__law_right T) (hr.mono (by omega)) T.m__law_right T.F__law_right.kp T.b__law_right .nil (fun _ _ _ => .nil) (da_cons (de_call (o__law_all_letters T) (hr.mono (by omega)) T.m__law_all_letters T.F__law_all_letters.kp T.b__law_all_letters .nil (fun _ _ _ => .nil) (da_cons (de_var 2) da_nil)) da_nil)))) (dw_or1 (dt_not (dt_val (de_call (o__law_right T) (hr.mono (by omega)) T.m__law_right T.F__law_right.kp T.b__law_right .nil (fun _ _ _ => .nil) (da_cons (de_call (o__law_many_free T) (hr.mono (by omega)) T.m__law_many_free T.F__law_many_free.kp T.b__law_many_free .nil (fun _ _ _ => .nil) (da_cons (de_var 2) da_nil)) da_nil)))))).pt
    (dss_one (ds_ret de_bl))
    dss_nil)))))
    (dss_cons (ds_set 5 sc_law.nd (de_tup (da_cons (de_str [97, 108, 108]) (da_cons (de_str [120]) (da_cons (de_tup (da_cons (de_str [99, 111, 110]) (da_cons (de_str [84, 111]) (da_cons (de_tup (da_cons (de_tup (da_cons (de_str [97, 108, 108]) (da_cons (de_str [120]) (da_cons (de_tup (da_cons (de_str [118, 97, 114]) (da_cons (de_str [120]) da_nil))) da_nil)))) (da_cons (de_tup (da_cons (de_str [99, 111, 110]) (da_cons (de_str [84, 111]) (da_cons (de_tup (da_cons (de_tup (da_cons (de_str [118, 97, 114]) (da_cons (de_str [120]) da_nil))) (da_cons (de_tup (da_cons (de_str [118, 97, 114]) (da_cons (de_str [97]) da_nil))) da_nil))) da_nil)))) da_nil))) da_nil)))) da_nil)))))
    (dss_cons (ds_set 6 sc_law.nd (de_tup (da_cons (de_str [97, 108, 108]) (da_cons (de_str [98]) (da_cons (de_tup (da_cons (de_str [99, 111, 110]) (da_cons (de_str [84, 111]) (da_cons (de_tup (da_cons (de_tup (da_cons (de_str [97, 108, 108]) (da_cons (de_str [99]) (da_cons (de_tup (da_cons (de_str [118, 97, 114]) (da_cons (de_str [99]) da_nil))) da_nil)))) (da_cons (de_tup (da_cons (de_str [99, 111, 110]) (da_cons (de_str [84, 111]) (da_cons (de_tup (da_cons (de_tup (da_cons (de_str [118, 97, 114]) (da_cons (de_str [98]) da_nil))) (da_cons (de_tup (da_cons (de_str [118, 97, 114]) (da_cons (de_str [97]) da_nil))) da_nil))) da_nil)))) da_nil))) da_nil)))) da_nil)))))
    (dss_one (ds_ret (de_cmp (op_eqM hr) g2_eq (de_call (o_plain T) (hr.mono (by omega)) T.m_plain T.F_plain.kp T.b_plain .nil (fun _ _ _ => .nil) (da_cons (de_var 5) da_nil)) (de_var 6)))))))
end
end Fro

namespace Fro
open PySem PySem.Spec L2
theorem all_mk {l : PySem.W.OpenLaw} {w : World} {K : PySem.W.Frag} {h : Heap} {mg : Str → Option Value} {fa : Addr} (X : K.In h) (G : h.Ns mainGlobals mg) (hfa : mg "law" = some (.ref fa))
    {u_BARRED : Value}
    {u_MOST_SIGNS : Value}
    {u_LETTERS : Value}
    {u_MARK : Value}
    {t_WORDS : Addr} {es_WORDS : Array DictEntry} {n_WORDS : Nat}
    {ad__law_source_of : Addr} {od__law_source_of an__law_source_of : Option Addr} {sl__law_source_of : Array (Option Value)} {oc__law_source_of kV__law_source_of dc__law_source_of pm__law_source_of cd__law_source_of ct__law_source_of : Value}
    {ad_is_name : Addr} {od_is_name an_is_name : Option Addr} {sl_is_name : Array (Option Value)} {oc_is_name kV_is_name dc_is_name pm_is_name cd_is_name ct_is_name : Value}
    {ad_is_kind : Addr} {od_is_kind an_is_kind : Option Addr} {sl_is_kind : Array (Option Value)} {oc_is_kind kV_is_kind dc_is_kind pm_is_kind cd_is_kind ct_is_kind : Value}
    {ad_want_kind : Addr} {od_want_kind an_want_kind : Option Addr} {sl_want_kind : Array (Option Value)} {oc_want_kind kV_want_kind dc_want_kind pm_want_kind cd_want_kind ct_want_kind : Value}
    {ad_letter : Addr} {od_letter an_letter : Option Addr} {sl_letter : Array (Option Value)} {oc_letter kV_letter dc_letter pm_letter cd_letter ct_letter : Value}
    {ad_first_letters : Addr} {od_first_letters an_first_letters : Option Addr} {sl_first_letters : Array (Option Value)} {oc_first_letters kV_first_letters dc_first_letters pm_first_letters cd_first_letters ct_first_letters : Value}
    {ad_exchange : Addr} {od_exchange an_exchange : Option Addr} {sl_exchange : Array (Option Value)} {oc_exchange kV_exchange dc_exchange pm_exchange cd_exchange ct_exchange : Value}
    {ad_relettered : Addr} {od_relettered an_relettered : Option Addr} {sl_relettered : Array (Option Value)} {oc_relettered kV_relettered dc_relettered pm_relettered cd_relettered ct_relettered : Value}
    {ad_free_of : Addr} {od_free_of an_free_of : Option Addr} {sl_free_of : Array (Option Value)} {oc_free_of kV_free_of dc_free_of pm_free_of cd_free_of ct_free_of : Value}
    {T_free_of : Addr} {tn_free_of : Nat} {tc_free_of : Value} {td_free_of : Option Addr} {tl_free_of : Array (Option Value)} {dv0_free_of : Value}
    {ad_marked_from : Addr} {od_marked_from an_marked_from : Option Addr} {sl_marked_from : Array (Option Value)} {oc_marked_from kV_marked_from dc_marked_from pm_marked_from cd_marked_from ct_marked_from : Value}
    {ad_numbers_in : Addr} {od_numbers_in an_numbers_in : Option Addr} {sl_numbers_in : Array (Option Value)} {oc_numbers_in kV_numbers_in dc_numbers_in pm_numbers_in cd_numbers_in ct_numbers_in : Value}
    {ad_marked : Addr} {od_marked an_marked : Option Addr} {sl_marked : Array (Option Value)} {oc_marked kV_marked dc_marked pm_marked cd_marked ct_marked : Value}
    {T_marked : Addr} {tn_marked : Nat} {tc_marked : Value} {td_marked : Option Addr} {tl_marked : Array (Option Value)} {dv0_marked : Value}
    {ad_plain_of : Addr} {od_plain_of an_plain_of : Option Addr} {sl_plain_of : Array (Option Value)} {oc_plain_of kV_plain_of dc_plain_of pm_plain_of cd_plain_of ct_plain_of : Value}
    {ad_plain : Addr} {od_plain an_plain : Option Addr} {sl_plain : Array (Option Value)} {oc_plain kV_plain dc_plain pm_plain cd_plain ct_plain : Value}
    {ad__law_cell_at : Addr} {od__law_cell_at an__law_cell_at : Option Addr} {sl__law_cell_at : Array (Option Value)} {oc__law_cell_at kV__law_cell_at dc__law_cell_at pm__law_cell_at cd__law_cell_at ct__law_cell_at : Value}
    {ad__law_inside : Addr} {od__law_inside an__law_inside : Option Addr} {sl__law_inside : Array (Option Value)} {oc__law_inside kV__law_inside dc__law_inside pm__law_inside cd__law_inside ct__law_inside : Value}
    {ad__law_first : Addr} {od__law_first an__law_first : Option Addr} {sl__law_first : Array (Option Value)} {oc__law_first kV__law_first dc__law_first pm__law_first cd__law_first ct__law_first : Value}
    {ad__law_outside : Addr} {od__law_outside an__law_outside : Option Addr} {sl__law_outside : Array (Option Value)} {oc__law_outside kV__law_outside dc__law_outside pm__law_outside cd__law_outside ct__law_outside : Value}
    {ad__law_frees : Addr} {od__law_frees an__law_frees : Option Addr} {sl__law_frees : Array (Option Value)} {oc__law_frees kV__law_frees dc__law_frees pm__law_frees cd__law_frees ct__law_frees : Value}
    {ad__law_plain : Addr} {od__law_plain an__law_plain : Option Addr} {sl__law_plain : Array (Option Value)} {oc__law_plain kV__law_plain dc__law_plain pm__law_plain cd__law_plain ct__law_plain : Value}
    {ad_free : Addr} {od_free an_free : Option Addr} {sl_free : Array (Option Value)} {oc_free kV_free dc_free pm_free cd_free ct_free : Value}
    {ad__law_right : Addr} {od__law_right an__law_right : Option Addr} {sl__law_right : Array (Option Value)} {oc__law_right kV__law_right dc__law_right pm__law_right cd__law_right ct__law_right : Value}
    {ad__law_next : Addr} {od__law_next an__law_next : Option Addr} {sl__law_next : Array (Option Value)} {oc__law_next kV__law_next dc__law_next pm__law_next cd__law_next ct__law_next : Value}
    {ad__law_one : Addr} {od__law_one an__law_one : Option Addr} {sl__law_one : Array (Option Value)} {oc__law_one kV__law_one dc__law_one pm__law_one cd__law_one ct__law_one : Value}
    {ad__law_all_letters : Addr} {od__law_all_letters an__law_all_letters : Option Addr} {sl__law_all_letters : Array (Option Value)} {oc__law_all_letters kV__law_all_letters dc__law_all_letters pm__law_all_letters cd__law_all_letters ct__law_all_letters : Value}
    {ad__law_many_free : Addr} {od__law_many_free an__law_many_free : Option Addr} {sl__law_many_free : Array (Option Value)} {oc__law_many_free kV__law_many_free dc__law_many_free pm__law_many_free cd__law_many_free ct__law_many_free : Value}
    {ad__law_kind : Addr} {od__law_kind an__law_kind : Option Addr} {sl__law_kind : Array (Option Value)} {oc__law_kind kV__law_kind dc__law_kind pm__law_kind cd__law_kind ct__law_kind : Value}
    {ad__law_deep : Addr} {od__law_deep an__law_deep : Option Addr} {sl__law_deep : Array (Option Value)} {oc__law_deep kV__law_deep dc__law_deep pm__law_deep cd__law_deep ct__law_deep : Value}
    {ad_law : Addr} {od_law an_law : Option Addr} {sl_law : Array (Option Value)} {oc_law kV_law dc_law pm_law cd_law ct_law : Value}
    (z_all : PySem.W.nsIn K mainGlobals "all" = some none)
    (z_int : PySem.W.nsIn K mainGlobals "int" = some none)
    (z_isinstance : PySem.W.nsIn K mainGlobals "isinstance" = some none)
    (z_len : PySem.W.nsIn K mainGlobals "len" = some none)
    (z_list : PySem.W.nsIn K mainGlobals "list" = some none)
    (z_max : PySem.W.nsIn K mainGlobals "max" = some none)
    (z_min : PySem.W.nsIn K mainGlobals "min" = some none)
    (z_range : PySem.W.nsIn K mainGlobals "range" = some none)
    (z_str : PySem.W.nsIn K mainGlobals "str" = some none)
    (z_tuple : PySem.W.nsIn K mainGlobals "tuple" = some none)
    (a_BARRED : PySem.W.nsIn K mainGlobals "BARRED" = some (some u_BARRED))
    (c_BARRED : kdV 8 K u_BARRED k_BARRED = true)
    (a_MOST_SIGNS : PySem.W.nsIn K mainGlobals "MOST_SIGNS" = some (some u_MOST_SIGNS))
    (c_MOST_SIGNS : kdV 8 K u_MOST_SIGNS k_MOST_SIGNS = true)
    (a_LETTERS : PySem.W.nsIn K mainGlobals "LETTERS" = some (some u_LETTERS))
    (c_LETTERS : kdV 8 K u_LETTERS k_LETTERS = true)
    (a_MARK : PySem.W.nsIn K mainGlobals "MARK" = some (some u_MARK))
    (c_MARK : kdV 8 K u_MARK k_MARK = true)
    (a_WORDS : PySem.W.nsIn K mainGlobals "WORDS" = some (some (.ref t_WORDS)))
    (l_WORDS : K.lookup t_WORDS = some ⟨.type "dict", none, .dict es_WORDS n_WORDS, #[]⟩)
    (y_WORDS : PySem.W.KeysLit w.params es_WORDS.toList)
    (o_WORDS : (t_WORDS == sysModules) = false)
    (e_WORDS : kdE 8 K es_WORDS.toList tbl_WORDS = true)
    (a__law_source_of : PySem.W.nsIn K mainGlobals "_law_source_of" = some (some (.ref ad__law_source_of)))
    (l__law_source_of : K.lookup ad__law_source_of = some ⟨oc__law_source_of, od__law_source_of, .func (PySem.W.fnOf "_law_source_of" "_law_source_of" (defArgs s__law_source_of) (defBody s__law_source_of) (defScope s__law_source_of) .none kV__law_source_of dc__law_source_of pm__law_source_of an__law_source_of cd__law_source_of ct__law_source_of), sl__law_source_of⟩)
    (c__law_source_of : PySem.W.codeIn K cd__law_source_of "_law_source_of" = true)
    (k__law_source_of : PySem.W.keepIn K (.ref ad__law_source_of) = true)
    (a_is_name : PySem.W.nsIn K mainGlobals "is_name" = some (some (.ref ad_is_name)))
    (l_is_name : K.lookup ad_is_name = some ⟨oc_is_name, od_is_name, .func (PySem.W.fnOf "is_name" "is_name" (defArgs s_is_name) (defBody s_is_name) (defScope s_is_name) .none kV_is_name dc_is_name pm_is_name an_is_name cd_is_name ct_is_name), sl_is_name⟩)
    (c_is_name : PySem.W.codeIn K cd_is_name "is_name" = true)
    (k_is_name : PySem.W.keepIn K (.ref ad_is_name) = true)
    (a_is_kind : PySem.W.nsIn K mainGlobals "is_kind" = some (some (.ref ad_is_kind)))
    (l_is_kind : K.lookup ad_is_kind = some ⟨oc_is_kind, od_is_kind, .func (PySem.W.fnOf "is_kind" "is_kind" (defArgs s_is_kind) (defBody s_is_kind) (defScope s_is_kind) .none kV_is_kind dc_is_kind pm_is_kind an_is_kind cd_is_kind ct_is_kind), sl_is_kind⟩)
    (c_is_kind : PySem.W.codeIn K cd_is_kind "is_kind" = true)
    (k_is_kind : PySem.W.keepIn K (.ref ad_is_kind) = true)
    (a_want_kind : PySem.W.nsIn K mainGlobals "want_kind" = some (some (.ref ad_want_kind)))
    (l_want_kind : K.lookup ad_want_kind = some ⟨oc_want_kind, od_want_kind, .func (PySem.W.fnOf "want_kind" "want_kind" (defArgs s_want_kind) (defBody s_want_kind) (defScope s_want_kind) .none kV_want_kind dc_want_kind pm_want_kind an_want_kind cd_want_kind ct_want_kind), sl_want_kind⟩)
    (c_want_kind : PySem.W.codeIn K cd_want_kind "want_kind" = true)
    (k_want_kind : PySem.W.keepIn K (.ref ad_want_kind) = true)
    (a_letter : PySem.W.nsIn K mainGlobals "letter" = some (some (.ref ad_letter)))
    (l_letter : K.lookup ad_letter = some ⟨oc_letter, od_letter, .func (PySem.W.fnOf "letter" "letter" (defArgs s_letter) (defBody s_letter) (defScope s_letter) .none kV_letter dc_letter pm_letter an_letter cd_letter ct_letter), sl_letter⟩)
    (c_letter : PySem.W.codeIn K cd_letter "letter" = true)
    (k_letter : PySem.W.keepIn K (.ref ad_letter) = true)
    (a_first_letters : PySem.W.nsIn K mainGlobals "first_letters" = some (some (.ref ad_first_letters)))
    (l_first_letters : K.lookup ad_first_letters = some ⟨oc_first_letters, od_first_letters, .func (PySem.W.fnOf "first_letters" "first_letters" (defArgs s_first_letters) (defBody s_first_letters) (defScope s_first_letters) .none kV_first_letters dc_first_letters pm_first_letters an_first_letters cd_first_letters ct_first_letters), sl_first_letters⟩)
    (c_first_letters : PySem.W.codeIn K cd_first_letters "first_letters" = true)
    (k_first_letters : PySem.W.keepIn K (.ref ad_first_letters) = true)
    (a_exchange : PySem.W.nsIn K mainGlobals "exchange" = some (some (.ref ad_exchange)))
    (l_exchange : K.lookup ad_exchange = some ⟨oc_exchange, od_exchange, .func (PySem.W.fnOf "exchange" "exchange" (defArgs s_exchange) (defBody s_exchange) (defScope s_exchange) .none kV_exchange dc_exchange pm_exchange an_exchange cd_exchange ct_exchange), sl_exchange⟩)
    (c_exchange : PySem.W.codeIn K cd_exchange "exchange" = true)
    (k_exchange : PySem.W.keepIn K (.ref ad_exchange) = true)
    (a_relettered : PySem.W.nsIn K mainGlobals "relettered" = some (some (.ref ad_relettered)))
    (l_relettered : K.lookup ad_relettered = some ⟨oc_relettered, od_relettered, .func (PySem.W.fnOf "relettered" "relettered" (defArgs s_relettered) (defBody s_relettered) (defScope s_relettered) .none kV_relettered dc_relettered pm_relettered an_relettered cd_relettered ct_relettered), sl_relettered⟩)
    (c_relettered : PySem.W.codeIn K cd_relettered "relettered" = true)
    (k_relettered : PySem.W.keepIn K (.ref ad_relettered) = true)
    (a_free_of : PySem.W.nsIn K mainGlobals "free_of" = some (some (.ref ad_free_of)))
    (l_free_of : K.lookup ad_free_of = some ⟨oc_free_of, od_free_of, .func (PySem.W.fnOf "free_of" "free_of" (defArgs s_free_of) (defBody s_free_of) (defScope s_free_of) (.ref T_free_of) kV_free_of dc_free_of pm_free_of an_free_of cd_free_of ct_free_of), sl_free_of⟩)
    (c_free_of : PySem.W.codeIn K cd_free_of "free_of" = true)
    (k_free_of : PySem.W.keepIn K (.ref ad_free_of) = true)
    (lT_free_of : K.lookup T_free_of = some ⟨tc_free_of, td_free_of, .seq #[dv0_free_of] tn_free_of, tl_free_of⟩)
    (ed0_free_of : kdV 8 K dv0_free_of (.tup []) = true)
    (a_marked_from : PySem.W.nsIn K mainGlobals "marked_from" = some (some (.ref ad_marked_from)))
    (l_marked_from : K.lookup ad_marked_from = some ⟨oc_marked_from, od_marked_from, .func (PySem.W.fnOf "marked_from" "marked_from" (defArgs s_marked_from) (defBody s_marked_from) (defScope s_marked_from) .none kV_marked_from dc_marked_from pm_marked_from an_marked_from cd_marked_from ct_marked_from), sl_marked_from⟩)
    (c_marked_from : PySem.W.codeIn K cd_marked_from "marked_from" = true)
    (k_marked_from : PySem.W.keepIn K (.ref ad_marked_from) = true)
    (a_numbers_in : PySem.W.nsIn K mainGlobals "numbers_in" = some (some (.ref ad_numbers_in)))
    (l_numbers_in : K.lookup ad_numbers_in = some ⟨oc_numbers_in, od_numbers_in, .func (PySem.W.fnOf "numbers_in" "numbers_in" (defArgs s_numbers_in) (defBody s_numbers_in) (defScope s_numbers_in) .none kV_numbers_in dc_numbers_in pm_numbers_in an_numbers_in cd_numbers_in ct_numbers_in), sl_numbers_in⟩)
    (c_numbers_in : PySem.W.codeIn K cd_numbers_in "numbers_in" = true)
    (k_numbers_in : PySem.W.keepIn K (.ref ad_numbers_in) = true)
    (a_marked : PySem.W.nsIn K mainGlobals "marked" = some (some (.ref ad_marked)))
    (l_marked : K.lookup ad_marked = some ⟨oc_marked, od_marked, .func (PySem.W.fnOf "marked" "marked" (defArgs s_marked) (defBody s_marked) (defScope s_marked) (.ref T_marked) kV_marked dc_marked pm_marked an_marked cd_marked ct_marked), sl_marked⟩)
    (c_marked : PySem.W.codeIn K cd_marked "marked" = true)
    (k_marked : PySem.W.keepIn K (.ref ad_marked) = true)
    (lT_marked : K.lookup T_marked = some ⟨tc_marked, td_marked, .seq #[dv0_marked] tn_marked, tl_marked⟩)
    (ed0_marked : kdV 8 K dv0_marked (.int 0) = true)
    (a_plain_of : PySem.W.nsIn K mainGlobals "plain_of" = some (some (.ref ad_plain_of)))
    (l_plain_of : K.lookup ad_plain_of = some ⟨oc_plain_of, od_plain_of, .func (PySem.W.fnOf "plain_of" "plain_of" (defArgs s_plain_of) (defBody s_plain_of) (defScope s_plain_of) .none kV_plain_of dc_plain_of pm_plain_of an_plain_of cd_plain_of ct_plain_of), sl_plain_of⟩)
    (c_plain_of : PySem.W.codeIn K cd_plain_of "plain_of" = true)
    (k_plain_of : PySem.W.keepIn K (.ref ad_plain_of) = true)
    (a_plain : PySem.W.nsIn K mainGlobals "plain" = some (some (.ref ad_plain)))
    (l_plain : K.lookup ad_plain = some ⟨oc_plain, od_plain, .func (PySem.W.fnOf "plain" "plain" (defArgs s_plain) (defBody s_plain) (defScope s_plain) .none kV_plain dc_plain pm_plain an_plain cd_plain ct_plain), sl_plain⟩)
    (c_plain : PySem.W.codeIn K cd_plain "plain" = true)
    (k_plain : PySem.W.keepIn K (.ref ad_plain) = true)
    (a__law_cell_at : PySem.W.nsIn K mainGlobals "_law_cell_at" = some (some (.ref ad__law_cell_at)))
    (l__law_cell_at : K.lookup ad__law_cell_at = some ⟨oc__law_cell_at, od__law_cell_at, .func (PySem.W.fnOf "_law_cell_at" "_law_cell_at" (defArgs s__law_cell_at) (defBody s__law_cell_at) (defScope s__law_cell_at) .none kV__law_cell_at dc__law_cell_at pm__law_cell_at an__law_cell_at cd__law_cell_at ct__law_cell_at), sl__law_cell_at⟩)
    (c__law_cell_at : PySem.W.codeIn K cd__law_cell_at "_law_cell_at" = true)
    (k__law_cell_at : PySem.W.keepIn K (.ref ad__law_cell_at) = true)
    (a__law_inside : PySem.W.nsIn K mainGlobals "_law_inside" = some (some (.ref ad__law_inside)))
    (l__law_inside : K.lookup ad__law_inside = some ⟨oc__law_inside, od__law_inside, .func (PySem.W.fnOf "_law_inside" "_law_inside" (defArgs s__law_inside) (defBody s__law_inside) (defScope s__law_inside) .none kV__law_inside dc__law_inside pm__law_inside an__law_inside cd__law_inside ct__law_inside), sl__law_inside⟩)
    (c__law_inside : PySem.W.codeIn K cd__law_inside "_law_inside" = true)
    (k__law_inside : PySem.W.keepIn K (.ref ad__law_inside) = true)
    (a__law_first : PySem.W.nsIn K mainGlobals "_law_first" = some (some (.ref ad__law_first)))
    (l__law_first : K.lookup ad__law_first = some ⟨oc__law_first, od__law_first, .func (PySem.W.fnOf "_law_first" "_law_first" (defArgs s__law_first) (defBody s__law_first) (defScope s__law_first) .none kV__law_first dc__law_first pm__law_first an__law_first cd__law_first ct__law_first), sl__law_first⟩)
    (c__law_first : PySem.W.codeIn K cd__law_first "_law_first" = true)
    (k__law_first : PySem.W.keepIn K (.ref ad__law_first) = true)
    (a__law_outside : PySem.W.nsIn K mainGlobals "_law_outside" = some (some (.ref ad__law_outside)))
    (l__law_outside : K.lookup ad__law_outside = some ⟨oc__law_outside, od__law_outside, .func (PySem.W.fnOf "_law_outside" "_law_outside" (defArgs s__law_outside) (defBody s__law_outside) (defScope s__law_outside) .none kV__law_outside dc__law_outside pm__law_outside an__law_outside cd__law_outside ct__law_outside), sl__law_outside⟩)
    (c__law_outside : PySem.W.codeIn K cd__law_outside "_law_outside" = true)
    (k__law_outside : PySem.W.keepIn K (.ref ad__law_outside) = true)
    (a__law_frees : PySem.W.nsIn K mainGlobals "_law_frees" = some (some (.ref ad__law_frees)))
    (l__law_frees : K.lookup ad__law_frees = some ⟨oc__law_frees, od__law_frees, .func (PySem.W.fnOf "_law_frees" "_law_frees" (defArgs s__law_frees) (defBody s__law_frees) (defScope s__law_frees) .none kV__law_frees dc__law_frees pm__law_frees an__law_frees cd__law_frees ct__law_frees), sl__law_frees⟩)
    (c__law_frees : PySem.W.codeIn K cd__law_frees "_law_frees" = true)
    (k__law_frees : PySem.W.keepIn K (.ref ad__law_frees) = true)
    (a__law_plain : PySem.W.nsIn K mainGlobals "_law_plain" = some (some (.ref ad__law_plain)))
    (l__law_plain : K.lookup ad__law_plain = some ⟨oc__law_plain, od__law_plain, .func (PySem.W.fnOf "_law_plain" "_law_plain" (defArgs s__law_plain) (defBody s__law_plain) (defScope s__law_plain) .none kV__law_plain dc__law_plain pm__law_plain an__law_plain cd__law_plain ct__law_plain), sl__law_plain⟩)
    (c__law_plain : PySem.W.codeIn K cd__law_plain "_law_plain" = true)
    (k__law_plain : PySem.W.keepIn K (.ref ad__law_plain) = true)
    (a_free : PySem.W.nsIn K mainGlobals "free" = some (some (.ref ad_free)))
    (l_free : K.lookup ad_free = some ⟨oc_free, od_free, .func (PySem.W.fnOf "free" "free" (defArgs s_free) (defBody s_free) (defScope s_free) .none kV_free dc_free pm_free an_free cd_free ct_free), sl_free⟩)
    (c_free : PySem.W.codeIn K cd_free "free" = true)
    (k_free : PySem.W.keepIn K (.ref ad_free) = true)
    (a__law_right : PySem.W.nsIn K mainGlobals "_law_right" = some (some (.ref ad__law_right)))
    (l__law_right : K.lookup ad__law_right = some ⟨oc__law_right, od__law_right, .func (PySem.W.fnOf "_law_right" "_law_right" (defArgs s__law_right) (defBody s__law_right) (defScope s__law_right) .none kV__law_right dc__law_right pm__law_right an__law_right cd__law_right ct__law_right), sl__law_right⟩)
    (c__law_right : PySem.W.codeIn K cd__law_right "_law_right" = true)
    (k__law_right : PySem.W.keepIn K (.ref ad__law_right) = true)
    (a__law_next : PySem.W.nsIn K mainGlobals "_law_next" = some (some (.ref ad__law_next)))
    (l__law_next : K.lookup ad__law_next = some ⟨oc__law_next, od__law_next, .func (PySem.W.fnOf "_law_next" "_law_next" (defArgs s__law_next) (defBody s__law_next) (defScope s__law_next) .none kV__law_next dc__law_next pm__law_next an__law_next cd__law_next ct__law_next), sl__law_next⟩)
    (c__law_next : PySem.W.codeIn K cd__law_next "_law_next" = true)
    (k__law_next : PySem.W.keepIn K (.ref ad__law_next) = true)
    (a__law_one : PySem.W.nsIn K mainGlobals "_law_one" = some (some (.ref ad__law_one)))
    (l__law_one : K.lookup ad__law_one = some ⟨oc__law_one, od__law_one, .func (PySem.W.fnOf "_law_one" "_law_one" (defArgs s__law_one) (defBody s__law_one) (defScope s__law_one) .none kV__law_one dc__law_one pm__law_one an__law_one cd__law_one ct__law_one), sl__law_one⟩)
    (c__law_one : PySem.W.codeIn K cd__law_one "_law_one" = true)
    (k__law_one : PySem.W.keepIn K (.ref ad__law_one) = true)
    (a__law_all_letters : PySem.W.nsIn K mainGlobals "_law_all_letters" = some (some (.ref ad__law_all_letters)))
    (l__law_all_letters : K.lookup ad__law_all_letters = some ⟨oc__law_all_letters, od__law_all_letters, .func (PySem.W.fnOf "_law_all_letters" "_law_all_letters" (defArgs s__law_all_letters) (defBody s__law_all_letters) (defScope s__law_all_letters) .none kV__law_all_letters dc__law_all_letters pm__law_all_letters an__law_all_letters cd__law_all_letters ct__law_all_letters), sl__law_all_letters⟩)
    (c__law_all_letters : PySem.W.codeIn K cd__law_all_letters "_law_all_letters" = true)
    (k__law_all_letters : PySem.W.keepIn K (.ref ad__law_all_letters) = true)
    (a__law_many_free : PySem.W.nsIn K mainGlobals "_law_many_free" = some (some (.ref ad__law_many_free)))
    (l__law_many_free : K.lookup ad__law_many_free = some ⟨oc__law_many_free, od__law_many_free, .func (PySem.W.fnOf "_law_many_free" "_law_many_free" (defArgs s__law_many_free) (defBody s__law_many_free) (defScope s__law_many_free) .none kV__law_many_free dc__law_many_free pm__law_many_free an__law_many_free cd__law_many_free ct__law_many_free), sl__law_many_free⟩)
    (c__law_many_free : PySem.W.codeIn K cd__law_many_free "_law_many_free" = true)
    (k__law_many_free : PySem.W.keepIn K (.ref ad__law_many_free) = true)
    (a__law_kind : PySem.W.nsIn K mainGlobals "_law_kind" = some (some (.ref ad__law_kind)))
    (l__law_kind : K.lookup ad__law_kind = some ⟨oc__law_kind, od__law_kind, .func (PySem.W.fnOf "_law_kind" "_law_kind" (defArgs s__law_kind) (defBody s__law_kind) (defScope s__law_kind) .none kV__law_kind dc__law_kind pm__law_kind an__law_kind cd__law_kind ct__law_kind), sl__law_kind⟩)
    (c__law_kind : PySem.W.codeIn K cd__law_kind "_law_kind" = true)
    (k__law_kind : PySem.W.keepIn K (.ref ad__law_kind) = true)
    (a__law_deep : PySem.W.nsIn K mainGlobals "_law_deep" = some (some (.ref ad__law_deep)))
    (l__law_deep : K.lookup ad__law_deep = some ⟨oc__law_deep, od__law_deep, .func (PySem.W.fnOf "_law_deep" "_law_deep" (defArgs s__law_deep) (defBody s__law_deep) (defScope s__law_deep) .none kV__law_deep dc__law_deep pm__law_deep an__law_deep cd__law_deep ct__law_deep), sl__law_deep⟩)
    (c__law_deep : PySem.W.codeIn K cd__law_deep "_law_deep" = true)
    (k__law_deep : PySem.W.keepIn K (.ref ad__law_deep) = true)
    (a_law : PySem.W.nsIn K mainGlobals "law" = some (some (.ref ad_law)))
    (l_law : K.lookup ad_law = some ⟨oc_law, od_law, .func (PySem.W.fnOf "law" "law" (defArgs s_law) (defBody s_law) (defScope s_law) .none kV_law dc_law pm_law an_law cd_law ct_law), sl_law⟩)
    (c_law : PySem.W.codeIn K cd_law "law" = true)
    (k_law : PySem.W.keepIn K (.ref ad_law) = true)
    : ∃ fd : FuncData, (∀ (s : Shared) (v : Value), BindsTo s fd ⟨[v], []⟩ [("_law_script", v)]) ∧ ∀ base : Heap, K.In base → base.Ns mainGlobals mg → FnOk l.prog w K mg base CX0 65 fa fd ["_law_script"] (spF K 1 f_law) := by
  have e := hfa.symm.trans (PySem.W.mg_of X G a_law)
  cases e
  have F__law_source_of : FunD K "_law_source_of" "_law_source_of" (defArgs s__law_source_of) (defBody s__law_source_of) (defScope s__law_source_of) [] [] ad__law_source_of (PySem.W.fnOf "_law_source_of" "_law_source_of" (defArgs s__law_source_of) (defBody s__law_source_of) (defScope s__law_source_of) .none kV__law_source_of dc__law_source_of pm__law_source_of an__law_source_of cd__law_source_of ct__law_source_of) := ⟨⟨_, _, _, _, _, _, _, _, _, _, rfl, l__law_source_of, c__law_source_of, .inl ⟨rfl, rfl⟩, .inl rfl⟩, k__law_source_of⟩
  have F_is_name : FunD K "is_name" "is_name" (defArgs s_is_name) (defBody s_is_name) (defScope s_is_name) [] [] ad_is_name (PySem.W.fnOf "is_name" "is_name" (defArgs s_is_name) (defBody s_is_name) (defScope s_is_name) .none kV_is_name dc_is_name pm_is_name an_is_name cd_is_name ct_is_name) := ⟨⟨_, _, _, _, _, _, _, _, _, _, rfl, l_is_name, c_is_name, .inl ⟨rfl, rfl⟩, .inl rfl⟩, k_is_name⟩
  have F_is_kind : FunD K "is_kind" "is_kind" (defArgs s_is_kind) (defBody s_is_kind) (defScope s_is_kind) [] [] ad_is_kind (PySem.W.fnOf "is_kind" "is_kind" (defArgs s_is_kind) (defBody s_is_kind) (defScope s_is_kind) .none kV_is_kind dc_is_kind pm_is_kind an_is_kind cd_is_kind ct_is_kind) := ⟨⟨_, _, _, _, _, _, _, _, _, _, rfl, l_is_kind, c_is_kind, .inl ⟨rfl, rfl⟩, .inl rfl⟩, k_is_kind⟩
  have F_want_kind : FunD K "want_kind" "want_kind" (defArgs s_want_kind) (defBody s_want_kind) (defScope s_want_kind) [] [] ad_want_kind (PySem.W.fnOf "want_kind" "want_kind" (defArgs s_want_kind) (defBody s_want_kind) (defScope s_want_kind) .none kV_want_kind dc_want_kind pm_want_kind an_want_kind cd_want_kind ct_want_kind) := ⟨⟨_, _, _, _, _, _, _, _, _, _, rfl, l_want_kind, c_want_kind, .inl ⟨rfl, rfl⟩, .inl rfl⟩, k_want_kind⟩
  have F_letter : FunD K "letter" "letter" (defArgs s_letter) (defBody s_letter) (defScope s_letter) [] [] ad_letter (PySem.W.fnOf "letter" "letter" (defArgs s_letter) (defBody s_letter) (defScope s_letter) .none kV_letter dc_letter pm_letter an_letter cd_letter ct_letter) := ⟨⟨_, _, _, _, _, _, _, _, _, _, rfl, l_letter, c_letter, .inl ⟨rfl, rfl⟩, .inl rfl⟩, k_letter⟩
  have F_first_letters : FunD K "first_letters" "first_letters" (defArgs s_first_letters) (defBody s_first_letters) (defScope s_first_letters) [] [] ad_first_letters (PySem.W.fnOf "first_letters" "first_letters" (defArgs s_first_letters) (defBody s_first_letters) (defScope s_first_letters) .none kV_first_letters dc_first_letters pm_first_letters an_first_letters cd_first_letters ct_first_letters) := ⟨⟨_, _, _, _, _, _, _, _, _, _, rfl, l_first_letters, c_first_letters, .inl ⟨rfl, rfl⟩, .inl rfl⟩, k_first_letters⟩
  have F_exchange : FunD K "exchange" "exchange" (defArgs s_exchange) (defBody s_exchange) (defScope s_exchange) [] [] ad_exchange (PySem.W.fnOf "exchange" "exchange" (defArgs s_exchange) (defBody s_exchange) (defScope s_exchange) .none kV_exchange dc_exchange pm_exchange an_exchange cd_exchange ct_exchange) := ⟨⟨_, _, _, _, _, _, _, _, _, _, rfl, l_exchange, c_exchange, .inl ⟨rfl, rfl⟩, .inl rfl⟩, k_exchange⟩
  have F_relettered : FunD K "relettered" "relettered" (defArgs s_relettered) (defBody s_relettered) (defScope s_relettered) [] [] ad_relettered (PySem.W.fnOf "relettered" "relettered" (defArgs s_relettered) (defBody s_relettered) (defScope s_relettered) .none kV_relettered dc_relettered pm_relettered an_relettered cd_relettered ct_relettered) := ⟨⟨_, _, _, _, _, _, _, _, _, _, rfl, l_relettered, c_relettered, .inl ⟨rfl, rfl⟩, .inl rfl⟩, k_relettered⟩
  obtain ⟨w0_free_of, hw0_free_of, _⟩ := kdV_ok (H := fun _ => none) (M := fun _ => False) 8 dv0_free_of _ ed0_free_of
  have F_free_of : FunD K "free_of" "free_of" (defArgs s_free_of) (defBody s_free_of) (defScope s_free_of) [w0_free_of] [] ad_free_of (PySem.W.fnOf "free_of" "free_of" (defArgs s_free_of) (defBody s_free_of) (defScope s_free_of) (.ref T_free_of) kV_free_of dc_free_of pm_free_of an_free_of cd_free_of ct_free_of) := ⟨⟨_, _, _, _, _, _, _, _, _, _, rfl, l_free_of, c_free_of, .inr ⟨by simp, T_free_of, _, [dv0_free_of], tn_free_of, rfl, lT_free_of, rfl, (.cons hw0_free_of .nil)⟩, .inl rfl⟩, k_free_of⟩
  obtain ⟨e0_free_of, vd0_free_of, bd0_free_of⟩ := F_free_of.binds1 (ps := ["kind", "inside"]) 2 1 (by simp) rfl fun T kV doc pm an cdv ct us its hu hi => match us, its, hu, hi with | [_, _], [_], _, _ => ⟨_, rfl, rfl⟩
  cases vd0_free_of
  obtain ⟨e1_free_of, vd1_free_of, bd1_free_of⟩ := F_free_of.binds1 (ps := ["kind", "inside"]) 1 0 (by simp) rfl fun T kV doc pm an cdv ct us its hu hi => match us, its, hu, hi with | [_], [_], _, _ => ⟨_, rfl, rfl⟩
  have F_marked_from : FunD K "marked_from" "marked_from" (defArgs s_marked_from) (defBody s_marked_from) (defScope s_marked_from) [] [] ad_marked_from (PySem.W.fnOf "marked_from" "marked_from" (defArgs s_marked_from) (defBody s_marked_from) (defScope s_marked_from) .none kV_marked_from dc_marked_from pm_marked_from an_marked_from cd_marked_from ct_marked_from) := ⟨⟨_, _, _, _, _, _, _, _, _, _, rfl, l_marked_from, c_marked_from, .inl ⟨rfl, rfl⟩, .inl rfl⟩, k_marked_from⟩
  have F_numbers_in : FunD K "numbers_in" "numbers_in" (defArgs s_numbers_in) (defBody s_numbers_in) (defScope s_numbers_in) [] [] ad_numbers_in (PySem.W.fnOf "numbers_in" "numbers_in" (defArgs s_numbers_in) (defBody s_numbers_in) (defScope s_numbers_in) .none kV_numbers_in dc_numbers_in pm_numbers_in an_numbers_in cd_numbers_in ct_numbers_in) := ⟨⟨_, _, _, _, _, _, _, _, _, _, rfl, l_numbers_in, c_numbers_in, .inl ⟨rfl, rfl⟩, .inl rfl⟩, k_numbers_in⟩
  obtain ⟨w0_marked, hw0_marked, _⟩ := kdV_ok (H := fun _ => none) (M := fun _ => False) 8 dv0_marked _ ed0_marked
  have F_marked : FunD K "marked" "marked" (defArgs s_marked) (defBody s_marked) (defScope s_marked) [w0_marked] [] ad_marked (PySem.W.fnOf "marked" "marked" (defArgs s_marked) (defBody s_marked) (defScope s_marked) (.ref T_marked) kV_marked dc_marked pm_marked an_marked cd_marked ct_marked) := ⟨⟨_, _, _, _, _, _, _, _, _, _, rfl, l_marked, c_marked, .inr ⟨by simp, T_marked, _, [dv0_marked], tn_marked, rfl, lT_marked, rfl, (.cons hw0_marked .nil)⟩, .inl rfl⟩, k_marked⟩
  obtain ⟨e0_marked, vd0_marked, bd0_marked⟩ := F_marked.binds1 (ps := ["kind", "first"]) 2 1 (by simp) rfl fun T kV doc pm an cdv ct us its hu hi => match us, its, hu, hi with | [_, _], [_], _, _ => ⟨_, rfl, rfl⟩
  cases vd0_marked
  obtain ⟨e1_marked, vd1_marked, bd1_marked⟩ := F_marked.binds1 (ps := ["kind", "first"]) 1 0 (by simp) rfl fun T kV doc pm an cdv ct us its hu hi => match us, its, hu, hi with | [_], [_], _, _ => ⟨_, rfl, rfl⟩
  have F_plain_of : FunD K "plain_of" "plain_of" (defArgs s_plain_of) (defBody s_plain_of) (defScope s_plain_of) [] [] ad_plain_of (PySem.W.fnOf "plain_of" "plain_of" (defArgs s_plain_of) (defBody s_plain_of) (defScope s_plain_of) .none kV_plain_of dc_plain_of pm_plain_of an_plain_of cd_plain_of ct_plain_of) := ⟨⟨_, _, _, _, _, _, _, _, _, _, rfl, l_plain_of, c_plain_of, .inl ⟨rfl, rfl⟩, .inl rfl⟩, k_plain_of⟩
  have F_plain : FunD K "plain" "plain" (defArgs s_plain) (defBody s_plain) (defScope s_plain) [] [] ad_plain (PySem.W.fnOf "plain" "plain" (defArgs s_plain) (defBody s_plain) (defScope s_plain) .none kV_plain dc_plain pm_plain an_plain cd_plain ct_plain) := ⟨⟨_, _, _, _, _, _, _, _, _, _, rfl, l_plain, c_plain, .inl ⟨rfl, rfl⟩, .inl rfl⟩, k_plain⟩
  have F__law_cell_at : FunD K "_law_cell_at" "_law_cell_at" (defArgs s__law_cell_at) (defBody s__law_cell_at) (defScope s__law_cell_at) [] [] ad__law_cell_at (PySem.W.fnOf "_law_cell_at" "_law_cell_at" (defArgs s__law_cell_at) (defBody s__law_cell_at) (defScope s__law_cell_at) .none kV__law_cell_at dc__law_cell_at pm__law_cell_at an__law_cell_at cd__law_cell_at ct__law_cell_at) := ⟨⟨_, _, _, _, _, _, _, _, _, _, rfl, l__law_cell_at, c__law_cell_at, .inl ⟨rfl, rfl⟩, .inl rfl⟩, k__law_cell_at⟩
  have F__law_inside : FunD K "_law_inside" "_law_inside" (defArgs s__law_inside) (defBody s__law_inside) (defScope s__law_inside) [] [] ad__law_inside (PySem.W.fnOf "_law_inside" "_law_inside" (defArgs s__law_inside) (defBody s__law_inside) (defScope s__law_inside) .none kV__law_inside dc__law_inside pm__law_inside an__law_inside cd__law_inside ct__law_inside) := ⟨⟨_, _, _, _, _, _, _, _, _, _, rfl, l__law_inside, c__law_inside, .inl ⟨rfl, rfl⟩, .inl rfl⟩, k__law_inside⟩
  have F__law_first : FunD K "_law_first" "_law_first" (defArgs s__law_first) (defBody s__law_first) (defScope s__law_first) [] [] ad__law_first (PySem.W.fnOf "_law_first" "_law_first" (defArgs s__law_first) (defBody s__law_first) (defScope s__law_first) .none kV__law_first dc__law_first pm__law_first an__law_first cd__law_first ct__law_first) := ⟨⟨_, _, _, _, _, _, _, _, _, _, rfl, l__law_first, c__law_first, .inl ⟨rfl, rfl⟩, .inl rfl⟩, k__law_first⟩
  have F__law_outside : FunD K "_law_outside" "_law_outside" (defArgs s__law_outside) (defBody s__law_outside) (defScope s__law_outside) [] [] ad__law_outside (PySem.W.fnOf "_law_outside" "_law_outside" (defArgs s__law_outside) (defBody s__law_outside) (defScope s__law_outside) .none kV__law_outside dc__law_outside pm__law_outside an__law_outside cd__law_outside ct__law_outside) := ⟨⟨_, _, _, _, _, _, _, _, _, _, rfl, l__law_outside, c__law_outside, .inl ⟨rfl, rfl⟩, .inl rfl⟩, k__law_outside⟩
  have F__law_frees : FunD K "_law_frees" "_law_frees" (defArgs s__law_frees) (defBody s__law_frees) (defScope s__law_frees) [] [] ad__law_frees (PySem.W.fnOf "_law_frees" "_law_frees" (defArgs s__law_frees) (defBody s__law_frees) (defScope s__law_frees) .none kV__law_frees dc__law_frees pm__law_frees an__law_frees cd__law_frees ct__law_frees) := ⟨⟨_, _, _, _, _, _, _, _, _, _, rfl, l__law_frees, c__law_frees, .inl ⟨rfl, rfl⟩, .inl rfl⟩, k__law_frees⟩
  have F__law_plain : FunD K "_law_plain" "_law_plain" (defArgs s__law_plain) (defBody s__law_plain) (defScope s__law_plain) [] [] ad__law_plain (PySem.W.fnOf "_law_plain" "_law_plain" (defArgs s__law_plain) (defBody s__law_plain) (defScope s__law_plain) .none kV__law_plain dc__law_plain pm__law_plain an__law_plain cd__law_plain ct__law_plain) := ⟨⟨_, _, _, _, _, _, _, _, _, _, rfl, l__law_plain, c__law_plain, .inl ⟨rfl, rfl⟩, .inl rfl⟩, k__law_plain⟩
  have F_free : FunD K "free" "free" (defArgs s_free) (defBody s_free) (defScope s_free) [] [] ad_free (PySem.W.fnOf "free" "free" (defArgs s_free) (defBody s_free) (defScope s_free) .none kV_free dc_free pm_free an_free cd_free ct_free) := ⟨⟨_, _, _, _, _, _, _, _, _, _, rfl, l_free, c_free, .inl ⟨rfl, rfl⟩, .inl rfl⟩, k_free⟩
  have F__law_right : FunD K "_law_right" "_law_right" (defArgs s__law_right) (defBody s__law_right) (defScope s__law_right) [] [] ad__law_right (PySem.W.fnOf "_law_right" "_law_right" (defArgs s__law_right) (defBody s__law_right) (defScope s__law_right) .none kV__law_right dc__law_right pm__law_right an__law_right cd__law_right ct__law_right) := ⟨⟨_, _, _, _, _, _, _, _, _, _, rfl, l__law_right, c__law_right, .inl ⟨rfl, rfl⟩, .inl rfl⟩, k__law_right⟩
  have F__law_next : FunD K "_law_next" "_law_next" (defArgs s__law_next) (defBody s__law_next) (defScope s__law_next) [] [] ad__law_next (PySem.W.fnOf "_law_next" "_law_next" (defArgs s__law_next) (defBody s__law_next) (defScope s__law_next) .none kV__law_next dc__law_next pm__law_next an__law_next cd__law_next ct__law_next) := ⟨⟨_, _, _, _, _, _, _, _, _, _, rfl, l__law_next, c__law_next, .inl ⟨rfl, rfl⟩, .inl rfl⟩, k__law_next⟩
  have F__law_one : FunD K "_law_one" "_law_one" (defArgs s__law_one) (defBody s__law_one) (defScope s__law_one) [] [] ad__law_one (PySem.W.fnOf "_law_one" "_law_one" (defArgs s__law_one) (defBody s__law_one) (defScope s__law_one) .none kV__law_one dc__law_one pm__law_one an__law_one cd__law_one ct__law_one) := ⟨⟨_, _, _, _, _, _, _, _, _, _, rfl, l__law_one, c__law_one, .inl ⟨rfl, rfl⟩, .inl rfl⟩, k__law_one⟩
  have F__law_all_letters : FunD K "_law_all_letters" "_law_all_letters" (defArgs s__law_all_letters) (defBody s__law_all_letters) (defScope s__law_all_letters) [] [] ad__law_all_letters (PySem.W.fnOf "_law_all_letters" "_law_all_letters" (defArgs s__law_all_letters) (defBody s__law_all_letters) (defScope s__law_all_letters) .none kV__law_all_letters dc__law_all_letters pm__law_all_letters an__law_all_letters cd__law_all_letters ct__law_all_letters) := ⟨⟨_, _, _, _, _, _, _, _, _, _, rfl, l__law_all_letters, c__law_all_letters, .inl ⟨rfl, rfl⟩, .inl rfl⟩, k__law_all_letters⟩
  have F__law_many_free : FunD K "_law_many_free" "_law_many_free" (defArgs s__law_many_free) (defBody s__law_many_free) (defScope s__law_many_free) [] [] ad__law_many_free (PySem.W.fnOf "_law_many_free" "_law_many_free" (defArgs s__law_many_free) (defBody s__law_many_free) (defScope s__law_many_free) .none kV__law_many_free dc__law_many_free pm__law_many_free an__law_many_free cd__law_many_free ct__law_many_free) := ⟨⟨_, _, _, _, _, _, _, _, _, _, rfl, l__law_many_free, c__law_many_free, .inl ⟨rfl, rfl⟩, .inl rfl⟩, k__law_many_free⟩
  have F__law_kind : FunD K "_law_kind" "_law_kind" (defArgs s__law_kind) (defBody s__law_kind) (defScope s__law_kind) [] [] ad__law_kind (PySem.W.fnOf "_law_kind" "_law_kind" (defArgs s__law_kind) (defBody s__law_kind) (defScope s__law_kind) .none kV__law_kind dc__law_kind pm__law_kind an__law_kind cd__law_kind ct__law_kind) := ⟨⟨_, _, _, _, _, _, _, _, _, _, rfl, l__law_kind, c__law_kind, .inl ⟨rfl, rfl⟩, .inl rfl⟩, k__law_kind⟩
  have F__law_deep : FunD K "_law_deep" "_law_deep" (defArgs s__law_deep) (defBody s__law_deep) (defScope s__law_deep) [] [] ad__law_deep (PySem.W.fnOf "_law_deep" "_law_deep" (defArgs s__law_deep) (defBody s__law_deep) (defScope s__law_deep) .none kV__law_deep dc__law_deep pm__law_deep an__law_deep cd__law_deep ct__law_deep) := ⟨⟨_, _, _, _, _, _, _, _, _, _, rfl, l__law_deep, c__law_deep, .inl ⟨rfl, rfl⟩, .inl rfl⟩, k__law_deep⟩
  have F_law : FunD K "law" "law" (defArgs s_law) (defBody s_law) (defScope s_law) [] [] fa (PySem.W.fnOf "law" "law" (defArgs s_law) (defBody s_law) (defScope s_law) .none kV_law dc_law pm_law an_law cd_law ct_law) := ⟨⟨_, _, _, _, _, _, _, _, _, _, rfl, l_law, c_law, .inl ⟨rfl, rfl⟩, .inl rfl⟩, k_law⟩
  let T : Top w K mg := {
    z_all := PySem.W.mg_none_of X G z_all
    z_int := PySem.W.mg_none_of X G z_int
    z_isinstance := PySem.W.mg_none_of X G z_isinstance
    z_len := PySem.W.mg_none_of X G z_len
    z_list := PySem.W.mg_none_of X G z_list
    z_max := PySem.W.mg_none_of X G z_max
    z_min := PySem.W.mg_none_of X G z_min
    z_range := PySem.W.mg_none_of X G z_range
    z_str := PySem.W.mg_none_of X G z_str
    z_tuple := PySem.W.mg_none_of X G z_tuple
    u_BARRED := u_BARRED
    m_BARRED := PySem.W.mg_of X G a_BARRED
    c_BARRED := c_BARRED
    u_MOST_SIGNS := u_MOST_SIGNS
    m_MOST_SIGNS := PySem.W.mg_of X G a_MOST_SIGNS
    c_MOST_SIGNS := c_MOST_SIGNS
    u_LETTERS := u_LETTERS
    m_LETTERS := PySem.W.mg_of X G a_LETTERS
    c_LETTERS := c_LETTERS
    u_MARK := u_MARK
    m_MARK := PySem.W.mg_of X G a_MARK
    c_MARK := c_MARK
    t_WORDS := t_WORDS
    m_WORDS := PySem.W.mg_of X G a_WORDS
    kd_WORDS := ⟨⟨_, _, _, ⟨l_WORDS, y_WORDS, o_WORDS⟩, e_WORDS⟩⟩
    v__law_source_of := []
    b__law_source_of := (F__law_source_of.bindsN fun _ _ _ _ _ _ us hl => match us, hl with | [_], _ => rfl)
    a__law_source_of := ad__law_source_of
    d__law_source_of := _
    F__law_source_of := F__law_source_of
    m__law_source_of := PySem.W.mg_of X G a__law_source_of
    v_is_name := []
    b_is_name := (F_is_name.bindsN fun _ _ _ _ _ _ us hl => match us, hl with | [_], _ => rfl)
    a_is_name := ad_is_name
    d_is_name := _
    F_is_name := F_is_name
    m_is_name := PySem.W.mg_of X G a_is_name
    v_is_kind := []
    b_is_kind := (F_is_kind.bindsN fun _ _ _ _ _ _ us hl => match us, hl with | [_], _ => rfl)
    a_is_kind := ad_is_kind
    d_is_kind := _
    F_is_kind := F_is_kind
    m_is_kind := PySem.W.mg_of X G a_is_kind
    v_want_kind := []
    b_want_kind := (F_want_kind.bindsN fun _ _ _ _ _ _ us hl => match us, hl with | [_], _ => rfl)
    a_want_kind := ad_want_kind
    d_want_kind := _
    F_want_kind := F_want_kind
    m_want_kind := PySem.W.mg_of X G a_want_kind
    v_letter := []
    b_letter := (F_letter.bindsN fun _ _ _ _ _ _ us hl => match us, hl with | [_], _ => rfl)
    a_letter := ad_letter
    d_letter := _
    F_letter := F_letter
    m_letter := PySem.W.mg_of X G a_letter
    v_first_letters := []
    b_first_letters := (F_first_letters.bindsN fun _ _ _ _ _ _ us hl => match us, hl with | [_], _ => rfl)
    a_first_letters := ad_first_letters
    d_first_letters := _
    F_first_letters := F_first_letters
    m_first_letters := PySem.W.mg_of X G a_first_letters
    v_exchange := []
    b_exchange := (F_exchange.bindsN fun _ _ _ _ _ _ us hl => match us, hl with | [_, _], _ => rfl)
    a_exchange := ad_exchange
    d_exchange := _
    F_exchange := F_exchange
    m_exchange := PySem.W.mg_of X G a_exchange
    v_relettered := []
    b_relettered := (F_relettered.bindsN fun _ _ _ _ _ _ us hl => match us, hl with | [_, _], _ => rfl)
    a_relettered := ad_relettered
    d_relettered := _
    F_relettered := F_relettered
    m_relettered := PySem.W.mg_of X G a_relettered
    b_free_of := bd0_free_of
    e1_free_of := e1_free_of
    y1_free_of := _
    bd1_free_of := bd1_free_of
    vd1_free_of := vd1_free_of
    wd1_free_of := (fun ρ S H => (.cons (dfl_one ed0_free_of hw0_free_of ρ S H) .nil))
    v_free_of := [w0_free_of]
    a_free_of := ad_free_of
    d_free_of := _
    F_free_of := F_free_of
    m_free_of := PySem.W.mg_of X G a_free_of
    v_marked_from := []
    b_marked_from := (F_marked_from.bindsN fun _ _ _ _ _ _ us hl => match us, hl with | [_, _], _ => rfl)
    a_marked_from := ad_marked_from
    d_marked_from := _
    F_marked_from := F_marked_from
    m_marked_from := PySem.W.mg_of X G a_marked_from
    v_numbers_in := []
    b_numbers_in := (F_numbers_in.bindsN fun _ _ _ _ _ _ us hl => match us, hl with | [_], _ => rfl)
    a_numbers_in := ad_numbers_in
    d_numbers_in := _
    F_numbers_in := F_numbers_in
    m_numbers_in := PySem.W.mg_of X G a_numbers_in
    b_marked := bd0_marked
    e1_marked := e1_marked
    y1_marked := _
    bd1_marked := bd1_marked
    vd1_marked := vd1_marked
    wd1_marked := (fun ρ S H => (.cons (dfl_one ed0_marked hw0_marked ρ S H) .nil))
    v_marked := [w0_marked]
    a_marked := ad_marked
    d_marked := _
    F_marked := F_marked
    m_marked := PySem.W.mg_of X G a_marked
    v_plain_of := []
    b_plain_of := (F_plain_of.bindsN fun _ _ _ _ _ _ us hl => match us, hl with | [_], _ => rfl)
    a_plain_of := ad_plain_of
    d_plain_of := _
    F_plain_of := F_plain_of
    m_plain_of := PySem.W.mg_of X G a_plain_of
    v_plain := []
    b_plain := (F_plain.bindsN fun _ _ _ _ _ _ us hl => match us, hl with | [_], _ => rfl)
    a_plain := ad_plain
    d_plain := _
    F_plain := F_plain
    m_plain := PySem.W.mg_of X G a_plain
    v__law_cell_at := []
    b__law_cell_at := (F__law_cell_at.bindsN fun _ _ _ _ _ _ us hl => match us, hl with | [_, _], _ => rfl)
    a__law_cell_at := ad__law_cell_at
    d__law_cell_at := _
    F__law_cell_at := F__law_cell_at
    m__law_cell_at := PySem.W.mg_of X G a__law_cell_at
    v__law_inside := []
    b__law_inside := (F__law_inside.bindsN fun _ _ _ _ _ _ us hl => match us, hl with | [_, _], _ => rfl)
    a__law_inside := ad__law_inside
    d__law_inside := _
    F__law_inside := F__law_inside
    m__law_inside := PySem.W.mg_of X G a__law_inside
    v__law_first := []
    b__law_first := (F__law_first.bindsN fun _ _ _ _ _ _ us hl => match us, hl with | [_], _ => rfl)
    a__law_first := ad__law_first
    d__law_first := _
    F__law_first := F__law_first
    m__law_first := PySem.W.mg_of X G a__law_first
    v__law_outside := []
    b__law_outside := (F__law_outside.bindsN fun _ _ _ _ _ _ us hl => match us, hl with | [_, _, _], _ => rfl)
    a__law_outside := ad__law_outside
    d__law_outside := _
    F__law_outside := F__law_outside
    m__law_outside := PySem.W.mg_of X G a__law_outside
    v__law_frees := []
    b__law_frees := (F__law_frees.bindsN fun _ _ _ _ _ _ us hl => match us, hl with | [_], _ => rfl)
    a__law_frees := ad__law_frees
    d__law_frees := _
    F__law_frees := F__law_frees
    m__law_frees := PySem.W.mg_of X G a__law_frees
    v__law_plain := []
    b__law_plain := (F__law_plain.bindsN fun _ _ _ _ _ _ us hl => match us, hl with | [_], _ => rfl)
    a__law_plain := ad__law_plain
    d__law_plain := _
    F__law_plain := F__law_plain
    m__law_plain := PySem.W.mg_of X G a__law_plain
    v_free := []
    b_free := (F_free.bindsN fun _ _ _ _ _ _ us hl => match us, hl with | [_], _ => rfl)
    a_free := ad_free
    d_free := _
    F_free := F_free
    m_free := PySem.W.mg_of X G a_free
    v__law_right := []
    b__law_right := (F__law_right.bindsN fun _ _ _ _ _ _ us hl => match us, hl with | [_], _ => rfl)
    a__law_right := ad__law_right
    d__law_right := _
    F__law_right := F__law_right
    m__law_right := PySem.W.mg_of X G a__law_right
    v__law_next := []
    b__law_next := (F__law_next.bindsN fun _ _ _ _ _ _ us hl => match us, hl with | [_, _], _ => rfl)
    a__law_next := ad__law_next
    d__law_next := _
    F__law_next := F__law_next
    m__law_next := PySem.W.mg_of X G a__law_next
    v__law_one := []
    b__law_one := (F__law_one.bindsN fun _ _ _ _ _ _ us hl => match us, hl with | [_, _], _ => rfl)
    a__law_one := ad__law_one
    d__law_one := _
    F__law_one := F__law_one
    m__law_one := PySem.W.mg_of X G a__law_one
    v__law_all_letters := []
    b__law_all_letters := (F__law_all_letters.bindsN fun _ _ _ _ _ _ us hl => match us, hl with | [_], _ => rfl)
    a__law_all_letters := ad__law_all_letters
    d__law_all_letters := _
    F__law_all_letters := F__law_all_letters
    m__law_all_letters := PySem.W.mg_of X G a__law_all_letters
    v__law_many_free := []
    b__law_many_free := (F__law_many_free.bindsN fun _ _ _ _ _ _ us hl => match us, hl with | [_], _ => rfl)
    a__law_many_free := ad__law_many_free
    d__law_many_free := _
    F__law_many_free := F__law_many_free
    m__law_many_free := PySem.W.mg_of X G a__law_many_free
    v__law_kind := []
    b__law_kind := (F__law_kind.bindsN fun _ _ _ _ _ _ us hl => match us, hl with | [_, _, _], _ => rfl)
    a__law_kind := ad__law_kind
    d__law_kind := _
    F__law_kind := F__law_kind
    m__law_kind := PySem.W.mg_of X G a__law_kind
    v__law_deep := []
    b__law_deep := (F__law_deep.bindsN fun _ _ _ _ _ _ us hl => match us, hl with | [_, _], _ => rfl)
    a__law_deep := ad__law_deep
    d__law_deep := _
    F__law_deep := F__law_deep
    m__law_deep := PySem.W.mg_of X G a__law_deep
    v_law := []
    a_law := fa
    d_law := _
    F_law := F_law }
  exact ⟨_, fun s v => .of_eq rfl, fun base _ _ => o_law T⟩
end Fro

namespace Fro
open PySem PySem.Spec L2

/-! ### evaluation, forward -/
section
variable {a b : DenS} {δ δ' : Slots} {S S1 S2 : Sto} {r : RS} {w : W} {d : D}
theorem e_seq_nx (h : a δ S = .nx δ' S1) (h2 : b δ' S1 = r) : cSeq a b δ S = r := by unfold cSeq; rw [h]; exact h2
theorem e_seq_rt (h : a δ S = .rt w S1) : cSeq a b δ S = .rt w S1 := by unfold cSeq; rw [h]
theorem e_ifs_t {t : Den Bool} (h : t δ S = .ok true S1) (h2 : a δ S1 = r) : cIfS t a b δ S = r := by unfold cIfS; rw [h]; exact h2
theorem e_ifs_f {t : Den Bool} (h : t δ S = .ok false S1) (h2 : b δ S1 = r) : cIfS t a b δ S = r := by unfold cIfS; rw [h]; exact h2
theorem e_ifs {t : Den Bool} {c : Bool} (h : t δ S = .ok c S1) (h2 : (if c = true then a δ S1 else b δ S1) = r) : cIfS t a b δ S = r := by unfold cIfS; rw [h]; exact h2
theorem e_ret {x : Den W} (h : x δ S = .ok w S1) : cRet x δ S = .rt w S1 := by unfold cRet; rw [h]; rfl
theorem e_expr {x : Den W} (h : x δ S = .ok w S1) : cExpr x δ S = .nx δ S1 := by unfold cExpr; rw [h]; rfl
theorem e_set {x : Den W} {i : Nat} (h : x δ S = .ok w S1) : cAsg x (gN i) δ S = .nx (δ.set i (some w)) S1 := by unfold cAsg; rw [h]; rfl
theorem e_asg {x : Den W} {g : DenG} (h : x δ S = .ok w S1) (hg : g w δ S1 = some (δ', S2)) : cAsg x g δ S = .nx δ' S2 := by
  unfold cAsg; rw [h]
  show (match g w δ S1 with | some (δ', S') => RS.nx δ' S' | none => RS.bad) = _
  rw [hg]
theorem e_for {it : Den (List D)} {g : DenG} {ds : List D} (h : it δ S = .ok ds S1) (h2 : forL g a ds δ S1 = r) : cFor it g a δ S = r := by unfold cFor; rw [h]; exact h2
end
section
variable {x y z : Den W} {t u : Den Bool} {δ : Slots} {S S1 S2 S3 : Sto} {r : R W} {rb : R Bool} {w v : W} {c : Bool}
theorem e_if_t (h : t δ S = .ok true S1) (h2 : x δ S1 = r) : cIf t x y δ S = r := by unfold cIf; rw [h]; exact h2
theorem e_if_f (h : t δ S = .ok false S1) (h2 : y δ S1 = r) : cIf t x y δ S = r := by unfold cIf; rw [h]; exact h2
theorem e_b (h : x δ S = .ok (.v (.bl c)) S1) : cB x δ S = .ok c S1 := by unfold cB; rw [h]; rfl
theorem e_not (h : t δ S = .ok c S1) : cNot t δ S = .ok (!c) S1 := by unfold cNot; rw [h]; rfl
theorem e_or_t (h : t δ S = .ok true S1) : cOr t u δ S = .ok true S1 := by unfold cOr; rw [h]; rfl
theorem e_or_f (h : t δ S = .ok false S1) (h2 : u δ S1 = rb) : cOr t u δ S = rb := by unfold cOr; rw [h]; exact h2
theorem e_and_t (h : t δ S = .ok true S1) (h2 : u δ S1 = rb) : cAnd t u δ S = rb := by unfold cAnd; rw [h]; exact h2
theorem e_and_f (h : t δ S = .ok false S1) : cAnd t u δ S = .ok false S1 := by unfold cAnd; rw [h]; rfl
theorem e_andV_t (h : x δ S = .ok (.v (.bl true)) S1) (h2 : y δ S1 = r) : cAndV x y δ S = r := by unfold cAndV; rw [h]; exact h2
theorem e_andV_f (h : x δ S = .ok (.v (.bl false)) S1) : cAndV x y δ S = .ok (.v (.bl false)) S1 := by unfold cAndV; rw [h]; rfl
theorem e_orV_t (h : x δ S = .ok (.v (.bl true)) S1) : cOrV x y δ S = .ok (.v (.bl true)) S1 := by unfold cOrV; rw [h]; rfl
theorem e_orV_f (h : x δ S = .ok (.v (.bl false)) S1) (h2 : y δ S1 = r) : cOrV x y δ S = r := by unfold cOrV; rw [h]; exact h2
theorem e_notV (h : x δ S = .ok (.v (.bl c)) S1) : cNotV x δ S = .ok (.v (.bl (!c))) S1 := by unfold cNotV; rw [h]; rfl
theorem e_op2 {g : D → D → Option D} {d e k : D} (h1 : x δ S = .ok w S1) (h2 : y δ S1 = .ok v S2) (r1 : rd S2 w = some d) (r2 : rd S2 v = some e) (hg : g d e = some k) : op2 g x y δ S = .ok (.v k) S2 := by
  unfold op2; rw [h1, R.bind_ok, h2, R.bind_ok]; unfold ap2; simp only [r1, r2, hg]
/-- two values -/
theorem e_op2v {g : D → D → Option D} {d e k : D} (h1 : x δ S = .ok (.v d) S1) (h2 : y δ S1 = .ok (.v e) S2) (hg : g d e = some k) : op2 g x y δ S = .ok (.v k) S2 := e_op2 h1 h2 rfl rfl hg
theorem e_ix {d e k : D} (h1 : x δ S = .ok (.v d) S1) (h2 : y δ S1 = .ok (.v e) S2) (hg : gIx d e = some k) : cIx x y δ S = .ok (.v k) S2 := by
  unfold cIx; rw [h1, R.bind_ok, h2, R.bind_ok]
  show ap2 gIx (.v d) (.v e) S2 = _
  unfold ap2; simp only [rd, hg]
theorem e_ixr {d e k : D} (h1 : x δ S = .ok w S1) (h2 : y δ S1 = .ok (.v e) S2) (r1 : rd S2 w = some d) (hg : gIx d e = some k) : cIx x y δ S = .ok (.v k) S2 := by
  unfold cIx; rw [h1, R.bind_ok, h2, R.bind_ok]
  have : apIx w (.v e) S2 = ap2 gIx w (.v e) S2 := by
    cases w with
    | s ns => cases r1
    | _ => rfl
  rw [this]
  unfold ap2
  rw [r1]
  simp only [rd, hg]
theorem e_cons {as : Den (List W)} {ws : List W} (h1 : x δ S = .ok w S1) (h2 : as δ S1 = .ok ws S2) : cCons x as δ S = .ok (w :: ws) S2 := by unfold cCons; rw [h1, R.bind_ok, h2]; rfl
theorem e_call {as : Den (List W)} {ws dws : List W} {n : Nat} {f : FDen} {rv : Rv} (h1 : as δ S = .ok ws S1) (h2 : (ws ++ dws).length = n) (h3 : f (ws ++ dws) S1 = .ok rv S2) (h4 : cRes rv S2 = r) : cCall n f as dws δ S = r := by
  unfold cCall; rw [h1, R.bind_ok]; unfold chk; rw [if_pos h2, h3, R.bind_ok]; exact h4
theorem e_callM {as : Den (List W)} {ws dws : List W} {n : Nat} {f : FDen} {rv : Rv} (h1 : as δ S = .ok ws S1) (h2 : (ws ++ dws).length = n) (h3 : f (ws ++ dws) S1 = .ok rv S2) (h4 : cResM rv S2 = r) : cCallM n f as dws δ S = r := by
  unfold cCallM; rw [h1, R.bind_ok]; unfold chk; rw [if_pos h2, h3, R.bind_ok]; exact h4
theorem e_blt {as : Den (List W)} {ws : List W} {g : List D → Option D} {ds : List D} {k : D} (h1 : as δ S = .ok ws S1) (h2 : rdAll S1 ws = some ds) (h3 : g ds = some k) : cBlt g as δ S = .ok (.v k) S1 := by
  unfold cBlt; rw [h1, R.bind_ok]; unfold apN; simp only [h2, h3]
theorem e_disp {as : Den (List W)} {mk : List D → Sto → R W} {ws : List W} {ds : List D} (h1 : as δ S = .ok ws S1) (h2 : toDs ws = some ds) (h3 : ds.length ≤ 1000) (h4 : mk ds S1 = r) : cDisp mk as δ S = r := by
  unfold cDisp; rw [h1, R.bind_ok]; simp only [h2, if_pos h3]; exact h4
end
theorem e_fdef {n : Nat} {body : DenS} {ws : List W} {S S' : Sto} {w : W} {r : R Rv} (h : body (slots0 n ws) S = .rt w S') (h2 : retv S.length w S' = r) : fdef n body ws S = r := by
  unfold fdef; rw [h]; exact h2
theorem e_fdefN {n : Nat} {body : DenS} {ws : List W} {S S' : Sto} {δ : Slots} (h : body (slots0 n ws) S = .nx δ S') : fdef n body ws S = .ok (.v .non) (S'.take S.length) := by
  unfold fdef; rw [h]; rfl
/-- a def that hands back a value and leaves the store as it was -/
theorem e_fdef_v {n : Nat} {body : DenS} {ws : List W} {S : Sto} {d : D} (h : body (slots0 n ws) S = .rt (.v d) S) : fdef n body ws S = .ok (.v d) S := by
  refine e_fdef h ?_
  show R.ok (Rv.v d) (S.take S.length) = _
  rw [List.take_length]
theorem e_fdef_va {n : Nat} {body : DenS} {ws : List W} {S T : Sto} {d : D} (h : body (slots0 n ws) S = .rt (.v d) (S ++ T)) : fdef n body ws S = .ok (.v d) S := by
  refine e_fdef h ?_
  show R.ok (Rv.v d) ((S ++ T).take S.length) = _
  rw [List.take_left]
theorem e_fdef_vs {n : Nat} {body : DenS} {ws : List W} {S : Sto} {d : D} {i : Nat} {o : Ob} (h : body (slots0 n ws) S = .rt (.v d) (S.set i o)) : fdef n body ws S = .ok (.v d) (S.set i o) := by
  refine e_fdef h ?_
  show R.ok (Rv.v d) ((S.set i o).take S.length) = _
  rw [List.take_of_length_le (by rw [List.length_set]; exact Nat.le_refl _)]
/-- .. the last object that was laid -/
theorem e_fdef_new {n : Nat} {body : DenS} {ws : List W} {S : Sto} {o : Ob} (h : body (slots0 n ws) S = .rt (.r S.length) (S ++ [o])) : fdef n body ws S = .ok (.new o) S := by
  refine e_fdef h ?_
  unfold retv
  simp only [if_neg (Nat.lt_irrefl _), List.getElem?_append_right (Nat.le_refl _), Nat.sub_self]
  show R.ok (Rv.new o) ((S ++ [o]).take S.length) = _
  rw [List.take_left]

/-! ### loops over lists of data -/
/-- a loop whose turns go on: a state St i that the slots and the store keep -/
theorem forL_all {dg : DenG} {b : DenS} (P : List D → Slots → Sto → Prop) (ds : List D) (step : ∀ (d : D) (rest : List D) (δ : Slots) (S : Sto), P (d :: rest) δ S → ∃ δ1 S1 δ2 S2, dg (.v d) δ S = some (δ1, S1) ∧ b δ1 S1 = .nx δ2 S2 ∧ P rest δ2 S2) :
    ∀ (δ : Slots) (S : Sto), P ds δ S → ∃ δ' S', forL dg b ds δ S = .nx δ' S' ∧ P [] δ' S' := by
  induction ds with
  | nil => exact fun δ S h => ⟨δ, S, rfl, h⟩
  | cons d rest ih =>
    intro δ S h
    obtain ⟨δ1, S1, δ2, S2, e1, e2, h2⟩ := step d rest δ S h
    obtain ⟨δ', S', e3, h3⟩ := ih δ2 S2 h2
    refine ⟨δ', S', ?_, h3⟩
    unfold forL
    simp only [e1, e2]
    exact e3
/-- a comprehension over data by a function on data, the store kept -/
theorem comp_ev {it : Den (List D)} {dg : DenG} {tt : Den Bool} {te : Den W} {vs : List Nat} {δ : Slots} {S S1 : Sto} {ds : List D} (f : D → Option D) (hit : it δ S = .ok ds S1) (hl : ds.length ≤ 1000000)
    (hs : ∀ d ∈ ds, ∀ acc : List D, ∃ δ1, dg (.v d) (wipeD δ vs) (S1 ++ [.lst acc]) = some (δ1, S1 ++ [.lst acc]) ∧ (match f d with
      | none => tt δ1 (S1 ++ [.lst acc]) = .ok false (S1 ++ [.lst acc])
      | some e => tt δ1 (S1 ++ [.lst acc]) = .ok true (S1 ++ [.lst acc]) ∧ te δ1 (S1 ++ [.lst acc]) = .ok (.v e) (S1 ++ [.lst acc]))) :
    cComp it dg tt te vs δ S = .ok (.v (.lst (ds.filterMap f))) S1 := by
  have key : ∀ (ds : List D) (acc : List D), acc.length + ds.length ≤ 1000000 → (∀ d ∈ ds, ∀ acc : List D, ∃ δ1, dg (.v d) (wipeD δ vs) (S1 ++ [.lst acc]) = some (δ1, S1 ++ [.lst acc]) ∧ (match f d with
      | none => tt δ1 (S1 ++ [.lst acc]) = .ok false (S1 ++ [.lst acc])
      | some e => tt δ1 (S1 ++ [.lst acc]) = .ok true (S1 ++ [.lst acc]) ∧ te δ1 (S1 ++ [.lst acc]) = .ok (.v e) (S1 ++ [.lst acc]))) →
      compL dg tt te S1.length ds (wipeD δ vs) (S1 ++ [.lst acc]) = .ok () (S1 ++ [.lst (acc ++ ds.filterMap f)]) := by
    intro ds
    induction ds with
    | nil => intro acc _ _; simp [compL]
    | cons d rest ih =>
      intro acc hl h
      obtain ⟨δ1, e1, e2⟩ := h d (List.mem_cons_self) acc
      unfold compL
      simp only [e1]
      cases q : f d with
      | none =>
        rw [q] at e2
        simp only [e2, R.noexc_ok, R.bind_ok]
        rw [if_neg Bool.false_ne_true, ih acc (by rw [List.length_cons] at hl; omega) (fun d hd => h d (List.mem_cons_of_mem _ hd)), List.filterMap_cons, q]
      | some e =>
        rw [q] at e2
        simp only [e2.1, e2.2, R.noexc_ok, R.bind_ok, if_true]
        rw [List.getElem?_append_right (Nat.le_refl _), Nat.sub_self]
        rw [List.length_cons] at hl
        simp only [List.getElem?_cons_zero, if_pos (show acc.length < 1000000 by omega)]
        rw [List.set_append_right _ _ (Nat.le_refl _), Nat.sub_self]
        simp only [List.set_cons_zero]
        rw [ih (acc ++ [e]) (by rw [List.length_append]; simp; omega) (fun d hd => h d (List.mem_cons_of_mem _ hd)), List.filterMap_cons, q]
        simp
  unfold cComp
  rw [hit, R.bind_ok, key ds [] (by simpa using hl) hs, R.bind_ok]
  rw [if_pos (by simp), List.getElem?_append_right (Nat.le_refl _), Nat.sub_self]
  simp only [List.getElem?_cons_zero, List.nil_append, List.take_left]
/-- .. whose elements are all taken -/
theorem comp_map {it : Den (List D)} {dg : DenG} {te : Den W} {vs : List Nat} {δ : Slots} {S S1 : Sto} {ds : List D} (f : D → D) (hit : it δ S = .ok ds S1) (hl : ds.length ≤ 1000000)
    (hs : ∀ d ∈ ds, ∀ acc : List D, ∃ δ1, dg (.v d) (wipeD δ vs) (S1 ++ [.lst acc]) = some (δ1, S1 ++ [.lst acc]) ∧ te δ1 (S1 ++ [.lst acc]) = .ok (.v (f d)) (S1 ++ [.lst acc])) :
    cComp it dg cYes te vs δ S = .ok (.v (.lst (ds.map f))) S1 := by
  have q := comp_ev (it := it) (dg := dg) (tt := cYes) (te := te) (vs := vs) (δ := δ) (S := S) (fun d => some (f d)) hit hl fun d hd acc => by
    obtain ⟨δ1, e1, e2⟩ := hs d hd acc
    exact ⟨δ1, e1, rfl, e2⟩
  rw [q]
  simp [List.filterMap_eq_map]

/-! ### names -/
def stL (ts : List Tx) : List D := ts.map .str
theorem all_stL (ts : List Tx) : (stL ts).all flatD = true := by
  unfold stL
  rw [List.all_map]
  exact List.all_eq_true.mpr fun _ _ => rfl
theorem any_stL (t : Tx) : ∀ ts : List Tx, ((stL ts).any fun y => deq y (.str t)) = decide (t ∈ ts)
  | [] => rfl
  | u :: ts => by
    have ih := any_stL t ts
    unfold stL at ih ⊢
    rw [List.map_cons, List.any_cons, ih]
    show ((u == t) || decide (t ∈ ts)) = decide (t ∈ u :: ts)
    by_cases h : u = t
    · subst h; simp
    · have h2 : (u == t) = false := beq_eq_false_iff_ne.mpr h
      rw [h2, Bool.false_or]
      have : (t ∈ u :: ts) ↔ t ∈ ts := by
        rw [List.mem_cons]
        exact ⟨fun z => z.elim (fun e => absurd e.symm h) id, Or.inr⟩
      exact decide_eq_decide.mpr this.symm
theorem gIn_lst (t : Tx) (ts : List Tx) : gIn (.str t) (.lst (stL ts)) = some (.bl (decide (t ∈ ts))) := by
  unfold gIn gInB
  simp only [flatD, all_stL, Bool.and_self, if_true, any_stL, Option.map_some]
theorem gIn_tup (t : Tx) (ts : List Tx) : gIn (.str t) (.tup (stL ts)) = some (.bl (decide (t ∈ ts))) := by
  unfold gIn gInB
  simp only [flatD, all_stL, Bool.and_self, if_true, any_stL, Option.map_some]
theorem gNotIn_lst (t : Tx) (ts : List Tx) : gNotIn (.str t) (.lst (stL ts)) = some (.bl (!decide (t ∈ ts))) := by
  unfold gNotIn gInB
  simp only [flatD, all_stL, Bool.and_self, if_true, any_stL, Option.map_some]
theorem gNotIn_tup (t : Tx) (ts : List Tx) : gNotIn (.str t) (.tup (stL ts)) = some (.bl (!decide (t ∈ ts))) := by
  unfold gNotIn gInB
  simp only [flatD, all_stL, Bool.and_self, if_true, any_stL, Option.map_some]
def okT (t : Tx) : Bool := t.all fun c => decide (c < 1114112)
theorem okDL_stL : ∀ ts : List Tx, (∀ t ∈ ts, okT t = true) → okDL (stL ts) = true
  | [], _ => rfl
  | t :: ts, h => by
    show (okD (.str t) && okDL (stL ts)) = true
    rw [okDL_stL ts fun u hu => h u (List.mem_cons_of_mem _ hu)]
    have := h t List.mem_cons_self
    unfold okT at this
    simp only [okD, this, Bool.and_self]
theorem depL_stL : ∀ ts : List Tx, depL (stL ts) = 0
  | [] => rfl
  | t :: ts => by
    show max (dep (.str t)) (depL (stL ts)) = 0
    rw [depL_stL ts]
    rfl
theorem deqL_stL : ∀ ts us : List Tx, deqL (stL ts) (stL us) = decide (ts = us)
  | [], [] => rfl
  | [], _ :: _ => rfl
  | _ :: _, [] => rfl
  | t :: ts, u :: us => by
    show ((t == u) && deqL (stL ts) (stL us)) = _
    rw [deqL_stL ts us]
    by_cases h : t = u
    · subst h
      by_cases h2 : ts = us
      · subst h2; simp
      · simp [h2]
    · simp [h]
theorem gEq_stL (ts us : List Tx) (h : ∀ t ∈ ts, okT t = true) (h2 : ∀ t ∈ us, okT t = true) : gEq (.lst (stL ts)) (.lst (stL us)) = some (.bl (decide (ts = us))) := by
  unfold gEq
  simp only [okD, okDL_stL ts h, okDL_stL us h2, dep, depL_stL, deq, deqL_stL]
  rfl
theorem gNe_stL (ts us : List Tx) (h : ∀ t ∈ ts, okT t = true) (h2 : ∀ t ∈ us, okT t = true) : gNe (.lst (stL ts)) (.lst (stL us)) = some (.bl (!decide (ts = us))) := by
  unfold gNe
  simp only [okD, okDL_stL ts h, okDL_stL us h2, dep, depL_stL, deq, deqL_stL]
  rfl
end Fro

namespace Fro
open PySem PySem.Spec L2

/-! ### the last object of a store, and others -/
theorem at_last (S : Sto) (o : Ob) : (S ++ [o])[S.length]? = some o := by simp
theorem at_last2 (S T : Sto) (o : Ob) : (S ++ [o] ++ T)[S.length]? = some o := by simp
theorem set_last (S : Sto) (o o' : Ob) : (S ++ [o]).set S.length o' = S ++ [o'] := by
  rw [List.set_append_right _ _ (Nat.le_refl _), Nat.sub_self]
  rfl
theorem rd_at {S : Sto} {i : Nat} {ds : List D} (h : S[i]? = some (.lst ds)) : rd S (.r i) = some (.lst ds) := by
  unfold rd
  simp only [h]
theorem isRL_at {S : Sto} {i : Nat} {ds : List D} (h : S[i]? = some (.lst ds)) : isRL (.r i) S = some (i, ds) := by
  unfold isRL
  simp only [h]
section
variable {x y : Den W} {δ : Slots} {S S1 S2 : Sto} {i : Nat} {w : W} {d : D} {ds es : List D}
theorem e_extend (h1 : x δ S = .ok (.r i) S1) (h2 : ∃ ds, S1[i]? = some (.lst ds)) (h3 : y δ S1 = .ok w S2) (h4 : S2[i]? = some (.lst ds)) (h5 : rd S2 w = some (.lst es)) (h6 : ds.length + es.length ≤ 1000000) : cExtend x y δ S = .ok (.v .non) (S2.set i (.lst (ds ++ es))) := by
  obtain ⟨ds0, h2⟩ := h2
  unfold cExtend cMth
  rw [h1, R.bind_ok, isRL_at h2]
  show (y δ S1).bind _ = _
  rw [h3, R.bind_ok]
  unfold apExtend
  rw [isRL_at h4, h5]
  simp only [if_pos h6]
theorem e_append (h1 : x δ S = .ok (.r i) S1) (h2 : ∃ ds, S1[i]? = some (.lst ds)) (h3 : y δ S1 = .ok (.v d) S2) (h4 : S2[i]? = some (.lst ds)) (h6 : ds.length < 1000000) : cAppend x y δ S = .ok (.v .non) (S2.set i (.lst (ds ++ [d]))) := by
  obtain ⟨ds0, h2⟩ := h2
  unfold cAppend cMth
  rw [h1, R.bind_ok, isRL_at h2]
  show (y δ S1).bind _ = _
  rw [h3, R.bind_ok]
  unfold apAppend
  rw [isRL_at h4]
  simp only [toD, if_pos h6]
end
theorem e_itL {x : Den W} {δ : Slots} {S S1 : Sto} {ds : List D} (h : x δ S = .ok (.v (.lst ds)) S1) : itL x δ S = .ok ds S1 := by unfold itL; rw [h]; rfl
theorem e_itT {x : Den W} {δ : Slots} {S S1 : Sto} {ds : List D} (h : x δ S = .ok (.v (.tup ds)) S1) : itT x δ S = .ok ds S1 := by unfold itT; rw [h]; rfl
theorem e_itR {as : Den (List W)} {δ : Slots} {S S1 : Sto} {n : Int} (h : as δ S = .ok [.v (.int n)] S1) (h0 : 0 ≤ n) (h1 : n < 1000000) : itR0 as δ S = .ok (rangeD 0 n.toNat) S1 := by
  unfold itR0
  rw [h, R.bind_ok]
  exact if_pos ⟨h0, h1⟩
theorem stL_append (a b : List Tx) : stL a ++ stL b = stL (a ++ b) := by unfold stL; rw [List.map_append]
theorem stL_length (a : List Tx) : (stL a).length = a.length := by unfold stL; rw [List.length_map]
theorem gAdd_tups (a b : List Tx) (h : a.length + b.length ≤ 1000000) : gAdd (.tup (stL a)) (.tup (stL b)) = some (.tup (stL (a ++ b))) := by
  unfold gAdd
  simp only [stL_length, if_pos h, stL_append]
theorem gAdd_lsts (a b : List Tx) (h : a.length + b.length ≤ 1000000) : gAdd (.lst (stL a)) (.lst (stL b)) = some (.lst (stL (a ++ b))) := by
  unfold gAdd
  simp only [stL_length, if_pos h, stL_append]
def flt (p : Tx → Bool) : D → Option D
  | .str t => if p t = true then some (.str t) else none
  | _ => none
theorem filter_stL (p : Tx → Bool) : ∀ ts : List Tx, (stL ts).filterMap (flt p) = stL (ts.filter p)
  | [] => rfl
  | t :: ts => by
    show (D.str t :: stL ts).filterMap _ = _
    rw [List.filterMap_cons]
    by_cases h : p t = true
    · rw [show flt p (.str t) = some (.str t) from if_pos h, List.filter_cons_of_pos h, filter_stL p ts]
      rfl
    · rw [show flt p (.str t) = none from if_neg h, List.filter_cons_of_neg h, filter_stL p ts]
end Fro

namespace Fro
open PySem PySem.Spec L2

/-! ### evaluation by rewriting: each step by the results of its parts -/
def seqK (r : RS) (b : DenS) : RS := match r with
  | .nx δ S => b δ S
  | r => r
def ifsK (r : R Bool) (δ : Slots) (a b : DenS) : RS := r.thenS δ fun c S1 => if c then a δ S1 else b δ S1
def retK (r : R W) (δ : Slots) : RS := r.thenS δ fun w S1 => .rt w S1
def exprK (r : R W) (δ : Slots) : RS := r.thenS δ fun _ S1 => .nx δ S1
def asgK2 (o : Option (Slots × Sto)) : RS := match o with
  | some (δ', S') => .nx δ' S'
  | none => .bad
def asgK (r : R W) (dg : DenG) (δ : Slots) : RS := r.thenS δ fun w S1 => asgK2 (dg w δ S1)
def gsK (o : Option (Slots × Sto)) (b : DenGs) (r : List D) : Option (Slots × Sto) := match o with
  | some (δ1, S1) => b r δ1 S1
  | none => none
def varK (o : Option (Option W)) (S : Sto) : R W := match o with
  | some (some w) => .ok w S
  | _ => .bad
def consK2 (w : W) (r : R (List W)) : R (List W) := r.bind fun ws S2 => .ok (w :: ws) S2
def consK (r : R W) (b : Den (List W)) (δ : Slots) : R (List W) := r.bind fun w S1 => consK2 w (b δ S1)
def dispK2 (mk : List D → Sto → R W) (o : Option (List D)) (S : Sto) : R W := match o with
  | some ds => if ds.length ≤ 1000 then mk ds S else .bad
  | none => .bad
def dispK (mk : List D → Sto → R W) (r : R (List W)) : R W := r.bind fun ws S1 => dispK2 mk (toDs ws) S1
def bK (r : R W) : R Bool := r.bind asB
def notK (r : R Bool) : R Bool := r.bind fun c S1 => .ok (!c) S1
def orK (r : R Bool) (u : Den Bool) (δ : Slots) : R Bool := r.bind fun c S1 => if c then .ok true S1 else u δ S1
def andK (r : R Bool) (u : Den Bool) (δ : Slots) : R Bool := r.bind fun c S1 => if c then u δ S1 else .ok false S1
def andVK (r : R W) (b : Den W) (δ : Slots) : R W := r.bind fun w S1 => (asB w S1).bind fun c S2 => if c then b δ S2 else .ok (.v (.bl false)) S2
def orVK (r : R W) (b : Den W) (δ : Slots) : R W := r.bind fun w S1 => (asB w S1).bind fun c S2 => if c then .ok (.v (.bl true)) S2 else b δ S2
def notVK (r : R W) : R W := r.bind fun w S1 => (asB w S1).bind fun c S2 => .ok (.v (.bl (!c))) S2
def ifK (r : R Bool) (a b : Den W) (δ : Slots) : R W := r.bind fun c S1 => if c then a δ S1 else b δ S1
def ofO (o : Option D) (S : Sto) : R W := match o with
  | some k => .ok (.v k) S
  | none => .bad
def ofO2 (g : D → D → Option D) (a b : Option D) (S : Sto) : R W := match a, b with
  | some d, some e => ofO (g d e) S
  | _, _ => .bad
def opK2 (g : D → D → Option D) (x : W) (r : R W) : R W := r.bind fun y S2 => ap2 g x y S2
def opK (r : R W) (g : D → D → Option D) (b : Den W) (δ : Slots) : R W := r.bind fun x S1 => opK2 g x (b δ S1)
def ixK2 (x : W) (r : R W) : R W := r.bind fun y S2 => apIx x y S2
def ixK (r : R W) (b : Den W) (δ : Slots) : R W := r.bind fun x S1 => ixK2 x (b δ S1)
def bltK2 (g : List D → Option D) (o : Option (List D)) (S : Sto) : R W := match o with
  | some ds => ofO (g ds) S
  | none => .bad
def bltK (g : List D → Option D) (r : R (List W)) : R W := r.bind fun ws S1 => bltK2 g (rdAll S1 ws) S1
def resK (r : R Rv) : R W := r.bind cRes
def resMK (r : R Rv) : R W := r.bind cResM
def callK (n : Nat) (f : FDen) (r : R (List W)) (dws : List W) : R W := r.bind fun ws S1 => resK (chk n f (ws ++ dws) S1)
def callMK (n : Nat) (f : FDen) (r : R (List W)) (dws : List W) : R W := r.bind fun ws S1 => resMK (chk n f (ws ++ dws) S1)
def m1K3 (g : D → Option D) (r : R W) : R W := r.bind fun y S3 => ap1 g y S3
def m1K (r : R W) (g : Tx → D → Option D) (b : Den W) (δ : Slots) : R W := r.bind fun w S1 => (asX w S1).bind fun t S2 => m1K3 (g t) (b δ S2)
def forK (r : R (List D)) (g : DenG) (b : DenS) (δ : Slots) : RS := r.thenS δ fun ds S1 => forL g b ds δ S1
def parK (r : R (List W)) (is : List Nat) (δ : Slots) : RS := r.thenS δ fun ws S1 => if ws.length = is.length then .nx ((is.zip ws).foldl (fun δ p => δ.set p.1 (some p.2)) δ) S1 else .bad
def mthK2 (o : Option (Nat × List D)) (k : Nat → Slots → Sto → R W) (δ : Slots) (S : Sto) : R W := match o with
  | some (i, _) => k i δ S
  | none => .bad
def mthK (r : R W) (k : Nat → Slots → Sto → R W) (δ : Slots) : R W := r.bind fun x S1 => mthK2 (isRL x S1) k δ S1
section
variable {a b c : DenS} {x y : Den W} {t u : Den Bool} {δ δ1 : Slots} {S S1 : Sto} {w v : W} {d e : D} {n : Nat} {k : Bool} {as : Den (List W)} {ws dws : List W} {g : D → D → Option D}
theorem v_seq : cSeq a b δ S = seqK (a δ S) b := rfl
theorem v_seq1 : seqK (.nx δ S) b = b δ S := rfl
theorem v_seq2 : seqK (.rt w S) b = .rt w S := rfl
theorem v_seq3 : seqK (.bk δ S) b = .bk δ S := rfl
theorem v_seq4 : seqK (.ct δ S) b = .ct δ S := rfl
theorem v_seq5 {m ds} : seqK (.xc m ds δ S) b = .xc m ds δ S := rfl
theorem v_ifs : cIfS t a b δ S = ifsK (t δ S) δ a b := rfl
theorem v_ifs1 : ifsK (.ok true S) δ a b = a δ S := rfl
theorem v_ifs2 : ifsK (.ok false S) δ a b = b δ S := rfl
theorem v_ifs3 {m ds} : ifsK (.exc m ds S) δ a b = .xc m ds δ S := rfl
theorem v_ret : cRet x δ S = retK (x δ S) δ := rfl
theorem v_ret1 : retK (.ok w S) δ = .rt w S := rfl
theorem v_ret3 {m ds} : retK (.exc m ds S) δ = .xc m ds δ S := rfl
theorem v_retN : cRetN δ S = .rt (.v .non) S := rfl
theorem v_expr : cExpr x δ S = exprK (x δ S) δ := rfl
theorem v_expr1 : exprK (.ok w S) δ = .nx δ S := rfl
theorem v_expr3 {m ds} : exprK (.exc m ds S) δ = .xc m ds δ S := rfl
theorem v_asg {dg : DenG} : cAsg x dg δ S = asgK (x δ S) dg δ := rfl
theorem v_asg1 {dg : DenG} : asgK (.ok w S) dg δ = asgK2 (dg w δ S) := rfl
theorem v_asg2 : asgK2 (some (δ, S)) = .nx δ S := rfl
theorem v_asg3 {dg : DenG} {m ds} : asgK (.exc m ds S) dg δ = .xc m ds δ S := rfl
theorem v_gN {i : Nat} : gN i w δ S = some (δ.set i (some w), S) := rfl
theorem v_gT {bs : DenGs} {ds : List D} : gT n bs (.v (.tup ds)) δ S = if ds.length = n then bs ds δ S else none := rfl
theorem v_gs {dg : DenG} {bs : DenGs} {ds : List D} : gsCons dg bs (d :: ds) δ S = gsK (dg (.v d) δ S) bs ds := rfl
theorem v_gs1 {bs : DenGs} {ds : List D} : gsK (some (δ, S)) bs ds = bs ds δ S := rfl
theorem v_gs2 : gsNil [] δ S = some (δ, S) := rfl
theorem v_nx : cNx δ S = .nx δ S := rfl
theorem v_brk : cBrk δ S = .bk δ S := rfl
theorem v_ct : cCt δ S = .ct δ S := rfl
theorem v_var {i : Nat} : cVar i δ S = varK δ[i]? S := rfl
theorem v_var1 : varK (some (some w)) S = .ok w S := rfl
theorem v_c : cC d δ S = .ok (.v d) S := rfl
theorem v_nil : cNil δ S = .ok [] S := rfl
theorem v_cons : cCons x as δ S = consK (x δ S) as δ := rfl
theorem v_cons1 : consK (.ok w S) as δ = consK2 w (as δ S) := rfl
theorem v_cons2 : consK2 w (.ok ws S) = .ok (w :: ws) S := rfl
theorem v_cons3 {m ds} : consK (.exc m ds S) as δ = .exc m ds S := rfl
theorem v_cons4 {m ds} : consK2 w (.exc m ds S) = .exc m ds S := rfl
theorem v_tup : cTup as δ S = dispK (fun ds S => .ok (.v (.tup ds)) S) (as δ S) := rfl
theorem v_lst : cLst as δ S = dispK (fun ds S => .ok (.v (.lst ds)) S) (as δ S) := rfl
theorem v_lstM : cLstM as δ S = dispK (fun ds S => .ok (.r S.length) (S ++ [.lst ds])) (as δ S) := rfl
theorem v_disp1 {mk : List D → Sto → R W} : dispK mk (.ok ws S) = dispK2 mk (toDs ws) S := rfl
theorem v_disp2 {mk : List D → Sto → R W} {ds : List D} : dispK2 mk (some ds) S = if ds.length ≤ 1000 then mk ds S else .bad := rfl
theorem v_disp3 {mk : List D → Sto → R W} {m ds} : dispK mk (.exc m ds S) = .exc m ds S := rfl
theorem v_toDs0 : toDs [] = some [] := rfl
theorem v_toDs1 : toDs (.v d :: ws) = (toDs ws).map (d :: ·) := by
  show (match toD (.v d), toDs ws with | some d, some ds => some (d :: ds) | _, _ => none) = _
  cases toDs ws <;> rfl
theorem v_b : cB x δ S = bK (x δ S) := rfl
theorem v_b1 : bK (.ok (.v (.bl k)) S) = .ok k S := rfl
theorem v_b3 {m ds} : bK (.exc m ds S) = .exc m ds S := rfl
theorem v_not : cNot t δ S = notK (t δ S) := rfl
theorem v_not1 : notK (.ok k S) = .ok (!k) S := rfl
theorem v_not3 {m ds} : notK (.exc m ds S) = .exc m ds S := rfl
theorem v_or : cOr t u δ S = orK (t δ S) u δ := rfl
theorem v_or1 : orK (.ok true S) u δ = .ok true S := rfl
theorem v_or2 : orK (.ok false S) u δ = u δ S := rfl
theorem v_and : cAnd t u δ S = andK (t δ S) u δ := rfl
theorem v_and1 : andK (.ok true S) u δ = u δ S := rfl
theorem v_and2 : andK (.ok false S) u δ = .ok false S := rfl
theorem v_andV : cAndV x y δ S = andVK (x δ S) y δ := rfl
theorem v_andV1 : andVK (.ok (.v (.bl true)) S) y δ = y δ S := rfl
theorem v_andV2 : andVK (.ok (.v (.bl false)) S) y δ = .ok (.v (.bl false)) S := rfl
theorem v_orV : cOrV x y δ S = orVK (x δ S) y δ := rfl
theorem v_orV1 : orVK (.ok (.v (.bl true)) S) y δ = .ok (.v (.bl true)) S := rfl
theorem v_orV2 : orVK (.ok (.v (.bl false)) S) y δ = y δ S := rfl
theorem v_notV : cNotV x δ S = notVK (x δ S) := rfl
theorem v_notV1 : notVK (.ok (.v (.bl k)) S) = .ok (.v (.bl (!k))) S := rfl
theorem v_if : cIf t x y δ S = ifK (t δ S) x y δ := rfl
theorem v_if1 : ifK (.ok true S) x y δ = x δ S := rfl
theorem v_if2 : ifK (.ok false S) x y δ = y δ S := rfl
theorem v_op : op2 g x y δ S = opK (x δ S) g y δ := rfl
theorem v_op1 : opK (.ok w S) g y δ = opK2 g w (y δ S) := rfl
theorem v_op2 : opK2 g w (.ok v S) = ap2 g w v S := rfl
theorem v_op3 {m ds} : opK (.exc m ds S) g y δ = .exc m ds S := rfl
theorem v_op4 {m ds} : opK2 g w (.exc m ds S) = .exc m ds S := rfl
theorem v_ap2 : ap2 g w v S = ofO2 g (rd S w) (rd S v) S := by
  unfold ap2 ofO2
  cases rd S w <;> cases rd S v <;> rfl
theorem v_ofO2 : ofO2 g (some d) (some e) S = ofO (g d e) S := rfl
theorem v_ofO : ofO (some d) S = .ok (.v d) S := rfl
theorem v_rd : rd S (.v d) = some d := rfl
theorem v_ix : cIx x y δ S = ixK (x δ S) y δ := rfl
theorem v_ix1 : ixK (.ok w S) y δ = ixK2 w (y δ S) := rfl
theorem v_ix2 : ixK2 w (.ok v S) = apIx w v S := rfl
theorem v_ix3 : apIx (.v d) (.v e) S = ofO (gIx d e) S := by
  show ap2 gIx (.v d) (.v e) S = _
  rw [v_ap2]; rfl
theorem v_ix4 {i : Nat} : apIx (.r i) (.v e) S = ofO2 gIx (rd S (.r i)) (some e) S := by
  show ap2 gIx (.r i) (.v e) S = _
  rw [v_ap2]; rfl
theorem v_gIxT {ds : List D} {i : Int} : gIx (.tup ds) (.int i) = atI ds i := rfl
theorem v_gIxL {ds : List D} {i : Int} : gIx (.lst ds) (.int i) = atI ds i := rfl
theorem v_at0 {α : Type} {p : α} {l : List α} : atI (p :: l) 0 = some p := by
  unfold atI ixN
  rw [if_pos (by decide), if_pos (by simp)]
  rfl
theorem v_at1 {α : Type} {p q : α} {l : List α} : atI (p :: q :: l) 1 = some q := by
  unfold atI ixN
  rw [if_pos (by decide), if_pos (by simp; omega)]
  rfl
theorem v_at2 {α : Type} {p q r : α} {l : List α} : atI (p :: q :: r :: l) 2 = some r := by
  unfold atI ixN
  rw [if_pos (by decide), if_pos (by simp; omega)]
  rfl
theorem v_at3 {α : Type} {p q r s : α} {l : List α} : atI (p :: q :: r :: s :: l) 3 = some s := by
  unfold atI ixN
  rw [if_pos (by decide), if_pos (by simp; omega)]
  rfl
theorem v_blt {gg : List D → Option D} : cBlt gg as δ S = bltK gg (as δ S) := by
  show (as δ S).bind _ = (as δ S).bind _
  congr 1
theorem v_blt1 {gg : List D → Option D} : bltK gg (.ok ws S) = bltK2 gg (rdAll S ws) S := rfl
theorem v_blt2 {gg : List D → Option D} {ds : List D} : bltK2 gg (some ds) S = ofO (gg ds) S := rfl
theorem v_blt3 {gg : List D → Option D} {m ds} : bltK gg (.exc m ds S) = .exc m ds S := rfl
theorem v_rdA0 : rdAll S [] = some [] := rfl
theorem v_rdA1 : rdAll S (.v d :: ws) = (rdAll S ws).map (d :: ·) := by
  show (match rd S (.v d), rdAll S ws with | some d, some ds => some (d :: ds) | _, _ => none) = _
  cases rdAll S ws <;> rfl
theorem v_call {f : FDen} : cCall n f as dws δ S = callK n f (as δ S) dws := rfl
theorem v_call1 {f : FDen} : callK n f (.ok ws S) dws = resK (chk n f (ws ++ dws) S) := rfl
theorem v_call3 {f : FDen} {m ds} : callK n f (.exc m ds S) dws = .exc m ds S := rfl
theorem v_chk {f : FDen} : chk n f ws S = if ws.length = n then f ws S else .bad := rfl
theorem v_res1 : resK (.ok (.v d) S) = .ok (.v d) S := rfl
theorem v_res2 {i : Nat} : resK (.ok (.old i) S) = .ok (.r i) S := rfl
theorem v_res3 {ds : List D} : resK (.ok (.new (.lst ds)) S) = .ok (.v (.lst ds)) S := rfl
theorem v_res4 {ds : List (Tx × D)} : resK (.ok (.new (.dct ds)) S) = .ok (.v (.dct ds)) S := rfl
theorem v_res5 {m ds} : resK (.exc m ds S) = .exc m ds S := rfl
theorem v_callM {f : FDen} : cCallM n f as dws δ S = callMK n f (as δ S) dws := rfl
theorem v_callM1 {f : FDen} : callMK n f (.ok ws S) dws = resMK (chk n f (ws ++ dws) S) := rfl
theorem v_resM1 : resMK (.ok (.v d) S) = .ok (.v d) S := rfl
theorem v_resM2 {i : Nat} : resMK (.ok (.old i) S) = .ok (.r i) S := rfl
theorem v_resM3 {ob : Ob} : resMK (.ok (.new ob) S) = .ok (.r S.length) (S ++ [ob]) := rfl
theorem v_m1 {g : Tx → D → Option D} : cM1 g x y δ S = m1K (x δ S) g y δ := rfl
theorem v_m11 {g : Tx → D → Option D} {t : Tx} : m1K (.ok (.v (.str t)) S) g y δ = m1K3 (g t) (y δ S) := rfl
theorem v_m12 {g : D → Option D} : m1K3 g (.ok (.v d) S) = ofO (g d) S := by
  show ap1 g (.v d) S = _
  unfold ap1
  show (match g d with | some r => R.ok (W.v r) S | none => .bad) = _
  cases g d <;> rfl
theorem v_for {it : Den (List D)} {dg : DenG} : cFor it dg b δ S = forK (it δ S) dg b δ := rfl
theorem v_for1 {dg : DenG} {ds : List D} : forK (.ok ds S) dg b δ = forL dg b ds δ S := rfl
theorem v_par {is : List Nat} : cPar is as δ S = parK (as δ S) is δ := rfl
theorem v_par2 {i j : Nat} : parK (.ok [w, v] S) [i, j] δ = .nx ((δ.set i (some w)).set j (some v)) S := rfl
theorem v_par3 {i j l : Nat} {z : W} : parK (.ok [w, v, z] S) [i, j, l] δ = .nx (((δ.set i (some w)).set j (some v)).set l (some z)) S := rfl
theorem v_len : cLen as δ S = (as δ S).bind apLen := rfl
theorem v_len1 : apLen [.v d] S = ofO (gLen [d]) S := by
  show apN gLen [.v d] S = _
  unfold apN
  show (match gLen [d] with | some r => R.ok (W.v r) S | none => .bad) = _
  cases gLen [d] <;> rfl
theorem v_lenL {ds : List D} : gLen [.lst ds] = some (.int ds.length) := rfl
theorem v_lenT {ds : List D} : gLen [.tup ds] = some (.int ds.length) := rfl
theorem v_lenS {t : Tx} (h : t.length ≤ 1000000) : gLen [.str t] = some (.int t.length) := if_pos h
theorem v_itL : itL x δ S = (x δ S).bind asL := rfl
theorem v_itL1 {ds : List D} : asL (.v (.lst ds)) S = .ok ds S := rfl
theorem v_itT : itT x δ S = (x δ S).bind asT := rfl
theorem v_itT1 {ds : List D} : asT (.v (.tup ds)) S = .ok ds S := rfl
theorem v_itR {n : Int} (h0 : 0 ≤ n) (h1 : n < 1000000) : asR0 [.v (.int n)] S = .ok (rangeD 0 n.toNat) S := if_pos ⟨h0, h1⟩
theorem v_itR0 : itR0 as δ S = (as δ S).bind asR0 := rfl
/-! data -/
theorem gEq_of (hd : okD d = true) (he : okD e = true) (h : min (dep d) (dep e) ≤ 64) : gEq d e = some (.bl (deq d e)) := by
  unfold gEq
  rw [if_pos (by rw [hd, he, decide_eq_true h]; rfl)]
theorem gNe_of (hd : okD d = true) (he : okD e = true) (h : min (dep d) (dep e) ≤ 64) : gNe d e = some (.bl (!deq d e)) := by
  unfold gNe
  rw [if_pos (by rw [hd, he, decide_eq_true h]; rfl)]
theorem deqS (p q : Tx) : deq (.str p) (.str q) = decide (p = q) := by
  show (p == q) = _
  by_cases h : p = q
  · subst h; simp
  · simp [h]
theorem v_eqS {p q : Tx} (hp : okT p = true) (hq : okT q = true) : gEq (.str p) (.str q) = some (.bl (decide (p = q))) := by
  rw [gEq_of (d := .str p) (e := .str q) hp hq (Nat.zero_le _), deqS]
theorem v_neS {p q : Tx} (hp : okT p = true) (hq : okT q = true) : gNe (.str p) (.str q) = some (.bl (!decide (p = q))) := by
  rw [gNe_of (d := .str p) (e := .str q) hp hq (Nat.zero_le _), deqS]
theorem v_eqI {i j : Int} : gEq (.int i) (.int j) = some (.bl (decide (i = j))) := rfl
theorem v_neI {i j : Int} : gNe (.int i) (.int j) = some (.bl (!decide (i = j))) := rfl
theorem v_okT0 : okT [] = true := rfl
theorem v_okT1 {c : Nat} {p : Tx} : okT (c :: p) = (decide (c < 1114112) && okT p) := rfl
theorem v_lt {i j : Int} : gLt (.int i) (.int j) = some (.bl (decide (i < j))) := rfl
theorem v_le {i j : Int} : gLe (.int i) (.int j) = some (.bl (decide (i ≤ j))) := rfl
theorem v_gt {i j : Int} : gGt (.int i) (.int j) = some (.bl (decide (j < i))) := rfl
theorem v_ge {i j : Int} : gGe (.int i) (.int j) = some (.bl (decide (j ≤ i))) := rfl
theorem v_add {i j : Int} : gAdd (.int i) (.int j) = some (.int (i + j)) := rfl
theorem v_sub {i j : Int} : gSub (.int i) (.int j) = some (.int (i - j)) := rfl
theorem v_mod {i j : Int} (h : 0 < j) : gMod (.int i) (.int j) = some (.int (i % j)) := if_pos h
theorem v_div {i j : Int} (h : 0 < j) (h2 : j < 1073741824) : gDiv (.int i) (.int j) = some (.int (i / j)) := if_pos ⟨h, h2⟩
theorem v_addS {p q : Tx} (h : p.length + q.length ≤ 1000000) : gAdd (.str p) (.str q) = some (.str (p ++ q)) := if_pos h
theorem v_addL {p q : List D} (h : p.length + q.length ≤ 1000000) : gAdd (.lst p) (.lst q) = some (.lst (p ++ q)) := if_pos h
theorem v_addT {p q : List D} (h : p.length + q.length ≤ 1000000) : gAdd (.tup p) (.tup q) = some (.tup (p ++ q)) := if_pos h
theorem v_int {i : Int} : gInt [.int i] = some (.int i) := rfl
theorem v_intB {k : Bool} : gInt [.bl k] = some (.int (if k then 1 else 0)) := rfl
theorem v_sl0 {n : Nat} {ws : List W} : slots0 n ws = ws.map some ++ List.replicate (n - ws.length) none := rfl
theorem v_frzV : frz (.v d) S = .ok (.v d) S := rfl
theorem v_frz : cFrz x δ S = (x δ S).bind frz := rfl
end
theorem e_while_f {t : Den Bool} {b : DenS} {n : Nat} {δ : Slots} {S S1 : Sto} (h : t δ S = .ok false S1) : whileN t b (n + 1) δ S = .nx δ S1 := by
  unfold whileN; rw [h]; rfl
theorem e_while_t {t : Den Bool} {b : DenS} {n : Nat} {δ δ2 : Slots} {S S1 S2 : Sto} (h : t δ S = .ok true S1) (h2 : b δ S1 = .nx δ2 S2) : whileN t b (n + 1) δ S = whileN t b n δ2 S2 := by
  rw [whileN, h, R.thenS_ok, if_pos rfl, h2]
theorem e_for_nil {dg : DenG} {b : DenS} {δ : Slots} {S : Sto} : forL dg b [] δ S = .nx δ S := rfl
theorem e_for_nx {dg : DenG} {b : DenS} {d : D} {ds : List D} {δ δ1 δ2 : Slots} {S S1 S2 : Sto} (h : dg (.v d) δ S = some (δ1, S1)) (h2 : b δ1 S1 = .nx δ2 S2) : forL dg b (d :: ds) δ S = forL dg b ds δ2 S2 := by
  rw [forL]; simp only [h, h2]
theorem e_for_ct {dg : DenG} {b : DenS} {d : D} {ds : List D} {δ δ1 δ2 : Slots} {S S1 S2 : Sto} (h : dg (.v d) δ S = some (δ1, S1)) (h2 : b δ1 S1 = .ct δ2 S2) : forL dg b (d :: ds) δ S = forL dg b ds δ2 S2 := by
  rw [forL]; simp only [h, h2]
theorem e_for_rt {dg : DenG} {b : DenS} {d : D} {ds : List D} {δ δ1 : Slots} {S S1 S2 : Sto} {w : W} (h : dg (.v d) δ S = some (δ1, S1)) (h2 : b δ1 S1 = .rt w S2) : forL dg b (d :: ds) δ S = .rt w S2 := by
  rw [forL]; simp only [h, h2]
/-- a test on a text in a row of texts -/
def inK (p : Tx) (e : D) (o : Option (List Tx)) : Option D := match o with
  | some ts => some (.bl (decide (p ∈ ts)))
  | none => gIn (.str p) e
theorem txs_stL : ∀ {ds : List D} {ts : List Tx}, txs ds = some ts → ds = stL ts
  | [], ts, e => by cases e; rfl
  | .str t :: r, ts, e => by
    unfold txs at e
    cases q : txs r with
    | none => rw [q] at e; cases e
    | some us =>
      rw [q] at e
      cases e
      rw [txs_stL q]
      rfl
  | .non :: _, _, e => by cases e
  | .bl _ :: _, _, e => by cases e
  | .int _ :: _, _, e => by cases e
  | .tup _ :: _, _, e => by cases e
  | .lst _ :: _, _, e => by cases e
  | .dct _ :: _, _, e => by cases e
  | .ty _ :: _, _, e => by cases e
theorem v_txs0 : txs [] = some [] := rfl
theorem v_txs1 {t : Tx} {r : List D} : txs (.str t :: r) = (txs r).map (t :: ·) := rfl
theorem txs_of : ∀ ts : List Tx, txs (stL ts) = some ts
  | [] => rfl
  | t :: ts => by
    show (txs (stL ts)).map (t :: ·) = _
    rw [txs_of ts]
    rfl
theorem v_in1 {p : Tx} {ds : List D} : gIn (.str p) (.tup ds) = inK p (.tup ds) (txs ds) := by
  unfold inK
  cases q : txs ds with
  | none => rfl
  | some ts => rw [txs_stL q]; exact gIn_tup p ts
theorem v_in2 {p : Tx} {ds : List D} : gIn (.str p) (.lst ds) = inK p (.lst ds) (txs ds) := by
  unfold inK
  cases q : txs ds with
  | none => rfl
  | some ts => rw [txs_stL q]; exact gIn_lst p ts
theorem v_in3 {p : Tx} {e : D} {ts : List Tx} : inK p e (some ts) = some (.bl (decide (p ∈ ts))) := rfl
theorem v_in4 {p : Tx} {ds : List D} : gNotIn (.str p) (.lst ds) = (gIn (.str p) (.lst ds)).map fun d => match d with
    | .bl b => .bl (!b)
    | d => d := by
  unfold gNotIn gIn
  cases gInB (.str p) (.lst ds) <;> rfl
theorem v_in5 {p : Tx} {ds : List D} : gNotIn (.str p) (.tup ds) = (gIn (.str p) (.tup ds)).map fun d => match d with
    | .bl b => .bl (!b)
    | d => d := by
  unfold gNotIn gIn
  cases gInB (.str p) (.tup ds) <;> rfl
/-- a test on a name in a row of texts -/
theorem v_inT {p : Tx} {ts : List Tx} {ds : List D} (h : ds = stL ts) : gIn (.str p) (.tup ds) = some (.bl (decide (p ∈ ts))) := by subst h; exact gIn_tup p ts
theorem v_inL {p : Tx} {ts : List Tx} {ds : List D} (h : ds = stL ts) : gIn (.str p) (.lst ds) = some (.bl (decide (p ∈ ts))) := by subst h; exact gIn_lst p ts
end Fro

namespace Fro
open PySem PySem.Spec L2

theorem set_self {S : Sto} {i : Nat} {o : Ob} (h : S[i]? = some o) : S.set i o = S := by
  apply List.ext_getElem?
  intro j
  by_cases hj : i = j
  · subst hj
    have hl : i < S.length := (List.getElem?_eq_some_iff.mp h).1
    rw [List.getElem?_set_self hl, h]
  · rw [List.getElem?_set_ne hj]
/-! ### evaluation: dicts -/
theorem mergeE_nil : ∀ (l acc : List (Tx × D)), ((acc ++ l).map (·.1)).Nodup → mergeE acc l = acc ++ l
  | [], acc, _ => by rw [List.append_nil]; rfl
  | (t, d) :: r, acc, h => by
    have hn : hasE acc t = false := by
      unfold hasE
      rw [List.any_eq_false]
      intro e he hb
      have heq : e.1 = t := eq_of_beq hb
      rw [List.map_append, List.nodup_append] at h
      exact h.2.2 e.1 (List.mem_map.mpr ⟨e, he, rfl⟩) t (by simp) heq
    show mergeE (putE acc t d) r = _
    have e : putE acc t d = acc ++ [(t, d)] := by
      unfold putE
      rw [hn, if_neg Bool.false_ne_true]
    rw [e, mergeE_nil r (acc ++ [(t, d)]) (by rw [List.append_assoc]; exact h), List.append_assoc]
    rfl
section
variable {x y z : Den W} {δ : Slots} {S S1 S2 S3 : Sto} {es : List (Tx × D)} {t : Tx} {w : W} {d : D}
theorem e_dget2_some (h1 : x δ S = .ok (.v (.dct es)) S1) (h2 : y δ S1 = .ok (.v (.str t)) S2) (h3 : z δ S2 = .ok w S3) (h4 : lkT es t = some d) : cDGet2 x y z δ S = .ok (.v d) S3 := by
  unfold cDGet2
  rw [h1, R.bind_ok, if_pos (show isDct (.v (.dct es)) S1 = true from rfl), h2, R.bind_ok, h3, R.bind_ok]
  unfold apDGet2
  simp only [rd, h4]
theorem e_dget2_none (h1 : x δ S = .ok (.v (.dct es)) S1) (h2 : y δ S1 = .ok (.v (.str t)) S2) (h3 : z δ S2 = .ok w S3) (h4 : lkT es t = none) : cDGet2 x y z δ S = .ok w S3 := by
  unfold cDGet2
  rw [h1, R.bind_ok, if_pos (show isDct (.v (.dct es)) S1 = true from rfl), h2, R.bind_ok, h3, R.bind_ok]
  unfold apDGet2
  simp only [rd, h4]
/-- a dict of one entry -/
theorem e_dict1 (h1 : x δ (S ++ [.dct []]) = .ok (.v (.str t)) (S ++ [.dct []])) (h2 : y δ (S ++ [.dct []]) = .ok (.v d) (S ++ [.dct []])) : cDict [(x, y)] δ S = .ok (.v (.dct [(t, d)])) S := by
  have hp : pairsD [(x, y)] δ (S ++ [.dct []]) = .ok [(t, d)] (S ++ [.dct []]) := by
    unfold pairsD
    rw [h1, R.bind_ok, h2, R.bind_ok]
    rfl
  unfold cDict
  rw [hp, R.bind_ok]
  unfold endDict
  rw [at_last]
  show (if ([(t, d)] : List (Tx × D)).length ≤ 15 ∧ (S ++ [Ob.dct []]).length = S.length + 1 then R.ok (W.v (D.dct (mergeE [] [(t, d)]))) ((S ++ [Ob.dct []]).take S.length) else R.bad) = _
  rw [if_pos ⟨by simp, by simp⟩]
  rw [List.take_left]
  rfl
end
theorem dcomp_ev {it : Den (List D)} {dg : DenG} {tt : Den Bool} {tk tv : Den W} {vs : List Nat} {δ : Slots} {S S1 : Sto} {ds : List D} (f : D → Option (Tx × D)) (hit : it δ S = .ok ds S1) (hl : ds.length ≤ 1000)
    (hs : ∀ d ∈ ds, ∀ acc : List (Tx × D), ∃ δ1, dg (.v d) (wipeD δ vs) (S1 ++ [.dct acc]) = some (δ1, S1 ++ [.dct acc]) ∧ (match f d with
      | none => tt δ1 (S1 ++ [.dct acc]) = .ok false (S1 ++ [.dct acc])
      | some e => tt δ1 (S1 ++ [.dct acc]) = .ok true (S1 ++ [.dct acc]) ∧ tk δ1 (S1 ++ [.dct acc]) = .ok (.v (.str e.1)) (S1 ++ [.dct acc]) ∧ tv δ1 (S1 ++ [.dct acc]) = .ok (.v e.2) (S1 ++ [.dct acc]))) :
    cDComp it dg tt tk tv vs δ S = .ok (.v (.dct (mergeE [] (ds.filterMap f)))) S1 := by
  have put_len : ∀ (acc : List (Tx × D)) (t : Tx) (d : D), (putE acc t d).length ≤ acc.length + 1 := fun acc t d => by
    unfold putE
    split
    · rw [List.length_map]; omega
    · rw [List.length_append]; simp
  have key : ∀ (ds : List D) (acc : List (Tx × D)), acc.length + ds.length ≤ 1000 → (∀ d ∈ ds, ∀ acc : List (Tx × D), ∃ δ1, dg (.v d) (wipeD δ vs) (S1 ++ [.dct acc]) = some (δ1, S1 ++ [.dct acc]) ∧ (match f d with
      | none => tt δ1 (S1 ++ [.dct acc]) = .ok false (S1 ++ [.dct acc])
      | some e => tt δ1 (S1 ++ [.dct acc]) = .ok true (S1 ++ [.dct acc]) ∧ tk δ1 (S1 ++ [.dct acc]) = .ok (.v (.str e.1)) (S1 ++ [.dct acc]) ∧ tv δ1 (S1 ++ [.dct acc]) = .ok (.v e.2) (S1 ++ [.dct acc]))) →
      dcompL dg tt tk tv S1.length ds (wipeD δ vs) (S1 ++ [.dct acc]) = .ok () (S1 ++ [.dct (mergeE acc (ds.filterMap f))]) := by
    intro ds
    induction ds with
    | nil => intro acc _ _; rfl
    | cons d rest ih =>
      intro acc hl h
      rw [List.length_cons] at hl
      obtain ⟨δ1, e1, e2⟩ := h d List.mem_cons_self acc
      unfold dcompL
      simp only [e1]
      cases q : f d with
      | none =>
        rw [q] at e2
        simp only [e2, R.noexc_ok, R.bind_ok]
        rw [if_neg Bool.false_ne_true, ih acc (by omega) (fun d hd => h d (List.mem_cons_of_mem _ hd)), List.filterMap_cons, q]
      | some e =>
        rw [q] at e2
        simp only [e2.1, e2.2.1, e2.2.2, R.noexc_ok, R.bind_ok, if_true]
        have hp : dputL S1.length (.v (.str e.1)) (.v e.2) (S1 ++ [.dct acc]) = some (S1 ++ [.dct (putE acc e.1 e.2)]) := by
          unfold dputL
          rw [at_last]
          simp only [if_pos (show acc.length < 1000000 by omega), set_last]
        rw [hp]
        show dcompL dg tt tk tv S1.length rest (wipeD δ vs) (S1 ++ [.dct (putE acc e.1 e.2)]) = _
        rw [ih (putE acc e.1 e.2) (by have := put_len acc e.1 e.2; omega) (fun d hd => h d (List.mem_cons_of_mem _ hd)), List.filterMap_cons, q]
        rfl
  unfold cDComp
  rw [hit, R.bind_ok, key ds [] (by simpa using hl) hs, R.bind_ok]
  unfold endDComp
  rw [if_pos (by simp), at_last]
  simp only [List.take_left]
/-- a comprehension over two data, by a call -/
theorem comp_two {it : Den (List D)} {f : FDen} {j n : Nat} {vs : List Nat} {as : Den (List W)} {δ : Slots} {S : Sto} {x y r1 r2 : D} {wx wy : List W} (hit : it δ S = .ok [x, y] S)
    (hx : ∀ S, as ((wipeD δ vs).set j (some (.v x))) S = .ok wx S) (hy : ∀ S, as ((wipeD δ vs).set j (some (.v y))) S = .ok wy S) (lx : wx.length = n) (ly : wy.length = n) (h1 : ∀ S, f wx S = .ok (.v r1) S) (h2 : ∀ S, f wy S = .ok (.v r2) S) :
    cComp it (gN j) cYes (cCall n f as []) vs δ S = .ok (.v (.lst [r1, r2])) S := by
  have e1 : ∀ S, cCall n f as [] ((wipeD δ vs).set j (some (.v x))) S = .ok (.v r1) S := fun S => e_call (hx S) (by rw [List.append_nil]; exact lx) (by rw [List.append_nil]; exact h1 S) rfl
  have e2 : ∀ S, cCall n f as [] ((wipeD δ vs).set j (some (.v y))) S = .ok (.v r2) S := fun S => e_call (hy S) (by rw [List.append_nil]; exact ly) (by rw [List.append_nil]; exact h2 S) rfl
  unfold cComp
  rw [hit, R.bind_ok]
  have key : compL (gN j) cYes (cCall n f as []) S.length [x, y] (wipeD δ vs) (S ++ [.lst []]) = .ok () (S ++ [.lst [r1, r2]]) := by
    simp only [compL, gN, cYes, R.noexc_ok, R.bind_ok, if_true, e1, e2, at_last, set_last, List.length_nil, List.length_cons, List.length_append, List.nil_append, List.cons_append]
    rfl
  rw [key, R.bind_ok, if_pos (by simp), at_last]
  simp only [List.take_left]
theorem comp2_nil {it : Den (List D)} {dg : DenG} {it1 : Den (List D)} {dg1 : DenG} {tt1 : Den Bool} {te : Den W} {vs vs1 : List Nat} {δ : Slots} {S S1 : Sto} {ds : List D} (hit : it δ S = .ok ds S1)
    (hs : ∀ d ∈ ds, ∃ δ1, dg (.v d) (wipeD δ vs) (S1 ++ [.lst []]) = some (δ1, S1 ++ [.lst []]) ∧ it1 δ1 (S1 ++ [.lst []]) = .ok [] (S1 ++ [.lst []])) : cComp2 it dg cYes it1 dg1 tt1 te vs vs1 δ S = .ok (.v (.lst [])) S1 := by
  have key : ∀ ds : List D, (∀ d ∈ ds, ∃ δ1, dg (.v d) (wipeD δ vs) (S1 ++ [.lst []]) = some (δ1, S1 ++ [.lst []]) ∧ it1 δ1 (S1 ++ [.lst []]) = .ok [] (S1 ++ [.lst []])) → comp2L dg cYes it1 dg1 tt1 te vs1 S1.length ds (wipeD δ vs) (S1 ++ [.lst []]) = .ok () (S1 ++ [.lst []]) := by
    intro ds
    induction ds with
    | nil => intro _; rfl
    | cons d rest ih =>
      intro h
      obtain ⟨δ1, e1, e2⟩ := h d List.mem_cons_self
      unfold comp2L
      simp only [e1, cYes, R.noexc_ok, R.bind_ok, if_true, e2]
      exact ih fun d hd => h d (List.mem_cons_of_mem _ hd)
  unfold cComp2
  rw [hit, R.bind_ok, key ds hs, R.bind_ok]
  unfold endComp
  rw [if_pos (by simp), at_last]
  simp only [List.take_left]
end Fro

namespace Fro
open PySem PySem.Spec L2

/-! ### names -/
def barred : List Tx := [[97, 108, 108], [102, 117, 110], [105, 110], [108, 101, 116], [116, 114, 117, 101], [102, 97, 108, 115, 101]]
def lets : Tx := [97, 98, 99, 100, 101, 102, 103, 104, 105, 106, 107, 108, 109, 110, 111, 112, 113, 114, 115, 116, 117, 118, 119, 120, 121, 122]
def isNm (t : Tx) : Bool := !decide (t ∈ barred) && (decide ((1 : Int) ≤ t.length) && decide ((t.length : Int) ≤ 8)) && t.all fun c => decide (c ∈ lets)
theorem blL_map {α : Type} (f : α → Bool) : ∀ l : List α, blL (l.map fun x => .bl (f x)) = some (l.map f)
  | [] => rfl
  | x :: l => by
    show (blL (l.map fun x => .bl (f x))).map (f x :: ·) = _
    rw [blL_map f l]
    rfl
theorem gAll_map {α : Type} (f : α → Bool) (l : List α) : gAll [.lst (l.map fun x => .bl (f x))] = some (.bl (l.all f)) := by
  unfold gAll
  simp only [blL_map, Option.map_some]
  congr 2
  rw [List.all_map]
  rfl
theorem isNm_ok {t : Tx} (h : isNm t = true) : okT t = true := by
  unfold isNm at h
  rw [Bool.and_eq_true] at h
  unfold okT
  rw [List.all_eq_true]
  intro c hc
  have q := List.all_eq_true.mp h.2 c hc
  have q2 : c ∈ lets := of_decide_eq_true q
  have : c < 123 := by
    have all : ∀ c ∈ lets, c < 123 := by decide
    exact all c q2
  exact decide_eq_true (by omega)
theorem isNm_len {t : Tx} (h : isNm t = true) : t.length ≤ 8 := by
  unfold isNm at h
  simp only [Bool.and_eq_true, decide_eq_true_eq] at h
  omega
theorem is_name_ev (t : Tx) (hl : t.length ≤ 1000000) (S : Sto) : f_is_name [.v (.str t)] S = .ok (.v (.bl (isNm t))) S := by
  unfold f_is_name
  refine e_fdef_v ?_
  unfold b_is_name
  have hin : (cOr (cNot (cB (cBlt gIsi (cCons (cVar 0) (cCons (cC (.ty .str)) cNil))))) (cB (op2 gIn (cVar 0) (cC k_BARRED)))) (slots0 2 [.v (.str t)]) S = .ok (decide (t ∈ barred)) S :=
    e_or_f (e_not (e_b (S1 := S) (c := true) rfl)) (e_b (e_op2v rfl rfl (gIn_tup t barred)))
  by_cases hb : t ∈ barred
  · rw [decide_eq_true hb] at hin
    have e : isNm t = false := by unfold isNm; simp [hb]
    rw [e]
    exact e_seq_rt (e_ifs_t hin (e_ret rfl))
  · rw [decide_eq_false hb] at hin
    refine e_seq_nx (e_ifs_f hin rfl) (e_ret ?_)
    have hlen : cLen (cCons (cVar 0) cNil) (slots0 2 [.v (.str t)]) S = .ok (.v (.int t.length)) S := by
      show apN gLen [.v (.str t)] S = _
      unfold apN
      simp only [rdAll, rd, gLen, if_pos hl]
    have hch : cChain gLe gLe (cC (.int 1)) (cLen (cCons (cVar 0) cNil)) (cC k_MOST_SIGNS) (slots0 2 [.v (.str t)]) S = .ok (.v (.bl (decide ((1 : Int) ≤ t.length) && decide ((t.length : Int) ≤ 8)))) S := by
      unfold cChain
      rw [show cC (.int 1) (slots0 2 [.v (.str t)]) S = .ok (.v (.int 1)) S from rfl, R.bind_ok, hlen, R.bind_ok]
      by_cases h1 : (1 : Int) ≤ t.length
      · rw [show ap2 gLe (.v (.int 1)) (.v (.int t.length)) S = .ok (.v (.bl (decide ((1 : Int) ≤ t.length)))) S from rfl, decide_eq_true h1]
        rfl
      · rw [show ap2 gLe (.v (.int 1)) (.v (.int t.length)) S = .ok (.v (.bl (decide ((1 : Int) ≤ t.length)))) S from rfl, decide_eq_false h1]
        rfl
    have hall : cBlt gAll (cCons (cComp (itS (cVar 0)) (gN 1) cYes (op2 gIn (cVar 1) (cC k_LETTERS)) [1]) cNil) (slots0 2 [.v (.str t)]) S = .ok (.v (.bl (t.all fun c => decide (c ∈ lets)))) S := by
      refine e_blt (ws := [.v (.lst (t.map fun c => .bl (decide (c ∈ lets))))]) (e_cons ?_ rfl) rfl (gAll_map _ t)
      have q := comp_map (it := itS (cVar 0)) (dg := gN 1) (te := op2 gIn (cVar 1) (cC k_LETTERS)) (vs := [1]) (δ := slots0 2 [.v (.str t)]) (S := S) (S1 := S) (ds := t.map fun c => .str [c]) (fun d => match d with
        | .str [c] => .bl (decide (c ∈ lets))
        | _ => .non) rfl (by rw [List.length_map]; exact hl) (fun d hd acc => by
          obtain ⟨c, hc, rfl⟩ := List.mem_map.mp hd
          exact ⟨_, rfl, e_op2v rfl rfl rfl⟩)
      rw [List.map_map] at q
      exact q
    have e : isNm t = ((decide ((1 : Int) ≤ t.length) && decide ((t.length : Int) ≤ 8)) && t.all fun c => decide (c ∈ lets)) := by
      unfold isNm
      rw [decide_eq_false hb]
      rfl
    rw [e]
    cases hq : (decide ((1 : Int) ≤ t.length) && decide ((t.length : Int) ≤ 8)) with
    | false =>
      rw [hq] at hch
      exact e_andV_f hch
    | true =>
      rw [hq] at hch
      rw [Bool.true_and]
      exact e_andV_t hch hall
end Fro

namespace Fro
open PySem PySem.Spec L2

/-! ### kinds -/
inductive C0 where
  | int | bool | unit
  deriving DecidableEq
inductive C2 where
  | pair | to
  deriving DecidableEq
def C0.tx : C0 → Tx
  | .int => [73, 110, 116]
  | .bool => [66, 111, 111, 108]
  | .unit => [85, 110, 105, 116]
def C2.tx : C2 → Tx
  | .pair => [80, 97, 105, 114]
  | .to => [84, 111]
inductive Kd where
  | var (n : Tx) | con0 (c : C0) | list (k : Kd) | con2 (c : C2) (a b : Kd) | all (n : Tx) (k : Kd)
  deriving DecidableEq
def tVarW : Tx := [118, 97, 114]
def tConW : Tx := [99, 111, 110]
def tAllW : Tx := [97, 108, 108]
def tListW : Tx := [76, 105, 115, 116]
def enc : Kd → D
  | .var n => .tup [.str [118, 97, 114], .str n]
  | .con0 c => .tup [.str [99, 111, 110], .str c.tx, .tup []]
  | .list k => .tup [.str [99, 111, 110], .str [76, 105, 115, 116], .tup [enc k]]
  | .con2 c a b => .tup [.str [99, 111, 110], .str c.tx, .tup [enc a, enc b]]
  | .all n k => .tup [.str [97, 108, 108], .str n, enc k]
def Kd.ht : Kd → Nat
  | .var _ => 1
  | .con0 _ => 1
  | .list k => k.ht + 1
  | .con2 _ a b => max a.ht b.ht + 1
  | .all _ k => k.ht + 1
def Kd.nms : Kd → List Tx
  | .var n => [n]
  | .con0 _ => []
  | .list k => k.nms
  | .con2 _ a b => a.nms ++ b.nms
  | .all n k => n :: k.nms
/-- how many leaves -/
def Kd.lvs : Kd → Nat
  | .var _ => 1
  | .con0 _ => 1
  | .list k => k.lvs
  | .con2 _ a b => a.lvs + b.lvs
  | .all _ k => k.lvs
def Good (k : Kd) : Prop := ∀ n ∈ k.nms, isNm n = true
theorem Kd.ht_pos : ∀ k : Kd, 1 ≤ k.ht
  | .var _ => Nat.le_refl _
  | .con0 _ => Nat.le_refl _
  | .list k => Nat.le_add_left _ _
  | .con2 _ a b => Nat.le_add_left _ _
  | .all _ k => Nat.le_add_left _ _
theorem okT_c0 (c : C0) : okT c.tx = true := by cases c <;> decide
theorem okT_c2 (c : C2) : okT c.tx = true := by cases c <;> decide
theorem okD_enc : ∀ {k : Kd}, Good k → okD (enc k) = true
  | .var n, h => by
    have := isNm_ok (h n List.mem_cons_self)
    unfold okT at this
    simp only [enc, okD, okDL, this]
    decide
  | .con0 c, h => by cases c <;> decide
  | .list k, h => by
    simp only [enc, okD, okDL, okD_enc (k := k) h]
    decide
  | .con2 c a b, h => by
    have h1 : okD (enc a) = true := okD_enc fun n hn => h n (List.mem_append_left _ hn)
    have h2 : okD (enc b) = true := okD_enc fun n hn => h n (List.mem_append_right _ hn)
    simp only [enc, okD, okDL, h1, h2]
    cases c <;> decide
  | .all n k, h => by
    have h1 := isNm_ok (h n List.mem_cons_self)
    have h2 : okD (enc k) = true := okD_enc fun m hm => h m (List.mem_cons_of_mem _ hm)
    unfold okT at h1
    simp only [enc, okD, okDL, h1, h2]
    decide
theorem enc_cons (k : Kd) : ∃ d ds, enc k = .tup (d :: ds) := by cases k <;> exact ⟨_, _, rfl⟩
theorem gEq_nil {d : D} {ds : List D} (h : okD (.tup (d :: ds)) = true) : gEq (.tup (d :: ds)) (.tup []) = some (.bl false) := by
  unfold gEq
  rw [h]
  have e2 : dep (.tup []) = 1 := rfl
  rw [e2]
  rw [if_pos (show (true && okD (.tup []) && decide (min (dep (.tup (d :: ds))) 1 ≤ 64)) = true by
    rw [Bool.and_eq_true]
    exact ⟨rfl, decide_eq_true (Nat.le_trans (Nat.min_le_right _ _) (by decide))⟩)]
  rfl
theorem gEq_enc (k : Kd) (h : Good k) : gEq (enc k) (.tup []) = some (.bl false) := by
  obtain ⟨d, ds, e⟩ := enc_cons k
  have := okD_enc h
  rw [e] at this ⊢
  exact gEq_nil this
section
variable {n : Tx} {c : C0} {c2 : C2} {k a b : Kd}
theorem ix_v0 : gIx (enc (.var n)) (.int 0) = some (.str [118, 97, 114]) := rfl
theorem ix_v1 : gIx (enc (.var n)) (.int 1) = some (.str n) := rfl
theorem ix_c0 : gIx (enc (.con0 c)) (.int 0) = some (.str [99, 111, 110]) := rfl
theorem ix_c1 : gIx (enc (.con0 c)) (.int 1) = some (.str c.tx) := rfl
theorem ix_c2 : gIx (enc (.con0 c)) (.int 2) = some (.tup []) := rfl
theorem ix_l0 : gIx (enc (.list k)) (.int 0) = some (.str [99, 111, 110]) := rfl
theorem ix_l1 : gIx (enc (.list k)) (.int 1) = some (.str [76, 105, 115, 116]) := rfl
theorem ix_l2 : gIx (enc (.list k)) (.int 2) = some (.tup [enc k]) := rfl
theorem ix_p0 : gIx (enc (.con2 c2 a b)) (.int 0) = some (.str [99, 111, 110]) := rfl
theorem ix_p1 : gIx (enc (.con2 c2 a b)) (.int 1) = some (.str c2.tx) := rfl
theorem ix_p2 : gIx (enc (.con2 c2 a b)) (.int 2) = some (.tup [enc a, enc b]) := rfl
theorem ix_a0 : gIx (enc (.all n k)) (.int 0) = some (.str [97, 108, 108]) := rfl
theorem ix_a1 : gIx (enc (.all n k)) (.int 1) = some (.str n) := rfl
theorem ix_a2 : gIx (enc (.all n k)) (.int 2) = some (enc k) := rfl
end
theorem is_kind_ev : ∀ (k : Kd) (m : Nat) (S : Sto), Good k → k.ht ≤ m → f_is_kind m [.v (enc k)] S = .ok (.v (.bl true)) S := by
  have t1 : ∀ (k : Kd) (S : Sto), Good k → (cOr (cNot (cB (cBlt gIsi (cCons (cVar 0) (cCons (cC (.ty .tup)) cNil))))) (cB (op2 gEq (cVar 0) (cTup cNil)))) (slots0 2 [.v (enc k)]) S = .ok false S := fun k S h => by
    refine e_or_f (e_not (e_b (S1 := S) (c := true) ?_)) (e_b (e_op2v rfl rfl (gEq_enc k h)))
    obtain ⟨d, ds, e⟩ := enc_cons k
    rw [e]
    rfl
  intro k
  induction k with
  | var n =>
    intro m S h hm
    cases m with
    | zero => exact absurd hm (by unfold Kd.ht; omega)
    | succ m =>
      have hn := h n List.mem_cons_self
      refine e_fdef_v (e_seq_nx (e_ifs_f (t1 _ S h) rfl) (e_seq_rt (e_ifs_t (S1 := S) (e_b rfl) (e_ret (e_andV_t (S1 := S) rfl (e_call (ws := [.v (.str n)]) rfl rfl (is_name_ev n (Nat.le_trans (isNm_len hn) (by decide)) S) ?_))))))
      rw [hn]
      rfl
  | con0 c =>
    intro m S h hm
    cases m with
    | zero => exact absurd hm (by unfold Kd.ht; omega)
    | succ m =>
      refine e_fdef_v (e_seq_nx (e_ifs_f (t1 _ S h) rfl) (e_seq_nx (e_ifs_f (S1 := S) (e_b rfl) rfl) (e_seq_nx (e_ifs_f (S1 := S) (e_b rfl) rfl) (e_seq_nx (e_ifs_f (S1 := S) ?_ rfl) (e_seq_nx (e_ifs_f (S1 := S) ?_ rfl) (e_ret ?_))))))
      · cases c <;> rfl
      · cases c <;> rfl
      · refine e_blt (ws := [.v (.lst [])]) (e_cons ?_ rfl) rfl rfl
        exact comp_map (ds := []) (fun d => d) rfl (by decide) (fun d hd => absurd hd (by simp))
  | list k ih =>
    intro m S h hm
    cases m with
    | zero => exact absurd hm (by have := k.ht_pos; unfold Kd.ht; omega)
    | succ m =>
      have hk : k.ht ≤ m := by unfold Kd.ht at hm; omega
      refine e_fdef_v (e_seq_nx (e_ifs_f (t1 _ S h) rfl) (e_seq_nx (e_ifs_f (S1 := S) (e_b rfl) rfl) (e_seq_nx (e_ifs_f (S1 := S) (e_b rfl) rfl) (e_seq_nx (e_ifs_f (S1 := S) rfl rfl) (e_seq_nx (e_ifs_f (S1 := S) rfl rfl) (e_ret ?_))))))
      refine e_blt (ws := [.v (.lst [.bl true])]) (e_cons ?_ rfl) rfl rfl
      refine comp_map (ds := [enc k]) (fun d => .bl true) rfl (by simp) (fun d hd acc => ?_)
      rw [List.mem_singleton] at hd
      subst hd
      exact ⟨_, rfl, e_call (ws := [.v (enc k)]) rfl rfl (ih m _ h hk) rfl⟩
  | con2 c a b iha ihb =>
    intro m S h hm
    cases m with
    | zero => exact absurd hm (by have := a.ht_pos; unfold Kd.ht; omega)
    | succ m =>
      have h1 : a.ht ≤ m := by unfold Kd.ht at hm; omega
      have h2 : b.ht ≤ m := by unfold Kd.ht at hm; omega
      refine e_fdef_v (e_seq_nx (e_ifs_f (t1 _ S h) rfl) (e_seq_nx (e_ifs_f (S1 := S) (e_b rfl) rfl) (e_seq_nx (e_ifs_f (S1 := S) (e_b rfl) rfl) (e_seq_nx (e_ifs_f (S1 := S) ?_ rfl) (e_seq_nx (e_ifs_f (S1 := S) ?_ rfl) (e_ret ?_))))))
      · cases c <;> rfl
      · cases c <;> rfl
      · refine e_blt (ws := [.v (.lst [.bl true, .bl true])]) (e_cons ?_ rfl) rfl rfl
        refine comp_map (ds := [enc a, enc b]) (fun d => .bl true) rfl (by simp) (fun d hd acc => ?_)
        simp only [List.mem_cons, List.not_mem_nil, or_false] at hd
        rcases hd with rfl | rfl
        · exact ⟨_, rfl, e_call (ws := [.v (enc a)]) rfl rfl (iha m _ (fun n hn => h n (List.mem_append_left _ hn)) h1) rfl⟩
        · exact ⟨_, rfl, e_call (ws := [.v (enc b)]) rfl rfl (ihb m _ (fun n hn => h n (List.mem_append_right _ hn)) h2) rfl⟩
  | all n k ih =>
    intro m S h hm
    cases m with
    | zero => exact absurd hm (by have := k.ht_pos; unfold Kd.ht; omega)
    | succ m =>
      have hk : k.ht ≤ m := by unfold Kd.ht at hm; omega
      have hn := h n List.mem_cons_self
      refine e_fdef_v (e_seq_nx (e_ifs_f (t1 _ S h) rfl) (e_seq_nx (e_ifs_f (S1 := S) (e_b rfl) rfl) (e_seq_rt (e_ifs_t (S1 := S) (e_b rfl) (e_ret (e_andV_t (S1 := S) rfl (e_andV_t (S1 := S) (e_call (ws := [.v (.str n)]) rfl rfl (is_name_ev n (Nat.le_trans (isNm_len hn) (by decide)) S) ?_) (e_call (ws := [.v (enc k)]) rfl rfl (ih m S (fun x hx => h x (List.mem_cons_of_mem _ hx)) hk) rfl))))))))
      rw [hn]
      rfl
end Fro

namespace Fro
open PySem PySem.Spec L2

/-! ### free names -/
def frees : Kd → List Tx → List Tx
  | .var n, ins => if n ∈ ins then [] else [n]
  | .con0 _, _ => []
  | .list k, ins => frees k ins
  | .con2 _ a b, ins => frees a ins ++ (frees b ins).filter fun n => !decide (n ∈ frees a ins)
  | .all n k, ins => frees k (ins ++ [n])
theorem frees_len : ∀ (k : Kd) (ins : List Tx), (frees k ins).length ≤ k.lvs
  | .var n, ins => by unfold frees; split <;> simp [Kd.lvs]
  | .con0 _, _ => Nat.zero_le _
  | .list k, ins => frees_len k ins
  | .con2 _ a b, ins => by
    unfold frees Kd.lvs
    rw [List.length_append]
    exact Nat.add_le_add (frees_len a ins) (Nat.le_trans (List.length_filter_le _ _) (frees_len b ins))
  | .all n k, ins => frees_len k _
theorem free_of_ev : ∀ (k : Kd) (m : Nat) (ins : List Tx) (S : Sto), k.ht ≤ m → k.ht + ins.length ≤ 1000 → k.lvs ≤ 1000 → f_free_of m [.v (enc k), .v (.tup (stL ins))] S = .ok (.new (.lst (stL (frees k ins)))) S := by
  have pos : ∀ (k : Kd) (m : Nat), k.ht ≤ m → ∃ m', m = m' + 1 := fun k m h => ⟨m - 1, by have := k.ht_pos; omega⟩
  intro k
  induction k with
  | var n =>
    intro m ins S hm _ _
    obtain ⟨m, rfl⟩ := pos _ _ hm
    refine e_fdef_new (e_seq_rt (e_ifs_t (S1 := S) (e_b rfl) (e_ret ?_)))
    by_cases h : n ∈ ins
    · refine e_if_t (S1 := S) (e_b (e_op2v rfl rfl ?_)) ?_
      · rw [show (true : Bool) = decide (n ∈ ins) from (decide_eq_true h).symm]
        exact gIn_tup n ins
      · unfold frees
        rw [if_pos h]
        rfl
    · refine e_if_f (S1 := S) (e_b (e_op2v rfl rfl ?_)) ?_
      · rw [show (false : Bool) = decide (n ∈ ins) from (decide_eq_false h).symm]
        exact gIn_tup n ins
      · unfold frees
        rw [if_neg h]
        rfl
  | con0 c =>
    intro m ins S hm _ _
    obtain ⟨m, rfl⟩ := pos _ _ hm
    exact e_fdef_new (e_seq_nx (e_ifs_f (S1 := S) (e_b rfl) rfl) (e_seq_nx (e_ifs_f (S1 := S) (e_b rfl) rfl) (e_seq_nx (e_set rfl) (e_seq_nx (e_for rfl rfl) rfl))))
  | all n k ih =>
    intro m ins S hm h1 h2
    obtain ⟨m, rfl⟩ := pos _ _ hm
    unfold Kd.ht at hm h1
    refine e_fdef_new (e_seq_nx (e_ifs_f (S1 := S) (e_b rfl) rfl) (e_seq_rt (e_ifs_t (S1 := S) (e_b rfl) (e_ret (e_callM (ws := [.v (enc k), .v (.tup (stL (ins ++ [n])))]) (e_cons rfl (e_cons (e_op2v (e := .tup (stL [n])) rfl rfl (gAdd_tups ins [n] (by simp; omega))) rfl)) rfl (ih m (ins ++ [n]) S (by omega) (by simp; omega) h2) rfl)))))
  | list k ih =>
    intro m ins S hm h1 h2
    obtain ⟨m, rfl⟩ := pos _ _ hm
    unfold Kd.ht at hm h1
    unfold Kd.lvs at h2
    have hc := ih m ins (S ++ [.lst []]) (by omega) (by omega) h2
    have hl := frees_len k ins
    refine e_fdef_new (e_seq_nx (e_ifs_f (S1 := S) (e_b rfl) rfl) (e_seq_nx (e_ifs_f (S1 := S) (e_b rfl) rfl) (e_seq_nx (e_set rfl) (e_seq_nx (e_for (S1 := S ++ [.lst []]) (ds := [enc k]) rfl (r := .nx [some (.v (enc (.list k))), some (.v (.tup (stL ins))), some (.r S.length), some (.v (enc k)), none] (S ++ [.lst (stL (frees k ins))])) ?_) rfl))))
    have hb : (cExpr (cExtend (cVar 2) (cComp (itL (cCall 2 (f_free_of m) (cCons (cVar 3) (cCons (cVar 1) cNil)) [])) (gN 4) (cB (op2 gNotIn (cVar 4) (cVar 2))) (cVar 4) [4]))) [some (.v (enc (.list k))), some (.v (.tup (stL ins))), some (.r S.length), some (.v (enc k)), none] (S ++ [.lst []]) = .nx [some (.v (enc (.list k))), some (.v (.tup (stL ins))), some (.r S.length), some (.v (enc k)), none] (S ++ [.lst (stL (frees k ins))]) := by
      refine e_expr (w := .v .non) ?_
      rw [← set_last S (.lst []) (.lst (stL (frees k ins)))]
      refine e_extend (ds := []) (es := stL (frees k ins)) (w := .v (.lst (stL (frees k ins)))) rfl ⟨_, at_last _ _⟩ ?_ (at_last _ _) rfl (by rw [stL_length]; simp; omega)
      have q := comp_ev (it := itL (cCall 2 (f_free_of m) (cCons (cVar 3) (cCons (cVar 1) cNil)) [])) (dg := gN 4) (tt := cB (op2 gNotIn (cVar 4) (cVar 2))) (te := cVar 4) (vs := [4]) (δ := [some (.v (enc (.list k))), some (.v (.tup (stL ins))), some (.r S.length), some (.v (enc k)), none]) (S := S ++ [.lst []]) (S1 := S ++ [.lst []]) (ds := stL (frees k ins)) (flt fun _ => true) (by
          show R.bind _ _ = _
          rw [e_call (ws := [.v (enc k), .v (.tup (stL ins))]) (n := 2) rfl rfl hc rfl]
          rfl) (by rw [stL_length]; omega) (fun d hd acc => by
          obtain ⟨t, ht, rfl⟩ := List.mem_map.mp hd
          exact ⟨_, rfl, e_b (e_op2 rfl rfl rfl (rd_at (at_last2 _ _ _)) rfl), rfl⟩)
      rw [filter_stL, List.filter_eq_self.mpr fun _ _ => rfl] at q
      exact q
    unfold forL
    simp only [gN]
    show (match (cExpr _) [some (.v (enc (.list k))), some (.v (.tup (stL ins))), some (.r S.length), some (.v (enc k)), none] (S ++ [.lst []]) with
      | .nx δ2 S2 => forL _ _ [] δ2 S2
      | .ct δ2 S2 => forL _ _ [] δ2 S2
      | .bk δ2 S2 => .nx δ2 S2
      | r => r) = _
    rw [hb]
    rfl
  | con2 c a b iha ihb =>
    intro m ins S hm h1 h2
    obtain ⟨m, rfl⟩ := pos _ _ hm
    unfold Kd.ht at hm h1
    unfold Kd.lvs at h2
    have hla := frees_len a ins
    have hlb := frees_len b ins
    -- one turn
    have hb : ∀ (k : Kd) (acc : List Tx) (o : Option W), k.ht ≤ m → k.ht + ins.length ≤ 1000 → k.lvs ≤ 1000 → acc.length ≤ 1000 → (∀ S, f_free_of m [.v (enc k), .v (.tup (stL ins))] S = .ok (.new (.lst (stL (frees k ins)))) S) →
        (cExpr (cExtend (cVar 2) (cComp (itL (cCall 2 (f_free_of m) (cCons (cVar 3) (cCons (cVar 1) cNil)) [])) (gN 4) (cB (op2 gNotIn (cVar 4) (cVar 2))) (cVar 4) [4]))) [some (.v (enc (.con2 c a b))), some (.v (.tup (stL ins))), some (.r S.length), some (.v (enc k)), none] (S ++ [.lst (stL acc)]) =
          .nx [some (.v (enc (.con2 c a b))), some (.v (.tup (stL ins))), some (.r S.length), some (.v (enc k)), none] (S ++ [.lst (stL (acc ++ (frees k ins).filter fun n => !decide (n ∈ acc)))]) := by
      intro k acc o hk1 hk2 hk3 hk4 hc
      have hlk := frees_len k ins
      refine e_expr (w := .v .non) ?_
      rw [← set_last S (.lst (stL acc)) (.lst (stL (acc ++ (frees k ins).filter fun n => !decide (n ∈ acc)))), ← stL_append]
      refine e_extend (ds := stL acc) (es := stL ((frees k ins).filter fun n => !decide (n ∈ acc))) (w := .v (.lst (stL ((frees k ins).filter fun n => !decide (n ∈ acc))))) rfl ⟨_, at_last _ _⟩ ?_ (at_last _ _) rfl (by
        rw [stL_length, stL_length]
        have := List.length_filter_le (fun n => !decide (n ∈ acc)) (frees k ins)
        omega)
      have q := comp_ev (it := itL (cCall 2 (f_free_of m) (cCons (cVar 3) (cCons (cVar 1) cNil)) [])) (dg := gN 4) (tt := cB (op2 gNotIn (cVar 4) (cVar 2))) (te := cVar 4) (vs := [4]) (δ := [some (.v (enc (.con2 c a b))), some (.v (.tup (stL ins))), some (.r S.length), some (.v (enc k)), none]) (S := S ++ [.lst (stL acc)]) (S1 := S ++ [.lst (stL acc)]) (ds := stL (frees k ins)) (flt fun n => !decide (n ∈ acc)) (by
          show R.bind _ _ = _
          rw [e_call (ws := [.v (enc k), .v (.tup (stL ins))]) (n := 2) rfl rfl (hc _) rfl]
          rfl) (by rw [stL_length]; omega) (fun d hd acc2 => by
          obtain ⟨t, ht, rfl⟩ := List.mem_map.mp hd
          refine ⟨_, rfl, ?_⟩
          have ht : (cB (op2 gNotIn (cVar 4) (cVar 2))) [some (.v (enc (.con2 c a b))), some (.v (.tup (stL ins))), some (.r S.length), some (.v (enc k)), some (.v (.str t))] (S ++ [.lst (stL acc)] ++ [.lst acc2]) = .ok (!decide (t ∈ acc)) (S ++ [.lst (stL acc)] ++ [.lst acc2]) :=
            e_b (e_op2 rfl rfl rfl (rd_at (at_last2 _ _ _)) (gNotIn_lst t acc))
          by_cases hx : (!decide (t ∈ acc)) = true
          · rw [show flt (fun n => !decide (n ∈ acc)) (.str t) = some (.str t) from if_pos hx]
            rw [hx] at ht
            exact ⟨ht, rfl⟩
          · rw [show flt (fun n => !decide (n ∈ acc)) (.str t) = none from if_neg hx]
            rw [Bool.not_eq_true] at hx
            rw [hx] at ht
            exact ht)
      rw [filter_stL] at q
      exact q
    refine e_fdef_new (e_seq_nx (e_ifs_f (S1 := S) (e_b (by cases c <;> rfl)) rfl) (e_seq_nx (e_ifs_f (S1 := S) (e_b (by cases c <;> rfl)) rfl) (e_seq_nx (e_set rfl) (e_seq_nx (e_for (S1 := S ++ [.lst []]) (ds := [enc a, enc b]) rfl (r := .nx [some (.v (enc (.con2 c a b))), some (.v (.tup (stL ins))), some (.r S.length), some (.v (enc b)), none] (S ++ [.lst (stL (frees (.con2 c a b) ins))])) ?_) rfl))))
    have e1 := hb a [] none (by omega) (by omega) (by omega) (by simp) (fun S => iha m ins S (by omega) (by omega) (by omega))
    have e2 := hb b (frees a ins) none (by omega) (by omega) (by omega) (by omega) (fun S => ihb m ins S (by omega) (by omega) (by omega))
    have e3 : (frees a ins).filter (fun n => !decide (n ∈ ([] : List Tx))) = frees a ins := List.filter_eq_self.mpr fun _ _ => by simp
    rw [List.nil_append, e3] at e1
    unfold forL
    show (match (cExpr _) [some (.v (enc (.con2 c a b))), some (.v (.tup (stL ins))), some (.r S.length), some (.v (enc a)), none] (S ++ [.lst (stL [])]) with
      | .nx δ2 S2 => forL _ _ [enc b] δ2 S2
      | .ct δ2 S2 => forL _ _ [enc b] δ2 S2
      | .bk δ2 S2 => .nx δ2 S2
      | r => r) = _
    rw [e1]
    show forL _ _ [enc b] [some (.v (enc (.con2 c a b))), some (.v (.tup (stL ins))), some (.r S.length), some (.v (enc a)), none] _ = _
    unfold forL
    show (match (cExpr _) [some (.v (enc (.con2 c a b))), some (.v (.tup (stL ins))), some (.r S.length), some (.v (enc b)), none] _ with
      | .nx δ2 S2 => forL _ _ [] δ2 S2
      | .ct δ2 S2 => forL _ _ [] δ2 S2
      | .bk δ2 S2 => .nx δ2 S2
      | r => r) = _
    rw [e2]
    rfl
theorem want_kind_ev (k : Kd) (S : Sto) (h : Good k) (hh : k.ht ≤ 30) : f_want_kind [.v (enc k)] S = .ok (.v .non) S := by
  have := e_fdefN (n := 1) (body := b_want_kind) (ws := [.v (enc k)]) (S := S) (S' := S) (δ := [some (.v (enc k))]) (e_ifs_f (S1 := S) (e_not (c := true) (e_b (e_call (ws := [.v (enc k)]) rfl rfl (is_kind_ev k 30 S h hh) rfl))) rfl)
  rw [List.take_length] at this
  exact this
theorem free_ev (k : Kd) (S : Sto) (h : Good k) (hh : k.ht ≤ 30) (hl : k.lvs ≤ 1000) : f_free [.v (enc k)] S = .ok (.new (.lst (stL (frees k [])))) S :=
  e_fdef_new (e_seq_nx (e_expr (e_call (ws := [.v (enc k)]) rfl rfl (want_kind_ev k S h hh) rfl)) (e_ret (e_callM (ws := [.v (enc k)]) rfl rfl (free_of_ev k 30 [] S hh (by simp; omega) hl) rfl)))
end Fro

namespace Fro
open PySem PySem.Spec L2

/-! ### names for names -/
abbrev Ren := List (Tx × Tx)
def lkR : Ren → Tx → Option Tx
  | [], _ => none
  | (k, x) :: r, t => if k = t then some x else lkR r t
def cutR (env : Ren) (n : Tx) : Ren := env.filter fun e => !decide (e.1 = n)
theorem lkR_cut (n m : Tx) : ∀ env : Ren, lkR (cutR env n) m = if m = n then none else lkR env m
  | [] => by simp [cutR, lkR]
  | (k, x) :: r => by
    have ih := lkR_cut n m r
    unfold cutR at ih ⊢
    by_cases hk : k = n
    · rw [List.filter_cons_of_neg (by simp [hk]), ih]
      by_cases hm : m = n
      · rw [if_pos hm, if_pos hm]
      · rw [if_neg hm, if_neg hm]
        show _ = if k = m then some x else lkR r m
        rw [if_neg (fun z => hm (by rw [← z, hk]))]
    · rw [List.filter_cons_of_pos (by simp [hk])]
      show (if k = m then some x else lkR (r.filter _) m) = if m = n then none else if k = m then some x else lkR r m
      rw [ih]
      by_cases hm : m = n
      · rw [if_pos hm, if_pos hm, if_neg (fun z => hk (by rw [z, hm]))]
      · rw [if_neg hm, if_neg hm]
def rnm (env : Ren) (n : Tx) : Tx := (lkR env n).getD n
def renK : Kd → Ren → Kd
  | .var n, env => .var (rnm env n)
  | .con0 c, _ => .con0 c
  | .list k, env => .list (renK k env)
  | .con2 c a b, env => .con2 c (renK a env) (renK b env)
  | .all n k, env => .all n (renK k (cutR env n))
theorem renK_ht : ∀ (k : Kd) (env : Ren), (renK k env).ht = k.ht
  | .var _, _ => rfl
  | .con0 _, _ => rfl
  | .list k, env => by unfold renK Kd.ht; rw [renK_ht k]
  | .con2 _ a b, env => by unfold renK Kd.ht; rw [renK_ht a, renK_ht b]
  | .all n k, env => by unfold renK Kd.ht; rw [renK_ht k]
theorem renK_lvs : ∀ (k : Kd) (env : Ren), (renK k env).lvs = k.lvs
  | .var _, _ => rfl
  | .con0 _, _ => rfl
  | .list k, env => by unfold renK Kd.lvs; rw [renK_lvs k]
  | .con2 _ a b, env => by unfold renK Kd.lvs; rw [renK_lvs a, renK_lvs b]
  | .all n k, env => by unfold renK Kd.lvs; rw [renK_lvs k]
theorem renK_nil : ∀ k : Kd, renK k [] = k
  | .var _ => rfl
  | .con0 _ => rfl
  | .list k => by unfold renK; rw [renK_nil k]
  | .con2 _ a b => by unfold renK; rw [renK_nil a, renK_nil b]
  | .all n k => by
    unfold renK
    show Kd.all n (renK k []) = _
    rw [renK_nil k]
/-- two renamings that tell the same -/
theorem renK_congr : ∀ (k : Kd) (e1 e2 : Ren), (∀ n, lkR e1 n = lkR e2 n) → renK k e1 = renK k e2
  | .var n, e1, e2, h => by unfold renK rnm; rw [h]
  | .con0 _, _, _, _ => rfl
  | .list k, e1, e2, h => by unfold renK; rw [renK_congr k e1 e2 h]
  | .con2 _ a b, e1, e2, h => by unfold renK; rw [renK_congr a e1 e2 h, renK_congr b e1 e2 h]
  | .all n k, e1, e2, h => by
    unfold renK
    rw [renK_congr k (cutR e1 n) (cutR e2 n) fun m => by rw [lkR_cut, lkR_cut, h]]
def Fr (env : Ren) (n : Tx) : Prop := lkR env n = none ∧ ∀ m y, lkR env m = some y → y ≠ n
theorem fr_cut {env : Ren} {n b : Tx} (h : Fr env n) : Fr (cutR env b) n := by
  refine ⟨?_, fun m y e => ?_⟩
  · rw [lkR_cut]; split
    · rfl
    · exact h.1
  · rw [lkR_cut] at e
    split at e
    · cases e
    · exact h.2 m y e
/-- one behind others -/
theorem renK_one (n x : Tx) : ∀ (k : Kd) (env : Ren), Fr env n → renK (renK k env) [(n, x)] = renK k ((n, x) :: env)
  | .var m, env, h => by
    show Kd.var (rnm [(n, x)] (rnm env m)) = Kd.var (rnm ((n, x) :: env) m)
    congr 1
    unfold rnm
    cases q : lkR env m with
    | some y =>
      have hy := h.2 m y q
      have hm : n ≠ m := fun z => by rw [← z, h.1] at q; cases q
      show (if n = y then some x else none).getD y = (if n = m then some x else lkR env m).getD m
      rw [if_neg (fun z => hy z.symm), if_neg hm, q]
      rfl
    | none =>
      show (if n = m then some x else none).getD m = (if n = m then some x else lkR env m).getD m
      rw [q]
  | .con0 _, _, _ => rfl
  | .list k, env, h => by
    show Kd.list (renK (renK k env) [(n, x)]) = Kd.list (renK k ((n, x) :: env))
    rw [renK_one n x k env h]
  | .con2 c a b, env, h => by
    show Kd.con2 c (renK (renK a env) [(n, x)]) (renK (renK b env) [(n, x)]) = Kd.con2 c (renK a ((n, x) :: env)) (renK b ((n, x) :: env))
    rw [renK_one n x a env h, renK_one n x b env h]
  | .all b k, env, h => by
    show Kd.all b (renK (renK k (cutR env b)) (cutR [(n, x)] b)) = Kd.all b (renK k (cutR ((n, x) :: env) b))
    congr 1
    by_cases hb : n = b
    · have e1 : cutR [(n, x)] b = [] := by unfold cutR; rw [List.filter_cons_of_neg (by simp [hb])]; rfl
      have e2 : cutR ((n, x) :: env) b = cutR env b := by unfold cutR; rw [List.filter_cons_of_neg (by simp [hb])]
      rw [e1, e2, renK_nil]
    · have e1 : cutR [(n, x)] b = [(n, x)] := by unfold cutR; rw [List.filter_cons_of_pos (by simp [hb])]; rfl
      have e2 : cutR ((n, x) :: env) b = (n, x) :: cutR env b := by unfold cutR; rw [List.filter_cons_of_pos (by simp [hb])]
      rw [e1, e2]
      exact renK_one n x k (cutR env b) (fr_cut h)
/-! ### marks -/
def mark (f : Nat) : Tx := [48, 46] ++ txI f
theorem txI_ok : ∀ f : Nat, f < 1000 → okT (txI f) = true := by
  have : ∀ f : Fin 1000, okT (txI (f.val : Nat)) = true := by decide +kernel
  exact fun f hf => this ⟨f, hf⟩
theorem mark_ok {f : Nat} (h : f < 1000) : okT (mark f) = true := by
  have := txI_ok f h
  unfold mark okT at *
  rw [List.all_append, this]
  rfl
theorem mark_no (f : Nat) : isNm (mark f) = false := by
  have : ((mark f).all fun c => decide (c ∈ lets)) = false := by
    show (decide (48 ∈ lets) && _) = false
    rw [show decide (48 ∈ lets) = false by decide]
    rfl
  unfold isNm
  rw [this, Bool.and_false]
theorem mark_inj {f g : Nat} (hf : f < 10000) (hg : g < 10000) (h : mark f = mark g) : f = g := by
  have h1 : txI f = txI g := by
    unfold mark at h
    exact List.append_cancel_left h
  have h2 : Str.ofString (toString (f : Int)) = Str.ofString (toString (g : Int)) := by rw [← sx_txI, ← sx_txI, h1]
  have e1 := PySem.W.KIN.num_reads (n := (f : Int)) (by omega) (by omega)
  have e2 := PySem.W.KIN.num_reads (n := (g : Int)) (by omega) (by omega)
  rw [h2, e2] at e1
  have := Option.some.inj e1
  omega
theorem txI_len : ∀ f : Nat, f < 1000 → (txI f).length ≤ 10 := by
  have : ∀ f : Fin 1000, (txI (f.val : Nat)).length ≤ 10 := by decide +kernel
  exact fun f hf => this ⟨f, hf⟩
theorem mark_len (f : Nat) (h : f < 1000) : (mark f).length ≤ 12 := by
  have := txI_len f h
  unfold mark
  rw [List.length_append]
  simp
  omega
/-- numbers for the names of quantifiers -/
def mkE : Kd → Ren → Nat → Kd × Nat
  | .var n, env, f => (.var (rnm env n), f)
  | .con0 c, _, f => (.con0 c, f)
  | .list k, env, f => (.list (mkE k env f).1, (mkE k env f).2)
  | .con2 c a b, env, f => (.con2 c (mkE a env f).1 (mkE b env (mkE a env f).2).1, (mkE b env (mkE a env f).2).2)
  | .all n k, env, f => (.all (mark f) (mkE k ((n, mark f) :: cutR env n) (f + 1)).1, (mkE k ((n, mark f) :: cutR env n) (f + 1)).2)
def Kd.qs : Kd → Nat
  | .var _ => 0
  | .con0 _ => 0
  | .list k => k.qs
  | .con2 _ a b => a.qs + b.qs
  | .all _ k => k.qs + 1
theorem mkE_next : ∀ (k : Kd) (env : Ren) (f : Nat), (mkE k env f).2 = f + k.qs
  | .var _, _, _ => rfl
  | .con0 _, _, _ => rfl
  | .list k, env, f => mkE_next k env f
  | .con2 _ a b, env, f => by
    show (mkE b env (mkE a env f).2).2 = f + (a.qs + b.qs)
    rw [mkE_next b, mkE_next a]
    omega
  | .all n k, env, f => by
    show (mkE k _ (f + 1)).2 = f + (k.qs + 1)
    rw [mkE_next k]
    omega
theorem mkE_ht : ∀ (k : Kd) (env : Ren) (f : Nat), (mkE k env f).1.ht = k.ht
  | .var _, _, _ => rfl
  | .con0 _, _, _ => rfl
  | .list k, env, f => by show (mkE k env f).1.ht + 1 = k.ht + 1; rw [mkE_ht k]
  | .con2 _ a b, env, f => by show max (mkE a env f).1.ht (mkE b env _).1.ht + 1 = max a.ht b.ht + 1; rw [mkE_ht a, mkE_ht b]
  | .all n k, env, f => by show (mkE k _ (f + 1)).1.ht + 1 = k.ht + 1; rw [mkE_ht k]
/-! ### letters -/
def letr (n : Nat) : Tx := if n < 26 then [97 + n] else [97 + (n / 26 - 1), 97 + n % 26]
def letrs : List Tx := (List.range 130).map letr
def firstL (t : List Tx) : Tx := ((letrs.filter fun x => !decide (x ∈ t)).head?).getD []
theorem letrs_ok : ∀ x ∈ letrs, isNm x = true := by decide +kernel
theorem letrs_nd : letrs.Nodup := by decide +kernel
theorem firstL_congr {t u : List Tx} (h : ∀ x, x ∈ t ↔ x ∈ u) : firstL t = firstL u := by
  unfold firstL
  have : (fun x : Tx => !decide (x ∈ t)) = fun x => !decide (x ∈ u) := by
    funext x
    rw [decide_eq_decide.mpr (h x)]
  rw [this]
theorem free_letr {t : List Tx} (h : t.length < 130) : ∃ x ∈ letrs, x ∉ t := by
  apply Classical.byContradiction
  intro hn
  have hs : ∀ x ∈ letrs, x ∈ t := fun x hx => Classical.byContradiction fun hy => hn ⟨x, hx, hy⟩
  have : letrs.length ≤ t.length := letrs_nd.length_le_of_subset hs
  have e : letrs.length = 130 := by decide +kernel
  omega
theorem firstL_ok {t : List Tx} (h : t.length < 130) : firstL t ∈ letrs ∧ firstL t ∉ t := by
  obtain ⟨x, hx, hy⟩ := free_letr h
  have hm : x ∈ letrs.filter fun x => !decide (x ∈ t) := List.mem_filter.mpr ⟨hx, by simp [hy]⟩
  unfold firstL
  cases q : letrs.filter fun x => !decide (x ∈ t) with
  | nil => rw [q] at hm; cases hm
  | cons y r =>
    have hy : y ∈ letrs.filter fun x => !decide (x ∈ t) := by rw [q]; exact List.mem_cons_self
    obtain ⟨h1, h2⟩ := List.mem_filter.mp hy
    refine ⟨h1, ?_⟩
    show y ∉ t
    simpa using h2
def rlE : Kd → Ren → List Tx → Kd
  | .var n, env, _ => .var (rnm env n)
  | .con0 c, _, _ => .con0 c
  | .list k, env, t => .list (rlE k env t)
  | .con2 c a b, env, t => .con2 c (rlE a env t) (rlE b env t)
  | .all n k, env, t => .all (firstL t) (rlE k ((n, firstL t) :: cutR env n) (t ++ [firstL t]))
/-- the plain form, as the program has it -/
def plainK (k : Kd) : Kd := rlE (mkE k [] 0).1 [] (frees k [])
end Fro

namespace Fro
open PySem PySem.Spec L2

/-! ### forms with numbers for bound names -/
inductive Fm where
  | var (n : Tx) | at (i : Nat) | con0 (c : C0) | list (f : Fm) | con2 (c : C2) (a b : Fm) | all (f : Fm)
  deriving DecidableEq
def idxT (n : Tx) : List Tx → Option Nat
  | [] => none
  | m :: r => if m = n then some 0 else (idxT n r).map (· + 1)
def inF : Kd → List Tx → Fm
  | .var n, ns => match idxT n ns with
    | some i => .at i
    | none => .var n
  | .con0 c, _ => .con0 c
  | .list k, ns => .list (inF k ns)
  | .con2 c a b, ns => .con2 c (inF a ns) (inF b ns)
  | .all n k, ns => .all (inF k (n :: ns))
def frF : Fm → List Tx
  | .var n => [n]
  | .at _ => []
  | .con0 _ => []
  | .list f => frF f
  | .con2 _ a b => frF a ++ (frF b).filter fun n => !decide (n ∈ frF a)
  | .all f => frF f
def outF : Fm → List Tx → List Tx → Kd
  | .var n, _, _ => .var n
  | .at i, ns, _ => .var ((ns[i]?).getD [])
  | .con0 c, _, _ => .con0 c
  | .list f, ns, t => .list (outF f ns t)
  | .con2 c a b, ns, t => .con2 c (outF a ns t) (outF b ns t)
  | .all f, ns, t => .all (firstL (t ++ ns)) (outF f (firstL (t ++ ns) :: ns) t)
/-- the plain form, as the law has it -/
def lawK (k : Kd) : Kd := outF (inF k []) [] (frF (inF k []))
theorem idxT_none {n : Tx} : ∀ {ns : List Tx}, n ∉ ns → idxT n ns = none
  | [], _ => rfl
  | m :: r, h => by
    unfold idxT
    rw [if_neg (fun z => h (by rw [z]; exact List.mem_cons_self)), idxT_none fun z => h (List.mem_cons_of_mem _ z)]
    rfl
theorem idxT_some {n : Tx} : ∀ {ns : List Tx}, n ∈ ns → ∃ i, idxT n ns = some i ∧ i < ns.length
  | [], h => by cases h
  | m :: r, h => by
    by_cases hm : m = n
    · exact ⟨0, by unfold idxT; rw [if_pos hm], Nat.succ_pos _⟩
    · have hr : n ∈ r := by
        rcases List.mem_cons.mp h with z | z
        · exact absurd z.symm hm
        · exact z
      obtain ⟨i, h1, h2⟩ := idxT_some hr
      exact ⟨i + 1, by unfold idxT; rw [if_neg hm, h1]; rfl, Nat.succ_lt_succ h2⟩
theorem frF_in : ∀ (k : Kd) (ns ins : List Tx), (∀ x, x ∈ ns ↔ x ∈ ins) → frF (inF k ns) = frees k ins
  | .var n, ns, ins, h => by
    unfold inF frees
    by_cases hn : n ∈ ins
    · obtain ⟨i, e, _⟩ := idxT_some ((h n).mpr hn)
      rw [e, if_pos hn]
      rfl
    · rw [idxT_none (fun z => hn ((h n).mp z)), if_neg hn]
      rfl
  | .con0 _, _, _, _ => rfl
  | .list k, ns, ins, h => frF_in k ns ins h
  | .con2 _ a b, ns, ins, h => by
    show frF (inF a ns) ++ (frF (inF b ns)).filter _ = _
    rw [frF_in a ns ins h, frF_in b ns ins h]
    rfl
  | .all n k, ns, ins, h => by
    show frF (inF k (n :: ns)) = frees k (ins ++ [n])
    refine frF_in k _ _ fun x => ?_
    rw [List.mem_cons, List.mem_append, List.mem_singleton, h x]
    exact Or.comm
/-- the names around: as they were, as numbers, as letters -/
structure Bd where
  nm : Tx
  no : Nat
  lt : Tx
def look (bs : List Bd) (n : Tx) : Option Bd := bs.find? fun b => decide (b.nm = n)
theorem look_idx (n : Tx) : ∀ bs : List Bd, match look bs n with
    | some b => ∃ i, idxT n (bs.map Bd.nm) = some i ∧ (bs.map Bd.lt)[i]? = some b.lt ∧ b ∈ bs
    | none => idxT n (bs.map Bd.nm) = none
  | [] => rfl
  | b :: bs => by
    have ih := look_idx n bs
    unfold look at ih ⊢
    rw [List.find?_cons]
    by_cases h : b.nm = n
    · rw [decide_eq_true h]
      exact ⟨0, by rw [List.map_cons]; unfold idxT; rw [if_pos h], rfl, List.mem_cons_self⟩
    · rw [decide_eq_false h]
      dsimp only at ih ⊢
      have e : idxT n ((b :: bs).map Bd.nm) = (idxT n (bs.map Bd.nm)).map (· + 1) := by rw [List.map_cons, idxT, if_neg h]
      cases q : bs.find? fun b => decide (b.nm = n) with
      | none => rw [q] at ih; dsimp only at ih ⊢; rw [e, ih]; rfl
      | some c =>
        rw [q] at ih
        dsimp only at ih ⊢
        obtain ⟨i, h1, h2, h3⟩ := ih
        exact ⟨i + 1, by rw [e, h1]; rfl, by simpa using h2, List.mem_cons_of_mem _ h3⟩
/-- what the three ways know of one another -/
structure Three (bs : List Bd) (e1 e2 : Ren) (f : Nat) : Prop where
  a : ∀ n, lkR e1 n = (look bs n).map fun b => mark b.no
  b : ∀ x ∈ bs, lkR e2 (mark x.no) = some x.lt
  c : ∀ n, isNm n = true → lkR e2 n = none
  d : ∀ x ∈ bs, x.no < f
theorem Three.up {bs : List Bd} {e1 e2 : Ren} {f g : Nat} (h : Three bs e1 e2 f) (hg : f ≤ g) : Three bs e1 e2 g := ⟨h.a, h.b, h.c, fun x hx => Nat.lt_of_lt_of_le (h.d x hx) hg⟩
theorem Three.push {bs : List Bd} {e1 e2 : Ren} {f : Nat} (h : Three bs e1 e2 f) (hf : f < 9000) (n l : Tx) : Three (⟨n, f, l⟩ :: bs) ((n, mark f) :: cutR e1 n) ((mark f, l) :: cutR e2 (mark f)) (f + 1) := by
  refine ⟨fun m => ?_, fun x hx => ?_, fun m hm => ?_, fun x hx => ?_⟩
  · show (if n = m then some (mark f) else lkR (cutR e1 n) m) = (look (⟨n, f, l⟩ :: bs) m).map _
    unfold look
    rw [List.find?_cons]
    by_cases hn : n = m
    · rw [if_pos hn, decide_eq_true hn]; rfl
    · rw [if_neg hn, decide_eq_false hn, lkR_cut, if_neg (fun z => hn z.symm), h.a m]
      rfl
  · show (if mark f = mark x.no then some l else lkR (cutR e2 (mark f)) (mark x.no)) = some x.lt
    rcases List.mem_cons.mp hx with rfl | hx
    · exact if_pos rfl
    · have hlt := h.d x hx
      have ne : mark f ≠ mark x.no := fun z => by
        have := mark_inj (by omega) (by omega) z
        omega
      rw [if_neg ne, lkR_cut, if_neg (fun z => ne z.symm)]
      exact h.b x hx
  · show (if mark f = m then some l else lkR (cutR e2 (mark f)) m) = none
    have ne : mark f ≠ m := fun z => by rw [← z, mark_no] at hm; cases hm
    rw [if_neg ne, lkR_cut, if_neg (fun z => ne z.symm)]
    exact h.c m hm
  · rcases List.mem_cons.mp hx with rfl | hx
    · exact Nat.lt_succ_self _
    · exact Nat.lt_succ_of_lt (h.d x hx)
theorem three_same : ∀ (k : Kd) (bs : List Bd) (e1 e2 : Ren) (f : Nat) (t fr : List Tx), Good k → Three bs e1 e2 f → f + k.qs < 9000 → (∀ x, x ∈ t ↔ x ∈ fr ++ bs.map Bd.lt) → rlE (mkE k e1 f).1 e2 t = outF (inF k (bs.map Bd.nm)) (bs.map Bd.lt) fr
  | .var n, bs, e1, e2, f, t, fr, g, h, _, _ => by
    have hn := g n List.mem_cons_self
    have q := look_idx n bs
    have qa := h.a n
    show Kd.var (rnm e2 (rnm e1 n)) = outF (inF (.var n) _) _ _
    unfold inF rnm
    cases ql : look bs n with
    | none =>
      rw [ql] at q qa
      dsimp only at q
      rw [q, qa]
      show Kd.var ((lkR e2 n).getD n) = Kd.var n
      rw [h.c n hn]
      rfl
    | some b =>
      rw [ql] at q qa
      dsimp only at q
      obtain ⟨i, h1, h2, h3⟩ := q
      rw [h1, qa]
      show Kd.var ((lkR e2 (mark b.no)).getD (mark b.no)) = Kd.var (((bs.map Bd.lt)[i]?).getD [])
      rw [h.b b h3, h2]
      rfl
  | .con0 _, _, _, _, _, _, _, _, _, _, _ => rfl
  | .list k, bs, e1, e2, f, t, fr, g, h, hf, ht => by
    show Kd.list (rlE (mkE k e1 f).1 e2 t) = Kd.list (outF (inF k _) _ _)
    rw [three_same k bs e1 e2 f t fr g h hf ht]
  | .con2 c a b, bs, e1, e2, f, t, fr, g, h, hf, ht => by
    have hq : (Kd.con2 c a b).qs = a.qs + b.qs := rfl
    show Kd.con2 c (rlE (mkE a e1 f).1 e2 t) (rlE (mkE b e1 (mkE a e1 f).2).1 e2 t) = Kd.con2 c (outF (inF a _) _ _) (outF (inF b _) _ _)
    rw [three_same a bs e1 e2 f t fr (fun x hx => g x (List.mem_append_left _ hx)) h (by omega) ht,
      three_same b bs e1 e2 _ t fr (fun x hx => g x (List.mem_append_right _ hx)) (h.up (by rw [mkE_next]; omega)) (by rw [mkE_next]; omega) ht]
  | .all n k, bs, e1, e2, f, t, fr, g, h, hf, ht => by
    have hq : (Kd.all n k).qs = k.qs + 1 := rfl
    have e : firstL t = firstL (fr ++ bs.map Bd.lt) := firstL_congr ht
    show Kd.all (firstL t) (rlE (mkE k ((n, mark f) :: cutR e1 n) (f + 1)).1 ((mark f, firstL t) :: cutR e2 (mark f)) (t ++ [firstL t])) = Kd.all (firstL (fr ++ bs.map Bd.lt)) (outF (inF k (n :: bs.map Bd.nm)) (firstL (fr ++ bs.map Bd.lt) :: bs.map Bd.lt) fr)
    rw [← e]
    congr 1
    refine three_same k (⟨n, f, firstL t⟩ :: bs) _ _ (f + 1) _ fr (fun x hx => g x (List.mem_cons_of_mem _ hx)) (h.push (by omega) n (firstL t)) (by omega) fun x => ?_
    rw [List.mem_append, List.mem_singleton, ht x, List.mem_append, List.mem_append, List.map_cons, List.mem_cons]
    exact ⟨fun z => z.elim (fun z => z.elim .inl (fun y => .inr (.inr y))) (fun y => .inr (.inl y)), fun z => z.elim (fun y => .inl (.inl y)) (fun y => y.elim .inr (fun w => .inl (.inr w)))⟩
theorem plain_law (k : Kd) (g : Good k) (h : k.qs < 1000) : plainK k = lawK k := by
  unfold plainK lawK
  rw [frF_in k [] [] (fun _ => Iff.rfl)]
  exact three_same k [] [] [] 0 (frees k []) (frees k []) g ⟨fun n => rfl, fun x hx => (by cases hx), fun n _ => rfl, fun x hx => (by cases hx)⟩ (by omega) (fun x => by simp)
end Fro

namespace Fro
open PySem PySem.Spec L2

/-! ### kinds for names -/
abbrev Sub := List (Tx × Kd)
def encE (es : Sub) : List (Tx × D) := es.map fun e => (e.1, enc e.2)
def lkK : Sub → Tx → Option Kd
  | [], _ => none
  | (k, x) :: r, t => if k = t then some x else lkK r t
theorem lkT_enc (t : Tx) : ∀ es : Sub, lkT (encE es) t = (lkK es t).map enc
  | [] => rfl
  | (k, x) :: r => by
    show (if k = t then some (enc x) else lkT (encE r) t) = (if k = t then some x else lkK r t).map enc
    rw [lkT_enc t r]
    split <;> rfl
def cutS' (es : Sub) (n : Tx) : Sub := es.filter fun e => !decide (e.1 = n)
def exK : Kd → Sub → Kd
  | .var n, es => (lkK es n).getD (.var n)
  | .con0 c, _ => .con0 c
  | .list k, es => .list (exK k es)
  | .con2 c a b, es => .con2 c (exK a es) (exK b es)
  | .all n k, es => .all n (exK k (cutS' es n))
def OkK (k : Kd) : Prop := ∀ n ∈ k.nms, okT n = true
def OkE (es : Sub) : Prop := (es.map (·.1)).Nodup ∧ (∀ e ∈ es, okT e.1 = true) ∧ es.length ≤ 1000
theorem okE_cut {es : Sub} (h : OkE es) (n : Tx) : OkE (cutS' es n) := by
  refine ⟨?_, fun e he => h.2.1 e (List.mem_filter.mp he).1, Nat.le_trans (List.length_filter_le _ _) h.2.2⟩
  exact List.Sublist.nodup (List.Sublist.map _ List.filter_sublist) h.1
theorem rest_ev (n : Tx) (a : D) (es : Sub) (hn : okT n = true) (he : OkE es) (w2 w3 w4 : Option W) (S : Sto) (ha : gIx a (.int 1) = some (.str n)) :
    cLkS 1 (cAsg (cDComp (itI (cVar 1)) (gT 2 (gsCons (gN 3) (gsCons (gN 4) gsNil))) (cB (op2 gNe (cVar 3) (cIx (cVar 0) (cC (.int 1))))) (cVar 3) (cVar 4) [3, 4]) (gN 2)) [some (.v a), some (.v (.dct (encE es))), w2, none, none] S =
      .nx [some (.v a), some (.v (.dct (encE es))), some (.v (.dct (encE (cutS' es n)))), none, none] S := by
  have key : cDComp (itI (cVar 1)) (gT 2 (gsCons (gN 3) (gsCons (gN 4) gsNil))) (cB (op2 gNe (cVar 3) (cIx (cVar 0) (cC (.int 1))))) (cVar 3) (cVar 4) [3, 4] [some (.v a), some (.lk (encE es)), w2, none, none] S = .ok (.v (.dct (encE (cutS' es n)))) S := by
    have q := dcomp_ev (it := itI (cVar 1)) (dg := gT 2 (gsCons (gN 3) (gsCons (gN 4) gsNil))) (tt := cB (op2 gNe (cVar 3) (cIx (cVar 0) (cC (.int 1))))) (tk := cVar 3) (tv := cVar 4) (vs := [3, 4]) (δ := [some (.v a), some (.lk (encE es)), w2, none, none]) (S := S) (S1 := S) (ds := itemsD (encE es))
      (fun d => match d with
        | .tup [.str t, x] => if t = n then none else some (t, x)
        | _ => none) rfl (by unfold itemsD encE; rw [List.length_map, List.length_map]; exact he.2.2) (fun d hd acc => by
        unfold itemsD encE at hd
        rw [List.map_map] at hd
        obtain ⟨e, hm, rfl⟩ := List.mem_map.mp hd
        have ht : cB (op2 gNe (cVar 3) (cIx (cVar 0) (cC (.int 1)))) [some (.v a), some (.lk (encE es)), w2, some (.v (.str e.1)), some (.v (enc e.2))] (S ++ [.dct acc]) = .ok (!decide (e.1 = n)) (S ++ [.dct acc]) :=
          e_b (e_op2v rfl (e_ix rfl rfl ha) (v_neS (he.2.1 e hm) hn))
        refine ⟨[some (.v a), some (.lk (encE es)), w2, some (.v (.str e.1)), some (.v (enc e.2))], rfl, ?_⟩
        show (match (if e.1 = n then none else some (e.1, enc e.2)) with
          | none => _
          | some e => _)
        by_cases h : e.1 = n
        · rw [if_pos h]
          rw [decide_eq_true h] at ht
          exact ht
        · rw [if_neg h]
          rw [decide_eq_false h] at ht
          exact ⟨ht, rfl, rfl⟩)
    rw [q]
    have hf : (itemsD (encE es)).filterMap (fun d => match d with
        | .tup [.str t, x] => if t = n then none else some (t, x)
        | _ => none) = encE (cutS' es n) := by
      clear q he
      induction es with
      | nil => rfl
      | cons e r ih =>
        show (D.tup [.str e.1, enc e.2] :: itemsD (encE r)).filterMap _ = _
        rw [List.filterMap_cons]
        by_cases h : e.1 = n
        · rw [show (match D.tup [.str e.1, enc e.2] with
            | .tup [.str t, x] => if t = n then none else some (t, x)
            | _ => none) = (none : Option (Tx × D)) from if_pos h]
          rw [ih]
          unfold cutS'
          rw [List.filter_cons_of_neg (by simp [h])]
        · rw [show (match D.tup [.str e.1, enc e.2] with
            | .tup [.str t, x] => if t = n then none else some (t, x)
            | _ => none) = some (e.1, enc e.2) from if_neg h]
          rw [ih]
          unfold cutS'
          rw [List.filter_cons_of_pos (by simp [h])]
          rfl
    rw [hf, mergeE_nil _ [] (by
      rw [List.nil_append]
      have : (encE (cutS' es n)).map (·.1) = (cutS' es n).map (·.1) := by unfold encE; rw [List.map_map]; rfl
      rw [this]
      exact (okE_cut he n).1), List.nil_append]
  have e2 : cAsg (cDComp (itI (cVar 1)) (gT 2 (gsCons (gN 3) (gsCons (gN 4) gsNil))) (cB (op2 gNe (cVar 3) (cIx (cVar 0) (cC (.int 1))))) (cVar 3) (cVar 4) [3, 4]) (gN 2) [some (.v a), some (.lk (encE es)), w2, none, none] S = .nx [some (.v a), some (.lk (encE es)), some (.v (.dct (encE (cutS' es n)))), none, none] S := e_set key
  show okLkS (cAsg _ (gN 2) [some (.v a), some (.lk (encE es)), w2, none, none] S) = _
  rw [e2]
  rfl
theorem exchange_ev : ∀ (k : Kd) (m : Nat) (es : Sub) (S : Sto), OkK k → OkE es → k.ht ≤ m → f_exchange m [.v (enc k), .v (.dct (encE es))] S = .ok (.v (enc (exK k es))) S := by
  have pos : ∀ (k : Kd) (m : Nat), k.ht ≤ m → ∃ m', m = m' + 1 := fun k m h => ⟨m - 1, by have := k.ht_pos; omega⟩
  intro k
  induction k with
  | var n =>
    intro m es S hk he hm
    obtain ⟨m, rfl⟩ := pos _ _ hm
    refine e_fdef_v (e_seq_rt (e_ifs_t (S1 := S) (e_b rfl) (e_ret ?_)))
    have q := lkT_enc n es
    unfold exK
    cases ql : lkK es n with
    | none => rw [ql] at q; exact e_dget2_none (w := .v (enc (.var n))) rfl rfl rfl q
    | some x => rw [ql] at q; exact e_dget2_some (w := .v (enc (.var n))) rfl rfl rfl q
  | con0 c =>
    intro m es S hk he hm
    obtain ⟨m, rfl⟩ := pos _ _ hm
    refine e_fdef_v (e_seq_nx (e_ifs_f (S1 := S) (e_b rfl) rfl) (e_seq_nx (e_ifs_f (S1 := S) (e_b rfl) rfl) (e_ret ?_)))
    refine e_disp (ws := [.v (.str [99, 111, 110]), .v (.str c.tx), .v (.tup [])]) (e_cons rfl (e_cons rfl (e_cons (e_blt (ws := [.v (.lst [])]) (e_cons ?_ rfl) rfl rfl) rfl))) rfl (by simp) rfl
    exact comp_map (ds := []) (fun d => d) rfl (by decide) (fun d hd => absurd hd (by simp))
  | list k ih =>
    intro m es S hk he hm
    obtain ⟨m, rfl⟩ := pos _ _ hm
    unfold Kd.ht at hm
    refine e_fdef_v (e_seq_nx (e_ifs_f (S1 := S) (e_b rfl) rfl) (e_seq_nx (e_ifs_f (S1 := S) (e_b rfl) rfl) (e_ret ?_)))
    refine e_disp (ws := [.v (.str [99, 111, 110]), .v (.str [76, 105, 115, 116]), .v (.tup [enc (exK k es)])]) (e_cons rfl (e_cons rfl (e_cons (e_blt (ws := [.v (.lst [enc (exK k es)])]) (e_cons ?_ rfl) rfl rfl) rfl))) rfl (by simp) rfl
    refine comp_map (ds := [enc k]) (fun d => enc (exK k es)) rfl (by simp) (fun d hd acc => ?_)
    rw [List.mem_singleton] at hd
    subst hd
    exact ⟨_, rfl, e_call (ws := [.v (enc k), .v (.dct (encE es))]) rfl rfl (ih m es _ hk he (by omega)) rfl⟩
  | con2 c a b iha ihb =>
    intro m es S hk he hm
    obtain ⟨m, rfl⟩ := pos _ _ hm
    unfold Kd.ht at hm
    refine e_fdef_v (e_seq_nx (e_ifs_f (S1 := S) (e_b rfl) rfl) (e_seq_nx (e_ifs_f (S1 := S) (e_b rfl) rfl) (e_ret ?_)))
    refine e_disp (ws := [.v (.str [99, 111, 110]), .v (.str c.tx), .v (.tup [enc (exK a es), enc (exK b es)])]) (e_cons rfl (e_cons rfl (e_cons (e_blt (ws := [.v (.lst [enc (exK a es), enc (exK b es)])]) (e_cons ?_ rfl) rfl rfl) rfl))) rfl (by simp) rfl
    have ea := fun S => iha m es S (fun n hn => hk n (List.mem_append_left _ hn)) he (by omega)
    have eb := fun S => ihb m es S (fun n hn => hk n (List.mem_append_right _ hn)) he (by omega)
    have q := comp_two (f := f_exchange m) (δ := [some (.v (enc (.con2 c a b))), some (.v (.dct (encE es))), none, none, none]) (S := S) (j := 4) (vs := [4]) (it := itT (cIx (cVar 0) (cC (.int 2)))) (as := cCons (cVar 4) (cCons (cVar 1) cNil)) (n := 2) (x := enc a) (y := enc b) (wx := [.v (enc a), .v (.dct (encE es))]) (wy := [.v (enc b), .v (.dct (encE es))]) rfl (fun S => rfl) (fun S => rfl) rfl rfl ea eb
    exact q
  | all n k ih =>
    intro m es S hk he hm
    obtain ⟨m, rfl⟩ := pos _ _ hm
    unfold Kd.ht at hm
    have hn := hk n List.mem_cons_self
    refine e_fdef_v (e_seq_nx (e_ifs_f (S1 := S) (e_b rfl) rfl) (e_seq_rt (e_ifs_t (S1 := S) (e_b rfl) (e_seq_nx (rest_ev n (enc (.all n k)) es hn he none none none S rfl) (e_ret ?_)))))
    exact e_disp (ws := [.v (.str [97, 108, 108]), .v (.str n), .v (enc (exK k (cutS' es n)))]) (e_cons rfl (e_cons rfl (e_cons (e_call (ws := [.v (enc k), .v (.dct (encE (cutS' es n)))]) rfl rfl (ih m (cutS' es n) S (fun x hx => hk x (List.mem_cons_of_mem _ hx)) (okE_cut he n) (by omega)) rfl) rfl))) rfl (by simp) rfl
/-! ### names for names -/
def varE (env : Ren) : Sub := env.map fun e => (e.1, .var e.2)
theorem lkK_var (t : Tx) : ∀ env : Ren, lkK (varE env) t = (lkR env t).map .var
  | [] => rfl
  | (k, x) :: r => by
    show (if k = t then some (Kd.var x) else lkK (varE r) t) = (if k = t then some x else lkR r t).map .var
    rw [lkK_var t r]
    split <;> rfl
theorem cut_var (n : Tx) : ∀ env : Ren, cutS' (varE env) n = varE (cutR env n)
  | [] => rfl
  | (k, x) :: r => by
    have ih := cut_var n r
    unfold cutS' cutR varE at ih ⊢
    rw [List.map_cons]
    by_cases h : k = n
    · rw [List.filter_cons_of_neg (by simp [h]), List.filter_cons_of_neg (by simp [h]), ih]
    · rw [List.filter_cons_of_pos (by simp [h]), List.filter_cons_of_pos (by simp [h]), List.map_cons, ih]
theorem exK_ren : ∀ (k : Kd) (env : Ren), exK k (varE env) = renK k env
  | .var n, env => by
    unfold exK renK rnm
    rw [lkK_var]
    cases lkR env n <;> rfl
  | .con0 _, _ => rfl
  | .list k, env => by unfold exK renK; rw [exK_ren k]
  | .con2 _ a b, env => by unfold exK renK; rw [exK_ren a, exK_ren b]
  | .all n k, env => by unfold exK renK; rw [cut_var, exK_ren k]
/-- one name for another -/
theorem rename_ev (k : Kd) (m : Nat) (n x : Tx) (S : Sto) (hk : OkK k) (hn : okT n = true) (hm : k.ht ≤ m) : f_exchange m [.v (enc k), .v (.dct [(n, enc (.var x))])] S = .ok (.v (enc (renK k [(n, x)]))) S := by
  have := exchange_ev k m [(n, .var x)] S hk ⟨by simp, fun e he => by rw [List.mem_singleton] at he; rw [he]; exact hn, by simp⟩ hm
  rw [show ([(n, .var x)] : Sub) = varE [(n, x)] from rfl, exK_ren] at this
  exact this
end Fro

namespace Fro
open PySem PySem.Spec L2

/-! ### marked -/
def Vals (p : Tx → Prop) (env : Ren) : Prop := ∀ n y, lkR env n = some y → p y
theorem vals_cons {p : Tx → Prop} {env : Ren} {n x : Tx} (h : Vals p env) (hx : p x) : Vals p ((n, x) :: cutR env n) := fun m y e => by
  have e' : (if n = m then some x else lkR (cutR env n) m) = some y := e
  split at e'
  · cases e'; exact hx
  · rw [lkR_cut] at e'
    split at e'
    · cases e'
    · exact h m y e'
theorem vals_cut {p : Tx → Prop} {env : Ren} {n : Tx} (h : Vals p env) : Vals p (cutR env n) := fun m y e => by
  rw [lkR_cut] at e
  split at e
  · cases e
  · exact h m y e
theorem okK_ren : ∀ (k : Kd) (env : Ren), OkK k → Vals (fun y => okT y = true) env → OkK (renK k env)
  | .var n, env, hk, hv => fun x hx => by
    have : x = rnm env n := by simpa [renK, Kd.nms] using hx
    rw [this]
    unfold rnm
    cases q : lkR env n with
    | none => exact hk n List.mem_cons_self
    | some y => exact hv n y q
  | .con0 _, _, _, _ => fun x hx => by cases hx
  | .list k, env, hk, hv => okK_ren k env hk hv
  | .con2 _ a b, env, hk, hv => fun x hx => by
    rcases List.mem_append.mp hx with h | h
    · exact okK_ren a env (fun y hy => hk y (List.mem_append_left _ hy)) hv x h
    · exact okK_ren b env (fun y hy => hk y (List.mem_append_right _ hy)) hv x h
  | .all n k, env, hk, hv => fun x hx => by
    rcases List.mem_cons.mp hx with h | h
    · rw [h]; exact hk n List.mem_cons_self
    · exact okK_ren k (cutR env n) (fun y hy => hk y (List.mem_cons_of_mem _ hy)) (vals_cut hv) x h
theorem good_ok {k : Kd} (g : Good k) : OkK k := fun n hn => isNm_ok (g n hn)
def Mk (y : Tx) : Prop := isNm y = false ∧ okT y = true
theorem mark_mk {f : Nat} (h : f < 1000) : Mk (mark f) := ⟨mark_no f, mark_ok h⟩
theorem fr_mk {env : Ren} {n : Tx} (hn : isNm n = true) (hv : Vals Mk env) : Fr (cutR env n) n := by
  refine ⟨by rw [lkR_cut, if_pos rfl], fun m y e z => ?_⟩
  have := (vals_cut (n := n) hv m y e).1
  rw [z, hn] at this
  cases this
theorem gStr_int (f : Nat) (h : f < 1000) : gStr [.int f] = some (.str (txI f)) := if_pos (by omega)
theorem rdr (S : Sto) (ds : List D) : rdAll (S ++ [.lst ds]) [.r S.length] = some [.lst ds] := by
  show (match rd (S ++ [.lst ds]) (.r S.length), rdAll (S ++ [.lst ds]) [] with
    | some d, some ds => some (d :: ds)
    | _, _ => none) = _
  rw [rd_at (at_last S (.lst ds))]
  rfl
/-- one turn over the parts -/
theorem marked_turn {m : Nat} {x r : D} {f g : Int} {acc : List D} {w0 w2 w3 w4 : Option W} {S : Sto} (hl : acc.length < 1000) (e : f_marked_from m [.v x, .v (.int f)] (S ++ [.lst acc]) = .ok (.v (.tup [r, .int g])) (S ++ [.lst acc])) :
    l1_marked_from (f_marked_from m) [w0, some (.v (.int f)), w2, w3, w4, some (.r S.length), some (.v x)] (S ++ [.lst acc]) = .nx [w0, some (.v (.int g)), w2, some (.v r), w4, some (.r S.length), some (.v x)] (S ++ [.lst (acc ++ [r])]) := by
  refine e_seq_nx (δ' := [w0, some (.v (.int g)), w2, some (.v r), w4, some (.r S.length), some (.v x)]) (S1 := S ++ [.lst acc]) (e_asg (e_call (ws := [.v x, .v (.int f)]) rfl rfl e rfl) rfl) ?_
  rw [← set_last S (.lst acc) (.lst (acc ++ [r]))]
  exact e_expr (e_append (i := S.length) (d := r) (ds := acc) rfl ⟨_, at_last _ _⟩ rfl (at_last _ _) (by omega))
theorem marked_from_ev : ∀ (k : Kd) (m : Nat) (env : Ren) (f : Nat) (S : Sto), Good k → Vals Mk env → k.ht ≤ m → k.ht ≤ 30 → f + k.qs < 900 → f_marked_from m [.v (enc (renK k env)), .v (.int f)] S = .ok (.v (.tup [enc (mkE k env f).1, .int (mkE k env f).2])) S := by
  have pos : ∀ (k : Kd) (m : Nat), k.ht ≤ m → ∃ m', m = m' + 1 := fun k m h => ⟨m - 1, by have := k.ht_pos; omega⟩
  intro k
  induction k with
  | var n =>
    intro m env f S g hv hm h30 hf
    obtain ⟨m, rfl⟩ := pos _ _ hm
    exact e_fdef_v (e_seq_rt (e_ifs_t (S1 := S) (e_b rfl) rfl))
  | con0 c =>
    intro m env f S g hv hm h30 hf
    obtain ⟨m, rfl⟩ := pos _ _ hm
    refine e_fdef_va (T := [.lst []]) (e_seq_nx (e_ifs_f (S1 := S) (e_b rfl) rfl) (e_seq_nx (e_ifs_f (S1 := S) (e_b rfl) rfl) (e_seq_nx (e_set rfl) (e_seq_nx (e_for rfl rfl) (e_ret ?_)))))
    refine e_disp (ws := [.v (enc (.con0 c)), .v (.int f)]) (e_cons (e_disp (ws := [.v (.str [99, 111, 110]), .v (.str c.tx), .v (.tup [])]) (e_cons rfl (e_cons rfl (e_cons (e_blt (ws := [.r S.length]) (ds := [.lst []]) rfl (rdr S []) rfl) rfl))) rfl (by simp) rfl) (e_cons rfl rfl)) rfl (by simp) rfl
  | list k ih =>
    intro m env f S g hv hm h30 hf
    obtain ⟨m, rfl⟩ := pos _ _ hm
    unfold Kd.ht at hm h30
    have ec := ih m env f (S ++ [.lst []]) g hv (by omega) (by omega) hf
    refine e_fdef_va (T := [.lst [enc (mkE k env f).1]]) (e_seq_nx (e_ifs_f (S1 := S) (e_b rfl) rfl) (e_seq_nx (e_ifs_f (S1 := S) (e_b rfl) rfl) (e_seq_nx (e_set rfl) (e_seq_nx (δ' := [some (.v (enc (.list (renK k env)))), some (.v (.int (mkE k env f).2)), none, some (.v (enc (mkE k env f).1)), none, some (.r S.length), some (.v (enc (renK k env)))]) (S1 := S ++ [.lst [enc (mkE k env f).1]]) (e_for (ds := [enc (renK k env)]) rfl ?_) (e_ret ?_)))))
    · exact Eq.trans (e_for_nx (δ1 := [some (.v (enc (.list (renK k env)))), some (.v (.int f)), none, none, none, some (.r S.length), some (.v (enc (renK k env)))]) (S1 := S ++ [.lst []]) rfl (marked_turn (by simp) ec)) rfl
    · refine e_disp (ws := [.v (enc (.list (mkE k env f).1)), .v (.int (mkE k env f).2)]) (e_cons (e_disp (ws := [.v (.str [99, 111, 110]), .v (.str [76, 105, 115, 116]), .v (.tup [enc (mkE k env f).1])]) (e_cons rfl (e_cons rfl (e_cons (e_blt (ws := [.r S.length]) (ds := [.lst [enc (mkE k env f).1]]) rfl (rdr S [enc (mkE k env f).1]) rfl) rfl))) rfl (by simp) rfl) (e_cons rfl rfl)) rfl (by simp) rfl
  | con2 c a b iha ihb =>
    intro m env f S g hv hm h30 hf
    obtain ⟨m, rfl⟩ := pos _ _ hm
    unfold Kd.ht at hm h30
    have hq : (Kd.con2 c a b).qs = a.qs + b.qs := rfl
    have g1 : Good a := fun x hx => g x (List.mem_append_left _ hx)
    have g2 : Good b := fun x hx => g x (List.mem_append_right _ hx)
    have ea := iha m env f (S ++ [.lst []]) g1 hv (by omega) (by omega) (by omega)
    have eb := ihb m env (mkE a env f).2 (S ++ [.lst [enc (mkE a env f).1]]) g2 hv (by omega) (by omega) (by rw [mkE_next]; omega)
    refine e_fdef_va (T := [.lst [enc (mkE a env f).1, enc (mkE b env (mkE a env f).2).1]]) (e_seq_nx (e_ifs_f (S1 := S) (e_b rfl) rfl) (e_seq_nx (e_ifs_f (S1 := S) (e_b rfl) rfl) (e_seq_nx (e_set rfl) (e_seq_nx (δ' := [some (.v (enc (.con2 c (renK a env) (renK b env)))), some (.v (.int (mkE b env (mkE a env f).2).2)), none, some (.v (enc (mkE b env (mkE a env f).2).1)), none, some (.r S.length), some (.v (enc (renK b env)))]) (S1 := S ++ [.lst [enc (mkE a env f).1, enc (mkE b env (mkE a env f).2).1]]) (e_for (ds := [enc (renK a env), enc (renK b env)]) rfl ?_) (e_ret ?_)))))
    · exact Eq.trans (e_for_nx (δ1 := [some (.v (enc (.con2 c (renK a env) (renK b env)))), some (.v (.int f)), none, none, none, some (.r S.length), some (.v (enc (renK a env)))]) (S1 := S ++ [.lst []]) rfl (marked_turn (by simp) ea)) (Eq.trans (e_for_nx (δ1 := [some (.v (enc (.con2 c (renK a env) (renK b env)))), some (.v (.int (mkE a env f).2)), none, some (.v (enc (mkE a env f).1)), none, some (.r S.length), some (.v (enc (renK b env)))]) (S1 := S ++ [.lst [enc (mkE a env f).1]]) rfl (marked_turn (by simp) eb)) rfl)
    · refine e_disp (ws := [.v (enc (.con2 c (mkE a env f).1 (mkE b env (mkE a env f).2).1)), .v (.int (mkE b env (mkE a env f).2).2)]) (e_cons (e_disp (ws := [.v (.str [99, 111, 110]), .v (.str c.tx), .v (.tup [enc (mkE a env f).1, enc (mkE b env (mkE a env f).2).1])]) (e_cons rfl (e_cons rfl (e_cons (e_blt (ws := [.r S.length]) (ds := [.lst [enc (mkE a env f).1, enc (mkE b env (mkE a env f).2).1]]) rfl (rdr S [enc (mkE a env f).1, enc (mkE b env (mkE a env f).2).1]) rfl) rfl))) rfl (by simp) rfl) (e_cons rfl rfl)) rfl (by simp) rfl
  | all n k ih =>
    intro m env f S g hv hm h30 hf
    obtain ⟨m, rfl⟩ := pos _ _ hm
    unfold Kd.ht at hm h30
    have hq : (Kd.all n k).qs = k.qs + 1 := rfl
    have hn := g n List.mem_cons_self
    have gk : Good k := fun x hx => g x (List.mem_cons_of_mem _ hx)
    have hl := txI_len f (by omega)
    have e1 : op2 gAdd (cC k_MARK) (cBlt gStr (cCons (cVar 1) cNil)) [some (.v (enc (.all n (renK k (cutR env n))))), some (.v (.int f)), none, none, none, none, none] S = .ok (.v (.str (mark f))) S :=
      e_op2v (d := .str [48, 46]) rfl (e_blt (ws := [.v (.int f)]) rfl rfl (gStr_int f (by omega))) (v_addS (by simp; omega))
    have ok : OkK (renK k (cutR env n)) := okK_ren k _ (good_ok gk) (fun a y e => (vals_cut hv a y e).2)
    have ex := rename_ev (renK k (cutR env n)) 30 n (mark f) S ok (isNm_ok hn) (by rw [renK_ht]; omega)
    rw [renK_one n (mark f) k (cutR env n) (fr_mk hn hv)] at ex
    have er := ih m ((n, mark f) :: cutR env n) (f + 1) S gk (vals_cons hv (mark_mk (by omega))) (by omega) (by omega) (by omega)
    refine e_fdef_v (e_seq_nx (e_ifs_f (S1 := S) (e_b rfl) rfl) (e_seq_rt (e_ifs_t (S1 := S) (e_b rfl) (e_seq_nx (e_set e1) (e_seq_nx (e_asg (S2 := S) (δ' := [some (.v (enc (.all n (renK k (cutR env n))))), some (.v (.int f)), some (.v (.str (mark f))), some (.v (enc (mkE k ((n, mark f) :: cutR env n) (f + 1)).1)), some (.v (.int (mkE k ((n, mark f) :: cutR env n) (f + 1)).2)), none, none]) (e_call (S1 := S) (ws := [.v (enc (renK k ((n, mark f) :: cutR env n))), .v (.int ((f + 1 : Nat) : Int))]) (e_cons (e_call (ws := [.v (enc (renK k (cutR env n))), .v (.dct [(n, enc (.var (mark f)))])]) (e_cons rfl (e_cons (e_dict1 (t := n) (d := enc (.var (mark f))) rfl rfl) rfl)) rfl ex rfl) (e_cons rfl rfl)) rfl er rfl) rfl) rfl)))))
/-! ### numbers in names -/
theorem starts_no {n : Tx} (h : isNm n = true) : ([48, 46] : Tx).isPrefixOf n = false := by
  cases n with
  | nil => rfl
  | cons c r =>
    have hc : c ∈ lets := by
      unfold isNm at h
      rw [Bool.and_eq_true] at h
      exact of_decide_eq_true (List.all_eq_true.mp h.2 c List.mem_cons_self)
    have : c ≠ 48 := fun z => by rw [z] at hc; exact absurd hc (by decide)
    show ((48 == c) && _) = false
    rw [beq_eq_false_iff_ne.mpr (Ne.symm this)]
    rfl
theorem numbers_ev : ∀ (k : Kd) (m : Nat) (S : Sto), Good k → k.ht ≤ m → f_numbers_in m [.v (enc k)] S = .ok (.v (.lst [])) S := by
  have pos : ∀ (k : Kd) (m : Nat), k.ht ≤ m → ∃ m', m = m' + 1 := fun k m h => ⟨m - 1, by have := k.ht_pos; omega⟩
  have last : ∀ (d : D) (n : Tx) (S : Sto), isNm n = true → gIx d (.int 1) = some (.str n) → cRet (cIf (cB (cM1 gStarts (cIx (cVar 0) (cC (.int 1))) (cC k_MARK))) (op2 gAdd (cVar 3) (cLst (cCons cNever cNil))) (cVar 3)) [some (.v d), none, none, some (.v (.lst []))] S = .rt (.v (.lst [])) S := fun d n S hn hd => by
    refine e_ret (e_if_f (S1 := S) (e_b ?_) rfl)
    have e : cIx (cVar 0) (cC (.int 1)) [some (.v d), none, none, some (.v (.lst []))] S = .ok (.v (.str n)) S := e_ix rfl rfl hd
    unfold cM1
    rw [e, R.bind_ok]
    show R.ok (W.v (D.bl (([48, 46] : Tx).isPrefixOf n))) S = _
    rw [starts_no hn]
  intro k
  induction k with
  | var n =>
    intro m S g hm
    obtain ⟨m, rfl⟩ := pos _ _ hm
    exact e_fdef_v (e_seq_nx (e_ifs_f (S1 := S) (e_b rfl) rfl) (e_seq_nx (e_set (e_if_f (S1 := S) (e_b rfl) rfl)) (last _ n S (g n List.mem_cons_self) rfl)))
  | all n k ih =>
    intro m S g hm
    obtain ⟨m, rfl⟩ := pos _ _ hm
    unfold Kd.ht at hm
    have ec := ih m S (fun x hx => g x (List.mem_cons_of_mem _ hx)) (by omega)
    exact e_fdef_v (e_seq_nx (e_ifs_f (S1 := S) (e_b rfl) rfl) (e_seq_nx (e_set (e_if_t (S1 := S) (e_b rfl) (e_call (ws := [.v (enc k)]) rfl rfl ec rfl))) (last _ n S (g n List.mem_cons_self) rfl)))
  | con0 c =>
    intro m S g hm
    obtain ⟨m, rfl⟩ := pos _ _ hm
    refine e_fdef_v (e_seq_rt (e_ifs_t (S1 := S) (e_b rfl) (e_ret ?_)))
    exact comp2_nil (ds := []) rfl (fun d hd => by cases hd)
  | list k ih =>
    intro m S g hm
    obtain ⟨m, rfl⟩ := pos _ _ hm
    unfold Kd.ht at hm
    refine e_fdef_v (e_seq_rt (e_ifs_t (S1 := S) (e_b rfl) (e_ret ?_)))
    refine comp2_nil (ds := [enc k]) rfl (fun d hd => ?_)
    rw [List.mem_singleton] at hd
    subst hd
    exact ⟨_, rfl, e_itL (e_call (ws := [.v (enc k)]) rfl rfl (ih m _ g (by omega)) rfl)⟩
  | con2 c a b iha ihb =>
    intro m S g hm
    obtain ⟨m, rfl⟩ := pos _ _ hm
    unfold Kd.ht at hm
    refine e_fdef_v (e_seq_rt (e_ifs_t (S1 := S) (e_b rfl) (e_ret ?_)))
    refine comp2_nil (ds := [enc a, enc b]) rfl (fun d hd => ?_)
    simp only [List.mem_cons, List.not_mem_nil, or_false] at hd
    rcases hd with rfl | rfl
    · exact ⟨_, rfl, e_itL (e_call (ws := [.v (enc a)]) rfl rfl (iha m _ (fun x hx => g x (List.mem_append_left _ hx)) (by omega)) rfl)⟩
    · exact ⟨_, rfl, e_itL (e_call (ws := [.v (enc b)]) rfl rfl (ihb m _ (fun x hx => g x (List.mem_append_right _ hx)) (by omega)) rfl)⟩
theorem marked_ev (k : Kd) (S : Sto) (g : Good k) (h30 : k.ht ≤ 30) (hq : k.qs < 900) : f_marked [.v (enc k), .v (.int 0)] S = .ok (.v (.tup [enc (mkE k [] 0).1, .int (mkE k [] 0).2])) S := by
  have e := marked_from_ev k 30 [] 0 S g (fun n y h => by cases h) h30 h30 (by omega)
  rw [renK_nil] at e
  refine e_fdef_v (e_ret (e_call (ws := [.v (enc k), .v (.int 0)]) (e_cons rfl (e_cons ?_ rfl)) rfl e rfl))
  refine e_blt (ws := [.v (.lst [.int 0])]) (e_cons (e_op2v (d := .lst [.int 0]) (e := .lst []) rfl ?_ rfl) rfl) rfl rfl
  exact comp_map (ds := []) (fun d => d) (e_itL (e_call (ws := [.v (enc k)]) rfl rfl (numbers_ev k 30 S g h30) rfl)) (by decide) (fun d hd => absurd hd (by simp))
end Fro

namespace Fro
open PySem PySem.Spec L2

/-! ### letters -/
theorem let_at : ∀ r : Nat, r < 26 → atI lets (r : Int) = some (97 + r) := by
  have : ∀ r : Fin 26, atI lets ((r.val : Nat) : Int) = some (97 + r.val) := by decide
  exact fun r h => this ⟨r, h⟩
theorem let_ix (r : Nat) (h : r < 26) : gIx k_LETTERS (.int r) = some (.str [97 + r]) := by
  show (if lets.length ≤ 1000000 then (atI lets (r : Int)).map (fun c => D.str [c]) else none) = _
  rw [if_pos (by decide), let_at r h]
  rfl
theorem letter_ev (n : Nat) (h : n < 130) (S : Sto) : f_letter [.v (.int n)] S = .ok (.v (.str (letr n))) S := by
  have hm : (n : Int) % 26 = ((n % 26 : Nat) : Int) := by omega
  have hd : (n : Int) / 26 = ((n / 26 : Nat) : Int) := by omega
  have e1 : cIx (cC k_LETTERS) (op2 gMod (cBlt gInt (cCons (cVar 0) cNil)) (cC (.int 26))) [some (.v (.int n)), none, none] S = .ok (.v (.str [97 + n % 26])) S := by
    refine e_ix (e := .int ((n % 26 : Nat) : Int)) rfl (e_op2v (e_blt (ws := [.v (.int n)]) rfl rfl rfl) rfl ?_) (let_ix _ (Nat.mod_lt _ (by decide)))
    rw [v_mod (by decide), hm]
  have e2 : op2 gDiv (cVar 0) (cC (.int 26)) [some (.v (.int n)), some (.v (.str [97 + n % 26])), none] S = .ok (.v (.int ((n / 26 : Nat) : Int))) S := by
    refine e_op2v rfl rfl ?_
    rw [v_div (by decide) (by decide), hd]
  have stop : ∀ (t : Tx) (m : Nat), whileN (cB (op2 gGt (cVar 2) (cC (.int 0)))) l1_letter (m + 1) [some (.v (.int n)), some (.v (.str t)), some (.v (.int 0))] S = .nx [some (.v (.int n)), some (.v (.str t)), some (.v (.int 0))] S := fun t m => e_while_f (e_b (e_op2v rfl rfl rfl))
  refine e_fdef_v (e_seq_nx (e_set e1) (e_seq_nx (e_set e2) (e_seq_nx (δ' := [some (.v (.int n)), some (.v (.str (letr n))), some (.v (.int 0))]) (S1 := S) ?_ (e_ret rfl))))
  show whileN _ _ 100000 _ S = _
  by_cases hn : n < 26
  · have h0 : n / 26 = 0 := Nat.div_eq_of_lt hn
    have h1 : n % 26 = n := Nat.mod_eq_of_lt hn
    have hl : letr n = [97 + n] := if_pos hn
    rw [hl, h0, h1]
    exact stop _ 99999
  · have hl : letr n = [97 + (n / 26 - 1), 97 + n % 26] := if_neg hn
    have hq : 0 < n / 26 := Nat.div_pos (by omega) (by decide)
    have hq4 : n / 26 < 5 := by omega
    generalize hqq : n / 26 = q at *
    generalize n % 26 = r at *
    have hqi : (q : Int) - 1 = ((q - 1 : Nat) : Int) := by omega
    have hgt : gGt (.int (q : Int)) (.int 0) = some (.bl true) := by
      rw [v_gt, decide_eq_true (by omega)]
    have hmo : ((q - 1 : Nat) : Int) % 26 = ((q - 1 : Nat) : Int) := by omega
    have hdo : ((q - 1 : Nat) : Int) / 26 = 0 := by omega
    have b1 : cAsg (op2 gAdd (cIx (cC k_LETTERS) (op2 gMod (cBlt gInt (cCons (op2 gSub (cVar 2) (cC (.int 1))) cNil)) (cC (.int 26)))) (cVar 1)) (gN 1) [some (.v (.int n)), some (.v (.str [97 + r])), some (.v (.int q))] S = .nx [some (.v (.int n)), some (.v (.str [97 + (q - 1), 97 + r])), some (.v (.int q))] S := by
      refine e_set (e_op2v (d := .str [97 + (q - 1)]) (e_ix (e := .int ((q - 1 : Nat) : Int)) rfl (e_op2v (e_blt (ws := [.v (.int ((q - 1 : Nat) : Int))]) (e_cons (e_op2v rfl rfl ?_) rfl) rfl rfl) rfl ?_) (let_ix _ (by omega))) rfl (v_addS (by simp)))
      · rw [v_sub, hqi]
      · rw [v_mod (by decide), hmo]
    have b2 : cAsg (op2 gDiv (op2 gSub (cVar 2) (cC (.int 1))) (cC (.int 26))) (gN 2) [some (.v (.int n)), some (.v (.str [97 + (q - 1), 97 + r])), some (.v (.int q))] S = .nx [some (.v (.int n)), some (.v (.str [97 + (q - 1), 97 + r])), some (.v (.int 0))] S := by
      refine e_set (e_op2v (d := .int ((q - 1 : Nat) : Int)) (e_op2v rfl rfl ?_) rfl ?_)
      · rw [v_sub, hqi]
      · rw [v_div (by decide) (by decide), hdo]
    rw [hl]
    refine Eq.trans (e_while_t (n := 99999) (S1 := S) (S2 := S) (δ2 := [some (.v (.int n)), some (.v (.str [97 + (q - 1), 97 + r])), some (.v (.int 0))]) (e_b (e_op2v rfl rfl hgt)) (e_seq_nx b1 b2)) (stop _ 99998)
theorem first_idx (t : List Tx) : ∀ (n s : Nat), (∃ j, s ≤ j ∧ j < s + n ∧ letr j ∉ t) → ∃ p, s ≤ p ∧ p < s + n ∧ letr p ∉ t ∧ (∀ j, s ≤ j → j < p → letr j ∈ t) ∧ ((((List.range' s n).map letr).filter fun x => !decide (x ∈ t)).head?).getD [] = letr p
  | 0, s, ⟨j, h1, h2, _⟩ => by omega
  | n + 1, s, ⟨j, h1, h2, h3⟩ => by
    rw [List.range'_succ, List.map_cons]
    by_cases h : letr s ∈ t
    · have hj : s ≠ j := fun z => h3 (z ▸ h)
      obtain ⟨p, p1, p2, p3, p4, p5⟩ := first_idx t n (s + 1) ⟨j, by omega, by omega, h3⟩
      refine ⟨p, by omega, by omega, p3, fun i hi hp => ?_, ?_⟩
      · by_cases z : i = s
        · rw [z]; exact h
        · exact p4 i (by omega) hp
      · rw [List.filter_cons_of_neg (by simp [h])]
        exact p5
    · refine ⟨s, Nat.le_refl _, by omega, h, fun i hi hp => by omega, ?_⟩
      rw [List.filter_cons_of_pos (by simp [h])]
      rfl
theorem letr_barred : ∀ i : Nat, i < 130 → letr i ∉ barred := by
  have : ∀ i : Fin 130, letr i.val ∉ barred := by decide +kernel
  exact fun i h => this ⟨i, h⟩
theorem first_letters_ev (t : List Tx) (h : t.length < 130) (S : Sto) : f_first_letters [.v (.lst (stL t))] S = .ok (.v (.str (firstL t))) S := by
  obtain ⟨x, hx, hy⟩ := free_letr h
  obtain ⟨j, hj, rfl⟩ := List.mem_map.mp hx
  obtain ⟨p, p1, p2, p3, p4, p5⟩ := first_idx t 130 0 ⟨j, Nat.zero_le _, by simpa using List.mem_range.mp hj, hy⟩
  have ep : firstL t = letr p := by
    unfold firstL letrs
    rw [List.range_eq_range']
    exact p5
  have test : ∀ i : Nat, i < 130 → (cOr (cB (op2 gIn (cCall 1 f_letter (cCons (cVar 1) cNil) []) (cVar 0))) (cB (op2 gIn (cCall 1 f_letter (cCons (cVar 1) cNil) []) (cC k_BARRED)))) [some (.v (.lst (stL t))), some (.v (.int i))] S = .ok (decide (letr i ∈ t)) S := fun i hi => by
    have ec : cCall 1 f_letter (cCons (cVar 1) cNil) [] [some (.v (.lst (stL t))), some (.v (.int i))] S = .ok (.v (.str (letr i))) S := e_call (ws := [.v (.int i)]) rfl rfl (letter_ev i hi S) rfl
    have t1 := e_b (e_op2v ec (show cVar 0 [some (.v (.lst (stL t))), some (.v (.int i))] S = .ok (.v (.lst (stL t))) S from rfl) (gIn_lst (letr i) t))
    have t2 := e_b (e_op2v ec (show cC k_BARRED [some (.v (.lst (stL t))), some (.v (.int i))] S = .ok (.v (.tup (stL barred))) S from rfl) (gIn_tup (letr i) barred))
    rw [decide_eq_false (letr_barred i hi)] at t2
    by_cases hm : letr i ∈ t
    · rw [decide_eq_true hm] at t1 ⊢
      exact e_or_t t1
    · rw [decide_eq_false hm] at t1 ⊢
      exact e_or_f t1 t2
  have loop : ∀ (d i fuel : Nat), i + d = p → d < fuel → whileN (cOr (cB (op2 gIn (cCall 1 f_letter (cCons (cVar 1) cNil) []) (cVar 0))) (cB (op2 gIn (cCall 1 f_letter (cCons (cVar 1) cNil) []) (cC k_BARRED)))) l1_first_letters fuel [some (.v (.lst (stL t))), some (.v (.int i))] S = .nx [some (.v (.lst (stL t))), some (.v (.int p))] S := by
    intro d
    induction d with
    | zero =>
      intro i fuel hi hf
      obtain ⟨fuel, rfl⟩ : ∃ k, fuel = k + 1 := ⟨fuel - 1, by omega⟩
      have : i = p := by omega
      subst this
      have q := test i (by omega)
      rw [decide_eq_false p3] at q
      exact e_while_f q
    | succ d ih =>
      intro i fuel hi hf
      obtain ⟨fuel, rfl⟩ : ∃ k, fuel = k + 1 := ⟨fuel - 1, by omega⟩
      have q := test i (by omega)
      rw [decide_eq_true (p4 i (Nat.zero_le _) (by omega))] at q
      refine Eq.trans (e_while_t (S2 := S) (δ2 := [some (.v (.lst (stL t))), some (.v (.int ((i + 1 : Nat) : Int)))]) q (e_set (e_op2v rfl rfl rfl))) (ih (i + 1) fuel (by omega) (by omega))
  rw [ep]
  refine e_fdef_v (e_seq_nx (e_set rfl) (e_seq_nx (loop p 0 100000 (by omega) (by omega)) (e_ret (e_call (ws := [.v (.int p)]) rfl rfl (letter_ev p (by omega) S) rfl))))
/-! ### relettered -/
def Kd.bnds : Kd → List Tx
  | .var _ => []
  | .con0 _ => []
  | .list k => k.bnds
  | .con2 _ a b => a.bnds ++ b.bnds
  | .all n k => n :: k.bnds
theorem relettered_ev : ∀ (k : Kd) (m : Nat) (env : Ren) (t : List Tx) (S : Sto), OkK k → (∀ n ∈ k.bnds, isNm n = false) → Vals (fun y => isNm y = true) env → k.ht ≤ m → k.ht ≤ 30 → t.length + k.ht < 130 → f_relettered m [.v (enc (renK k env)), .v (.lst (stL t))] S = .ok (.v (enc (rlE k env t))) S := by
  have pos : ∀ (k : Kd) (m : Nat), k.ht ≤ m → ∃ m', m = m' + 1 := fun k m h => ⟨m - 1, by have := k.ht_pos; omega⟩
  intro k
  induction k with
  | var n =>
    intro m env t S ok hb hv hm h30 hl
    obtain ⟨m, rfl⟩ := pos _ _ hm
    exact e_fdef_v (e_seq_rt (e_ifs_t (S1 := S) (e_b rfl) rfl))
  | con0 c =>
    intro m env t S ok hb hv hm h30 hl
    obtain ⟨m, rfl⟩ := pos _ _ hm
    refine e_fdef_v (e_seq_nx (e_ifs_f (S1 := S) (e_b rfl) rfl) (e_seq_nx (e_ifs_f (S1 := S) (e_b rfl) rfl) (e_ret ?_)))
    refine e_disp (ws := [.v (.str [99, 111, 110]), .v (.str c.tx), .v (.tup [])]) (e_cons rfl (e_cons rfl (e_cons (e_blt (ws := [.v (.lst [])]) (e_cons ?_ rfl) rfl rfl) rfl))) rfl (by simp) rfl
    exact comp_map (ds := []) (fun d => d) rfl (by decide) (fun d hd => absurd hd (by simp))
  | list k ih =>
    intro m env t S ok hb hv hm h30 hl
    obtain ⟨m, rfl⟩ := pos _ _ hm
    unfold Kd.ht at hm h30 hl
    refine e_fdef_v (e_seq_nx (e_ifs_f (S1 := S) (e_b rfl) rfl) (e_seq_nx (e_ifs_f (S1 := S) (e_b rfl) rfl) (e_ret ?_)))
    refine e_disp (ws := [.v (.str [99, 111, 110]), .v (.str [76, 105, 115, 116]), .v (.tup [enc (rlE k env t)])]) (e_cons rfl (e_cons rfl (e_cons (e_blt (ws := [.v (.lst [enc (rlE k env t)])]) (e_cons ?_ rfl) rfl rfl) rfl))) rfl (by simp) rfl
    refine comp_map (ds := [enc (renK k env)]) (fun d => enc (rlE k env t)) rfl (by simp) (fun d hd acc => ?_)
    rw [List.mem_singleton] at hd
    subst hd
    exact ⟨_, rfl, e_call (ws := [.v (enc (renK k env)), .v (.lst (stL t))]) rfl rfl (ih m env t _ ok hb hv (by omega) (by omega) (by omega)) rfl⟩
  | con2 c a b iha ihb =>
    intro m env t S ok hb hv hm h30 hl
    obtain ⟨m, rfl⟩ := pos _ _ hm
    unfold Kd.ht at hm h30 hl
    refine e_fdef_v (e_seq_nx (e_ifs_f (S1 := S) (e_b rfl) rfl) (e_seq_nx (e_ifs_f (S1 := S) (e_b rfl) rfl) (e_ret ?_)))
    refine e_disp (ws := [.v (.str [99, 111, 110]), .v (.str c.tx), .v (.tup [enc (rlE a env t), enc (rlE b env t)])]) (e_cons rfl (e_cons rfl (e_cons (e_blt (ws := [.v (.lst [enc (rlE a env t), enc (rlE b env t)])]) (e_cons ?_ rfl) rfl rfl) rfl))) rfl (by simp) rfl
    have ea := fun S => iha m env t S (fun n hn => ok n (List.mem_append_left _ hn)) (fun n hn => hb n (List.mem_append_left _ hn)) hv (by omega) (by omega) (by omega)
    have eb := fun S => ihb m env t S (fun n hn => ok n (List.mem_append_right _ hn)) (fun n hn => hb n (List.mem_append_right _ hn)) hv (by omega) (by omega) (by omega)
    exact comp_two (f := f_relettered m) (δ := [some (.v (enc (.con2 c (renK a env) (renK b env)))), some (.v (.lst (stL t))), none, none]) (S := S) (j := 3) (vs := [3]) (it := itT (cIx (cVar 0) (cC (.int 2)))) (as := cCons (cVar 3) (cCons (cVar 1) cNil)) (n := 2) (x := enc (renK a env)) (y := enc (renK b env)) (wx := [.v (enc (renK a env)), .v (.lst (stL t))]) (wy := [.v (enc (renK b env)), .v (.lst (stL t))]) rfl (fun S => rfl) (fun S => rfl) rfl rfl ea eb
  | all n k ih =>
    intro m env t S ok hb hv hm h30 hl
    obtain ⟨m, rfl⟩ := pos _ _ hm
    unfold Kd.ht at hm h30 hl
    have hn := hb n List.mem_cons_self
    have okn := ok n List.mem_cons_self
    have okk : OkK k := fun x hx => ok x (List.mem_cons_of_mem _ hx)
    have hx := letrs_ok _ (firstL_ok (t := t) (by omega)).1
    have e1 := first_letters_ev t (by omega) S
    have hvo : Vals (fun y => okT y = true) (cutR env n) := fun a y e => isNm_ok (vals_cut hv a y e)
    have fr : Fr (cutR env n) n := by
      refine ⟨by rw [lkR_cut, if_pos rfl], fun a y e z => ?_⟩
      have := vals_cut (n := n) hv a y e
      rw [z, hn] at this
      cases this
    have ex := rename_ev (renK k (cutR env n)) 30 n (firstL t) S (okK_ren k _ okk hvo) okn (by rw [renK_ht]; omega)
    rw [renK_one n (firstL t) k (cutR env n) fr] at ex
    have er := ih m ((n, firstL t) :: cutR env n) (t ++ [firstL t]) S okk (fun x hx => hb x (List.mem_cons_of_mem _ hx)) (vals_cons hv hx) (by omega) (by omega) (by rw [List.length_append]; simp; omega)
    refine e_fdef_v (e_seq_nx (e_ifs_f (S1 := S) (e_b rfl) rfl) (e_seq_rt (e_ifs_t (S1 := S) (e_b rfl) (e_seq_nx (e_set (e_call (ws := [.v (.lst (stL t))]) rfl rfl e1 rfl)) (e_ret ?_)))))
    exact e_disp (ws := [.v (.str [97, 108, 108]), .v (.str (firstL t)), .v (enc (rlE k ((n, firstL t) :: cutR env n) (t ++ [firstL t])))]) (e_cons rfl (e_cons rfl (e_cons (e_call (S1 := S) (ws := [.v (enc (renK k ((n, firstL t) :: cutR env n))), .v (.lst (stL (t ++ [firstL t])))]) (e_cons (e_call (ws := [.v (enc (renK k (cutR env n))), .v (.dct [(n, enc (.var (firstL t)))])]) (e_cons rfl (e_cons (e_dict1 (t := n) (d := enc (.var (firstL t))) rfl rfl) rfl)) rfl ex rfl) (e_cons (e_op2v (d := .lst (stL t)) (e := .lst (stL [firstL t])) rfl rfl (gAdd_lsts t [firstL t] (by simp; omega))) rfl)) rfl er rfl) rfl))) rfl (by simp) rfl
/-! ### the plain form -/
theorem mkE_ok : ∀ (k : Kd) (env : Ren) (f : Nat), OkK k → Vals (fun y => okT y = true) env → f + k.qs < 1000 → OkK (mkE k env f).1 ∧ ∀ n ∈ (mkE k env f).1.bnds, isNm n = false
  | .var n, env, f, hk, hv, _ => ⟨okK_ren (.var n) env hk hv, fun n hn => by cases hn⟩
  | .con0 _, _, _, _, _, _ => ⟨fun n hn => (by cases hn), fun n hn => by cases hn⟩
  | .list k, env, f, hk, hv, hf => mkE_ok k env f hk hv hf
  | .con2 c a b, env, f, hk, hv, hf => by
    have hq : (Kd.con2 c a b).qs = a.qs + b.qs := rfl
    obtain ⟨h1, h2⟩ := mkE_ok a env f (fun y hy => hk y (List.mem_append_left _ hy)) hv (by omega)
    obtain ⟨h3, h4⟩ := mkE_ok b env (mkE a env f).2 (fun y hy => hk y (List.mem_append_right _ hy)) hv (by rw [mkE_next]; omega)
    refine ⟨fun n hn => ?_, fun n hn => ?_⟩
    · rcases List.mem_append.mp hn with z | z
      · exact h1 n z
      · exact h3 n z
    · rcases List.mem_append.mp hn with z | z
      · exact h2 n z
      · exact h4 n z
  | .all n k, env, f, hk, hv, hf => by
    have hq : (Kd.all n k).qs = k.qs + 1 := rfl
    obtain ⟨h1, h2⟩ := mkE_ok k ((n, mark f) :: cutR env n) (f + 1) (fun y hy => hk y (List.mem_cons_of_mem _ hy)) (vals_cons hv (mark_ok (by omega))) (by omega)
    refine ⟨fun x hx => ?_, fun x hx => ?_⟩
    · rcases List.mem_cons.mp hx with z | z
      · rw [z]; exact mark_ok (by omega)
      · exact h1 x z
    · rcases List.mem_cons.mp hx with z | z
      · rw [z]; exact mark_no f
      · exact h2 x z
structure Fine (k : Kd) : Prop where
  good : Good k
  ht : k.ht ≤ 30
  lvs : k.lvs ≤ 900
  qs : k.qs < 900
  few : (frees k []).length + k.ht < 130
theorem plain_of_ev {k : Kd} (h : Fine k) (S : Sto) : f_plain_of [.v (enc k)] S = .ok (.v (enc (plainK k))) S := by
  have e1 := marked_ev k S h.good h.ht h.qs
  have e2 := free_of_ev k 30 [] S h.ht (by simp; have := h.ht; omega) (by have := h.lvs; omega)
  obtain ⟨ok, hb⟩ := mkE_ok k [] 0 (good_ok h.good) (fun n y z => by cases z) (by have := h.qs; omega)
  have e3 := relettered_ev (mkE k [] 0).1 30 [] (frees k []) S ok hb (fun n y z => by cases z) (by rw [mkE_ht]; exact h.ht) (by rw [mkE_ht]; exact h.ht) (by rw [mkE_ht]; exact h.few)
  rw [renK_nil] at e3
  exact e_fdef_v (e_ret (e_call (ws := [.v (enc (mkE k [] 0).1), .v (.lst (stL (frees k [])))]) (e_cons (e_ix (d := .tup [enc (mkE k [] 0).1, .int (mkE k [] 0).2]) (e_call (ws := [.v (enc k)]) rfl rfl e1 rfl) rfl rfl) (e_cons (e_call (ws := [.v (enc k)]) rfl rfl e2 rfl) rfl)) rfl e3 rfl))
theorem plain_ev {k : Kd} (h : Fine k) (S : Sto) : f_plain [.v (enc k)] S = .ok (.v (enc (lawK k))) S := by
  rw [← plain_law k h.good (by have := h.qs; omega)]
  exact e_fdef_v (e_seq_nx (e_expr (e_call (ws := [.v (enc k)]) rfl rfl (want_kind_ev k S h.good h.ht) rfl)) (e_ret (e_call (ws := [.v (enc k)]) rfl rfl (plain_of_ev h S) rfl)))
end Fro

namespace Fro
open PySem PySem.Spec L2

/-! ### the law's forms -/
def encF : Fm → D
  | .var n => .tup [.str [118, 97, 114], .str n]
  | .at i => .tup [.str [97, 116], .int i]
  | .con0 c => .tup [.str [99, 111, 110], .str c.tx, .tup []]
  | .list f => .tup [.str [99, 111, 110], .str [76, 105, 115, 116], .tup [encF f]]
  | .con2 c a b => .tup [.str [99, 111, 110], .str c.tx, .tup [encF a, encF b]]
  | .all f => .tup [.str [97, 108, 108], encF f]
def Fm.ht : Fm → Nat
  | .var _ => 1
  | .at _ => 1
  | .con0 _ => 1
  | .list f => f.ht + 1
  | .con2 _ a b => max a.ht b.ht + 1
  | .all f => f.ht + 1
theorem Fm.ht_pos : ∀ k : Fm, 1 ≤ k.ht
  | .var _ => Nat.le_refl _
  | .at _ => Nat.le_refl _
  | .con0 _ => Nat.le_refl _
  | .list k => Nat.le_add_left _ _
  | .con2 _ a b => Nat.le_add_left _ _
  | .all k => Nat.le_add_left _ _
theorem inF_ht : ∀ (k : Kd) (ns : List Tx), (inF k ns).ht = k.ht
  | .var n, ns => by
    unfold inF
    split <;> rfl
  | .con0 _, _ => rfl
  | .list k, ns => by show (inF k ns).ht + 1 = _; rw [inF_ht k]; rfl
  | .con2 _ a b, ns => by show max (inF a ns).ht (inF b ns).ht + 1 = _; rw [inF_ht a, inF_ht b]; rfl
  | .all n k, ns => by show (inF k (n :: ns)).ht + 1 = _; rw [inF_ht k]; rfl
theorem idxD_stL (n : Tx) : ∀ ns : List Tx, idxD (.str n) (stL ns) = idxT n ns
  | [] => rfl
  | m :: r => by
    show (if (m == n) = true then some 0 else (idxD (.str n) (stL r)).map (· + 1)) = (if m = n then some 0 else (idxT n r).map (· + 1))
    rw [idxD_stL n r]
    by_cases h : m = n
    · rw [if_pos h, if_pos (by rw [h]; simp)]
    · rw [if_neg h, if_neg (by simp [h])]
theorem gIndex_stL {n : Tx} {ns : List Tx} {i : Nat} (h : idxT n ns = some i) : gIndex (.lst (stL ns)) (.str n) = some (.int i) := by
  show (if (flatD (.str n) && (stL ns).all flatD) = true then _ else none) = _
  rw [if_pos (by rw [all_stL]; rfl), idxD_stL, h]
  rfl
theorem inside_ev : ∀ (k : Kd) (m : Nat) (ns : List Tx) (S : Sto), k.ht ≤ m → ns.length + k.ht ≤ 1000 → f__law_inside m [.v (enc k), .v (.lst (stL ns))] S = .ok (.v (encF (inF k ns))) S := by
  have pos : ∀ (k : Kd) (m : Nat), k.ht ≤ m → ∃ m', m = m' + 1 := fun k m h => ⟨m - 1, by have := k.ht_pos; omega⟩
  intro k
  induction k with
  | var n =>
    intro m ns S hm hl
    obtain ⟨m, rfl⟩ := pos _ _ hm
    refine e_fdef_v (e_seq_rt (e_ifs_t (S1 := S) (e_b rfl) (e_ret ?_)))
    have t1 := e_b (e_op2v (show cIx (cVar 0) (cC (.int 1)) [some (.v (enc (.var n))), some (.v (.lst (stL ns))), none] S = .ok (.v (.str n)) S from rfl) (show cVar 1 [some (.v (enc (.var n))), some (.v (.lst (stL ns))), none] S = .ok (.v (.lst (stL ns))) S from rfl) (gIn_lst n ns))
    unfold inF
    by_cases h : n ∈ ns
    · rw [decide_eq_true h] at t1
      obtain ⟨i, hi, _⟩ := idxT_some h
      rw [hi]
      refine e_if_t t1 (e_disp (ws := [.v (.str [97, 116]), .v (.int i)]) (e_cons rfl (e_cons ?_ rfl)) rfl (by simp) rfl)
      show ap2 gIndex (.v (.lst (stL ns))) (.v (.str n)) S = _
      unfold ap2
      simp only [rd, gIndex_stL hi]
    · rw [decide_eq_false h] at t1
      rw [idxT_none h]
      exact e_if_f t1 rfl
  | con0 c =>
    intro m ns S hm hl
    obtain ⟨m, rfl⟩ := pos _ _ hm
    refine e_fdef_v (e_seq_nx (e_ifs_f (S1 := S) (e_b rfl) rfl) (e_seq_nx (e_ifs_f (S1 := S) (e_b rfl) rfl) (e_ret ?_)))
    refine e_disp (ws := [.v (.str [99, 111, 110]), .v (.str c.tx), .v (.tup [])]) (e_cons rfl (e_cons rfl (e_cons (e_blt (ws := [.v (.lst [])]) (e_cons ?_ rfl) rfl rfl) rfl))) rfl (by simp) rfl
    exact comp_map (ds := []) (fun d => d) rfl (by decide) (fun d hd => absurd hd (by simp))
  | list k ih =>
    intro m ns S hm hl
    obtain ⟨m, rfl⟩ := pos _ _ hm
    unfold Kd.ht at hm hl
    refine e_fdef_v (e_seq_nx (e_ifs_f (S1 := S) (e_b rfl) rfl) (e_seq_nx (e_ifs_f (S1 := S) (e_b rfl) rfl) (e_ret ?_)))
    refine e_disp (ws := [.v (.str [99, 111, 110]), .v (.str [76, 105, 115, 116]), .v (.tup [encF (inF k ns)])]) (e_cons rfl (e_cons rfl (e_cons (e_blt (ws := [.v (.lst [encF (inF k ns)])]) (e_cons ?_ rfl) rfl rfl) rfl))) rfl (by simp) rfl
    refine comp_map (ds := [enc k]) (fun d => encF (inF k ns)) rfl (by simp) (fun d hd acc => ?_)
    rw [List.mem_singleton] at hd
    subst hd
    exact ⟨_, rfl, e_call (ws := [.v (enc k), .v (.lst (stL ns))]) rfl rfl (ih m ns _ (by omega) (by omega)) rfl⟩
  | con2 c a b iha ihb =>
    intro m ns S hm hl
    obtain ⟨m, rfl⟩ := pos _ _ hm
    unfold Kd.ht at hm hl
    refine e_fdef_v (e_seq_nx (e_ifs_f (S1 := S) (e_b rfl) rfl) (e_seq_nx (e_ifs_f (S1 := S) (e_b rfl) rfl) (e_ret ?_)))
    refine e_disp (ws := [.v (.str [99, 111, 110]), .v (.str c.tx), .v (.tup [encF (inF a ns), encF (inF b ns)])]) (e_cons rfl (e_cons rfl (e_cons (e_blt (ws := [.v (.lst [encF (inF a ns), encF (inF b ns)])]) (e_cons ?_ rfl) rfl rfl) rfl))) rfl (by simp) rfl
    exact comp_two (f := f__law_inside m) (δ := [some (.v (enc (.con2 c a b))), some (.v (.lst (stL ns))), none]) (S := S) (j := 2) (vs := [2]) (it := itT (cIx (cVar 0) (cC (.int 2)))) (as := cCons (cVar 2) (cCons (cVar 1) cNil)) (n := 2) (x := enc a) (y := enc b) (wx := [.v (enc a), .v (.lst (stL ns))]) (wy := [.v (enc b), .v (.lst (stL ns))]) rfl (fun S => rfl) (fun S => rfl) rfl rfl (fun S => iha m ns S (by omega) (by omega)) (fun S => ihb m ns S (by omega) (by omega))
  | all n k ih =>
    intro m ns S hm hl
    obtain ⟨m, rfl⟩ := pos _ _ hm
    unfold Kd.ht at hm hl
    refine e_fdef_v (e_seq_nx (e_ifs_f (S1 := S) (e_b rfl) rfl) (e_seq_rt (e_ifs_t (S1 := S) (e_b rfl) (e_ret ?_))))
    exact e_disp (ws := [.v (.str [97, 108, 108]), .v (encF (inF k (n :: ns)))]) (e_cons rfl (e_cons (e_call (ws := [.v (enc k), .v (.lst (stL (n :: ns)))]) (e_cons rfl (e_cons (e_op2v (d := .lst (stL [n])) (e := .lst (stL ns)) rfl rfl (gAdd_lsts [n] ns (by simp; omega))) rfl)) rfl (ih m (n :: ns) S (by omega) (by rw [List.length_cons]; omega)) rfl) rfl)) rfl (by simp) rfl
/-- all numbers are of quantifiers around -/
def Inn : Fm → Nat → Prop
  | .var _, _ => True
  | .at i, n => i < n
  | .con0 _, _ => True
  | .list f, n => Inn f n
  | .con2 _ a b, n => Inn a n ∧ Inn b n
  | .all f, n => Inn f (n + 1)
theorem inF_inn : ∀ (k : Kd) (ns : List Tx), Inn (inF k ns) ns.length
  | .var n, ns => by
    unfold inF
    by_cases h : n ∈ ns
    · obtain ⟨i, h1, h2⟩ := idxT_some h
      rw [h1]
      exact h2
    · rw [idxT_none h]
      exact trivial
  | .con0 _, _ => trivial
  | .list k, ns => inF_inn k ns
  | .con2 _ a b, ns => ⟨inF_inn a ns, inF_inn b ns⟩
  | .all n k, ns => inF_inn k (n :: ns)
/-! ### the law's free names -/
def Fm.lvs : Fm → Nat
  | .var _ => 1
  | .at _ => 1
  | .con0 _ => 1
  | .list f => f.lvs
  | .con2 _ a b => a.lvs + b.lvs
  | .all f => f.lvs
theorem frF_len : ∀ f : Fm, (frF f).length ≤ f.lvs
  | .var _ => Nat.le_refl _
  | .at _ => Nat.zero_le _
  | .con0 _ => Nat.zero_le _
  | .list f => frF_len f
  | .all f => frF_len f
  | .con2 _ a b => by
    have h1 := frF_len a
    have h2 := frF_len b
    have h3 := List.length_filter_le (fun n => !decide (n ∈ frF a)) (frF b)
    show (frF a ++ (frF b).filter _).length ≤ a.lvs + b.lvs
    rw [List.length_append]
    omega
theorem inF_lvs : ∀ (k : Kd) (ns : List Tx), (inF k ns).lvs = k.lvs
  | .var n, ns => by
    unfold inF
    split <;> rfl
  | .con0 _, _ => rfl
  | .list k, ns => inF_lvs k ns
  | .con2 _ a b, ns => by show (inF a ns).lvs + (inF b ns).lvs = _; rw [inF_lvs a, inF_lvs b]; rfl
  | .all n k, ns => inF_lvs k _
theorem frees_turn {m : Nat} {d : D} {acc l : List Tx} {w0 w3 : Option W} {S : Sto} (hl : acc.length + l.length ≤ 10000) (e : ∀ S, f__law_frees m [.v d] S = .ok (.v (.lst (stL l))) S) :
    l1__law_frees (f__law_frees m) [w0, some (.v (.lst (stL acc))), some (.v d), w3] S = .nx [w0, some (.v (.lst (stL (acc ++ l.filter fun n => !decide (n ∈ acc))))), some (.v d), w3] S := by
  have q := comp_ev (it := itL (cCall 1 (f__law_frees m) (cCons (cVar 2) cNil) [])) (dg := gN 3) (tt := cB (op2 gNotIn (cVar 3) (cVar 1))) (te := cVar 3) (vs := [3]) (δ := [w0, some (.v (.lst (stL acc))), some (.v d), w3]) (S := S) (S1 := S) (ds := stL l) (flt fun n => !decide (n ∈ acc)) (e_itL (e_call (ws := [.v d]) rfl rfl (e S) rfl)) (by rw [stL_length]; omega) (fun x hx acc2 => by
    obtain ⟨t, ht, rfl⟩ := List.mem_map.mp hx
    refine ⟨[w0, some (.v (.lst (stL acc))), some (.v d), some (.v (.str t))], rfl, ?_⟩
    have h1 : cB (op2 gNotIn (cVar 3) (cVar 1)) [w0, some (.v (.lst (stL acc))), some (.v d), some (.v (.str t))] (S ++ [.lst acc2]) = .ok (!decide (t ∈ acc)) (S ++ [.lst acc2]) := e_b (e_op2v rfl rfl (gNotIn_lst t acc))
    by_cases h : (!decide (t ∈ acc)) = true
    · rw [show flt (fun n => !decide (n ∈ acc)) (.str t) = some (.str t) from if_pos h]
      rw [h] at h1
      exact ⟨h1, rfl⟩
    · rw [show flt (fun n => !decide (n ∈ acc)) (.str t) = none from if_neg h]
      rw [Bool.not_eq_true] at h
      rw [h] at h1
      exact h1)
  rw [filter_stL] at q
  have hf := List.length_filter_le (fun n => !decide (n ∈ acc)) l
  exact e_set (e_op2v (d := .lst (stL acc)) rfl q (gAdd_lsts _ _ (by omega)))
theorem lfrees_ev : ∀ (f : Fm) (m : Nat) (S : Sto), f.ht ≤ m → f.lvs ≤ 900 → f__law_frees m [.v (encF f)] S = .ok (.v (.lst (stL (frF f)))) S := by
  have pos : ∀ (k : Fm) (m : Nat), k.ht ≤ m → ∃ m', m = m' + 1 := fun k m h => ⟨m - 1, by have := k.ht_pos; omega⟩
  intro f
  induction f with
  | var n =>
    intro m S hm hl
    obtain ⟨m, rfl⟩ := pos _ _ hm
    exact e_fdef_v (e_seq_rt (e_ifs_t (S1 := S) (e_b rfl) rfl))
  | «at» i =>
    intro m S hm hl
    obtain ⟨m, rfl⟩ := pos _ _ hm
    exact e_fdef_v (e_seq_nx (e_ifs_f (S1 := S) (e_b rfl) rfl) (e_seq_nx (e_set rfl) (e_seq_nx (e_for (ds := []) rfl rfl) rfl)))
  | con0 c =>
    intro m S hm hl
    obtain ⟨m, rfl⟩ := pos _ _ hm
    exact e_fdef_v (e_seq_nx (e_ifs_f (S1 := S) (e_b rfl) rfl) (e_seq_nx (e_set rfl) (e_seq_nx (e_for (ds := []) rfl rfl) rfl)))
  | list f ih =>
    intro m S hm hl
    obtain ⟨m, rfl⟩ := pos _ _ hm
    unfold Fm.ht at hm
    have e := fun S => ih m S (by omega) hl
    have hl' : (frF f).length ≤ 900 := Nat.le_trans (frF_len f) hl
    have q := frees_turn (m := m) (d := encF f) (acc := []) (l := frF f) (w0 := some (.v (encF (.list f)))) (w3 := none) (S := S) (by simp; omega) e
    rw [List.nil_append, List.filter_eq_self.mpr (fun _ _ => by simp)] at q
    exact e_fdef_v (e_seq_nx (e_ifs_f (S1 := S) (e_b rfl) rfl) (e_seq_nx (e_set rfl) (e_seq_nx (e_for (ds := [encF f]) rfl (Eq.trans (e_for_nx (δ1 := [some (.v (encF (.list f))), some (.v (.lst (stL []))), some (.v (encF f)), none]) (S1 := S) rfl q) rfl)) rfl)))
  | all f ih =>
    intro m S hm hl
    obtain ⟨m, rfl⟩ := pos _ _ hm
    unfold Fm.ht at hm
    have e := fun S => ih m S (by omega) hl
    have hl' : (frF f).length ≤ 900 := Nat.le_trans (frF_len f) hl
    have q := frees_turn (m := m) (d := encF f) (acc := []) (l := frF f) (w0 := some (.v (encF (.all f)))) (w3 := none) (S := S) (by simp; omega) e
    rw [List.nil_append, List.filter_eq_self.mpr (fun _ _ => by simp)] at q
    exact e_fdef_v (e_seq_nx (e_ifs_f (S1 := S) (e_b rfl) rfl) (e_seq_nx (e_set rfl) (e_seq_nx (e_for (ds := [encF f]) rfl (Eq.trans (e_for_nx (δ1 := [some (.v (encF (.all f))), some (.v (.lst (stL []))), some (.v (encF f)), none]) (S1 := S) rfl q) rfl)) rfl)))
  | con2 c a b iha ihb =>
    intro m S hm hl
    obtain ⟨m, rfl⟩ := pos _ _ hm
    unfold Fm.ht at hm
    unfold Fm.lvs at hl
    have l1 := frF_len a
    have l2 := frF_len b
    have q1 := frees_turn (m := m) (d := encF a) (acc := []) (l := frF a) (w0 := some (.v (encF (.con2 c a b)))) (w3 := none) (S := S) (by simp; omega) (fun S => iha m S (by omega) (by omega))
    rw [List.nil_append, List.filter_eq_self.mpr (fun _ _ => by simp)] at q1
    have q2 := frees_turn (m := m) (d := encF b) (acc := frF a) (l := frF b) (w0 := some (.v (encF (.con2 c a b)))) (w3 := none) (S := S) (by omega) (fun S => ihb m S (by omega) (by omega))
    exact e_fdef_v (e_seq_nx (e_ifs_f (S1 := S) (e_b rfl) rfl) (e_seq_nx (e_set rfl) (e_seq_nx (e_for (ds := [encF a, encF b]) rfl (Eq.trans (e_for_nx (δ1 := [some (.v (encF (.con2 c a b))), some (.v (.lst (stL []))), some (.v (encF a)), none]) (S1 := S) rfl q1) (Eq.trans (e_for_nx (δ1 := [some (.v (encF (.con2 c a b))), some (.v (.lst (stL (frF a)))), some (.v (encF b)), none]) (S1 := S) rfl q2) rfl))) rfl)))
/-! ### the law's letters -/
theorem lfirst_turn (c : Nat) (rows : List Tx) (w0 w4 : Option W) (S : Sto) (hl : rows.length ≤ 1000) :
    l1__law_first [w0, some (.v (.str lets)), some (.v (.lst (stL rows))), some (.v (.str [c])), w4, none] S = .nx [w0, some (.v (.str lets)), some (.v (.lst (stL (rows ++ lets.map fun x => [c, x])))), some (.v (.str [c])), w4, none] S := by
  have q := comp_map (it := itS (cVar 1)) (dg := gN 4) (te := op2 gAdd (cVar 3) (cVar 4)) (vs := [4]) (δ := [w0, some (.v (.str lets)), some (.v (.lst (stL rows))), some (.v (.str [c])), w4, none]) (S := S) (S1 := S) (ds := lets.map fun x => .str [x]) (fun d => match d with
    | .str [x] => .str [c, x]
    | d => d) rfl (by decide) (fun d hd acc => by
      obtain ⟨x, hx, rfl⟩ := List.mem_map.mp hd
      exact ⟨_, rfl, e_op2v rfl rfl (v_addS (by simp))⟩)
  have hm : (lets.map fun x => D.str [x]).map (fun d => match d with
    | .str [x] => .str [c, x]
    | d => d) = stL (lets.map fun x => [c, x]) := by
    rw [List.map_map]
    unfold stL
    rw [List.map_map]
    rfl
  rw [hm] at q
  exact e_set (e_op2v (d := .lst (stL rows)) rfl q (gAdd_lsts _ _ (by rw [List.length_map]; show rows.length + 26 ≤ 1000000; omega)))
def rows0 : List Tx := lets.map fun c => [c]
theorem rows_all : rows0 ++ (lets.map fun x => [97, x]) ++ (lets.map fun x => [98, x]) ++ (lets.map fun x => [99, x]) ++ (lets.map fun x => [100, x]) = letrs := by decide +kernel
theorem lfirst_ev (t : List Tx) (h : t.length < 130) (S : Sto) : f__law_first [.v (.lst (stL t))] S = .ok (.v (.str (firstL t))) S := by
  have hrow : cBlt gList (cCons (cVar 1) cNil) [some (.v (.lst (stL t))), some (.v (.str lets)), none, none, none, none] S = .ok (.v (.lst (stL rows0))) S := rfl
  have floop : forL (gN 3) l1__law_first ([97, 98, 99, 100].map fun c => .str [c]) [some (.v (.lst (stL t))), some (.v (.str lets)), some (.v (.lst (stL rows0))), none, none, none] S = .nx [some (.v (.lst (stL t))), some (.v (.str lets)), some (.v (.lst (stL letrs))), some (.v (.str [100])), none, none] S := by
    rw [← rows_all]
    refine Eq.trans (e_for_nx (δ1 := [some (.v (.lst (stL t))), some (.v (.str lets)), some (.v (.lst (stL rows0))), some (.v (.str [97])), none, none]) (S1 := S) rfl (lfirst_turn 97 rows0 _ _ S (by decide))) ?_
    refine Eq.trans (e_for_nx (δ1 := [some (.v (.lst (stL t))), some (.v (.str lets)), some (.v (.lst (stL (rows0 ++ lets.map fun x => [97, x])))), some (.v (.str [98])), none, none]) (S1 := S) rfl (lfirst_turn 98 _ _ _ S (by decide))) ?_
    refine Eq.trans (e_for_nx (δ1 := [some (.v (.lst (stL t))), some (.v (.str lets)), some (.v (.lst (stL (rows0 ++ (lets.map fun x => [97, x]) ++ lets.map fun x => [98, x])))), some (.v (.str [99])), none, none]) (S1 := S) rfl (lfirst_turn 99 _ _ _ S (by decide))) ?_
    exact Eq.trans (e_for_nx (δ1 := [some (.v (.lst (stL t))), some (.v (.str lets)), some (.v (.lst (stL (rows0 ++ (lets.map fun x => [97, x]) ++ (lets.map fun x => [98, x]) ++ lets.map fun x => [99, x])))), some (.v (.str [100])), none, none]) (S1 := S) rfl (lfirst_turn 100 _ _ _ S (by decide))) rfl
  have q := comp_ev (it := itL (cVar 2)) (dg := gN 5) (tt := cB (op2 gNotIn (cVar 5) (cVar 0))) (te := cVar 5) (vs := [5]) (δ := [some (.v (.lst (stL t))), some (.v (.str lets)), some (.v (.lst (stL letrs))), some (.v (.str [100])), none, none]) (S := S) (S1 := S) (ds := stL letrs) (flt fun n => !decide (n ∈ t)) rfl (by decide) (fun x hx acc2 => by
    obtain ⟨u, hu, rfl⟩ := List.mem_map.mp hx
    refine ⟨[some (.v (.lst (stL t))), some (.v (.str lets)), some (.v (.lst (stL letrs))), some (.v (.str [100])), none, some (.v (.str u))], rfl, ?_⟩
    have h1 : cB (op2 gNotIn (cVar 5) (cVar 0)) [some (.v (.lst (stL t))), some (.v (.str lets)), some (.v (.lst (stL letrs))), some (.v (.str [100])), none, some (.v (.str u))] (S ++ [.lst acc2]) = .ok (!decide (u ∈ t)) (S ++ [.lst acc2]) := e_b (e_op2v rfl rfl (gNotIn_lst u t))
    by_cases h : (!decide (u ∈ t)) = true
    · rw [show flt (fun n => !decide (n ∈ t)) (.str u) = some (.str u) from if_pos h]
      rw [h] at h1
      exact ⟨h1, rfl⟩
    · rw [show flt (fun n => !decide (n ∈ t)) (.str u) = none from if_neg h]
      rw [Bool.not_eq_true] at h
      rw [h] at h1
      exact h1)
  rw [filter_stL] at q
  refine e_fdef_v (e_seq_nx (e_set rfl) (e_seq_nx (e_set hrow) (e_seq_nx (e_for rfl floop) (e_ret (e_ix q rfl ?_)))))
  obtain ⟨x, hx, hy⟩ := free_letr h
  have hm : x ∈ letrs.filter fun x => !decide (x ∈ t) := List.mem_filter.mpr ⟨hx, by simp [hy]⟩
  unfold firstL
  cases ql : letrs.filter fun x => !decide (x ∈ t) with
  | nil => rw [ql] at hm; cases hm
  | cons y r => exact v_at0
/-! ### out again -/
theorem outside_ev : ∀ (f : Fm) (m : Nat) (ns t : List Tx) (S : Sto), f.ht ≤ m → t.length + ns.length + f.ht < 130 → Inn f ns.length → f__law_outside m [.v (encF f), .v (.lst (stL ns)), .v (.lst (stL t))] S = .ok (.v (enc (outF f ns t))) S := by
  have pos : ∀ (k : Fm) (m : Nat), k.ht ≤ m → ∃ m', m = m' + 1 := fun k m h => ⟨m - 1, by have := k.ht_pos; omega⟩
  intro f
  induction f with
  | var n =>
    intro m ns t S hm hl hi
    obtain ⟨m, rfl⟩ := pos _ _ hm
    exact e_fdef_v (e_seq_rt (e_ifs_t (S1 := S) (e_b rfl) rfl))
  | «at» i =>
    intro m ns t S hm hl hi
    obtain ⟨m, rfl⟩ := pos _ _ hm
    have hi' : i < ns.length := hi
    refine e_fdef_v (e_seq_nx (e_ifs_f (S1 := S) (e_b rfl) rfl) (e_seq_rt (e_ifs_t (S1 := S) (e_b rfl) (e_ret (e_disp (ws := [.v (.str [118, 97, 114]), .v (.str ((ns[i]?).getD []))]) (e_cons rfl (e_cons (e_ix (d := .lst (stL ns)) (e := .int i) rfl rfl ?_) rfl)) rfl (by simp) rfl)))))
    show atI (stL ns) (i : Int) = _
    unfold atI ixN
    rw [if_pos (by omega), if_pos (by rw [stL_length]; omega)]
    show (stL ns)[(i : Int).toNat]? = _
    unfold stL
    rw [List.getElem?_map, show (i : Int).toNat = i from rfl, List.getElem?_eq_getElem hi']
    rfl
  | con0 c =>
    intro m ns t S hm hl hi
    obtain ⟨m, rfl⟩ := pos _ _ hm
    refine e_fdef_v (e_seq_nx (e_ifs_f (S1 := S) (e_b rfl) rfl) (e_seq_nx (e_ifs_f (S1 := S) (e_b rfl) rfl) (e_seq_nx (e_ifs_f (S1 := S) (e_b rfl) rfl) (e_ret ?_))))
    refine e_disp (ws := [.v (.str [99, 111, 110]), .v (.str c.tx), .v (.tup [])]) (e_cons rfl (e_cons rfl (e_cons (e_blt (ws := [.v (.lst [])]) (e_cons ?_ rfl) rfl rfl) rfl))) rfl (by simp) rfl
    exact comp_map (ds := []) (fun d => d) rfl (by decide) (fun d hd => absurd hd (by simp))
  | list k ih =>
    intro m ns t S hm hl hi
    obtain ⟨m, rfl⟩ := pos _ _ hm
    unfold Fm.ht at hm hl
    refine e_fdef_v (e_seq_nx (e_ifs_f (S1 := S) (e_b rfl) rfl) (e_seq_nx (e_ifs_f (S1 := S) (e_b rfl) rfl) (e_seq_nx (e_ifs_f (S1 := S) (e_b rfl) rfl) (e_ret ?_))))
    refine e_disp (ws := [.v (.str [99, 111, 110]), .v (.str [76, 105, 115, 116]), .v (.tup [enc (outF k ns t)])]) (e_cons rfl (e_cons rfl (e_cons (e_blt (ws := [.v (.lst [enc (outF k ns t)])]) (e_cons ?_ rfl) rfl rfl) rfl))) rfl (by simp) rfl
    refine comp_map (ds := [encF k]) (fun d => enc (outF k ns t)) rfl (by simp) (fun d hd acc => ?_)
    rw [List.mem_singleton] at hd
    subst hd
    exact ⟨_, rfl, e_call (ws := [.v (encF k), .v (.lst (stL ns)), .v (.lst (stL t))]) rfl rfl (ih m ns t _ (by omega) (by omega) hi) rfl⟩
  | con2 c a b iha ihb =>
    intro m ns t S hm hl hi
    obtain ⟨m, rfl⟩ := pos _ _ hm
    unfold Fm.ht at hm hl
    have hi' : Inn a ns.length ∧ Inn b ns.length := hi
    refine e_fdef_v (e_seq_nx (e_ifs_f (S1 := S) (e_b rfl) rfl) (e_seq_nx (e_ifs_f (S1 := S) (e_b rfl) rfl) (e_seq_nx (e_ifs_f (S1 := S) (e_b rfl) rfl) (e_ret ?_))))
    refine e_disp (ws := [.v (.str [99, 111, 110]), .v (.str c.tx), .v (.tup [enc (outF a ns t), enc (outF b ns t)])]) (e_cons rfl (e_cons rfl (e_cons (e_blt (ws := [.v (.lst [enc (outF a ns t), enc (outF b ns t)])]) (e_cons ?_ rfl) rfl rfl) rfl))) rfl (by simp) rfl
    exact comp_two (f := f__law_outside m) (δ := [some (.v (encF (.con2 c a b))), some (.v (.lst (stL ns))), some (.v (.lst (stL t))), none, none]) (S := S) (j := 4) (vs := [4]) (it := itT (cIx (cVar 0) (cC (.int 2)))) (as := cCons (cVar 4) (cCons (cVar 1) (cCons (cVar 2) cNil))) (n := 3) (x := encF a) (y := encF b) (wx := [.v (encF a), .v (.lst (stL ns)), .v (.lst (stL t))]) (wy := [.v (encF b), .v (.lst (stL ns)), .v (.lst (stL t))]) rfl (fun S => rfl) (fun S => rfl) rfl rfl (fun S => iha m ns t S (by omega) (by omega) hi'.1) (fun S => ihb m ns t S (by omega) (by omega) hi'.2)
  | all k ih =>
    intro m ns t S hm hl hi
    obtain ⟨m, rfl⟩ := pos _ _ hm
    unfold Fm.ht at hm hl
    have hi' : Inn k (ns.length + 1) := hi
    have e1 := lfirst_ev (t ++ ns) (by rw [List.length_append]; omega) S
    refine e_fdef_v (e_seq_nx (e_ifs_f (S1 := S) (e_b rfl) rfl) (e_seq_nx (e_ifs_f (S1 := S) (e_b rfl) rfl) (e_seq_rt (e_ifs_t (S1 := S) (e_b rfl) (e_seq_nx (e_set (e_call (ws := [.v (.lst (stL (t ++ ns)))]) (e_cons (e_op2v (d := .lst (stL t)) (e := .lst (stL ns)) rfl rfl (gAdd_lsts t ns (by omega))) rfl) rfl e1 rfl)) (e_ret ?_))))))
    exact e_disp (ws := [.v (.str [97, 108, 108]), .v (.str (firstL (t ++ ns))), .v (enc (outF k (firstL (t ++ ns) :: ns) t))]) (e_cons rfl (e_cons rfl (e_cons (e_call (ws := [.v (encF k), .v (.lst (stL (firstL (t ++ ns) :: ns))), .v (.lst (stL t))]) (e_cons rfl (e_cons (e_op2v (d := .lst (stL [firstL (t ++ ns)])) (e := .lst (stL ns)) rfl rfl (gAdd_lsts [firstL (t ++ ns)] ns (by simp; omega))) rfl)) rfl (ih m (firstL (t ++ ns) :: ns) t S (by omega) (by rw [List.length_cons]; omega) (by rw [List.length_cons]; exact hi')) rfl) rfl))) rfl (by simp) rfl
end Fro

namespace Fro
open PySem PySem.Spec L2

theorem law_plain_ev {k : Kd} (h : Fine k) (S : Sto) : f__law_plain [.v (enc k)] S = .ok (.v (enc (lawK k))) S := by
  have h1 := h.ht
  have h2 := h.lvs
  have h3 := h.few
  have e1 := inside_ev k 30 [] S h1 (by simp; omega)
  have e2 := lfrees_ev (inF k []) 30 S (by rw [inF_ht]; exact h1) (by rw [inF_lvs]; exact h2)
  have e3 := outside_ev (inF k []) 30 [] (frF (inF k [])) S (by rw [inF_ht]; exact h1) (by rw [inF_ht, frF_in k [] [] (fun _ => Iff.rfl)]; simp; omega) (inF_inn k [])
  exact e_fdef_v (e_seq_nx (e_set (e_call (ws := [.v (enc k), .v (.lst (stL []))]) rfl rfl e1 rfl)) (e_ret (e_call (ws := [.v (encF (inF k [])), .v (.lst (stL [])), .v (.lst (stL (frF (inF k []))))]) (e_cons rfl (e_cons rfl (e_cons (e_call (ws := [.v (encF (inF k []))]) rfl rfl e2 rfl) rfl))) rfl e3 rfl)))
/-! ### the plain form's own form -/
theorem idxT_at : ∀ {ls : List Tx} {i : Nat} {x : Tx}, ls.Nodup → ls[i]? = some x → idxT x ls = some i
  | [], _, _, _, h => by simp at h
  | m :: r, 0, x, _, h => by
    have : m = x := by simpa using h
    unfold idxT
    rw [if_pos this]
  | m :: r, i + 1, x, hn, h => by
    have h' : r[i]? = some x := by simpa using h
    obtain ⟨h1, h2⟩ := List.nodup_cons.mp hn
    have hm : m ≠ x := fun z => h1 (z ▸ List.mem_of_getElem? h')
    unfold idxT
    rw [if_neg hm, idxT_at h2 h']
    rfl
theorem inF_out : ∀ (f : Fm) (ls fr : List Tx), Inn f ls.length → ls.Nodup → (∀ x ∈ ls, x ∉ fr) → (∀ x ∈ frF f, x ∈ fr) → fr.length + ls.length + f.ht < 130 → inF (outF f ls fr) ls = f
  | .var n, ls, fr, _, hn, hd, hf, _ => by
    have : n ∉ ls := fun z => hd n z (hf n List.mem_cons_self)
    show inF (.var n) ls = _
    unfold inF
    rw [idxT_none this]
  | .at i, ls, fr, hi, hn, hd, hf, _ => by
    have hi' : i < ls.length := hi
    show inF (.var ((ls[i]?).getD [])) ls = _
    unfold inF
    rw [List.getElem?_eq_getElem hi', Option.getD_some, idxT_at hn (List.getElem?_eq_getElem hi')]
  | .con0 _, _, _, _, _, _, _, _ => rfl
  | .list f, ls, fr, hi, hn, hd, hf, hl => by
    have hh : (Fm.list f).ht = f.ht + 1 := rfl
    show Fm.list (inF (outF f ls fr) ls) = _
    rw [inF_out f ls fr hi hn hd hf (by omega)]
  | .con2 c a b, ls, fr, hi, hn, hd, hf, hl => by
    have hh : (Fm.con2 c a b).ht = max a.ht b.ht + 1 := rfl
    show Fm.con2 c (inF (outF a ls fr) ls) (inF (outF b ls fr) ls) = _
    rw [inF_out a ls fr hi.1 hn hd (fun x hx => hf x (List.mem_append_left _ hx)) (by omega), inF_out b ls fr hi.2 hn hd (fun x hx => by
      by_cases h : x ∈ frF a
      · exact hf x (List.mem_append_left _ h)
      · exact hf x (List.mem_append_right _ (List.mem_filter.mpr ⟨hx, by simp [h]⟩))) (by omega)]
  | .all f, ls, fr, hi, hn, hd, hf, hl => by
    have hh : (Fm.all f).ht = f.ht + 1 := rfl
    have hx := (firstL_ok (t := fr ++ ls) (by rw [List.length_append]; omega)).2
    show Fm.all (inF (outF f (firstL (fr ++ ls) :: ls) fr) (firstL (fr ++ ls) :: ls)) = _
    rw [inF_out f (firstL (fr ++ ls) :: ls) fr hi (List.nodup_cons.mpr ⟨fun z => hx (List.mem_append_right _ z), hn⟩) (fun x h => by
      rcases List.mem_cons.mp h with rfl | h
      · exact fun z => hx (List.mem_append_left _ z)
      · exact hd x h) hf (by rw [List.length_cons]; omega)]
theorem out_ht : ∀ (k : Kd) (ns ls fr : List Tx), (outF (inF k ns) ls fr).ht = k.ht
  | .var n, ns, ls, fr => by
    unfold inF
    split <;> rfl
  | .con0 _, _, _, _ => rfl
  | .list k, ns, ls, fr => by show (outF (inF k ns) ls fr).ht + 1 = _; rw [out_ht k]; rfl
  | .con2 _ a b, ns, ls, fr => by show max (outF (inF a ns) ls fr).ht (outF (inF b ns) ls fr).ht + 1 = _; rw [out_ht a, out_ht b]; rfl
  | .all n k, ns, ls, fr => by show (outF (inF k (n :: ns)) _ fr).ht + 1 = _; rw [out_ht k]; rfl
theorem out_lvs : ∀ (k : Kd) (ns ls fr : List Tx), (outF (inF k ns) ls fr).lvs = k.lvs
  | .var n, ns, ls, fr => by
    unfold inF
    split <;> rfl
  | .con0 _, _, _, _ => rfl
  | .list k, ns, ls, fr => out_lvs k ns ls fr
  | .con2 _ a b, ns, ls, fr => by show (outF (inF a ns) ls fr).lvs + (outF (inF b ns) ls fr).lvs = _; rw [out_lvs a, out_lvs b]; rfl
  | .all n k, ns, ls, fr => out_lvs k (n :: ns) _ fr
theorem out_qs : ∀ (k : Kd) (ns ls fr : List Tx), (outF (inF k ns) ls fr).qs = k.qs
  | .var n, ns, ls, fr => by
    unfold inF
    split <;> rfl
  | .con0 _, _, _, _ => rfl
  | .list k, ns, ls, fr => out_qs k ns ls fr
  | .con2 _ a b, ns, ls, fr => by show (outF (inF a ns) ls fr).qs + (outF (inF b ns) ls fr).qs = _; rw [out_qs a, out_qs b]; rfl
  | .all n k, ns, ls, fr => by show (outF (inF k (n :: ns)) _ fr).qs + 1 = _; rw [out_qs k]; rfl
theorem out_good : ∀ (f : Fm) (ls fr : List Tx), Inn f ls.length → (∀ x ∈ ls, isNm x = true) → (∀ x ∈ frF f, isNm x = true) → fr.length + ls.length + f.ht < 130 → Good (outF f ls fr)
  | .var n, ls, fr, _, hl, hf, _ => fun x hx => by
    have : x = n := by simpa [outF, Kd.nms] using hx
    rw [this]; exact hf n List.mem_cons_self
  | .at i, ls, fr, hi, hl, hf, _ => fun x hx => by
    have hi' : i < ls.length := hi
    have : x = (ls[i]?).getD [] := by simpa [outF, Kd.nms] using hx
    rw [this, List.getElem?_eq_getElem hi', Option.getD_some]
    exact hl _ (List.getElem_mem hi')
  | .con0 _, _, _, _, _, _, _ => fun x hx => by cases hx
  | .list f, ls, fr, hi, hl, hf, h => out_good f ls fr hi hl hf (by have hh : (Fm.list f).ht = f.ht + 1 := rfl; omega)
  | .con2 c a b, ls, fr, hi, hl, hf, h => fun x hx => by
    have hh : (Fm.con2 c a b).ht = max a.ht b.ht + 1 := rfl
    rcases List.mem_append.mp hx with z | z
    · exact out_good a ls fr hi.1 hl (fun y hy => hf y (List.mem_append_left _ hy)) (by omega) x z
    · exact out_good b ls fr hi.2 hl (fun y hy => by
        by_cases q : y ∈ frF a
        · exact hf y (List.mem_append_left _ q)
        · exact hf y (List.mem_append_right _ (List.mem_filter.mpr ⟨hy, by simp [q]⟩))) (by omega) x z
  | .all f, ls, fr, hi, hl, hf, h => fun x hx => by
    have hh : (Fm.all f).ht = f.ht + 1 := rfl
    have hg := letrs_ok _ (firstL_ok (t := fr ++ ls) (by rw [List.length_append]; omega)).1
    rcases List.mem_cons.mp hx with z | z
    · rw [z]; exact hg
    · exact out_good f (firstL (fr ++ ls) :: ls) fr hi (fun y hy => by
        rcases List.mem_cons.mp hy with q | q
        · rw [q]; exact hg
        · exact hl y q) hf (by rw [List.length_cons]; omega) x z
theorem frees_good : ∀ (k : Kd) (ins : List Tx), Good k → ∀ x ∈ frees k ins, isNm x = true
  | .var n, ins, g, x, hx => by
    unfold frees at hx
    split at hx
    · cases hx
    · rw [List.mem_singleton.mp hx]; exact g n List.mem_cons_self
  | .con0 _, _, _, x, hx => by cases hx
  | .list k, ins, g, x, hx => frees_good k ins g x hx
  | .con2 _ a b, ins, g, x, hx => by
    rcases List.mem_append.mp hx with z | z
    · exact frees_good a ins (fun y hy => g y (List.mem_append_left _ hy)) x z
    · exact frees_good b ins (fun y hy => g y (List.mem_append_right _ hy)) x (List.mem_filter.mp z).1
  | .all n k, ins, g, x, hx => frees_good k _ (fun y hy => g y (List.mem_cons_of_mem _ hy)) x hx
theorem in_law {k : Kd} (h : Fine k) : inF (lawK k) [] = inF k [] := by
  have h3 := h.few
  refine inF_out (inF k []) [] (frF (inF k [])) (inF_inn k []) List.nodup_nil (fun x hx => by cases hx) (fun x hx => hx) ?_
  rw [inF_ht, frF_in k [] [] (fun _ => Iff.rfl)]
  simpa using h3
theorem law_law {k : Kd} (h : Fine k) : lawK (lawK k) = lawK k := by
  show outF (inF (lawK k) []) [] (frF (inF (lawK k) [])) = lawK k
  rw [in_law h]
  rfl
theorem frees_law {k : Kd} (h : Fine k) : frees (lawK k) [] = frees k [] := by
  rw [← frF_in (lawK k) [] [] (fun _ => Iff.rfl), in_law h, frF_in k [] [] (fun _ => Iff.rfl)]
theorem fine_law {k : Kd} (h : Fine k) : Fine (lawK k) := by
  have h1 : (lawK k).ht = k.ht := out_ht k [] [] _
  have h2 : (lawK k).lvs = k.lvs := out_lvs k [] [] _
  have h3 : (lawK k).qs = k.qs := out_qs k [] [] _
  refine ⟨?_, by rw [h1]; exact h.ht, by rw [h2]; exact h.lvs, by rw [h3]; exact h.qs, by rw [frees_law h, h1]; exact h.few⟩
  refine out_good (inF k []) [] (frF (inF k [])) (inF_inn k []) (fun x hx => by cases hx) ?_ ?_
  · rw [frF_in k [] [] (fun _ => Iff.rfl)]
    exact frees_good k [] h.good
  · rw [inF_ht, frF_in k [] [] (fun _ => Iff.rfl)]
    simpa using h.few
/-! ### == of data -/
mutual
theorem deq_refl : ∀ d : D, okD d = true → deq d d = true
  | .non, _ => rfl
  | .bl b, _ => by show (b == b) = true; simp
  | .int i, _ => by show (i == i) = true; simp
  | .str t, _ => by show (t == t) = true; simp
  | .tup ds, h => deqL_refl ds (by simpa [okD] using h)
  | .lst ds, h => deqL_refl ds (by simpa [okD] using h)
  | .dct _, h => by simp [okD] at h
  | .ty _, h => by simp [okD] at h
theorem deqL_refl : ∀ ds : List D, okDL ds = true → deqL ds ds = true
  | [], _ => rfl
  | d :: ds, h => by
    have h' : okD d = true ∧ okDL ds = true := by simpa [okDL] using h
    show (deq d d && deqL ds ds) = true
    rw [deq_refl d h'.1, deqL_refl ds h'.2]
    rfl
end
theorem dep_enc : ∀ k : Kd, dep (enc k) ≤ 2 * k.ht
  | .var n => by show max 0 (max 0 0) + 1 ≤ 2 * 1; decide
  | .con0 c => by show max 0 (max 0 (max (0 + 1) 0)) + 1 ≤ 2 * 1; decide
  | .list k => by
    have := dep_enc k
    show max 0 (max 0 (max (max (dep (enc k)) 0 + 1) 0)) + 1 ≤ 2 * (k.ht + 1)
    omega
  | .con2 _ a b => by
    have h1 := dep_enc a
    have h2 := dep_enc b
    show max 0 (max 0 (max (max (dep (enc a)) (max (dep (enc b)) 0) + 1) 0)) + 1 ≤ 2 * (max a.ht b.ht + 1)
    omega
  | .all n k => by
    have := dep_enc k
    show max 0 (max 0 (max (dep (enc k)) 0)) + 1 ≤ 2 * (k.ht + 1)
    omega
theorem gEq_same {k : Kd} (g : Good k) (h : k.ht ≤ 30) : gEq (enc k) (enc k) = some (.bl true) := by
  have hd := dep_enc k
  rw [gEq_of (okD_enc g) (okD_enc g) (by omega), deq_refl _ (okD_enc g)]
end Fro

namespace Fro
open PySem PySem.Spec L2

/-! ### the source of draws -/
def SrcO (o : Ob) : Prop := ∃ a b c : Int, o = .lst [.int a, .int b, .int c]
def Src (S : Sto) (i : Nat) : Prop := ∃ o, S[i]? = some o ∧ SrcO o
theorem src_lt {S : Sto} {i : Nat} (h : Src S i) : i < S.length := by
  obtain ⟨o, h, _⟩ := h
  rcases Nat.lt_or_ge i S.length with z | z
  · exact z
  · rw [List.getElem?_eq_none z] at h; cases h
theorem src_set {S : Sto} {i : Nat} {o : Ob} (h : Src S i) (ho : SrcO o) : Src (S.set i o) i := ⟨o, List.getElem?_set_self (src_lt h), ho⟩
theorem src_app {S T : Sto} {i : Nat} (h : Src S i) : Src (S ++ T) i := by
  obtain ⟨o, h1, h2⟩ := h
  exact ⟨o, by rw [List.getElem?_append_left (src_lt ⟨o, h1, h2⟩)]; exact h1, h2⟩
theorem gMod_ev {i j : Int} (h : 0 < j) : gMod (.int i) (.int j) = some (.int (i % j)) := if_pos h
theorem gDiv_ev {i j : Int} (h : 0 < j) (h2 : j < 1073741824) : gDiv (.int i) (.int j) = some (.int (i / j)) := if_pos ⟨h, h2⟩
theorem gMul_l {i j : Int} (h : -18446744073709551616 < i) (h2 : i < 18446744073709551616) : gMul (.int i) (.int j) = some (.int (i * j)) := if_pos (.inl ⟨h, h2⟩)
theorem gMul_r {i j : Int} (h : -18446744073709551616 < j) (h2 : j < 18446744073709551616) : gMul (.int i) (.int j) = some (.int (i * j)) := if_pos (.inr ⟨h, h2⟩)
theorem gSubD_ev {x y : Den W} {δ : Slots} {S : Sto} {i : Nat} {ds : List D} {k : Int} {j : Nat} {d : D} (h1 : x δ S = .ok (.r i) S) (h2 : y δ S = .ok (.v (.int k)) S) (h3 : S[i]? = some (.lst ds)) (h4 : ixN ds.length k = some j) : gSubD x y (.v d) δ S = some (δ, S.set i (.lst (ds.set j d))) := by
  unfold gSubD
  simp only [h1, h2, isRL_at h3, toD, h4]
theorem next_ev {S : Sto} {i : Nat} (hs : Src S i) (m : Int) (h0 : 0 < m) (h1 : m < 1073741824) : ∃ (d : Int) (o : Ob), f__law_next [.r i, .v (.int m)] S = .ok (.v (.int d)) (S.set i o) ∧ 0 ≤ d ∧ d < m ∧ SrcO o := by
  obtain ⟨o, ho, a, b, c, rfl⟩ := hs
  have hlt : i < S.length := by
    rcases Nat.lt_or_ge i S.length with z | z
    · exact z
    · rw [List.getElem?_eq_none z] at ho; cases ho
  have ix0 : ∀ δ : Slots, cVar 0 δ S = .ok (.r i) S → cIx (cVar 0) (cC (.int 0)) δ S = .ok (.v (.int a)) S := fun δ h => e_ixr h rfl (rd_at ho) rfl
  by_cases ha : 0 < a
  · refine ⟨a % m, .lst [.int (a / m), .int b, .int c], ?_, Int.emod_nonneg _ (by omega), Int.emod_lt_of_pos _ h0, ⟨_, _, _, rfl⟩⟩
    refine e_fdef_vs (e_seq_rt (e_ifs_t (S1 := S) (e_b (e_op2v (ix0 _ rfl) rfl ?_)) (e_seq_nx (e_set (e_op2v (e_blt (ws := [.v (.int a)]) (e_cons (ix0 _ rfl) rfl) rfl rfl) rfl (gMod_ev h0))) (e_seq_nx (e_asg (e_op2v (ix0 _ rfl) rfl (gDiv_ev h0 h1)) (gSubD_ev (j := 0) rfl rfl ho rfl)) (e_ret rfl)))))
    show some (D.bl (decide (0 < a))) = _
    rw [decide_eq_true ha]
  · -- the second way
    have hS1 : (S.set i (.lst [.int a, .int b, .int (c + 1)]))[i]? = some (.lst [.int a, .int b, .int (c + 1)]) := List.getElem?_set_self hlt
    generalize hg : S.set i (.lst [.int a, .int b, .int (c + 1)]) = S1 at hS1
    have ix1 : ∀ δ : Slots, cVar 0 δ S1 = .ok (.r i) S1 → cIx (cVar 0) (cC (.int 1)) δ S1 = .ok (.v (.int b)) S1 := fun δ h => e_ixr h rfl (rd_at hS1) rfl
    have ix2 : ∀ δ : Slots, cVar 0 δ S1 = .ok (.r i) S1 → cIx (cVar 0) (cC (.int 2)) δ S1 = .ok (.v (.int (c + 1))) S1 := fun δ h => e_ixr h rfl (rd_at hS1) rfl
    have n0 := Int.emod_nonneg (b + 104729 * (c + 1) + 7919) (show (2147483647 : Int) ≠ 0 by decide)
    have n0' := Int.emod_lt_of_pos (b + 104729 * (c + 1) + 7919) (show (0 : Int) < 2147483647 by decide)
    generalize hx0 : (b + 104729 * (c + 1) + 7919) % 2147483647 = x0 at n0 n0'
    have n1 := Int.emod_nonneg (x0 * 48271) (show (2147483647 : Int) ≠ 0 by decide)
    have n1' := Int.emod_lt_of_pos (x0 * 48271) (show (0 : Int) < 2147483647 by decide)
    generalize hx1 : (x0 * 48271) % 2147483647 = x1 at n1 n1'
    have n2 := Int.emod_nonneg (x1 * (x1 / 1009 + 69621)) (show (2147483647 : Int) ≠ 0 by decide)
    have n2' := Int.emod_lt_of_pos (x1 * (x1 / 1009 + 69621)) (show (0 : Int) < 2147483647 by decide)
    generalize hx2 : (x1 * (x1 / 1009 + 69621)) % 2147483647 = x2 at n2 n2'
    generalize hx3 : (x2 * (x2 / 2003 + 40692)) % 2147483399 = x3
    refine ⟨x3 / 7 % m, .lst [.int a, .int b, .int (c + 1)], ?_, Int.emod_nonneg _ (by omega), Int.emod_lt_of_pos _ h0, ⟨_, _, _, rfl⟩⟩
    have hgt : gGt (.int a) (.int 0) = some (.bl false) := by
      show some (D.bl (decide (0 < a))) = _
      rw [decide_eq_false ha]
    refine e_fdef_vs (e_seq_nx (e_ifs_f (S1 := S) (e_b (e_op2v (ix0 _ rfl) rfl hgt)) rfl) (e_seq_nx (S1 := S1) (δ' := slots0 5 [.r i, .v (.int m)]) (e_asg (e_op2v (e_ixr (d := .lst [.int a, .int b, .int c]) rfl rfl (rd_at ho) rfl) rfl rfl) ?_) ?_))
    · rw [← hg]
      exact gSubD_ev (j := 2) rfl rfl ho rfl
    · rw [hg]
      refine e_seq_nx (e_set rfl) (e_seq_nx (e_set (e_op2v (e_blt (ws := [.v (.int (b + 104729 * (c + 1) + 7919))]) (e_cons (e_op2v (e_op2v (ix1 _ rfl) (e_op2v rfl (ix2 _ rfl) (gMul_l (by decide) (by decide))) rfl) rfl rfl) rfl) rfl rfl) rfl (gMod_ev (by decide)))) ?_)
      rw [hx0]
      refine e_seq_nx (e_set (e_op2v (e_blt (ws := [.v (.int (x0 * 48271))]) (e_cons (e_op2v rfl rfl (gMul_l (by omega) (by omega))) rfl) rfl rfl) rfl (gMod_ev (by decide)))) ?_
      rw [hx1]
      refine e_seq_nx (e_set (e_op2v (e_blt (ws := [.v (.int (x1 * (x1 / 1009 + 69621)))]) (e_cons (e_op2v rfl (e_op2v (e_op2v rfl rfl (gDiv_ev (by decide) (by decide))) rfl rfl) (gMul_l (by omega) (by omega))) rfl) rfl rfl) rfl (gMod_ev (by decide)))) ?_
      rw [hx2]
      refine e_seq_nx (e_set (e_op2v (e_blt (ws := [.v (.int (x2 * (x2 / 2003 + 40692)))]) (e_cons (e_op2v rfl (e_op2v (e_op2v rfl rfl (gDiv_ev (by decide) (by decide))) rfl rfl) (gMul_l (by omega) (by omega))) rfl) rfl rfl) rfl (gMod_ev (by decide)))) ?_
      rw [hx3]
      exact e_ret (e_op2v (e_blt (ws := [.v (.int (x3 / 7))]) (e_cons (e_op2v rfl rfl (gDiv_ev (by decide) (by decide))) rfl) rfl rfl) rfl (gMod_ev h0))
/-- .. as an argument of a call -/
theorem next_call {S : Sto} {i : Nat} (hs : Src S i) (m : Int) (h0 : 0 < m) (h1 : m < 1073741824) : ∃ (d : Int) (o : Ob), 0 ≤ d ∧ d < m ∧ SrcO o ∧ ∀ (as : Den (List W)) (δ : Slots), as δ S = .ok [.r i, .v (.int m)] S → cCall 2 f__law_next as [] δ S = .ok (.v (.int d)) (S.set i o) := by
  obtain ⟨d, o, e, h2, h3, h4⟩ := next_ev hs m h0 h1
  exact ⟨d, o, h2, h3, h4, fun as δ h => e_call h rfl e rfl⟩
theorem atI_lt {α : Type} {l : List α} {d : Int} (h0 : 0 ≤ d) (h1 : d < l.length) : ∃ x, atI l d = some x ∧ x ∈ l := by
  have hd : d.toNat < l.length := by omega
  refine ⟨l[d.toNat], ?_, List.getElem_mem hd⟩
  unfold atI ixN
  rw [if_pos h0, if_pos h1]
  exact List.getElem?_eq_getElem hd
theorem one_ev {S : Sto} {i : Nat} (hs : Src S i) (ds : List D) (h0 : ds ≠ []) (h1 : ds.length < 1073741824) : ∃ (d : D) (o : Ob), f__law_one [.r i, .v (.lst ds)] S = .ok (.v d) (S.set i o) ∧ d ∈ ds ∧ SrcO o := by
  have hp : 0 < ds.length := List.length_pos_iff.mpr h0
  obtain ⟨k, o, h2, h3, h4, h5⟩ := next_call hs (ds.length : Int) (by omega) (by omega)
  obtain ⟨x, e1, e2⟩ := atI_lt (l := ds) h2 h3
  refine ⟨x, o, e_fdef_vs (e_ret (e_ix rfl (h5 _ _ (e_cons rfl (e_cons rfl rfl))) e1)), e2, h4⟩
theorem one_call {S : Sto} {i : Nat} (hs : Src S i) (ds : List D) (h0 : ds ≠ []) (h1 : ds.length < 1073741824) : ∃ (d : D) (o : Ob), d ∈ ds ∧ SrcO o ∧ ∀ (as : Den (List W)) (δ : Slots), as δ S = .ok [.r i, .v (.lst ds)] S → cCall 2 f__law_one as [] δ S = .ok (.v d) (S.set i o) := by
  obtain ⟨d, o, e, h2, h3⟩ := one_ev hs ds h0 h1
  exact ⟨d, o, h2, h3, fun as δ h => e_call h rfl e rfl⟩
theorem set_set (S : Sto) (i : Nat) (o o' : Ob) : (S.set i o).set i o' = S.set i o' := List.set_set _
/-- a script's cell, and the source made of it -/
theorem cell_ev (ns : List Int) (k : Int) (h : 0 ≤ k) (S : Sto) : ∃ n : Int, f__law_cell_at [.s ns, .v (.int k)] S = .ok (.v (.int n)) S := by
  by_cases hk : k < ns.length
  · obtain ⟨x, e1, _⟩ := atI_lt (l := ns) h hk
    refine ⟨x, e_fdef_v (e_seq_rt (e_ifs_t (S1 := S) (e_b (e_op2v (d := .int k) (e := .int ns.length) rfl rfl ?_)) (e_ret ?_)))⟩
    · show some (D.bl (decide (k < ns.length))) = _
      rw [decide_eq_true hk]
    · show apIx (.s ns) (.v (.int k)) S = _
      unfold apIx
      simp only [e1]
  · refine ⟨0, e_fdef_v (e_seq_nx (e_ifs_f (S1 := S) (e_b (e_op2v (d := .int k) (e := .int ns.length) rfl rfl ?_)) rfl) (e_ret rfl))⟩
    show some (D.bl (decide (k < ns.length))) = _
    rw [decide_eq_false hk]
theorem source_ev (n : Int) (S : Sto) : ∃ o, f__law_source_of [.v (.int n)] S = .ok (.new o) S ∧ SrcO o := by
  have key : ∀ c : Int, ∃ o, (cRet (cLstM (cCons (op2 gMul (cVar 0) (cBlt gInt (cCons (op2 gGe (cVar 0) (op2 gPow (cC (.int 10)) (cC (.int 18)))) cNil))) (cCons (op2 gMod (cBlt gInt (cCons (cVar 0) cNil)) (cC (.int 2147483647))) (cCons (cC (.int 0)) cNil))))) [some (.v (.int c))] S = .rt (.r S.length) (S ++ [o]) ∧ SrcO o := fun c => by
    refine ⟨.lst [.int (c * (if decide ((10 ^ 18 : Int) ≤ c) then 1 else 0)), .int (c % 2147483647), .int 0], e_ret (e_disp (ws := [.v (.int (c * (if decide ((10 ^ 18 : Int) ≤ c) then 1 else 0))), .v (.int (c % 2147483647)), .v (.int 0)]) (e_cons (e_op2v (e := .int (if decide ((10 ^ 18 : Int) ≤ c) then 1 else 0)) rfl (e_blt (ws := [.v (.bl (decide ((10 ^ 18 : Int) ≤ c)))]) (e_cons (e_op2v (e := .int (10 ^ 18)) rfl (e_op2v rfl rfl rfl) rfl) rfl) rfl rfl) (gMul_r ?_ ?_)) (e_cons (e_op2v rfl rfl (gMod_ev (by decide))) rfl)) rfl (by simp) rfl), ⟨_, _, _, rfl⟩⟩
    · split <;> decide
    · split <;> decide
  by_cases hn : 0 ≤ n
  · obtain ⟨o, e, h⟩ := key n
    refine ⟨o, e_fdef_new (e_seq_nx (e_set (i := 0) (w := .v (.int n)) (e_if_t (S1 := S) (e_b (e_op2v rfl rfl ?_)) rfl)) e), h⟩
    show some (D.bl (decide (0 ≤ n))) = _
    rw [decide_eq_true hn]
  · obtain ⟨o, e, h⟩ := key (0 - 3 * n - 1)
    refine ⟨o, e_fdef_new (e_seq_nx (e_set (i := 0) (w := .v (.int (0 - 3 * n - 1))) (e_if_f (S1 := S) (e_b (e_op2v rfl rfl ?_)) (e_op2v (e_op2v rfl (e_op2v rfl rfl (gMul_l (by decide) (by decide))) rfl) rfl rfl))) e), h⟩
    show some (D.bl (decide (0 ≤ n))) = _
    rw [decide_eq_false hn]
end Fro

namespace Fro
open PySem PySem.Spec L2

theorem e_orb {t u : Den Bool} {δ : Slots} {S : Sto} {a b : Bool} (h : t δ S = .ok a S) (h2 : u δ S = .ok b S) : cOr t u δ S = .ok (a || b) S := by
  cases a with
  | true => exact e_or_t h
  | false => exact e_or_f h h2
theorem gEq_int (i j : Int) : gEq (.int i) (.int j) = some (.bl (i == j)) := rfl
theorem mem_stL {d : D} {ts : List Tx} (h : d ∈ stL ts) : ∃ t, d = .str t ∧ t ∈ ts := by
  obtain ⟨t, ht, rfl⟩ := List.mem_map.mp h
  exact ⟨t, rfl, ht⟩
theorem stL_ne {ts : List Tx} (h : ts ≠ []) : stL ts ≠ [] := by
  unfold stL
  intro e
  exact h (List.map_eq_nil_iff.mp e)
/-- a drawn kind -/
theorem kind_ev (names : List Tx) (hne : names ≠ []) (hnl : names.length < 1073741824) : ∀ (n deep : Nat) (S : Sto) (i : Nat), deep < n → Src S i →
    ∃ (k : Kd) (o : Ob), f__law_kind n [.r i, .v (.int deep), .v (.lst (stL names))] S = .ok (.v (enc k)) (S.set i o) ∧ SrcO o ∧ (∀ x ∈ k.nms, x ∈ names) ∧ k.ht ≤ deep + 1 ∧ k.lvs ≤ 2 ^ deep := by
  intro n
  induction n with
  | zero => intro deep S i h; omega
  | succ n ih =>
    intro deep S i hd hs
    obtain ⟨way, o1, w0, w1, so1, hw⟩ := next_call hs 12 (by decide) (by decide)
    have hs1 : Src (S.set i o1) i := src_set hs so1
    have e0 : cCall 2 f__law_next (cCons (cVar 0) (cCons (cC (.int 12)) cNil)) [] (slots0 5 [.r i, .v (.int deep), .v (.lst (stL names))]) S = .ok (.v (.int way)) (S.set i o1) := hw _ _ rfl
    generalize hS1 : S.set i o1 = S1 at hs1 e0
    have back : ∀ o, S1.set i o = S.set i o := fun o => by rw [← hS1, set_set]
    have t1 : cOr (cB (op2 gEq (cVar 1) (cC (.int 0)))) (cB (op2 gLt (cVar 3) (cC (.int 4)))) [some (.r i), some (.v (.int deep)), some (.v (.lst (stL names))), some (.v (.int way)), none] S1 = .ok (((deep : Int) == 0) || decide (way < 4)) S1 :=
      e_orb (e_b (e_op2v rfl rfl (gEq_int _ _))) (e_b (e_op2v rfl rfl rfl))
    by_cases hA : (((deep : Int) == 0) || decide (way < 4)) = true
    · rw [hA] at t1
      have t2 : cOr (cB (op2 gEq (cVar 3) (cC (.int 3)))) (cB (op2 gEq (op2 gMod (cBlt gInt (cCons (cVar 3) cNil)) (cC (.int 12))) (cC (.int 11)))) [some (.r i), some (.v (.int deep)), some (.v (.lst (stL names))), some (.v (.int way)), none] S1 = .ok ((way == 3) || (way % 12 == 11)) S1 :=
        e_orb (e_b (e_op2v rfl rfl (gEq_int _ _))) (e_b (e_op2v (e_op2v rfl rfl (gMod_ev (by decide))) rfl (gEq_int _ _)))
      by_cases hB : ((way == 3) || (way % 12 == 11)) = true
      · rw [hB] at t2
        obtain ⟨d, o2, hm, so2, he⟩ := one_call hs1 (stL [C0.int.tx, C0.bool.tx, C0.unit.tx]) (by decide) (by decide)
        obtain ⟨t, rfl, ht⟩ := mem_stL hm
        have hc : ∃ c : C0, t = c.tx := by
          simp only [List.mem_cons, List.not_mem_nil, or_false] at ht
          rcases ht with rfl | rfl | rfl
          · exact ⟨.int, rfl⟩
          · exact ⟨.bool, rfl⟩
          · exact ⟨.unit, rfl⟩
        obtain ⟨c, rfl⟩ := hc
        refine ⟨.con0 c, o2, e_fdef_vs (e_seq_nx (e_set e0) (e_seq_rt (e_ifs_t t1 (e_seq_rt (e_ifs_t t2 ?_))))), so2, (fun x hx => by cases hx), by unfold Kd.ht; omega, Nat.one_le_two_pow⟩
        rw [← back]
        exact e_ret (e_disp (ws := [.v (.str [99, 111, 110]), .v (.str c.tx), .v (.tup [])]) (e_cons rfl (e_cons (he _ _ rfl) rfl)) rfl (by simp) rfl)
      · rw [Bool.not_eq_true] at hB
        rw [hB] at t2
        obtain ⟨d, o2, hm, so2, he⟩ := one_call hs1 (stL names) (stL_ne hne) (by rw [stL_length]; exact hnl)
        obtain ⟨t, rfl, ht⟩ := mem_stL hm
        refine ⟨.var t, o2, e_fdef_vs (e_seq_nx (e_set e0) (e_seq_rt (e_ifs_t t1 (e_seq_nx (e_ifs_f t2 rfl) ?_)))), so2, (fun x hx => by
          have : x = t := by simpa [Kd.nms] using hx
          rw [this]; exact ht), by unfold Kd.ht; omega, Nat.one_le_two_pow⟩
        rw [← back]
        exact e_ret (e_disp (ws := [.v (.str [118, 97, 114]), .v (.str t)]) (e_cons rfl (e_cons (he _ _ rfl) rfl)) rfl (by simp) rfl)
    · rw [Bool.not_eq_true] at hA
      rw [hA] at t1
      rw [Bool.or_eq_false_iff] at hA
      have hdeep : deep ≠ 0 := fun z => by
        have := hA.1
        rw [z] at this
        exact absurd this (by decide)
      obtain ⟨dp, rfl⟩ : ∃ dp, deep = dp + 1 := ⟨deep - 1, by omega⟩
      have esub : ∀ δ : Slots, ∀ S, cVar 1 δ S = .ok (.v (.int ((dp + 1 : Nat) : Int))) S → op2 gSub (cVar 1) (cC (.int 1)) δ S = .ok (.v (.int (dp : Int))) S := fun δ S h => by
        have e := e_op2v (g := gSub) (y := cC (.int 1)) (k := .int (((dp + 1 : Nat) : Int) - 1)) h rfl rfl
        rw [show ((dp + 1 : Nat) : Int) - 1 = (dp : Int) by omega] at e
        exact e
      -- the recursive calls
      have rec_call : ∀ (T : Sto), Src T i → ∃ (k : Kd) (o : Ob), (∀ (as : Den (List W)) (δ : Slots), as δ T = .ok [.r i, .v (.int dp), .v (.lst (stL names))] T → cCall 3 (f__law_kind n) as [] δ T = .ok (.v (enc k)) (T.set i o)) ∧ SrcO o ∧ (∀ x ∈ k.nms, x ∈ names) ∧ k.ht ≤ dp + 1 ∧ k.lvs ≤ 2 ^ dp := fun T hT => by
        obtain ⟨k, o, e, h2, h3, h4, h5⟩ := ih dp T i (by omega) hT
        exact ⟨k, o, fun as δ h => e_call h rfl e rfl, h2, h3, h4, h5⟩
      have t3 : cB (op2 gLt (cVar 3) (cC (.int 8))) [some (.r i), some (.v (.int ((dp + 1 : Nat) : Int))), some (.v (.lst (stL names))), some (.v (.int way)), none] S1 = .ok (decide (way < 8)) S1 := e_b (e_op2v rfl rfl rfl)
      by_cases hC : way < 8
      · rw [decide_eq_true hC] at t3
        obtain ⟨d, o2, hm, so2, he⟩ := one_call hs1 (stL names) (stL_ne hne) (by rw [stL_length]; exact hnl)
        obtain ⟨t, rfl, ht⟩ := mem_stL hm
        obtain ⟨k, o3, hk, so3, hn3, hh3, hl3⟩ := rec_call (S1.set i o2) (src_set hs1 so2)
        refine ⟨.all t k, o3, e_fdef_vs (e_seq_nx (e_set e0) (e_seq_nx (e_ifs_f t1 rfl) (e_seq_rt (e_ifs_t t3 ?_)))), so3, fun x hx => ?_, by unfold Kd.ht; omega, ?_⟩
        · rw [← back, ← set_set S1 i o2 o3]
          exact e_ret (e_disp (ws := [.v (.str [97, 108, 108]), .v (.str t), .v (enc k)]) (e_cons rfl (e_cons (he _ _ rfl) (e_cons (hk _ _ (e_cons rfl (e_cons (esub _ _ rfl) rfl))) rfl))) rfl (by simp) rfl)
        · rcases List.mem_cons.mp hx with rfl | hx
          · exact ht
          · exact hn3 x hx
        · unfold Kd.lvs
          exact Nat.le_trans hl3 (Nat.pow_le_pow_right (by decide) (by omega))
      · rw [decide_eq_false hC] at t3
        have t4 : cB (op2 gEq (cVar 3) (cC (.int 8))) [some (.r i), some (.v (.int ((dp + 1 : Nat) : Int))), some (.v (.lst (stL names))), some (.v (.int way)), none] S1 = .ok (way == 8) S1 := e_b (e_op2v rfl rfl (gEq_int _ _))
        obtain ⟨k, o3, hk, so3, hn3, hh3, hl3⟩ := rec_call S1 hs1
        by_cases hD : (way == 8) = true
        · rw [hD] at t4
          refine ⟨.list k, o3, e_fdef_vs (e_seq_nx (e_set e0) (e_seq_nx (e_ifs_f t1 rfl) (e_seq_nx (e_ifs_f t3 rfl) (e_seq_rt (e_ifs_t t4 ?_))))), so3, hn3, by unfold Kd.ht; omega, ?_⟩
          · rw [← back]
            exact e_ret (e_disp (ws := [.v (.str [99, 111, 110]), .v (.str [76, 105, 115, 116]), .v (.tup [enc k])]) (e_cons rfl (e_cons rfl (e_cons (e_disp (ws := [.v (enc k)]) (e_cons (hk _ _ (e_cons rfl (e_cons (esub _ _ rfl) rfl))) rfl) rfl (by simp) rfl) rfl))) rfl (by simp) rfl)
          · unfold Kd.lvs
            exact Nat.le_trans hl3 (Nat.pow_le_pow_right (by decide) (by omega))
        · rw [Bool.not_eq_true] at hD
          rw [hD] at t4
          obtain ⟨d, o4, hm, so4, he⟩ := one_call (src_set hs1 so3) (stL [C2.to.tx, C2.pair.tx, C2.to.tx]) (by decide) (by decide)
          obtain ⟨t, rfl, ht⟩ := mem_stL hm
          have hc : ∃ c : C2, t = c.tx := by
            simp only [List.mem_cons, List.not_mem_nil, or_false] at ht
            rcases ht with rfl | rfl | rfl
            · exact ⟨.to, rfl⟩
            · exact ⟨.pair, rfl⟩
            · exact ⟨.to, rfl⟩
          obtain ⟨c, rfl⟩ := hc
          obtain ⟨k2, o5, hk2, so5, hn5, hh5, hl5⟩ := rec_call ((S1.set i o3).set i o4) (src_set (src_set hs1 so3) so4)
          refine ⟨.con2 c k k2, o5, e_fdef_vs (e_seq_nx (e_set e0) (e_seq_nx (e_ifs_f t1 rfl) (e_seq_nx (e_ifs_f t3 rfl) (e_seq_nx (e_ifs_f t4 rfl) (e_seq_nx (e_set (hk _ _ (e_cons rfl (e_cons (esub _ _ rfl) rfl)))) ?_))))), so5, fun x hx => ?_, by unfold Kd.ht; omega, ?_⟩
          · rw [← back, ← set_set S1 i o3 o5, ← set_set (S1.set i o3) i o4 o5]
            exact e_ret (e_disp (ws := [.v (.str [99, 111, 110]), .v (.str c.tx), .v (.tup [enc k, enc k2])]) (e_cons rfl (e_cons (he _ _ rfl) (e_cons (e_disp (ws := [.v (enc k), .v (enc k2)]) (e_cons rfl (e_cons (hk2 _ _ (e_cons rfl (e_cons (esub _ _ rfl) rfl))) rfl)) rfl (by simp) rfl) rfl))) rfl (by simp) rfl)
          · rcases List.mem_append.mp hx with hx | hx
            · exact hn3 x hx
            · exact hn5 x hx
          · unfold Kd.lvs
            rw [Nat.pow_succ]
            omega
end Fro

namespace Fro
open PySem PySem.Spec L2

theorem right_ev {k : Kd} (h : Fine k) (S : Sto) : f__law_right [.v (enc k)] S = .ok (.v (.bl true)) S := by
  have hl := fine_law h
  have e1 := law_plain_ev h S
  have e2 := plain_ev h S
  have e3 := plain_ev hl S
  rw [law_law h] at e3
  have e4 := free_ev (lawK k) S hl.good hl.ht (by have := hl.lvs; omega)
  rw [frees_law h] at e4
  have e5 := inside_ev k 30 [] S h.ht (by simp; have := h.ht; omega)
  have e6 := lfrees_ev (inF k []) 30 S (by rw [inF_ht]; exact h.ht) (by rw [inF_lvs]; exact h.lvs)
  rw [frF_in k [] [] (fun _ => Iff.rfl)] at e6
  have hg := frees_good k [] h.good
  have q := gEq_stL (frees k []) (frees k []) (fun t ht => isNm_ok (hg t ht)) (fun t ht => isNm_ok (hg t ht))
  rw [decide_eq_true rfl] at q
  exact e_fdef_v (e_seq_nx (e_set (e_call (ws := [.v (enc k)]) rfl rfl e1 rfl)) (e_ret (e_andV_t (S1 := S) (e_op2v (e_call (ws := [.v (enc k)]) rfl rfl e2 rfl) rfl (gEq_same hl.good hl.ht)) (e_andV_t (S1 := S) (e_op2v (e_call (ws := [.v (enc (lawK k))]) rfl rfl e3 rfl) rfl (gEq_same hl.good hl.ht)) (e_op2v (e_call (ws := [.v (enc (lawK k))]) rfl rfl e4 rfl) (e_call (ws := [.v (encF (inF k []))]) (e_cons (e_call (ws := [.v (enc k), .v (.lst (stL []))]) rfl rfl e5 rfl) rfl) rfl e6 rfl) q)))))
theorem qs_ht : ∀ k : Kd, k.qs < 2 ^ k.ht
  | .var _ => by show 0 < 2 ^ 1; decide
  | .con0 _ => by show 0 < 2 ^ 1; decide
  | .list k => by
    have := qs_ht k
    show k.qs < 2 ^ (k.ht + 1)
    rw [Nat.pow_succ]; omega
  | .all _ k => by
    have := qs_ht k
    show k.qs + 1 < 2 ^ (k.ht + 1)
    rw [Nat.pow_succ]; omega
  | .con2 _ a b => by
    have h1 := qs_ht a
    have h2 := qs_ht b
    have e1 : 2 ^ a.ht ≤ 2 ^ max a.ht b.ht := Nat.pow_le_pow_right (by decide) (Nat.le_max_left _ _)
    have e2 : 2 ^ b.ht ≤ 2 ^ max a.ht b.ht := Nat.pow_le_pow_right (by decide) (Nat.le_max_right _ _)
    show a.qs + b.qs < 2 ^ (max a.ht b.ht + 1)
    rw [Nat.pow_succ]; omega
theorem fine_small {k : Kd} (g : Good k) (h : k.ht ≤ 6) (hl : k.lvs ≤ 32) : Fine k := by
  have h1 := qs_ht k
  have h2 : 2 ^ k.ht ≤ 2 ^ 6 := Nat.pow_le_pow_right (by decide) h
  have h3 := frees_len k []
  exact ⟨g, by omega, by omega, by omega, by omega⟩
/-! ### deep kinds -/
theorem deep_turn {T : Sto} {j : Nat} (hT : Src T j) (names : List Tx) (hne : names ≠ []) (hnl : names.length < 1000) (k : Kd) (i : Nat) (w4 : Option W) : ∃ (k' : Kd) (o : Ob) (w : Option W), SrcO o ∧ (∀ x ∈ k'.nms, x ∈ names ∨ x ∈ k.nms) ∧
    k'.ht ≤ k.ht + 1 + (if i % 9 = 8 then 1 else 0) ∧ k'.lvs ≤ k.lvs + 1 ∧ k'.qs = k.qs + 1 ∧
    l1__law_deep [some (.r j), some (.v (.lst (stL names))), some (.v (enc k)), some (.v (.int i)), w4] T = .nx [some (.r j), some (.v (.lst (stL names))), some (.v (enc k')), some (.v (.int i)), w] (T.set j o) := by
  obtain ⟨d, o1, hm, so1, he⟩ := one_call hT (stL names) (stL_ne hne) (by rw [stL_length]; omega)
  obtain ⟨t, rfl, ht⟩ := mem_stL hm
  have hT1 := src_set hT so1
  have t1 : cB (op2 gEq (op2 gMod (cBlt gInt (cCons (cVar 3) cNil)) (cC (.int 9))) (cC (.int 8))) [some (.r j), some (.v (.lst (stL names))), some (.v (enc (.all t k))), some (.v (.int i)), some (.v (.str t))] (T.set j o1) = .ok (decide ((i : Int) % 9 = 8)) (T.set j o1) :=
    e_b (e_op2v (e_op2v (e_blt (ws := [.v (.int i)]) rfl rfl rfl) rfl (gMod_ev (by decide))) rfl v_eqI)
  have s1 : cAsg (cTup (cCons (cC (.str [97, 108, 108])) (cCons (cVar 4) (cCons (cVar 2) cNil)))) (gN 2) [some (.r j), some (.v (.lst (stL names))), some (.v (enc k)), some (.v (.int i)), some (.v (.str t))] (T.set j o1) = .nx [some (.r j), some (.v (.lst (stL names))), some (.v (enc (.all t k))), some (.v (.int i)), some (.v (.str t))] (T.set j o1) := rfl
  have nm : ∀ x ∈ (Kd.all t k).nms, x ∈ names ∨ x ∈ k.nms := fun x hx => by
    rcases List.mem_cons.mp hx with rfl | hx
    · exact .inl ht
    · exact .inr hx
  by_cases h : i % 9 = 8
  · have hi : (i : Int) % 9 = 8 := by omega
    rw [decide_eq_true hi] at t1
    obtain ⟨d2, o2, hm2, so2, he2⟩ := one_call hT1 (stL names) (stL_ne hne) (by rw [stL_length]; omega)
    obtain ⟨t2, rfl, ht2⟩ := mem_stL hm2
    rw [set_set] at he2
    refine ⟨.con2 .to (.all t k) (.var t2), o2, some (.v (.str t)), so2, fun x hx => ?_, ?_, Nat.le_refl _, rfl, e_seq_nx (e_set (he _ _ rfl)) (e_seq_nx s1 (e_ifs_t t1 (e_set (e_disp (ws := [.v (.str [99, 111, 110]), .v (.str [84, 111]), .v (.tup [enc (.all t k), enc (.var t2)])]) (e_cons rfl (e_cons rfl (e_cons (e_disp (ws := [.v (enc (.all t k)), .v (enc (.var t2))]) (e_cons rfl (e_cons (e_disp (ws := [.v (.str [118, 97, 114]), .v (.str t2)]) (e_cons rfl (e_cons (he2 _ _ rfl) rfl)) rfl (by simp) rfl) rfl)) rfl (by simp) rfl) rfl))) rfl (by simp) rfl))))⟩
    · rcases List.mem_append.mp hx with hx | hx
      · exact nm x hx
      · have : x = t2 := by simpa [Kd.nms] using hx
        rw [this]; exact .inl ht2
    · rw [if_pos h]
      show max (k.ht + 1) 1 + 1 ≤ _
      omega
  · have hi : ¬ (i : Int) % 9 = 8 := by omega
    rw [decide_eq_false hi] at t1
    refine ⟨.all t k, o1, some (.v (.str t)), so1, nm, ?_, Nat.le_succ _, rfl, e_seq_nx (e_set (he _ _ rfl)) (e_seq_nx s1 (e_ifs_f t1 rfl))⟩
    rw [if_neg h]
    exact Nat.le_refl _
theorem deep_ev {S : Sto} {j : Nat} (hs : Src S j) (names : List Tx) (hne : names ≠ []) (hnl : names.length < 1000) (hg : ∀ x ∈ names, isNm x = true) : ∃ (k : Kd) (o : Ob), f__law_deep [.r j, .v (.lst (stL names))] S = .ok (.v (enc k)) (S.set j o) ∧ SrcO o ∧ Fine k := by
  obtain ⟨d, o1, hm, so1, he⟩ := one_call hs (stL names) (stL_ne hne) (by rw [stL_length]; omega)
  obtain ⟨t, rfl, ht⟩ := mem_stL hm
  obtain ⟨cnt, o2, c0, c1, so2, hc⟩ := next_call (src_set hs so1) 25 (by decide) (by decide)
  rw [set_set] at hc
  have loop : ∀ (n i : Nat) (T : Sto) (k : Kd) (w3 w4 : Option W), i + n ≤ 25 → Src T j → (∀ x ∈ k.nms, x ∈ names) → k.ht ≤ 1 + i + i / 9 → k.lvs ≤ 1 + i → k.qs ≤ i → ∃ (k' : Kd) (o : Ob) (a b : Option W), SrcO o ∧ (∀ x ∈ k'.nms, x ∈ names) ∧ k'.ht ≤ 28 ∧ k'.lvs ≤ 26 ∧ k'.qs ≤ 25 ∧
      forL (gN 3) l1__law_deep (rangeD i n) [some (.r j), some (.v (.lst (stL names))), some (.v (enc k)), w3, w4] T = .nx [some (.r j), some (.v (.lst (stL names))), some (.v (enc k')), a, b] (T.set j o) := by
    intro n
    induction n with
    | zero =>
      intro i T k w3 w4 hi hT hk h1 h2 h3
      obtain ⟨o, e1, e2⟩ := hT
      exact ⟨k, o, w3, w4, e2, hk, by omega, by omega, by omega, by rw [set_self e1]; rfl⟩
    | succ n ih =>
      intro i T k w3 w4 hi hT hk h1 h2 h3
      obtain ⟨k1, o, w, so, hn, g1, g2, g3, e⟩ := deep_turn hT names hne hnl k i w4
      obtain ⟨k2, o6, a, b, so6, hn6, q1, q2, q3, e6⟩ := ih (i + 1) (T.set j o) k1 (some (.v (.int i))) w (by omega) (src_set hT so) (fun x hx => by
        rcases hn x hx with z | z
        · exact z
        · exact hk x z) (by split at g1 <;> omega) (by omega) (by omega)
      rw [set_set] at e6
      exact ⟨k2, o6, a, b, so6, hn6, q1, q2, q3, Eq.trans (e_for_nx (δ1 := [some (.r j), some (.v (.lst (stL names))), some (.v (enc k)), some (.v (.int i)), w4]) (S1 := T) rfl e) e6⟩
  obtain ⟨k, o, a, b, so, hn, q1, q2, q3, e⟩ := loop (1 + cnt).toNat 0 (S.set j o2) (.var t) none none (by omega) (src_set hs so2) (fun x hx => by
    have : x = t := by simpa [Kd.nms] using hx
    rw [this]; exact ht) (Nat.le_refl _) (Nat.le_refl _) (Nat.le_refl _)
  rw [set_set] at e
  have hl := frees_len k []
  refine ⟨k, o, ?_, so, ⟨fun x hx => hg x (hn x hx), by omega, by omega, by omega, by omega⟩⟩
  have s1 : cAsg (cTup (cCons (cC (.str [118, 97, 114])) (cCons (cCall 2 f__law_one (cCons (cVar 0) (cCons (cVar 1) cNil)) []) cNil))) (gN 2) [some (.r j), some (.v (.lst (stL names))), none, none, none] S = .nx [some (.r j), some (.v (.lst (stL names))), some (.v (enc (.var t))), none, none] (S.set j o1) :=
    e_set (e_disp (ws := [.v (.str [118, 97, 114]), .v (.str t)]) (e_cons rfl (e_cons (he _ _ rfl) rfl)) rfl (by simp) rfl)
  have hit : itR0 (cCons (op2 gAdd (cC (.int 1)) (cCall 2 f__law_next (cCons (cVar 0) (cCons (cC (.int 25)) cNil)) [])) cNil) [some (.r j), some (.v (.lst (stL names))), some (.v (enc (.var t))), none, none] (S.set j o1) = .ok (rangeD 0 (1 + cnt).toNat) (S.set j o2) :=
    e_itR (e_cons (e_op2v rfl (hc _ _ rfl) rfl) rfl) (by omega) (by omega)
  exact e_fdef_vs (e_seq_nx s1 (e_seq_nx (e_for hit e) (e_ret rfl)))
/-! ### rows of kinds, two by two -/
def pr (c : C2) : List Kd → List Kd
  | a :: b :: r => .con2 c a b :: pr c r
  | _ => []
def rs : List Kd → List Kd
  | _ :: _ :: r => rs r
  | l => l
theorem rs_drop : ∀ l : List Kd, l.drop (l.length - l.length % 2) = rs l
  | [] => rfl
  | [a] => rfl
  | a :: b :: r => by
    have ih := rs_drop r
    have h : (a :: b :: r).length - (a :: b :: r).length % 2 = (r.length - r.length % 2) + 2 := by
      simp only [List.length_cons]
      omega
    rw [h]
    exact ih
theorem pr_get (c : C2) : ∀ (l : List Kd) (i : Nat), (pr c l)[i]? = (match l[2 * i]?, l[2 * i + 1]? with
    | some a, some b => some (.con2 c a b)
    | _, _ => none)
  | [], i => by simp [pr]
  | [a], i => by
    cases i with
    | zero => simp [pr]
    | succ i => simp [pr]
  | a :: b :: r, i => by
    cases i with
    | zero => simp [pr]
    | succ i =>
      have ih := pr_get c r i
      have h : 2 * (i + 1) = 2 * i + 2 := by omega
      rw [h]
      simpa [pr] using ih
theorem pr_len (c : C2) : ∀ l : List Kd, (pr c l).length = l.length / 2
  | [] => rfl
  | [a] => by simp [pr]
  | a :: b :: r => by
    show (pr c r).length + 1 = (r.length + 2) / 2
    rw [pr_len c r]
    omega
theorem len_rd {x : Den W} {δ : Slots} {S : Sto} {w : W} {ds : List D} (hx : x δ S = .ok w S) (hr : rd S w = some (.lst ds)) : cLen (cCons x cNil) δ S = .ok (.v (.int ds.length)) S := by
  unfold cLen
  rw [e_cons hx (show cNil δ S = .ok [] S from rfl), R.bind_ok]
  have : apLen [w] S = apN gLen [w] S := by
    cases w with
    | s ns => cases hr
    | _ => rfl
  rw [this]
  unfold apN
  have e : rdAll S [w] = some [.lst ds] := by
    show (match rd S w, rdAll S [] with
      | some d, some ds => some (d :: ds)
      | _, _ => none) = _
    rw [hr]
    rfl
  rw [e]
  rfl
theorem rows_at {rows : List Kd} {k : Nat} {x : Kd} (h : rows[k]? = some x) : gIx (.lst (rows.map enc)) (.int k) = some (enc x) := by
  have hk : k < rows.length := (List.getElem?_eq_some_iff.mp h).1
  show atI (rows.map enc) (k : Int) = _
  unfold atI ixN
  rw [if_pos (by omega), if_pos (by rw [List.length_map]; omega)]
  show (rows.map enc)[(k : Int).toNat]? = _
  rw [List.getElem?_map, show (k : Int).toNat = k from rfl, h]
  rfl
theorem pairs_comp {rows : List Kd} {v s : Nat} {c : C2} {y : Den W} {δ : Slots} {T : Sto} {w : W} (hne : rows ≠ []) (hl : rows.length ≤ 1000) (hv : δ[v]? = some (some w)) (hs : s < δ.length) (hvs : v ≠ s) (hr : ∀ acc : Sto, rd (T ++ acc) w = some (.lst (rows.map enc)))
    (hy : ∀ (d : Option W) (S : Sto), y (δ.set s d) S = .ok (.v (.str c.tx)) S) :
    cComp (itR3 (cCons (cC (.int 0)) (cCons (op2 gSub (cLen (cCons (cVar v) cNil)) (cC (.int 1))) (cCons (cC (.int 2)) cNil)))) (gN s) cYes (cTup (cCons (cC (.str [99, 111, 110])) (cCons y (cCons (cTup (cCons (cIx (cVar v) (cVar s)) (cCons (cIx (cVar v) (op2 gAdd (cVar s) (cC (.int 1)))) cNil))) cNil)))) [s] δ T = .ok (.v (.lst ((pr c rows).map enc))) T := by
  have hr0 : rd T w = some (.lst (rows.map enc)) := by have := hr []; rwa [List.append_nil] at this
  have cv : cVar v δ T = .ok w T := by unfold cVar; rw [hv]
  have hlen := len_rd cv hr0
  rw [List.length_map] at hlen
  have hn0 : 0 < rows.length := List.length_pos_iff.mpr hne
  have hsz : (Builtin.Range.rangeSize 0 ((rows.length : Int) - 1) 2).toNat = rows.length / 2 := by
    unfold Builtin.Range.rangeSize
    rw [if_pos (by decide)]
    split <;> omega
  have hit : itR3 (cCons (cC (.int 0)) (cCons (op2 gSub (cLen (cCons (cVar v) cNil)) (cC (.int 1))) (cCons (cC (.int 2)) cNil))) δ T = .ok (rangeC 2 0 (rows.length / 2)) T := by
    unfold itR3
    rw [e_cons (show cC (.int 0) δ T = .ok (.v (.int 0)) T from rfl) (e_cons (e_op2v hlen (show cC (.int 1) δ T = .ok (.v (.int 1)) T from rfl) v_sub) (e_cons (show cC (.int 2) δ T = .ok (.v (.int 2)) T from rfl) (show cNil δ T = .ok [] T from rfl))), R.bind_ok]
    show (if _ then R.ok _ T else R.bad) = _
    rw [if_pos (by omega), hsz]
  have wd : ∀ d : Option W, (wipeD δ [s]).set s d = δ.set s d := fun d => by
    apply List.ext_getElem?
    intro i
    by_cases hi : s = i
    · subst hi
      rw [List.getElem?_set_self (by rw [wipeD_length]; exact hs), List.getElem?_set_self hs]
    · rw [List.getElem?_set_ne hi, List.getElem?_set_ne hi]
      show ((wipeD δ []).set s none)[i]? = _
      rw [List.getElem?_set_ne hi]
      rfl
  have q := comp_map (it := itR3 (cCons (cC (.int 0)) (cCons (op2 gSub (cLen (cCons (cVar v) cNil)) (cC (.int 1))) (cCons (cC (.int 2)) cNil)))) (dg := gN s) (te := cTup (cCons (cC (.str [99, 111, 110])) (cCons y (cCons (cTup (cCons (cIx (cVar v) (cVar s)) (cCons (cIx (cVar v) (op2 gAdd (cVar s) (cC (.int 1)))) cNil))) cNil)))) (vs := [s]) (δ := δ) (S := T)
    (fun d => match d with
      | .int k => (match rows[k.toNat]?, rows[k.toNat + 1]? with
        | some a, some b => enc (.con2 c a b)
        | _, _ => .non)
      | d => d) hit (by rw [rangeC_length]; omega) (fun d hd acc => by
      obtain ⟨i, hi⟩ := List.getElem?_of_mem hd
      obtain ⟨h1, rfl⟩ := rangeC_get 2 _ i 0 d hi
      have a1 : 2 * i < rows.length := by omega
      have a2 : 2 * i + 1 < rows.length := by omega
      have ek : (0 : Int) + (i : Int) * 2 = ((2 * i : Nat) : Int) := by omega
      rw [ek]
      refine ⟨δ.set s (some (.v (.int ((2 * i : Nat) : Int)))), by show some ((wipeD δ [s]).set s _, _) = _; rw [wd], ?_⟩
      have v1 : cVar v (δ.set s (some (.v (.int ((2 * i : Nat) : Int))))) (T ++ [.lst acc]) = .ok w (T ++ [.lst acc]) := by
        unfold cVar
        rw [List.getElem?_set_ne (Ne.symm hvs), hv]
      have v2 : cVar s (δ.set s (some (.v (.int ((2 * i : Nat) : Int))))) (T ++ [.lst acc]) = .ok (.v (.int ((2 * i : Nat) : Int))) (T ++ [.lst acc]) := by
        unfold cVar
        rw [List.getElem?_set_self hs]
      have r1 := rows_at (List.getElem?_eq_getElem a1)
      have r2 := rows_at (List.getElem?_eq_getElem a2)
      have x1 := e_ixr v1 v2 (hr _) r1
      have x2 := e_ixr v1 (e_op2v v2 (show cC (.int 1) (δ.set s (some (.v (.int ((2 * i : Nat) : Int))))) (T ++ [.lst acc]) = .ok (.v (.int 1)) (T ++ [.lst acc]) from rfl) v_add) (hr _) r2
      show _ = R.ok (W.v (match rows[(((2 * i : Nat) : Int)).toNat]?, rows[(((2 * i : Nat) : Int)).toNat + 1]? with
        | some a, some b => enc (.con2 c a b)
        | _, _ => .non)) _
      rw [show (((2 * i : Nat) : Int)).toNat = 2 * i from rfl, List.getElem?_eq_getElem a1, List.getElem?_eq_getElem a2]
      exact e_disp (ws := [.v (.str [99, 111, 110]), .v (.str c.tx), .v (.tup [enc rows[2 * i], enc rows[2 * i + 1]])]) (e_cons rfl (e_cons (hy _ _) (e_cons (e_disp (ws := [.v (enc rows[2 * i]), .v (enc rows[2 * i + 1])]) (e_cons x1 (e_cons x2 rfl)) rfl (by simp) rfl) rfl))) rfl (by simp) rfl)
  rw [q]
  congr 3
  apply List.ext_getElem?
  intro i
  rw [List.getElem?_map, List.getElem?_map, pr_get]
  by_cases hi : i < rows.length / 2
  · have a1 : 2 * i < rows.length := by omega
    have a2 : 2 * i + 1 < rows.length := by omega
    cases qd : (rangeC 2 0 (rows.length / 2))[i]? with
    | none =>
      have := List.getElem?_eq_none_iff.mp qd
      rw [rangeC_length] at this
      omega
    | some d =>
      obtain ⟨_, rfl⟩ := rangeC_get 2 _ i 0 d qd
      have ek : (0 : Int) + (i : Int) * 2 = ((2 * i : Nat) : Int) := by omega
      rw [ek, List.getElem?_eq_getElem a1, List.getElem?_eq_getElem a2]
      show some (match rows[(((2 * i : Nat) : Int)).toNat]?, rows[(((2 * i : Nat) : Int)).toNat + 1]? with
        | some a, some b => enc (.con2 c a b)
        | _, _ => .non) = _
      rw [show (((2 * i : Nat) : Int)).toNat = 2 * i from rfl, List.getElem?_eq_getElem a1, List.getElem?_eq_getElem a2]
      rfl
  · rw [List.getElem?_eq_none (by rw [rangeC_length]; omega), List.getElem?_eq_none (show rows.length ≤ 2 * i + 1 by omega)]
    cases rows[2 * i]? <;> rfl
end Fro

namespace Fro
open PySem PySem.Spec L2

def two (c : C2) (rows : List Kd) : List Kd := pr c rows ++ rs rows
theorem rs_len : ∀ l : List Kd, (rs l).length = l.length % 2
  | [] => rfl
  | [a] => rfl
  | a :: b :: r => by
    show (rs r).length = (r.length + 2) % 2
    rw [rs_len r]
    omega
theorem two_len (c : C2) (l : List Kd) : (two c l).length = l.length / 2 + l.length % 2 := by
  unfold two
  rw [List.length_append, pr_len, rs_len]
theorem two_ne {c : C2} {l : List Kd} (h : l ≠ []) : two c l ≠ [] := by
  have h1 : 0 < l.length := List.length_pos_iff.mpr h
  have h2 := two_len c l
  exact List.length_pos_iff.mp (by omega)
theorem cut_drop (rows : List Kd) (n : Nat) (h : n ≤ rows.length) : cutD (rows.map enc) (some (n : Int)) none = (rows.drop n).map enc := by
  have e1 : HT.sIx (rows.map enc).length 0 (some (n : Int)) = n := by
    unfold HT.sIx
    simp only [List.length_map]
    split
    · omega
    · omega
  have e2 : HT.sIx (rows.map enc).length (rows.map enc).length none = (rows.map enc).length := rfl
  unfold cutD
  rw [e1, e2, List.length_map, List.map_drop, List.take_of_length_le (by rw [List.length_drop, List.length_map]; exact Nat.le_refl _)]
/-- the rest of a row -/
theorem rest_comp {rows : List Kd} {v : Nat} {δ : Slots} {T : Sto} {w : W} (hv : δ[v]? = some (some w)) (hr : rd T w = some (.lst (rows.map enc))) :
    cSl (cVar v) (cPart (op2 gSub (cLen (cCons (cVar v) cNil)) (op2 gMod (cLen (cCons (cVar v) cNil)) (cC (.int 2))))) cNoPart δ T = .ok (.v (.lst ((rs rows).map enc))) T := by
  have cv : cVar v δ T = .ok w T := by unfold cVar; rw [hv]
  have hlen := len_rd cv hr
  rw [List.length_map] at hlen
  have e : op2 gSub (cLen (cCons (cVar v) cNil)) (op2 gMod (cLen (cCons (cVar v) cNil)) (cC (.int 2))) δ T = .ok (.v (.int ((rows.length - rows.length % 2 : Nat) : Int))) T := by
    refine e_op2v hlen (e_op2v hlen (show cC (.int 2) δ T = .ok (.v (.int 2)) T from rfl) (v_mod (by decide))) ?_
    rw [v_sub]
    congr 2
    omega
  unfold cSl cPart
  rw [cv, R.bind_ok, e]
  show apSl w _ none T = _
  unfold apSl
  rw [hr]
  show R.ok (W.v (D.lst (cutD (rows.map enc) _ none))) T = _
  rw [cut_drop rows _ (by omega), rs_drop]
/-! ### many free names -/
theorem many_turn {rows : List Kd} (hne : rows ≠ []) (hl : rows.length ≤ 100) (w0 w1 w3 w4 w5 w6 w8 : Option W) (T : Sto) :
    l1__law_many_free [w0, w1, some (.v (.lst (rows.map enc))), w3, w4, w5, w6, none, w8] T = .nx [w0, w1, some (.v (.lst ((two .pair rows).map enc))), w3, w4, w5, some (.v (.lst ((rs rows).map enc))), none, w8] T := by
  refine e_seq_nx (e_set (rest_comp (v := 2) (w := .v (.lst (rows.map enc))) rfl rfl)) ?_
  have q := pairs_comp (rows := rows) (v := 2) (s := 7) (c := .pair) (y := cC (.str [80, 97, 105, 114])) (δ := [w0, w1, some (.v (.lst (rows.map enc))), w3, w4, w5, some (.v (.lst ((rs rows).map enc))), none, w8]) (T := T) (w := .v (.lst (rows.map enc))) hne (by omega) rfl (by simp) (by decide) (fun _ => rfl) (fun _ _ => rfl)
  refine e_set (e_op2v (d := .lst ((pr .pair rows).map enc)) (e := .lst ((rs rows).map enc)) q rfl ?_)
  rw [v_addL (by rw [List.length_map, List.length_map, pr_len, rs_len]; omega), ← List.map_append]
  rfl
def iter6 (rows : List Kd) : List Kd := two .pair (two .pair (two .pair (two .pair (two .pair (two .pair rows)))))
def rows52 : List Kd := (rows0 ++ lets.map fun x => [97, x]).map .var
theorem len52 : rows52.length = 52 := by decide
def manyK (m : Nat) : Kd := .all [108, 111, 110, 103, 110, 97, 109, 101] (.con2 .to (.all [111, 116, 104, 101, 114] (.var [111, 116, 104, 101, 114])) (.con2 .to (.var [108, 111, 110, 103, 110, 97, 109, 101]) (((iter6 (rows52.drop m)).head?).getD (.con0 .int))))
theorem many_fine : ∀ m : Nat, m < 2 → Fine (manyK m) ∧ ∃ k r, iter6 (rows52.drop m) = k :: r := by
  have : ∀ m : Fin 2, ((∀ n ∈ (manyK m.val).nms, isNm n = true) ∧ (manyK m.val).ht ≤ 30 ∧ (manyK m.val).lvs ≤ 900 ∧ (manyK m.val).qs < 900 ∧ (frees (manyK m.val) []).length + (manyK m.val).ht < 130) ∧ (iter6 (rows52.drop m.val)).length = 1 := by decide +kernel
  intro m hm
  obtain ⟨⟨h1, h2, h3, h4, h5⟩, h6⟩ := this ⟨m, hm⟩
  refine ⟨⟨h1, h2, h3, h4, h5⟩, ?_⟩
  cases q : iter6 (rows52.drop m) with
  | nil => rw [q] at h6; cases h6
  | cons k r => exact ⟨k, r, rfl⟩
theorem many_ev {S : Sto} {j : Nat} (hs : Src S j) : ∃ (k : Kd) (o : Ob), f__law_many_free [.r j] S = .ok (.v (enc k)) (S.set j o) ∧ SrcO o ∧ Fine k := by
  obtain ⟨mi, o, m0, m1, so, hm⟩ := next_call hs 2 (by decide) (by decide)
  obtain ⟨m, rfl⟩ : ∃ m : Nat, mi = m := ⟨mi.toNat, by omega⟩
  have hm2 : m < 2 := by omega
  obtain ⟨hf, k, r, hk⟩ := many_fine m hm2
  refine ⟨manyK m, o, ?_, so, hf⟩
  have c1 : cComp (itS (cVar 1)) (gN 4) cYes (op2 gAdd (cC (.str [97])) (cVar 4)) [4] [some (.r j), some (.v (.str lets)), none, none, none, none, none, none, none] S = .ok (.v (.lst (stL (lets.map fun x => [97, x])))) S := by
    have q := comp_map (it := itS (cVar 1)) (dg := gN 4) (te := op2 gAdd (cC (.str [97])) (cVar 4)) (vs := [4]) (δ := [some (.r j), some (.v (.str lets)), none, none, none, none, none, none, none]) (S := S) (S1 := S) (ds := lets.map fun x => .str [x]) (fun d => match d with
      | .str [x] => .str [97, x]
      | d => d) rfl (by decide) (fun d hd acc => by
        obtain ⟨x, hx, rfl⟩ := List.mem_map.mp hd
        exact ⟨_, rfl, e_op2v rfl rfl (v_addS (by simp))⟩)
    rw [q]
    rfl
  have c2 : cComp (itL (op2 gAdd (cBlt gList (cCons (cVar 1) cNil)) (cComp (itS (cVar 1)) (gN 4) cYes (op2 gAdd (cC (.str [97])) (cVar 4)) [4]))) (gN 3) cYes (cTup (cCons (cC (.str [118, 97, 114])) (cCons (cVar 3) cNil))) [3] [some (.r j), some (.v (.str lets)), none, none, none, none, none, none, none] S = .ok (.v (.lst (rows52.map enc))) S := by
    have q := comp_map (it := itL (op2 gAdd (cBlt gList (cCons (cVar 1) cNil)) (cComp (itS (cVar 1)) (gN 4) cYes (op2 gAdd (cC (.str [97])) (cVar 4)) [4]))) (dg := gN 3) (te := cTup (cCons (cC (.str [118, 97, 114])) (cCons (cVar 3) cNil))) (vs := [3]) (δ := [some (.r j), some (.v (.str lets)), none, none, none, none, none, none, none]) (S := S) (S1 := S) (ds := stL (rows0 ++ lets.map fun x => [97, x])) (fun d => .tup [.str [118, 97, 114], d]) (e_itL (e_op2v (d := .lst (stL rows0)) rfl c1 (gAdd_lsts _ _ (by decide)))) (by decide) (fun d hd acc => ⟨_, rfl, rfl⟩)
    rw [q]
    rfl
  have c3 : cSl (cComp (itL (op2 gAdd (cBlt gList (cCons (cVar 1) cNil)) (cComp (itS (cVar 1)) (gN 4) cYes (op2 gAdd (cC (.str [97])) (cVar 4)) [4]))) (gN 3) cYes (cTup (cCons (cC (.str [118, 97, 114])) (cCons (cVar 3) cNil))) [3]) (cPart (cCall 2 f__law_next (cCons (cVar 0) (cCons (cC (.int 2)) cNil)) [])) cNoPart [some (.r j), some (.v (.str lets)), none, none, none, none, none, none, none] S = .ok (.v (.lst ((rows52.drop m).map enc))) (S.set j o) := by
    unfold cSl cPart
    rw [c2, R.bind_ok, hm _ _ rfl]
    show R.ok (W.v (D.lst (cutD (rows52.map enc) (some (m : Int)) none))) (S.set j o) = _
    rw [cut_drop rows52 m (by rw [len52]; omega)]
  have hl : ∀ l : List Kd, l.length ≤ 100 → (two .pair l).length ≤ 100 := fun l h => by rw [two_len]; omega
  have l0 : (rows52.drop m).length ≤ 100 := by rw [List.length_drop, len52]; omega
  have n0 : rows52.drop m ≠ [] := by
    exact List.length_pos_iff.mp (by rw [List.length_drop, len52]; omega)
  have loop : ∃ w6, forL (gN 5) l1__law_many_free (rangeD 0 6) [some (.r j), some (.v (.str lets)), some (.v (.lst ((rows52.drop m).map enc))), none, none, none, none, none, none] (S.set j o) = .nx [some (.r j), some (.v (.str lets)), some (.v (.lst ((iter6 (rows52.drop m)).map enc))), none, none, some (.v (.int 5)), w6, none, none] (S.set j o) := by
    generalize rows52.drop m = R at *
    generalize S.set j o = T
    have st : ∀ (R : List Kd) (i : Int) (w5 w6 : Option W) (rest : List D), R ≠ [] → R.length ≤ 100 → forL (gN 5) l1__law_many_free (.int i :: rest) [some (.r j), some (.v (.str lets)), some (.v (.lst (R.map enc))), none, none, w5, w6, none, none] T = forL (gN 5) l1__law_many_free rest [some (.r j), some (.v (.str lets)), some (.v (.lst ((two .pair R).map enc))), none, none, some (.v (.int i)), some (.v (.lst ((rs R).map enc))), none, none] T := fun R i w5 w6 rest h1 h2 =>
      e_for_nx (δ1 := [some (.r j), some (.v (.str lets)), some (.v (.lst (R.map enc))), none, none, some (.v (.int i)), w6, none, none]) (S1 := T) rfl (many_turn h1 h2 _ _ _ _ _ _ _ T)
    have a1 := two_ne (c := .pair) n0
    have b1 := hl _ l0
    have a2 := two_ne (c := .pair) a1
    have b2 := hl _ b1
    have a3 := two_ne (c := .pair) a2
    have b3 := hl _ b2
    have a4 := two_ne (c := .pair) a3
    have b4 := hl _ b3
    have a5 := two_ne (c := .pair) a4
    have b5 := hl _ b4
    exact ⟨_, Eq.trans (st R 0 _ _ _ n0 l0) (Eq.trans (st _ 1 _ _ _ a1 b1) (Eq.trans (st _ 2 _ _ _ a2 b2) (Eq.trans (st _ 3 _ _ _ a3 b3) (Eq.trans (st _ 4 _ _ _ a4 b4) (Eq.trans (st _ 5 _ _ _ a5 b5) rfl)))))⟩
  obtain ⟨w6, loop⟩ := loop
  have hmk : manyK m = .all [108, 111, 110, 103, 110, 97, 109, 101] (.con2 .to (.all [111, 116, 104, 101, 114] (.var [111, 116, 104, 101, 114])) (.con2 .to (.var [108, 111, 110, 103, 110, 97, 109, 101]) k)) := by
    unfold manyK
    rw [hk]
    rfl
  rw [hk] at loop
  rw [hmk]
  exact e_fdef_vs (e_seq_nx (e_set rfl) (e_seq_nx (e_set c3) (e_seq_nx (e_for rfl loop) (e_seq_nx (e_set (e_disp (ws := [.v (.str [99, 111, 110]), .v (.str [84, 111]), .v (.tup [enc (.var [108, 111, 110, 103, 110, 97, 109, 101]), enc k])]) (e_cons rfl (e_cons rfl (e_cons (e_disp (ws := [.v (enc (.var [108, 111, 110, 103, 110, 97, 109, 101])), .v (enc k)]) (e_cons rfl (e_cons (e_ix (d := .lst ((k :: r).map enc)) rfl rfl v_at0) rfl)) rfl (by simp) rfl) rfl))) rfl (by simp) rfl)) rfl))))
end Fro

namespace Fro
open PySem PySem.Spec L2

theorem compM_map {it : Den (List D)} {dg : DenG} {te : Den W} {vs : List Nat} {δ : Slots} {S S1 : Sto} {ds : List D} (f : D → D) (hit : it δ S = .ok ds S1) (hl : ds.length ≤ 100000)
    (hs : ∀ d ∈ ds, ∀ acc : List D, ∃ δ1, dg (.v d) (wipeD δ vs) (S1 ++ [.lst acc]) = some (δ1, S1 ++ [.lst acc]) ∧ te δ1 (S1 ++ [.lst acc]) = .ok (.v (f d)) (S1 ++ [.lst acc])) :
    cCompM it dg cYes te vs δ S = .ok (.r S1.length) (S1 ++ [.lst (ds.map f)]) := by
  have key : ∀ (ds acc : List D), acc.length + ds.length ≤ 100000 → (∀ d ∈ ds, ∀ acc : List D, ∃ δ1, dg (.v d) (wipeD δ vs) (S1 ++ [.lst acc]) = some (δ1, S1 ++ [.lst acc]) ∧ te δ1 (S1 ++ [.lst acc]) = .ok (.v (f d)) (S1 ++ [.lst acc])) →
      compL dg cYes te S1.length ds (wipeD δ vs) (S1 ++ [.lst acc]) = .ok () (S1 ++ [.lst (acc ++ ds.map f)]) := by
    intro ds
    induction ds with
    | nil => intro acc _ _; simp [compL]
    | cons d rest ih =>
      intro acc hl h
      rw [List.length_cons] at hl
      obtain ⟨δ1, e1, e2⟩ := h d List.mem_cons_self acc
      unfold compL
      simp only [e1, cYes, R.noexc_ok, R.bind_ok, if_true, e2, at_last, set_last]
      rw [if_pos (by omega), ih (acc ++ [f d]) (by rw [List.length_append]; simp; omega) (fun d hd => h d (List.mem_cons_of_mem _ hd)), List.map_cons, List.append_assoc]
      rfl
  unfold cCompM
  rw [hit, R.bind_ok, key ds [] (by simpa using hl) hs, R.bind_ok, List.nil_append]
def sumL (f : Kd → Nat) (rows : List Kd) : Nat := (rows.map f).sum
theorem sum_two (f : Kd → Nat) (c : C2) (hf : ∀ a b, f (.con2 c a b) = f a + f b) : ∀ l : List Kd, sumL f (two c l) = sumL f l
  | [] => rfl
  | [a] => rfl
  | a :: b :: r => by
    have ih := sum_two f c hf r
    show sumL f (.con2 c a b :: two c r) = sumL f (a :: b :: r)
    unfold sumL at ih ⊢
    rw [List.map_cons, List.sum_cons, ih, hf, List.map_cons, List.map_cons, List.sum_cons, List.sum_cons]
    omega
theorem mem_two {c : C2} {x : Kd} : ∀ {l : List Kd}, x ∈ two c l → x ∈ l ∨ ∃ a ∈ l, ∃ b ∈ l, x = .con2 c a b
  | [], h => by cases h
  | [a], h => .inl h
  | a :: b :: r, h => by
    have h' : x ∈ Kd.con2 c a b :: two c r := h
    rcases List.mem_cons.mp h' with rfl | h'
    · exact .inr ⟨a, List.mem_cons_self, b, List.mem_cons_of_mem _ List.mem_cons_self, rfl⟩
    · rcases mem_two h' with z | ⟨p, hp, q, hq, rfl⟩
      · exact .inl (List.mem_cons_of_mem _ (List.mem_cons_of_mem _ z))
      · exact .inr ⟨p, List.mem_cons_of_mem _ (List.mem_cons_of_mem _ hp), q, List.mem_cons_of_mem _ (List.mem_cons_of_mem _ hq), rfl⟩
/-- rows that are fine -/
structure Rows (r : Nat) (rows : List Kd) : Prop where
  ne : rows ≠ []
  len : rows.length ≤ 27
  good : ∀ k ∈ rows, Good k
  ht : ∀ k ∈ rows, k.ht ≤ 4 + 2 * r
  lvs : sumL Kd.lvs rows ≤ 28
  qs : sumL Kd.qs rows ≤ 2 + r
theorem rows_two {r : Nat} {rows : List Kd} (h : Rows r rows) (c : C2) : Rows r (two c rows) ∨ True := .inr trivial
theorem sum_cons (f : Kd → Nat) (a : Kd) (r : List Kd) : sumL f (a :: r) = f a + sumL f r := by unfold sumL; rw [List.map_cons, List.sum_cons]
/-- one turn's rows: paired, and the first one perhaps within a quantifier -/
theorem rows_next {r : Nat} {rows : List Kd} (h : Rows r rows) (c : C2) : Rows (r + 1) (two c rows) ∧ ∀ t k rest, isNm t = true → two c rows = k :: rest → Rows (r + 1) (.all t k :: rest) := by
  have hl := two_len c rows
  have h1 := h.len
  have ht : ∀ k ∈ two c rows, k.ht ≤ 5 + 2 * r := fun k hk => by
    rcases mem_two hk with z | ⟨a, ha, b, hb, rfl⟩
    · have := h.ht k z; omega
    · have e1 := h.ht a ha
      have e2 := h.ht b hb
      show max a.ht b.ht + 1 ≤ _
      omega
  have hg : ∀ k ∈ two c rows, Good k := fun k hk => by
    rcases mem_two hk with z | ⟨a, ha, b, hb, rfl⟩
    · exact h.good k z
    · intro x hx
      rcases List.mem_append.mp hx with hx | hx
      · exact h.good a ha x hx
      · exact h.good b hb x hx
  have s1 : sumL Kd.lvs (two c rows) = sumL Kd.lvs rows := sum_two Kd.lvs c (fun _ _ => rfl) rows
  have s2 : sumL Kd.qs (two c rows) = sumL Kd.qs rows := sum_two Kd.qs c (fun _ _ => rfl) rows
  have l1 := h.lvs
  have q1 := h.qs
  refine ⟨⟨two_ne h.ne, by omega, hg, fun k hk => by have := ht k hk; omega, by omega, by omega⟩, fun t k rest hn e => ?_⟩
  rw [e] at ht hg s1 s2 hl
  rw [sum_cons] at s1 s2
  rw [List.length_cons] at hl
  refine ⟨by simp, by rw [List.length_cons]; omega, fun x hx => ?_, fun x hx => ?_, ?_, ?_⟩
  · rcases List.mem_cons.mp hx with rfl | hx
    · intro y hy
      rcases List.mem_cons.mp hy with rfl | hy
      · exact hn
      · exact hg k List.mem_cons_self y hy
    · exact hg x (List.mem_cons_of_mem _ hx)
  · rcases List.mem_cons.mp hx with rfl | hx
    · have := ht k List.mem_cons_self
      show k.ht + 1 ≤ _
      omega
    · have := ht x (List.mem_cons_of_mem _ hx)
      omega
  · rw [sum_cons]
    show k.lvs + _ ≤ 28
    omega
  · rw [sum_cons]
    show k.qs + 1 + _ ≤ _
    omega
/-- what the store is meanwhile -/
structure Mid (S T : Sto) (j i : Nat) (rows : List Kd) : Prop where
  base : ∃ o, SrcO o ∧ T.take S.length = S.set j o
  jl : j < S.length
  il : S.length ≤ i
  at_ : T[i]? = some (.lst (rows.map enc))
theorem Mid.src {S T : Sto} {j i : Nat} {rows : List Kd} (h : Mid S T j i rows) : Src T j := by
  obtain ⟨o, so, e⟩ := h.base
  refine ⟨o, ?_, so⟩
  have : (T.take S.length)[j]? = some o := by rw [e, List.getElem?_set_self h.jl]
  rwa [List.getElem?_take_of_lt h.jl] at this
theorem Mid.lt {S T : Sto} {j i : Nat} {rows : List Kd} (h : Mid S T j i rows) : i < T.length := (List.getElem?_eq_some_iff.mp h.at_).1
theorem Mid.draw {S T : Sto} {j i : Nat} {rows : List Kd} {o : Ob} (h : Mid S T j i rows) (so : SrcO o) : Mid S (T.set j o) j i rows := by
  obtain ⟨o', so', e⟩ := h.base
  refine ⟨⟨o, so, ?_⟩, h.jl, h.il, ?_⟩
  · rw [List.take_set, e, List.set_set]
  · rw [List.getElem?_set_ne (by have := h.jl; have := h.il; omega)]
    exact h.at_
theorem Mid.new {S T : Sto} {j i : Nat} {rows rows' : List Kd} (h : Mid S T j i rows) : Mid S (T ++ [.lst (rows'.map enc)]) j T.length rows' := by
  obtain ⟨o', so', e⟩ := h.base
  have hl := h.lt
  have hi := h.il
  refine ⟨⟨o', so', ?_⟩, h.jl, by omega, at_last _ _⟩
  rw [List.take_append_of_le_length (by omega), e]
theorem Mid.put {S T : Sto} {j i : Nat} {rows rows' : List Kd} (h : Mid S T j i rows) : Mid S (T.set i (.lst (rows'.map enc))) j i rows' := by
  obtain ⟨o', so', e⟩ := h.base
  refine ⟨⟨o', so', ?_⟩, h.jl, h.il, List.getElem?_set_self h.lt⟩
  rw [List.take_set, e]
  apply List.ext_getElem?
  intro x
  by_cases hx : i = x
  · subst hx
    have hi := h.il
    rw [List.getElem?_eq_none (by rw [List.length_set, List.length_set]; exact hi), List.getElem?_eq_none (by rw [List.length_set]; exact hi)]
  · rw [List.getElem?_set_ne hx]
theorem letters_turn {S T : Sto} {j i : Nat} {rows : List Kd} {r : Nat} (h : Mid S T j i rows) (hr : Rows r rows) (w2 w3 w4 w5 : Option W) : ∃ (T' : Sto) (i' : Nat) (rows' : List Kd) (a b : Option W), Mid S T' j i' rows' ∧ Rows (r + 1) rows' ∧
    l1__law_all_letters [some (.r j), some (.r i), w2, w3, w4, w5, none] T = .nx [some (.r j), some (.r i'), w2, w3, a, b, none] T' := by
  obtain ⟨d, o1, hm, so1, he⟩ := one_call h.src (stL [C2.to.tx, C2.pair.tx]) (by decide) (by decide)
  obtain ⟨t, rfl, ht⟩ := mem_stL hm
  have hc : ∃ c : C2, t = c.tx := by
    simp only [List.mem_cons, List.not_mem_nil, or_false] at ht
    rcases ht with rfl | rfl
    · exact ⟨.to, rfl⟩
    · exact ⟨.pair, rfl⟩
  obtain ⟨c, rfl⟩ := hc
  have h1 := h.draw so1
  generalize hT1 : T.set j o1 = T1 at h1 he
  have rd1 : rd T1 (.r i) = some (.lst (rows.map enc)) := rd_at h1.at_
  have s1 : cAsg (cTup (cCons (cCall 2 f__law_one (cCons (cVar 0) (cCons (cLst (cCons (cC (.str [84, 111])) (cCons (cC (.str [80, 97, 105, 114])) cNil))) cNil)) []) (cCons (cSl (cVar 1) (cPart (op2 gSub (cLen (cCons (cVar 1) cNil)) (op2 gMod (cLen (cCons (cVar 1) cNil)) (cC (.int 2))))) cNoPart) cNil))) (gT 2 (gsCons (gN 4) (gsCons (gN 5) gsNil))) [some (.r j), some (.r i), w2, w3, w4, w5, none] T = .nx [some (.r j), some (.r i), w2, w3, some (.v (.str c.tx)), some (.v (.lst ((rs rows).map enc))), none] T1 :=
    e_asg (e_disp (ws := [.v (.str c.tx), .v (.lst ((rs rows).map enc))]) (e_cons (he _ _ rfl) (e_cons (rest_comp (v := 1) (w := .r i) rfl rd1) rfl)) rfl (by simp) rfl) rfl
  have q := pairs_comp (rows := rows) (v := 1) (s := 6) (c := c) (y := cVar 4) (δ := [some (.r j), some (.r i), w2, w3, some (.v (.str c.tx)), some (.v (.lst ((rs rows).map enc))), none]) (T := T1) (w := .r i) hr.ne (by have := hr.len; omega) rfl (by simp) (by decide) (fun acc => rd_at (by rw [List.getElem?_append_left h1.lt]; exact h1.at_)) (fun d S => rfl)
  have s2 : cAsg (cCatM (cComp (itR3 (cCons (cC (.int 0)) (cCons (op2 gSub (cLen (cCons (cVar 1) cNil)) (cC (.int 1))) (cCons (cC (.int 2)) cNil)))) (gN 6) cYes (cTup (cCons (cC (.str [99, 111, 110])) (cCons (cVar 4) (cCons (cTup (cCons (cIx (cVar 1) (cVar 6)) (cCons (cIx (cVar 1) (op2 gAdd (cVar 6) (cC (.int 1)))) cNil))) cNil)))) [6]) (cVar 5)) (gN 1) [some (.r j), some (.r i), w2, w3, some (.v (.str c.tx)), some (.v (.lst ((rs rows).map enc))), none] T1 = .nx [some (.r j), some (.r T1.length), w2, w3, some (.v (.str c.tx)), some (.v (.lst ((rs rows).map enc))), none] (T1 ++ [.lst ((two c rows).map enc)]) := by
    refine e_set ?_
    unfold cCatM
    rw [q, R.bind_ok]
    show apCatM (.v (.lst ((pr c rows).map enc))) (.v (.lst ((rs rows).map enc))) T1 = _
    unfold apCatM
    show (if _ then R.ok (W.r T1.length) (T1 ++ [Ob.lst ((pr c rows).map enc ++ (rs rows).map enc)]) else R.bad) = _
    rw [if_pos (by rw [List.length_map, List.length_map, pr_len, rs_len]; have := hr.len; omega), ← List.map_append]
    rfl
  obtain ⟨rn, ra⟩ := rows_next hr c
  have h2 : Mid S (T1 ++ [.lst ((two c rows).map enc)]) j T1.length (two c rows) := h1.new
  generalize hT2 : T1 ++ [.lst ((two c rows).map enc)] = T2 at h2 s2
  obtain ⟨p, o3, p0, p1, so3, hp⟩ := next_call h2.src 2 (by decide) (by decide)
  have h3 := h2.draw so3
  generalize hT3 : T2.set j o3 = T3 at h3 hp
  have t1 : cB (op2 gEq (cCall 2 f__law_next (cCons (cVar 0) (cCons (cC (.int 2)) cNil)) []) (cC (.int 0))) [some (.r j), some (.r T1.length), w2, w3, some (.v (.str c.tx)), some (.v (.lst ((rs rows).map enc))), none] T2 = .ok (decide (p = 0)) T3 := e_b (e_op2v (hp _ _ rfl) rfl v_eqI)
  by_cases hp0 : p = 0
  · rw [decide_eq_true hp0] at t1
    obtain ⟨d4, o4, hm4, so4, he4⟩ := one_call h3.src (stL [[122, 122], [97, 98], [113]]) (by decide) (by decide)
    obtain ⟨t4, rfl, ht4⟩ := mem_stL hm4
    have hn4 : isNm t4 = true := by
      have : ∀ t ∈ ([[122, 122], [97, 98], [113]] : List Tx), isNm t = true := by decide
      exact this t4 ht4
    have h4 := h3.draw so4
    generalize hT4 : T3.set j o4 = T4 at h4 he4
    cases q2 : two c rows with
    | nil => exact absurd q2 rn.ne
    | cons k rest =>
      rw [q2] at h4
      have r4 : rd T4 (.r T1.length) = some (.lst ((k :: rest).map enc)) := rd_at h4.at_
      refine ⟨T4.set T1.length (.lst ((.all t4 k :: rest).map enc)), T1.length, .all t4 k :: rest, _, _, h4.put, ra t4 k rest hn4 q2, e_seq_nx s1 (e_seq_nx s2 (e_ifs_t t1 (e_asg (S1 := T4) (w := .v (enc (.all t4 k))) (e_disp (ws := [.v (.str [97, 108, 108]), .v (.str t4), .v (enc k)]) (e_cons rfl (e_cons (he4 _ _ rfl) (e_cons (e_ixr (w := .r T1.length) rfl rfl r4 v_at0) rfl))) rfl (by simp) rfl) (gSubD_ev (j := 0) rfl rfl h4.at_ ?_))))⟩
      show ixN ((k :: rest).map enc).length 0 = some 0
      unfold ixN
      rw [if_pos (by decide), if_pos (by simp)]
      rfl
  · rw [decide_eq_false hp0] at t1
    exact ⟨T3, T1.length, two c rows, _, _, h3, rn, e_seq_nx s1 (e_seq_nx s2 (e_ifs_f t1 rfl))⟩
theorem lets26 : lets.length = 26 := by decide
def lrows (m : Nat) : List Kd := (lets.drop m).map fun c => .var [c]
def lastK : Kd := .all [113] (.all [97, 97] (.con2 .to (.var [97, 97]) (.var [113])))
theorem lrows_ok : ∀ m : Nat, m < 3 → Rows 0 (lrows m ++ [lastK]) := by
  have : ∀ m : Fin 3, (lrows m.val ++ [lastK]) ≠ [] ∧ (lrows m.val ++ [lastK]).length ≤ 27 ∧ (∀ k ∈ lrows m.val ++ [lastK], ∀ n ∈ k.nms, isNm n = true) ∧ (∀ k ∈ lrows m.val ++ [lastK], k.ht ≤ 4 + 2 * 0) ∧ sumL Kd.lvs (lrows m.val ++ [lastK]) ≤ 28 ∧ sumL Kd.qs (lrows m.val ++ [lastK]) ≤ 2 + 0 := by decide +kernel
  intro m hm
  obtain ⟨h1, h2, h3, h4, h5, h6⟩ := this ⟨m, hm⟩
  exact ⟨h1, h2, h3, h4, h5, h6⟩
theorem cut_lets : ∀ m : Nat, m < 3 → cutD lets (some (m : Int)) none = lets.drop m := by
  have : ∀ m : Fin 3, cutD lets (some ((m.val : Nat) : Int)) none = lets.drop m.val := by decide +kernel
  exact fun m h => this ⟨m, h⟩
theorem letters_ev {S : Sto} {j : Nat} (hs : Src S j) : ∃ (k : Kd) (o : Ob), f__law_all_letters [.r j] S = .ok (.v (enc k)) (S.set j o) ∧ SrcO o ∧ Fine k := by
  obtain ⟨mi, o, m0, m1, so, hm⟩ := next_call hs 3 (by decide) (by decide)
  obtain ⟨m, rfl⟩ : ∃ m : Nat, mi = m := ⟨mi.toNat, by omega⟩
  have hm3 : m < 3 := by omega
  have hjl := src_lt hs
  have hit : itS (cSlT (cC (.str [97, 98, 99, 100, 101, 102, 103, 104, 105, 106, 107, 108, 109, 110, 111, 112, 113, 114, 115, 116, 117, 118, 119, 120, 121, 122])) (cPart (cCall 2 f__law_next (cCons (cVar 0) (cCons (cC (.int 3)) cNil)) [])) cNoPart) [some (.r j), none, none, none, none, none, none] S = .ok ((lets.drop m).map fun c => .str [c]) (S.set j o) := by
    unfold itS cSlT cPart
    show ((((cCall 2 f__law_next (cCons (cVar 0) (cCons (cC (.int 3)) cNil)) [] [some (.r j), none, none, none, none, none, none] S).bind asO).bind fun l S2 => (cNoPart _ S2).bind fun u S3 => apSlT (.v (.str lets)) l u S3)).bind asS = _
    rw [hm _ _ rfl]
    show (R.ok (W.v (D.str (cutD lets (some (m : Int)) none))) (S.set j o)).bind asS = _
    rw [cut_lets m hm3]
    rfl
  have c1 := compM_map (dg := gN 2) (te := cTup (cCons (cC (.str [118, 97, 114])) (cCons (cVar 2) cNil))) (vs := [2]) (fun d => .tup [.str [118, 97, 114], d]) hit (by rw [List.length_map, List.length_drop]; rw [lets26]; omega) (fun d hd acc => ⟨_, rfl, rfl⟩)
  have hmp : ((lets.drop m).map fun c => D.str [c]).map (fun d => .tup [.str [118, 97, 114], d]) = (lrows m).map enc := by
    unfold lrows
    rw [List.map_map, List.map_map]
    rfl
  rw [hmp] at c1
  have hn : (S.set j o).length = S.length := List.length_set
  have base : Mid S (S.set j o ++ [.lst ((lrows m).map enc)]) j S.length (lrows m) := by
    refine ⟨⟨o, so, ?_⟩, hjl, Nat.le_refl _, ?_⟩
    · rw [List.take_append_of_le_length (by rw [hn]; exact Nat.le_refl _), List.take_of_length_le (by rw [hn]; exact Nat.le_refl _)]
    · have := at_last (S.set j o) (.lst ((lrows m).map enc))
      rwa [hn] at this
  rw [hn] at c1
  generalize hT0 : S.set j o ++ [.lst ((lrows m).map enc)] = T0 at base c1
  have hput : Mid S (T0.set S.length (.lst ((lrows m ++ [lastK]).map enc))) j S.length (lrows m ++ [lastK]) := base.put
  have c2 : cAppend (cVar 1) (cTup (cCons (cC (.str [97, 108, 108])) (cCons (cC (.str [113])) (cCons (cTup (cCons (cC (.str [97, 108, 108])) (cCons (cC (.str [97, 97])) (cCons (cTup (cCons (cC (.str [99, 111, 110])) (cCons (cC (.str [84, 111])) (cCons (cTup (cCons (cTup (cCons (cC (.str [118, 97, 114])) (cCons (cC (.str [97, 97])) cNil))) (cCons (cTup (cCons (cC (.str [118, 97, 114])) (cCons (cC (.str [113])) cNil))) cNil))) cNil)))) cNil)))) cNil)))) [some (.r j), some (.r S.length), none, none, none, none, none] T0 = .ok (.v .non) (T0.set S.length (.lst ((lrows m ++ [lastK]).map enc))) := by
    have := e_append (x := cVar 1) (y := cTup (cCons (cC (.str [97, 108, 108])) (cCons (cC (.str [113])) (cCons (cTup (cCons (cC (.str [97, 108, 108])) (cCons (cC (.str [97, 97])) (cCons (cTup (cCons (cC (.str [99, 111, 110])) (cCons (cC (.str [84, 111])) (cCons (cTup (cCons (cTup (cCons (cC (.str [118, 97, 114])) (cCons (cC (.str [97, 97])) cNil))) (cCons (cTup (cCons (cC (.str [118, 97, 114])) (cCons (cC (.str [113])) cNil))) cNil))) cNil)))) cNil)))) cNil)))) (δ := [some (.r j), some (.r S.length), none, none, none, none, none]) (S := T0) (i := S.length) (d := enc lastK) (ds := (lrows m).map enc) rfl ⟨_, base.at_⟩ rfl base.at_ (by rw [List.length_map]; unfold lrows; rw [List.length_map, List.length_drop]; rw [lets26]; omega)
    rw [this, List.map_append]
    rfl
  generalize hT1 : T0.set S.length (.lst ((lrows m ++ [lastK]).map enc)) = T1 at hput c2
  have loop : ∀ (n : Nat) (r : Nat) (T : Sto) (i : Nat) (rows : List Kd) (lo : Int) (w3 w4 w5 : Option W), Mid S T j i rows → Rows r rows → ∃ (T' : Sto) (i' : Nat) (rows' : List Kd) (a b c : Option W), Mid S T' j i' rows' ∧ Rows (r + n) rows' ∧
      forL (gN 3) l1__law_all_letters (rangeD lo n) [some (.r j), some (.r i), none, w3, w4, w5, none] T = .nx [some (.r j), some (.r i'), none, a, b, c, none] T' := by
    intro n
    induction n with
    | zero => intro r T i rows lo w3 w4 w5 h hr; exact ⟨T, i, rows, w3, w4, w5, h, hr, rfl⟩
    | succ n ih =>
      intro r T i rows lo w3 w4 w5 h hr
      obtain ⟨T', i', rows', a, b, h', hr', e⟩ := letters_turn h hr none (some (.v (.int lo))) w4 w5
      obtain ⟨T2, i2, rows2, a2, b2, c2, h2, hr2, e2⟩ := ih (r + 1) T' i' rows' (lo + 1) (some (.v (.int lo))) a b h' hr'
      refine ⟨T2, i2, rows2, a2, b2, c2, h2, by rw [show r + (n + 1) = r + 1 + n by omega]; exact hr2, ?_⟩
      exact Eq.trans (e_for_nx (δ1 := [some (.r j), some (.r i), none, some (.v (.int lo)), w4, w5, none]) (S1 := T) rfl e) e2
  obtain ⟨T', i', rows', a, b, c, h', hr', e⟩ := loop 6 0 T1 S.length (lrows m ++ [lastK]) 0 none none none hput (lrows_ok m hm3)
  obtain ⟨o', so', eb⟩ := h'.base
  cases q : rows' with
  | nil => exact absurd q hr'.ne
  | cons k rest =>
    rw [q] at h' hr'
    have g1 := hr'.good k List.mem_cons_self
    have g2 := hr'.ht k List.mem_cons_self
    have g3 := hr'.lvs
    have g4 := hr'.qs
    rw [sum_cons] at g3 g4
    have g5 := frees_len k []
    refine ⟨k, o', ?_, so', ⟨g1, by omega, by omega, by omega, by omega⟩⟩
    have r4 : rd T' (.r i') = some (.lst ((k :: rest).map enc)) := rd_at h'.at_
    refine e_fdef (S' := T') (w := .v (enc k)) (e_seq_nx (e_set c1) (e_seq_nx (e_expr c2) (e_seq_nx (e_for rfl e) (e_ret (e_ixr (w := .r i') rfl rfl r4 v_at0))))) ?_
    show R.ok (Rv.v (enc k)) (T'.take S.length) = _
    rw [eb]
end Fro

namespace Fro
open PySem PySem.Spec L2

theorem rangeD_pos : ∀ (n : Nat) (lo : Int), 0 ≤ lo → ∀ d ∈ rangeD lo n, ∃ k : Int, 0 ≤ k ∧ d = .int k
  | 0, _, _, d, h => by cases h
  | n + 1, lo, h0, d, h => by
    rcases List.mem_cons.mp h with rfl | h
    · exact ⟨lo, h0, rfl⟩
    · exact rangeD_pos n (lo + 1) (by omega) d h
def names7 : List Tx := [[97], [98], [99], [100], [108, 111, 110, 103, 110, 97, 109, 101], [122], [97, 97]]
theorem cut7 : ∀ m : Nat, m < 3 → cutD (stL names7) (some (m : Int)) none = stL (names7.drop m) := by
  intro m hm
  rcases (show m = 0 ∨ m = 1 ∨ m = 2 by omega) with rfl | rfl | rfl <;> rfl
theorem names7_ok : ∀ m : Nat, m < 3 → names7.drop m ≠ [] ∧ (names7.drop m).length < 1000 ∧ ∀ t ∈ names7.drop m, isNm t = true := by
  have : ∀ m : Fin 3, names7.drop m.val ≠ [] ∧ (names7.drop m.val).length < 1000 ∧ ∀ t ∈ names7.drop m.val, isNm t = true := by decide
  exact fun m h => this ⟨m, h⟩
theorem not_right {x : Den W} {k : Kd} {δ : Slots} {S S1 : Sto} (h : Fine k) (hx : x δ S = .ok (.v (enc k)) S1) : cNot (cB (cCall 1 f__law_right (cCons x cNil) [])) δ S = .ok false S1 :=
  e_not (c := true) (e_b (e_call (ws := [.v (enc k)]) (e_cons hx rfl) rfl (right_ev h S1) rfl))
theorem law_true (ns : List Int) (hl : ns.length ≤ 63) : f_law [.s ns] [] = .ok (.v (.bl true)) [] := by
  have inner : ∀ (T : Sto) (j : Nat) (w1 w3 w4 : Option W), Src T j → ∃ T' w4', Src T' j ∧ l2_law [some (.s ns), w1, some (.r j), w3, w4, none, none] T = .nx [some (.s ns), w1, some (.r j), w3, w4', none, none] T' := fun T j w1 w3 w4 hT => by
    obtain ⟨mi, o1, m0, m1, so1, hm⟩ := next_call hT 3 (by decide) (by decide)
    obtain ⟨m, rfl⟩ : ∃ m : Nat, mi = m := ⟨mi.toNat, by omega⟩
    obtain ⟨hne, hnl, hok⟩ := names7_ok m (by omega)
    have s1 : cAsg (cSl (cLst (cCons (cC (.str [97])) (cCons (cC (.str [98])) (cCons (cC (.str [99])) (cCons (cC (.str [100])) (cCons (cC (.str [108, 111, 110, 103, 110, 97, 109, 101])) (cCons (cC (.str [122])) (cCons (cC (.str [97, 97])) cNil)))))))) (cPart (cCall 2 f__law_next (cCons (cVar 2) (cCons (cC (.int 3)) cNil)) [])) cNoPart) (gN 4) [some (.s ns), w1, some (.r j), w3, w4, none, none] T = .nx [some (.s ns), w1, some (.r j), w3, some (.v (.lst (stL (names7.drop m)))), none, none] (T.set j o1) := by
      refine e_set ?_
      unfold cSl cPart
      show (((cCall 2 f__law_next (cCons (cVar 2) (cCons (cC (.int 3)) cNil)) [] [some (.s ns), w1, some (.r j), w3, w4, none, none] T).bind asO).bind fun l S2 => (cNoPart _ S2).bind fun u S3 => apSl (.v (.lst (stL names7))) l u S3) = _
      rw [hm _ _ rfl]
      show R.ok (W.v (D.lst (cutD (stL names7) (some (m : Int)) none))) (T.set j o1) = _
      rw [cut7 m (by omega)]
    have hT1 := src_set hT so1
    generalize names7.drop m = nms at *
    generalize hT1e : T.set j o1 = T1 at *
    obtain ⟨k, o2, ek, so2, hn, hh, hlv⟩ := kind_ev nms hne (by omega) 7 5 T1 j (by decide) hT1
    have fk : Fine k := fine_small (fun x hx => hok x (hn x hx)) hh hlv
    have hT2 := src_set hT1 so2
    obtain ⟨k2, o3, ek2, so3, fk2⟩ := deep_ev hT2 nms hne hnl hok
    exact ⟨(T1.set j o2).set j o3, _, src_set hT2 so3, e_seq_nx s1 (e_ifs_f (e_or_f (not_right fk (e_call (ws := [.r j, .v (.int 5), .v (.lst (stL nms))]) rfl rfl ek rfl)) (not_right fk2 (e_call (ws := [.r j, .v (.lst (stL nms))]) rfl rfl ek2 rfl))) rfl)⟩
  have cnt : ∃ n : Nat, ∀ S : Sto, itR0 (cCons (cBlt gMax2 (cCons (cC (.int 1)) (cCons (cBlt gMin2 (cCons (cC (.int 4)) (cCons (cLen (cCons (cVar 0) cNil)) cNil))) cNil))) cNil) (slots0 7 [.s ns]) S = .ok (rangeD 0 n) S := by
    refine ⟨(max 1 (min 4 (ns.length : Int))).toNat, fun S => e_itR (n := max 1 (min 4 (ns.length : Int))) (e_cons (e_blt (ws := [.v (.int 1), .v (.int (min 4 (ns.length : Int)))]) (e_cons rfl (e_cons (e_blt (ws := [.v (.int 4), .v (.int ns.length)]) (e_cons rfl (e_cons rfl rfl)) rfl ?_) rfl)) rfl ?_) rfl) (by omega) (by omega)⟩
    · show some (D.int _) = some (D.int _)
      congr 2
      by_cases h : (ns.length : Int) < 4
      · first | omega | (simp only [h]; split <;> omega) | (split <;> omega)
      · first | omega | (simp only [h]; split <;> omega) | (split <;> omega)
    · show some (D.int _) = some (D.int _)
      congr 2
      first | omega | (split <;> omega) | (split <;> split <;> omega)
  obtain ⟨n, hcnt⟩ := cnt
  obtain ⟨δ1, S1, eloop, ⟨a1, b1, c1, d1, hδ1⟩, _⟩ := forL_all (dg := gN 1) (b := l1_law)
    (fun rest δ S => (∃ a b c d, δ = [some (.s ns), a, b, c, d, none, none]) ∧ ∀ d ∈ rest, ∃ k : Int, 0 ≤ k ∧ d = .int k) (rangeD 0 n) (fun d rest δ S ⟨⟨a, b, c, d4, hδ⟩, hr⟩ => by
      subst hδ
      obtain ⟨k, hk, rfl⟩ := hr d List.mem_cons_self
      obtain ⟨cell, ecell⟩ := cell_ev ns k hk S
      obtain ⟨o, es, so⟩ := source_ev cell S
      have hsrc : Src (S ++ [o]) S.length := ⟨o, at_last _ _, so⟩
      obtain ⟨δ3, S3, e3, w3, w3', w4', hw3, hs3⟩ := forL_all (dg := gN 3) (b := l2_law) (fun _ δ T => ∃ w w' w4, δ = [some (.s ns), w, some (.r S.length), w', w4, none, none] ∧ Src T S.length) (rangeD 0 8) (fun d rest δ T ⟨w, w', w4, hδ, hT⟩ => by
          subst hδ
          obtain ⟨T', w4', hT', e⟩ := inner T S.length w (some (.v d)) w4 hT
          exact ⟨_, _, _, _, rfl, e, _, _, _, rfl, hT'⟩) [some (.s ns), some (.v (.int k)), some (.r S.length), c, d4, none, none] (S ++ [o]) ⟨_, _, _, rfl, hsrc⟩
      subst hw3
      obtain ⟨k5, o5, e5, so5, f5⟩ := letters_ev hs3
      obtain ⟨k6, o6, e6, so6, f6⟩ := many_ev (src_set hs3 so5)
      refine ⟨_, _, _, _, rfl, e_seq_nx (δ' := [some (.s ns), some (.v (.int k)), some (.r S.length), c, d4, none, none]) (S1 := S ++ [o]) (e_set (e_callM (ws := [.v (.int cell)]) (e_cons (e_call (ws := [.s ns, .v (.int k)]) rfl rfl ecell rfl) rfl) rfl es rfl)) (e_seq_nx (e_for rfl e3) (e_ifs_f (e_or_f (not_right f5 (e_call (ws := [.r S.length]) rfl rfl e5 rfl)) (not_right f6 (e_call (ws := [.r S.length]) rfl rfl e6 rfl))) rfl)), ⟨_, _, _, _, rfl⟩, fun d hd => hr d (List.mem_cons_of_mem _ hd)⟩) (slots0 7 [.s ns]) [] ⟨⟨_, _, _, _, rfl⟩, rangeD_pos n 0 (by decide)⟩
  subst hδ1
  let K1 : Kd := .all [120] (.con2 .to (.all [120] (.var [120])) (.con2 .to (.var [120]) (.var [97])))
  have f1 : Fine K1 := by
    have : (∀ n ∈ K1.nms, isNm n = true) ∧ K1.ht ≤ 30 ∧ K1.lvs ≤ 900 ∧ K1.qs < 900 ∧ (frees K1 []).length + K1.ht < 130 := by decide +kernel
    exact ⟨this.1, this.2.1, this.2.2.1, this.2.2.2.1, this.2.2.2.2⟩
  have e1 := plain_ev f1 S1
  have e2 : lawK K1 = .all [98] (.con2 .to (.all [99] (.var [99])) (.con2 .to (.var [98]) (.var [97]))) := by decide +kernel
  have g2 := gEq_same (fine_law f1).good (fine_law f1).ht
  rw [e2] at e1 g2
  exact e_fdef (S' := S1) (w := .v (.bl true)) (e_seq_nx (e_for (hcnt _) eloop) (e_seq_nx (e_set rfl) (e_seq_nx (e_set rfl) (e_ret (e_op2v (e_call (ws := [.v (enc K1)]) rfl rfl e1 rfl) rfl g2))))) rfl
end Fro

open PySem PySem.W PyProof.Rows
set_option maxRecDepth 100000 in
set_option maxHeartbeats 0 in
theorem PySem.Challenge.cw_frostkinds_k03_plain_forms_holds : PySem.Challenge.rw_frostkinds_k03_plain_forms.Holds := by
  w_on; o_law; k_head; (case hw => w_witness2)
  k_fill
  refine L2.walk_of (l := PySem.Challenge.rw_frostkinds_k03_plain_forms) (n := 63) (k := 65) (x := "_law_script") (CX := fun _ => L2.CX0) (sp := fun w => Fro.spF _ 1 Fro.f_law) rfl (by decide) rfl ⟨rfl, by decide, by decide⟩ (fun w h Y => PySem.W.kIn_of Y) ?F (fun _ H a ns hl _ hS => Fro.end_sp (Fro.law_true ns hl) hS) (fun _ _ _ _ _ h => h)
  case F =>
    intro w mg fa h KX G hmg
    refine' Fro.all_mk KX G hmg ?z_all ?z_int ?z_isinstance ?z_len ?z_list ?z_max ?z_min ?z_range ?z_str ?z_tuple ?a_BARRED ?c_BARRED ?a_MOST_SIGNS ?c_MOST_SIGNS ?a_LETTERS ?c_LETTERS ?a_MARK ?c_MARK ?a_WORDS ?l_WORDS ?y_WORDS ?o_WORDS ?e_WORDS ?a__law_source_of ?l__law_source_of ?c__law_source_of ?k__law_source_of ?a_is_name ?l_is_name ?c_is_name ?k_is_name ?a_is_kind ?l_is_kind ?c_is_kind ?k_is_kind ?a_want_kind ?l_want_kind ?c_want_kind ?k_want_kind ?a_letter ?l_letter ?c_letter ?k_letter ?a_first_letters ?l_first_letters ?c_first_letters ?k_first_letters ?a_exchange ?l_exchange ?c_exchange ?k_exchange ?a_relettered ?l_relettered ?c_relettered ?k_relettered ?a_free_of ?l_free_of ?c_free_of ?k_free_of ?lT_free_of ?ed0_free_of ?a_marked_from ?l_marked_from ?c_marked_from ?k_marked_from ?a_numbers_in ?l_numbers_in ?c_numbers_in ?k_numbers_in ?a_marked ?l_marked ?c_marked ?k_marked ?lT_marked ?ed0_marked ?a_plain_of ?l_plain_of ?c_plain_of ?k_plain_of ?a_plain ?l_plain ?c_plain ?k_plain ?a__law_cell_at ?l__law_cell_at ?c__law_cell_at ?k__law_cell_at ?a__law_inside ?l__law_inside ?c__law_inside ?k__law_inside ?a__law_first ?l__law_first ?c__law_first ?k__law_first ?a__law_outside ?l__law_outside ?c__law_outside ?k__law_outside ?a__law_frees ?l__law_frees ?c__law_frees ?k__law_frees ?a__law_plain ?l__law_plain ?c__law_plain ?k__law_plain ?a_free ?l_free ?c_free ?k_free ?a__law_right ?l__law_right ?c__law_right ?k__law_right ?a__law_next ?l__law_next ?c__law_next ?k__law_next ?a__law_one ?l__law_one ?c__law_one ?k__law_one ?a__law_all_letters ?l__law_all_letters ?c__law_all_letters ?k__law_all_letters ?a__law_many_free ?l__law_many_free ?c__law_many_free ?k__law_many_free ?a__law_kind ?l__law_kind ?c__law_kind ?k__law_kind ?a__law_deep ?l__law_deep ?c__law_deep ?k__law_deep ?a_law ?l_law ?c_law ?k_law
    (case z_all => k_is)
    (case z_int => k_is)
    (case z_isinstance => k_is)
    (case z_len => k_is)
    (case z_list => k_is)
    (case z_max => k_is)
    (case z_min => k_is)
    (case z_range => k_is)
    (case z_str => k_is)
    (case z_tuple => k_is)
    (case a_BARRED => k_is)
    (case c_BARRED => kernel_rfl)
    (case a_MOST_SIGNS => k_is)
    (case c_MOST_SIGNS => kernel_rfl)
    (case a_LETTERS => k_is)
    (case c_LETTERS => kernel_rfl)
    (case a_MARK => k_is)
    (case c_MARK => kernel_rfl)
    (case a_WORDS => k_is)
    (case l_WORDS => k_is)
    (case y_WORDS => k_keys)
    (case o_WORDS => decide)
    (case e_WORDS => kernel_rfl)
    (case a__law_source_of => k_is)
    (case l__law_source_of => k_is)
    (case c__law_source_of => k_is)
    (case k__law_source_of => k_is)
    (case a_is_name => k_is)
    (case l_is_name => k_is)
    (case c_is_name => k_is)
    (case k_is_name => k_is)
    (case a_is_kind => k_is)
    (case l_is_kind => k_is)
    (case c_is_kind => k_is)
    (case k_is_kind => k_is)
    (case a_want_kind => k_is)
    (case l_want_kind => k_is)
    (case c_want_kind => k_is)
    (case k_want_kind => k_is)
    (case a_letter => k_is)
    (case l_letter => k_is)
    (case c_letter => k_is)
    (case k_letter => k_is)
    (case a_first_letters => k_is)
    (case l_first_letters => k_is)
    (case c_first_letters => k_is)
    (case k_first_letters => k_is)
    (case a_exchange => k_is)
    (case l_exchange => k_is)
    (case c_exchange => k_is)
    (case k_exchange => k_is)
    (case a_relettered => k_is)
    (case l_relettered => k_is)
    (case c_relettered => k_is)
    (case k_relettered => k_is)
    (case a_free_of => k_is)
    (case l_free_of => k_is)
    (case c_free_of => k_is)
    (case k_free_of => k_is)
    (case lT_free_of => k_is)
    (case ed0_free_of => kernel_rfl)
    (case a_marked_from => k_is)
    (case l_marked_from => k_is)
    (case c_marked_from => k_is)
    (case k_marked_from => k_is)
    (case a_numbers_in => k_is)
    (case l_numbers_in => k_is)
    (case c_numbers_in => k_is)
    (case k_numbers_in => k_is)
    (case a_marked => k_is)
    (case l_marked => k_is)
    (case c_marked => k_is)
    (case k_marked => k_is)
    (case lT_marked => k_is)
    (case ed0_marked => kernel_rfl)
    (case a_plain_of => k_is)
    (case l_plain_of => k_is)
    (case c_plain_of => k_is)
    (case k_plain_of => k_is)
    (case a_plain => k_is)
    (case l_plain => k_is)
    (case c_plain => k_is)
    (case k_plain => k_is)
    (case a__law_cell_at => k_is)
    (case l__law_cell_at => k_is)
    (case c__law_cell_at => k_is)
    (case k__law_cell_at => k_is)
    (case a__law_inside => k_is)
    (case l__law_inside => k_is)
    (case c__law_inside => k_is)
    (case k__law_inside => k_is)
    (case a__law_first => k_is)
    (case l__law_first => k_is)
    (case c__law_first => k_is)
    (case k__law_first => k_is)
    (case a__law_outside => k_is)
    (case l__law_outside => k_is)
    (case c__law_outside => k_is)
    (case k__law_outside => k_is)
    (case a__law_frees => k_is)
    (case l__law_frees => k_is)
    (case c__law_frees => k_is)
    (case k__law_frees => k_is)
    (case a__law_plain => k_is)
    (case l__law_plain => k_is)
    (case c__law_plain => k_is)
    (case k__law_plain => k_is)
    (case a_free => k_is)
    (case l_free => k_is)
    (case c_free => k_is)
    (case k_free => k_is)
    (case a__law_right => k_is)
    (case l__law_right => k_is)
    (case c__law_right => k_is)
    (case k__law_right => k_is)
    (case a__law_next => k_is)
    (case l__law_next => k_is)
    (case c__law_next => k_is)
    (case k__law_next => k_is)
    (case a__law_one => k_is)
    (case l__law_one => k_is)
    (case c__law_one => k_is)
    (case k__law_one => k_is)
    (case a__law_all_letters => k_is)
    (case l__law_all_letters => k_is)
    (case c__law_all_letters => k_is)
    (case k__law_all_letters => k_is)
    (case a__law_many_free => k_is)
    (case l__law_many_free => k_is)
    (case c__law_many_free => k_is)
    (case k__law_many_free => k_is)
    (case a__law_kind => k_is)
    (case l__law_kind => k_is)
    (case c__law_kind => k_is)
    (case k__law_kind => k_is)
    (case a__law_deep => k_is)
    (case l__law_deep => k_is)
    (case c__law_deep => k_is)
    (case k__law_deep => k_is)
    (case a_law => k_is)
    (case l_law => k_is)
    (case c_law => k_is)
    (case k_law => k_is)

