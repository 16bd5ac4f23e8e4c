import PyProof.Rows.All
import Wide.All
import OpenK.AllK
import Wide.FinOn
import HandS.ForMost
import HandS.IsInst
import HandS.Defaults
import HandS.TupAny
import HandS.Deep
import HandS.Style
import HandS.More
import HandS.Exc
import HandS.ExcInit
import HandS.ExcField
import HandS.Codes
import HandS.Ends
import KE.KExcSuper
import HandS.Nested
import HandS.ClsMeth
import KE.KExcIs
import KE.KIsAll
import HandS.DictComp
import HandS.Conv
import HandS.Rev
import HandS.RaiseMore
import PyProof.ListStr
import PyProof.ReprRoads
import HandS.Text
import HandS.TupLe
import KE.KDictZip
import KE.GoesZip
import KE.GoesMore
import KE.KDictItemsList
import HandS.ListItems
import PySem.Challenge.RW_frostkinds_k52_whole_lets_put_in
set_option Elab.async false
set_option linter.all false
set_option maxRecDepth 100000
set_option maxHeartbeats 4000000
/-! Fro: pure data, a store of mutable lists, denotations, and their soundness over the hand layer. -/
namespace Fro
open PySem PySem.Spec L2

/-! ### data -/
abbrev Tx := List Nat
def sx (t : Tx) : Str := ⟨t.toArray⟩
theorem sx_inj {a b : Tx} (h : sx a = sx b) : a = b := by
  have q := congrArg (fun s : Str => s.cps.toList) h
  simpa [sx] using q

inductive Ty where
  | str | tup | lst | dct | int | bl
def Ty.nm : Ty → String
  | .str => "str" | .tup => "tuple" | .lst => "list" | .dct => "dict" | .int => "int" | .bl => "bool"
inductive D where
  | non | bl (b : Bool) | int (i : Int) | str (t : Tx) | tup (ds : List D) | lst (ds : List D) | dct (es : List (Tx × D)) | ty (n : Ty)
inductive Ob where
  | lst (ds : List D) | dct (es : List (Tx × D)) | dead
abbrev Sto := List Ob
inductive W where
  | v (d : D) | r (i : Nat) | s (ns : List Int) | lk (es : List (Tx × D)) | x (c : Nat) (ds : List D)
inductive R (α : Type) where
  | ok (a : α) (S : Sto) | exc (c : Nat) (ds : List D) (S : Sto) | bad
def R.bind {α β : Type} (x : R α) (f : α → Sto → R β) : R β :=
  match x with
  | .ok a S => f a S
  | .exc c ds S => .exc c ds S
  | .bad => .bad
@[simp] theorem R.bind_ok {α β : Type} (a : α) (S : Sto) (f : α → Sto → R β) : (R.ok a S).bind f = f a S := rfl
@[simp] theorem R.bind_exc {α β : Type} (c : Nat) (ds : List D) (S : Sto) (f : α → Sto → R β) : (R.exc c ds S).bind f = R.exc c ds S := rfl
@[simp] theorem R.bind_bad {α β : Type} (f : α → Sto → R β) : (R.bad).bind f = R.bad := rfl

/-! ### what stands for what -/
mutual
inductive Rp (K : PySem.W.Frag) (H : Hp) (M : Addr → Prop) : D → V → Prop
  | non : Rp K H M .non .non
  | bl (b : Bool) : Rp K H M (.bl b) (.bl b)
  | int (i : Int) : Rp K H M (.int i) (.int i)
  | str (t : Tx) : Rp K H M (.str t) (.str (sx t))
  | ty (n : Ty) : Rp K H M (.ty n) (.ty n.nm)
  | tup {a : Addr} {xs : List V} {ds : List D} : SqT K H a xs → RpL K H M ds xs → Rp K H M (.tup ds) (.ref a)
  | lst {a : Addr} {xs : List V} {ds : List D} : H a = some (.lst xs) → ¬ M a → RpL K H M ds xs → Rp K H M (.lst ds) (.ref a)
  | dct {a : Addr} {kvs : List (Key × V)} {es : List (Tx × D)} : Rd H a (.dK kvs) → ¬ M a → RpE K H M es kvs → Rp K H M (.dct es) (.ref a)
inductive RpL (K : PySem.W.Frag) (H : Hp) (M : Addr → Prop) : List D → List V → Prop
  | nil : RpL K H M [] []
  | cons {d : D} {ds : List D} {v : V} {vs : List V} : Rp K H M d v → RpL K H M ds vs → RpL K H M (d :: ds) (v :: vs)
inductive RpE (K : PySem.W.Frag) (H : Hp) (M : Addr → Prop) : List (Tx × D) → List (Key × V) → Prop
  | nil : RpE K H M [] []
  | cons {t : Tx} {d : D} {es : List (Tx × D)} {v : V} {kvs : List (Key × V)} : Rp K H M d v → RpE K H M es kvs → RpE K H M ((t, d) :: es) ((Sum.inr (sx t), v) :: kvs)
end

section
variable {K : PySem.W.Frag} {H H' : Hp} {M M' : Addr → Prop}
theorem sqT_mono {a : Addr} {xs : List V} (ht : ∀ b xs, H b = some (.tup xs) → H' b = some (.tup xs)) (hf : ∀ b o u, H b = some (.frz o u) → H' b = some (.frz o u)) (h : SqT K H a xs) : SqT K H' a xs := by
  rcases h with (h | ⟨o, h⟩) | h
  · exact .inl (.inl (ht _ _ h))
  · exact .inl (.inr ⟨o, hf _ _ _ h⟩)
  · exact .inr h
theorem rd_mono {a : Addr} {u : HO} (hk : ∀ b o, ¬ M b → H b = some o → H' b = some o) (hf : ∀ b o u, H b = some (.frz o u) → H' b = some (.frz o u)) (n : ¬ M a) (h : Rd H a u) : Rd H' a u := by
  rcases h with h | ⟨o, h⟩
  · exact .inl (hk _ _ n h)
  · exact .inr ⟨o, hf _ _ _ h⟩
theorem rd_some {a : Addr} {u : HO} (h : Rd H a u) : ∃ o, H a = some o := by
  rcases h with h | ⟨o, h⟩
  · exact ⟨_, h⟩
  · exact ⟨_, h⟩
theorem Rp.mono (hk : ∀ b o, ¬ M b → H b = some o → H' b = some o) (ht : ∀ b xs, H b = some (.tup xs) → H' b = some (.tup xs)) (hf : ∀ b o u, H b = some (.frz o u) → H' b = some (.frz o u))
    (hm : ∀ b, M' b → M b ∨ H b = none) {d : D} {v : V} (h : Rp K H M d v) : Rp K H' M' d v := by
  have nm : ∀ {a : Addr} {o : HO}, H a = some o → ¬ M a → ¬ M' a := fun {a o} e n z => by
    rcases hm a z with q | q
    · exact n q
    · rw [e] at q; cases q
  exact Rp.rec (motive_1 := fun d v _ => Rp K H' M' d v) (motive_2 := fun ds vs _ => RpL K H' M' ds vs) (motive_3 := fun es kvs _ => RpE K H' M' es kvs)
    .non .bl .int .str .ty (fun a _ q => .tup (sqT_mono ht hf a) q) (fun e n _ q => .lst (hk _ _ n e) (nm e n) q) (fun e n _ q => .dct (rd_mono hk hf n e) (let ⟨_, z⟩ := rd_some e; nm z n) q)
    .nil (fun _ _ a b => .cons a b) .nil (fun _ _ a b => .cons a b) h
theorem RpL.mono (hk : ∀ b o, ¬ M b → H b = some o → H' b = some o) (ht : ∀ b xs, H b = some (.tup xs) → H' b = some (.tup xs)) (hf : ∀ b o u, H b = some (.frz o u) → H' b = some (.frz o u))
    (hm : ∀ b, M' b → M b ∨ H b = none) : ∀ {ds : List D} {vs : List V}, RpL K H M ds vs → RpL K H' M' ds vs
  | _, _, .nil => .nil
  | _, _, .cons a b => .cons (a.mono hk ht hf hm) (RpL.mono hk ht hf hm b)
theorem RpE.mono (hk : ∀ b o, ¬ M b → H b = some o → H' b = some o) (ht : ∀ b xs, H b = some (.tup xs) → H' b = some (.tup xs)) (hf : ∀ b o u, H b = some (.frz o u) → H' b = some (.frz o u))
    (hm : ∀ b, M' b → M b ∨ H b = none) : ∀ {es : List (Tx × D)} {kvs : List (Key × V)}, RpE K H M es kvs → RpE K H' M' es kvs
  | _, _, .nil => .nil
  | _, _, .cons a b => .cons (a.mono hk ht hf hm) (RpE.mono hk ht hf hm b)
theorem RpL.length : ∀ {ds : List D} {vs : List V}, RpL K H M ds vs → ds.length = vs.length
  | _, _, .nil => rfl
  | _, _, .cons _ b => by rw [List.length_cons, List.length_cons, b.length]
theorem RpL.get : ∀ {ds : List D} {vs : List V} (i : Nat) {d : D}, RpL K H M ds vs → ds[i]? = some d → ∃ v, vs[i]? = some v ∧ Rp K H M d v
  | _, _, _, _, .nil, e => by simp at e
  | _, _, 0, _, .cons a _, e => by simp at e; subst e; exact ⟨_, rfl, a⟩
  | _, _, i + 1, _, .cons _ b, e => by
    obtain ⟨v, h1, h2⟩ := RpL.get i b (by simpa using e)
    exact ⟨v, by simpa using h1, h2⟩
theorem RpL.append : ∀ {ds es : List D} {vs us : List V}, RpL K H M ds vs → RpL K H M es us → RpL K H M (ds ++ es) (vs ++ us)
  | _, _, _, _, .nil, h => h
  | _, _, _, _, .cons a b, h => .cons a (b.append h)
theorem RpL.take : ∀ {ds : List D} {vs : List V} (n : Nat), RpL K H M ds vs → RpL K H M (ds.take n) (vs.take n)
  | _, _, 0, _ => .nil
  | _, _, _ + 1, .nil => .nil
  | _, _, n + 1, .cons a b => .cons a (b.take n)
theorem RpL.drop : ∀ {ds : List D} {vs : List V} (n : Nat), RpL K H M ds vs → RpL K H M (ds.drop n) (vs.drop n)
  | _, _, 0, h => h
  | _, _, _ + 1, .nil => .nil
  | _, _, n + 1, .cons _ b => b.drop n
theorem RpL.reverse : ∀ {ds : List D} {vs : List V}, RpL K H M ds vs → RpL K H M ds.reverse vs.reverse
  | _, _, .nil => .nil
  | _, _, .cons a b => by
    rw [List.reverse_cons, List.reverse_cons]
    exact b.reverse.append (.cons a .nil)
theorem RpL.dropLast {ds : List D} {vs : List V} (h : RpL K H M ds vs) : RpL K H M ds.dropLast vs.dropLast := by
  rw [List.dropLast_eq_take, List.dropLast_eq_take, ← h.length]
  exact h.take _
theorem RpL.set : ∀ {ds : List D} {vs : List V} (i : Nat) {d : D} {v : V}, RpL K H M ds vs → Rp K H M d v → RpL K H M (ds.set i d) (vs.set i v)
  | _, _, _, _, _, .nil, _ => .nil
  | _, _, 0, _, _, .cons _ b, h => .cons h b
  | _, _, i + 1, _, _, .cons a b, h => .cons a (b.set i h)
end

/-! ### the store -/
def alive : Ob → Bool
  | .dead => false
  | _ => true
def live (ρ : List Addr) (S : Sto) : Addr → Prop := fun a => ∃ (i : Nat) (o : Ob), ρ[i]? = some a ∧ S[i]? = some o ∧ alive o = true
def RpO (K : PySem.W.Frag) (H : Hp) (M : Addr → Prop) (a : Addr) : Ob → Prop
  | .lst ds => ∃ xs, H a = some (.lst xs) ∧ RpL K H M ds xs
  | .dct es => ∃ kvs, H a = some (.dK kvs) ∧ RpE K H M es kvs
  | .dead => ∃ o, H a = some o
structure Sok (K : PySem.W.Frag) (ρ : List Addr) (S : Sto) (H : Hp) : Prop where
  len : ρ.length = S.length
  nd : ρ.Nodup
  obs : ∀ (i : Nat) (a : Addr) (o : Ob), ρ[i]? = some a → S[i]? = some o → RpO K H (live ρ S) a o
structure Fwd (ρ : List Addr) (S : Sto) (H : Hp) (ρ' : List Addr) (S' : Sto) (H' : Hp) : Prop where
  ext : ∃ more, ρ' = ρ ++ more
  keep : ∀ b o, ¬ live ρ S b → H b = some o → H' b = some o
  tups : ∀ b xs, H b = some (.tup xs) → H' b = some (.tup xs)
  frzs : ∀ b o u, H b = some (.frz o u) → H' b = some (.frz o u)
  new : ∀ b, live ρ' S' b → live ρ S b ∨ H b = none

section
variable {K : PySem.W.Frag} {ρ ρ1 ρ2 : List Addr} {S S1 S2 : Sto} {H H1 H2 : Hp}
theorem Sok.has (h : Sok K ρ S H) {a : Addr} (l : live ρ S a) : (∃ xs, H a = some (.lst xs)) ∨ ∃ kvs, H a = some (.dK kvs) := by
  obtain ⟨i, o, h1, h2, h3⟩ := l
  have q := h.obs i a o h1 h2
  cases o with
  | lst ds => obtain ⟨xs, e, _⟩ := q; exact .inl ⟨xs, e⟩
  | dct es => obtain ⟨xs, e, _⟩ := q; exact .inr ⟨xs, e⟩
  | dead => cases h3
theorem Sok.notNone (h : Sok K ρ S H) {a : Addr} (n : H a = none) : ¬ live ρ S a := fun l => by
  rcases h.has l with ⟨_, e⟩ | ⟨_, e⟩ <;> (rw [n] at e; cases e)
theorem Fwd.refl : Fwd ρ S H ρ S H := ⟨⟨[], by simp⟩, fun _ _ _ e => e, fun _ _ e => e, fun _ _ _ e => e, fun _ l => .inl l⟩
theorem Fwd.trans (a : Fwd ρ S H ρ1 S1 H1) (b : Fwd ρ1 S1 H1 ρ2 S2 H2) : Fwd ρ S H ρ2 S2 H2 where
  ext := by
    obtain ⟨m1, e1⟩ := a.ext
    obtain ⟨m2, e2⟩ := b.ext
    exact ⟨m1 ++ m2, by rw [e2, e1, List.append_assoc]⟩
  keep := fun c o n e => b.keep c o (fun l => by
    rcases a.new c l with q | q
    · exact n q
    · rw [e] at q; cases q) (a.keep c o n e)
  tups := fun c xs e => b.tups c xs (a.tups c xs e)
  frzs := fun c o u e => b.frzs c o u (a.frzs c o u e)
  new := fun c l => by
    rcases b.new c l with q | q
    · exact a.new c q
    · by_cases lv : live ρ S c
      · exact .inl lv
      · cases e : H c with
        | none => exact .inr rfl
        | some o => rw [a.keep c o lv e] at q; cases q
theorem Fwd.rp (f : Fwd ρ S H ρ1 S1 H1) {d : D} {v : V} (h : Rp K H (live ρ S) d v) : Rp K H1 (live ρ1 S1) d v := h.mono f.keep f.tups f.frzs f.new
theorem Fwd.rpL (f : Fwd ρ S H ρ1 S1 H1) {d : List D} {v : List V} (h : RpL K H (live ρ S) d v) : RpL K H1 (live ρ1 S1) d v := h.mono f.keep f.tups f.frzs f.new
theorem Fwd.rpE (f : Fwd ρ S H ρ1 S1 H1) {d : List (Tx × D)} {v : List (Key × V)} (h : RpE K H (live ρ S) d v) : RpE K H1 (live ρ1 S1) d v := h.mono f.keep f.tups f.frzs f.new
theorem Fwd.at (f : Fwd ρ S H ρ1 S1 H1) {i : Nat} {a : Addr} (e : ρ[i]? = some a) : ρ1[i]? = some a := by
  obtain ⟨m, rfl⟩ := f.ext
  have : i < ρ.length := by
    rcases Nat.lt_or_ge i ρ.length with h | h
    · exact h
    · rw [List.getElem?_eq_none h] at e; cases e
  rw [List.getElem?_append_left this]; exact e
end

/-- the script's list -/
def Scr (K : PySem.W.Frag) (H : Hp) (M : Addr → Prop) (a : Addr) (ns : List Int) : Prop :=
  (H a = some (.lst (ns.map V.int)) ∧ ¬ M a) ∨ (∃ o, H a = some (.frz o (.lst (ns.map V.int)))) ∨ SqL K (fun _ => none) a (ns.map V.int)
theorem Scr.sq {K : PySem.W.Frag} {H : Hp} {M : Addr → Prop} {a : Addr} {ns : List Int} (h : Scr K H M a ns) : SqL K H a (ns.map V.int) := by
  rcases h with ⟨h, _⟩ | ⟨o, h⟩ | h
  · exact .inl (.inl h)
  · exact .inl (.inr ⟨o, h⟩)
  · rcases h with (h | ⟨o, h⟩) | h
    · cases h
    · cases h
    · exact .inr h
theorem Scr.of {K : PySem.W.Frag} {H : Hp} {M : Addr → Prop} {a : Addr} {ns : List Int} (h : SqL K H a (ns.map V.int)) (n : ¬ M a) : Scr K H M a ns := by
  rcases h with (h | ⟨o, h⟩) | h
  · exact .inl ⟨h, n⟩
  · exact .inr (.inl ⟨o, h⟩)
  · exact .inr (.inr (.inr h))
/-! ### exceptions of the program -/
/-- the classes and their attributes -/
def xname : Nat → Str
  | 0 => "KindError" | 1 => "NoText" | 2 => "NoKind" | 3 => "NoEnv" | 4 => "NoProgram" | 5 => "NoPlace" | 6 => "NoKinding" | 7 => "NoInstance" | 8 => "NoSolution" | 9 => "NoTerm" | 10 => "NoBare" | 11 => "NoNumber" | 12 => "NoOffer" | _ => ""
def xflds : Nat → List Str
  | 0 => [] | 1 => ["at"] | 2 => ["value"] | 3 => ["name"] | 4 => ["place", "why"] | 5 => ["place"] | 6 => ["place"] | 7 => ["at"] | 8 => ["at"] | 9 => ["place", "why"] | 10 => ["place"] | 11 => ["value"] | 12 => ["at"] | _ => []
/-- at d: the dict of an exception of the class c (at C) with the attributes ds -/
structure XRep (K : PySem.W.Frag) (ρ : List Addr) (S : Sto) (H : Hp) (c : Nat) (ds : List D) (C d : Addr) : Prop where
  cls : PySem.W.nsIn K mainGlobals (xname c) = some (some (.ref C))
  dead : ¬ live ρ S d
  at_ : ∃ vfs : List (Str × V), H d = some (.xd vfs) ∧ ∀ (k : Nat) (n : Str) (e : D), (xflds c)[k]? = some n → ds[k]? = some e → ∃ v, vfs.lookup n = some v ∧ Rp K H (live ρ S) e v
/-- at a: a caught exception of the class at C, its dict at d -/
def xob (a C d : Addr) : HO := .ext fun h => ∃ (oe : Obj) (vs : Array Value), h.get? a = some oe ∧ oe.cls = .ref C ∧ oe.dict = some d ∧ oe.data = .fields vs
theorem XRep.fwd {K : PySem.W.Frag} {ρ ρ1 : List Addr} {S S1 : Sto} {H H1 : Hp} {c : Nat} {ds : List D} {C d : Addr} (h : XRep K ρ S H c ds C d) (f : Fwd ρ S H ρ1 S1 H1) : XRep K ρ1 S1 H1 c ds C d := by
  obtain ⟨vfs, e, q⟩ := h.at_
  refine ⟨h.cls, fun l => ?_, vfs, f.keep _ _ h.dead e, fun k n u h1 h2 => let ⟨v, a, b⟩ := q k n u h1 h2; ⟨v, a, f.rp b⟩⟩
  rcases f.new _ l with z | z
  · exact h.dead z
  · rw [e] at z; cases z
def RpW (K : PySem.W.Frag) (ρ : List Addr) (S : Sto) (H : Hp) : W → V → Prop
  | .v d, x => Rp K H (live ρ S) d x
  | .r i, x => ∃ a, x = .ref a ∧ ρ[i]? = some a
  | .s ns, x => ∃ a, x = .ref a ∧ Scr K H (live ρ S) a ns
  | .lk es, x => ∃ (a : Addr) (o : Obj) (kvs : List (Key × V)), x = .ref a ∧ H a = some (.frz o (.dK kvs)) ∧ ¬ live ρ S a ∧ RpE K H (live ρ S) es kvs
  | .x c ds, x => ∃ (a C d : Addr), x = .ref a ∧ H a = some (xob a C d) ∧ ¬ live ρ S a ∧ XRep K ρ S H c ds C d
inductive RpWs (K : PySem.W.Frag) (ρ : List Addr) (S : Sto) (H : Hp) : List W → List V → Prop
  | nil : RpWs K ρ S H [] []
  | cons {w : W} {ws : List W} {v : V} {vs : List V} : RpW K ρ S H w v → RpWs K ρ S H ws vs → RpWs K ρ S H (w :: ws) (v :: vs)
def RpSt (K : PySem.W.Frag) (ρ : List Addr) (S : Sto) (H : Hp) (δ : List (Option W)) (σ : St) : Prop :=
  δ.length = σ.length ∧ ∀ (i : Nat) (w : W), δ[i]? = some (some w) → ∃ v, σ[i]? = some (some v) ∧ RpW K ρ S H w v
section
variable {K : PySem.W.Frag} {ρ ρ1 : List Addr} {S S1 : Sto} {H H1 : Hp}
theorem Fwd.rw (f : Fwd ρ S H ρ1 S1 H1) {w : W} {v : V} (h : RpW K ρ S H w v) : RpW K ρ1 S1 H1 w v := by
  cases w with
  | v d => exact f.rp h
  | r i => obtain ⟨a, e, q⟩ := h; exact ⟨a, e, f.at q⟩
  | s ns =>
    obtain ⟨a, e, q⟩ := h
    refine ⟨a, e, ?_⟩
    rcases q with ⟨q, n⟩ | ⟨o, q⟩ | q
    · refine .inl ⟨f.keep _ _ n q, fun l => ?_⟩
      rcases f.new _ l with z | z
      · exact n z
      · rw [q] at z; cases z
    · exact .inr (.inl ⟨o, f.frzs _ _ _ q⟩)
    · exact .inr (.inr q)
  | lk es =>
    obtain ⟨a, o, kvs, e, q, n, r⟩ := h
    refine ⟨a, o, kvs, e, f.frzs _ _ _ q, fun l => ?_, f.rpE r⟩
    rcases f.new _ l with z | z
    · exact n z
    · rw [q] at z; cases z
  | x c ds =>
    obtain ⟨a, C, d, e, q, n, r⟩ := h
    refine ⟨a, C, d, e, f.keep _ _ n q, fun l => ?_, r.fwd f⟩
    rcases f.new _ l with z | z
    · exact n z
    · rw [q] at z; cases z
theorem Fwd.rws (f : Fwd ρ S H ρ1 S1 H1) : ∀ {ws : List W} {vs : List V}, RpWs K ρ S H ws vs → RpWs K ρ1 S1 H1 ws vs
  | _, _, .nil => .nil
  | _, _, .cons a b => .cons (f.rw a) (f.rws b)
theorem Fwd.st (f : Fwd ρ S H ρ1 S1 H1) {δ : List (Option W)} {σ : St} (h : RpSt K ρ S H δ σ) : RpSt K ρ1 S1 H1 δ σ :=
  ⟨h.1, fun i w e => let ⟨v, h1, h2⟩ := h.2 i w e; ⟨v, h1, f.rw h2⟩⟩
theorem RpWs.length : ∀ {ws : List W} {vs : List V}, RpWs K ρ S H ws vs → ws.length = vs.length
  | _, _, .nil => rfl
  | _, _, .cons _ b => by rw [List.length_cons, List.length_cons, b.length]
theorem RpWs.append : ∀ {ws ws' : List W} {vs vs' : List V}, RpWs K ρ S H ws vs → RpWs K ρ S H ws' vs' → RpWs K ρ S H (ws ++ ws') (vs ++ vs')
  | _, _, _, _, .nil, h => h
  | _, _, _, _, .cons a b, h => .cons a (b.append h)
/-- a slot is set -/
theorem RpSt.set {δ : List (Option W)} {σ : St} (h : RpSt K ρ S H δ σ) (i : Nat) {w : W} {v : V} (q : RpW K ρ S H w v) : RpSt K ρ S H (δ.set i (some w)) (σ.set i (some v)) := by
  refine ⟨by rw [List.length_set, List.length_set]; exact h.1, fun j u e => ?_⟩
  by_cases hj : i = j
  · subst hj
    by_cases hl : i < δ.length
    · rw [List.getElem?_set_self hl] at e
      cases e
      exact ⟨v, List.getElem?_set_self (by rw [← h.1]; exact hl), q⟩
    · rw [List.getElem?_eq_none (by rw [List.length_set]; omega)] at e
      cases e
  · rw [List.getElem?_set_ne hj] at e ⊢
    exact h.2 j u e
end

theorem ndx {α : Type} {l : List α} (h : l.Nodup) {i j : Nat} {x : α} (a : l[i]? = some x) (b : l[j]? = some x) : i = j :=
  let ⟨_, q1⟩ := List.getElem?_eq_some_iff.mp a
  let ⟨_, q2⟩ := List.getElem?_eq_some_iff.mp b
  (List.getElem_inj h).mp (q1.trans q2.symm)
/-! ### objects laid and changed -/
section
variable {K : PySem.W.Frag} {ρ : List Addr} {S : Sto} {H : Hp} {p : Addr} {o : HO}
/-- a new object that the store does not know -/
theorem Fwd.laid (so : Sok K ρ S H) (hp : H p = none) : Fwd ρ S H ρ S (upd H p o) where
  ext := ⟨[], by simp⟩
  keep := fun b u _ e => by rw [upd_ne (ne_of_none e hp)]; exact e
  tups := fun b u e => by rw [upd_ne (ne_of_none e hp)]; exact e
  frzs := fun b u z e => by rw [upd_ne (ne_of_none e hp)]; exact e
  new := fun b l => .inl l
theorem Sok.deadAt (so : Sok K ρ S H) {i : Nat} {a : Addr} (h1 : ρ[i]? = some a) (h2 : S[i]? = some .dead) : ¬ live ρ S a := fun ⟨j, o, q1, q2, q3⟩ => by
  have e : i = j := ndx so.nd h1 q1
  subst e
  rw [h2] at q2; cases q2; cases q3
theorem Sok.fwd {H1 : Hp} (so : Sok K ρ S H) (f : Fwd ρ S H ρ S H1) (hk : ∀ a, live ρ S a → H1 a = H a) : Sok K ρ S H1 := by
  refine ⟨so.len, so.nd, fun i a o h1 h2 => ?_⟩
  have q := so.obs i a o h1 h2
  cases o with
  | lst ds => obtain ⟨xs, e, r⟩ := q; exact ⟨xs, by rw [hk a ⟨i, _, h1, h2, rfl⟩]; exact e, f.rpL r⟩
  | dct ds => obtain ⟨xs, e, r⟩ := q; exact ⟨xs, by rw [hk a ⟨i, _, h1, h2, rfl⟩]; exact e, f.rpE r⟩
  | dead => obtain ⟨u, e⟩ := q; exact ⟨u, f.keep _ _ (so.deadAt h1 h2) e⟩
theorem Sok.laid (so : Sok K ρ S H) (hp : H p = none) : Sok K ρ S (upd H p o) :=
  so.fwd (Fwd.laid so hp) fun a l => upd_ne fun e => so.notNone hp (e ▸ l)
theorem live_append {ρ' : List Addr} {S' : Sto} (hl : ρ.length = S.length) {b : Addr} (h : live (ρ ++ ρ') (S ++ S') b) : live ρ S b ∨ live ρ' S' b := by
  obtain ⟨i, o, h1, h2, h3⟩ := h
  by_cases hi : i < ρ.length
  · rw [List.getElem?_append_left hi] at h1
    rw [List.getElem?_append_left (by omega)] at h2
    exact .inl ⟨i, o, h1, h2, h3⟩
  · rw [List.getElem?_append_right (by omega)] at h1
    rw [List.getElem?_append_right (by omega)] at h2
    exact .inr ⟨i - ρ.length, o, h1, by rw [hl]; exact h2, h3⟩
theorem live_left {ρ' : List Addr} {S' : Sto} (hl : ρ.length = S.length) {b : Addr} (h : live ρ S b) : live (ρ ++ ρ') (S ++ S') b := by
  obtain ⟨i, o, h1, h2, h3⟩ := h
  have hi : i < ρ.length := by
    rcases Nat.lt_or_ge i ρ.length with z | z
    · exact z
    · rw [List.getElem?_eq_none z] at h1; cases h1
  exact ⟨i, o, by rw [List.getElem?_append_left hi]; exact h1, by rw [List.getElem?_append_left (by omega)]; exact h2, h3⟩
theorem live_one {ob : Ob} {b : Addr} (h : live [p] [ob] b) : b = p := by
  obtain ⟨i, o, h1, _⟩ := h
  cases i with
  | zero => simpa using h1.symm
  | succ i => simp at h1
/-- a new object of the store -/
theorem Fwd.grown (so : Sok K ρ S H) (hp : H p = none) (ob : Ob) : Fwd ρ S H (ρ ++ [p]) (S ++ [ob]) (upd H p o) where
  ext := ⟨[p], rfl⟩
  keep := fun b u _ e => by rw [upd_ne (ne_of_none e hp)]; exact e
  tups := fun b u e => by rw [upd_ne (ne_of_none e hp)]; exact e
  frzs := fun b u z e => by rw [upd_ne (ne_of_none e hp)]; exact e
  new := fun b l => by
    rcases live_append so.len l with q | q
    · exact .inl q
    · rw [live_one q]; exact .inr hp
/-- the addresses of the store have something -/
theorem Sok.notIn (so : Sok K ρ S H) (hp : H p = none) : p ∉ ρ := fun h => by
  obtain ⟨i, hi⟩ := List.getElem?_of_mem h
  have hl : i < S.length := by
    rw [← so.len]
    rcases Nat.lt_or_ge i ρ.length with z | z
    · exact z
    · rw [List.getElem?_eq_none z] at hi; cases hi
  have q := so.obs i p S[i] hi (List.getElem?_eq_getElem hl)
  cases o : S[i] with
  | lst ds => rw [o] at q; obtain ⟨_, e, _⟩ := q; rw [hp] at e; cases e
  | dct ds => rw [o] at q; obtain ⟨_, e, _⟩ := q; rw [hp] at e; cases e
  | dead => rw [o] at q; obtain ⟨_, e⟩ := q; rw [hp] at e; cases e
theorem Sok.grown (so : Sok K ρ S H) (hp : H p = none) (ob : Ob) (hob : RpO K (upd H p o) (live (ρ ++ [p]) (S ++ [ob])) p ob) : Sok K (ρ ++ [p]) (S ++ [ob]) (upd H p o) := by
  have fw : Fwd ρ S H (ρ ++ [p]) (S ++ [ob]) (upd H p o) := Fwd.grown so hp ob
  refine ⟨by rw [List.length_append, List.length_append, so.len]; rfl, ?_, fun i a u h1 h2 => ?_⟩
  · rw [List.nodup_append]
    refine ⟨so.nd, by simp, fun a ha b hb e => ?_⟩
    rw [List.mem_singleton] at hb
    subst hb; subst e
    exact so.notIn hp ha
  · by_cases hi : i < ρ.length
    · rw [List.getElem?_append_left hi] at h1
      rw [List.getElem?_append_left (by rw [← so.len]; exact hi)] at h2
      have q := so.obs i a u h1 h2
      have ne : a ≠ p := fun e => so.notIn hp (e ▸ List.mem_of_getElem? h1)
      cases u with
      | lst ds => obtain ⟨xs, e, r⟩ := q; exact ⟨xs, by rw [upd_ne ne]; exact e, fw.rpL r⟩
      | dct ds => obtain ⟨xs, e, r⟩ := q; exact ⟨xs, by rw [upd_ne ne]; exact e, fw.rpE r⟩
      | dead => obtain ⟨xs, e⟩ := q; exact ⟨xs, by rw [upd_ne ne]; exact e⟩
    · rw [List.getElem?_append_right (by omega)] at h1
      rw [List.getElem?_append_right (by rw [← so.len]; omega)] at h2
      rw [so.len] at h1
      have hz : i - S.length = 0 := by
        cases hz : i - S.length with
        | zero => rfl
        | succ n => rw [hz] at h1; simp at h1
      rw [hz] at h1 h2
      simp at h1 h2
      subst h1; subst h2
      exact hob
/-- an object of the store is changed -/
theorem Fwd.changed (so : Sok K ρ S H) {i : Nat} {a : Addr} {ob ob' : Ob} (h1 : ρ[i]? = some a) (h2 : S[i]? = some ob) (h3 : alive ob = true) : Fwd ρ S H ρ (S.set i ob') (upd H a o) := by
  have lv : live ρ S a := ⟨i, ob, h1, h2, h3⟩
  have nf : ∀ b u, H b = some u → (∀ xs, u ≠ .lst xs) → (∀ kvs, u ≠ .dK kvs) → b ≠ a := fun b u e n1 n2 z => by
    subst z
    rcases so.has lv with ⟨xs, q⟩ | ⟨xs, q⟩
    · rw [e] at q; cases q; exact n1 xs rfl
    · rw [e] at q; cases q; exact n2 xs rfl
  refine ⟨⟨[], by simp⟩, fun b u n e => ?_, fun b xs e => ?_, fun b u z e => ?_, fun b l => ?_⟩
  · have nz : b ≠ a := fun z => n (by rw [z]; exact lv)
    rw [upd_ne nz]; exact e
  · rw [upd_ne (nf b _ e (fun _ z => nomatch z) (fun _ z => nomatch z))]; exact e
  · rw [upd_ne (nf b _ e (fun _ z => nomatch z) (fun _ z => nomatch z))]; exact e
  · obtain ⟨j, u, q1, q2, q3⟩ := l
    by_cases hj : i = j
    · subst hj
      rw [h1] at q1; cases q1
      exact .inl lv
    · rw [List.getElem?_set_ne hj] at q2
      exact .inl ⟨j, u, q1, q2, q3⟩
theorem Sok.changed (so : Sok K ρ S H) {i : Nat} {a : Addr} {ob ob' : Ob} (h1 : ρ[i]? = some a) (h2 : S[i]? = some ob) (h3 : alive ob = true) (hob : RpO K (upd H a o) (live ρ (S.set i ob')) a ob') : Sok K ρ (S.set i ob') (upd H a o) := by
  have fw : Fwd ρ S H ρ (S.set i ob') (upd H a o) := Fwd.changed so h1 h2 h3
  refine ⟨by rw [List.length_set]; exact so.len, so.nd, fun j b u q1 q2 => ?_⟩
  by_cases hj : i = j
  · subst hj
    have hl : i < S.length := by
      rcases Nat.lt_or_ge i S.length with z | z
      · exact z
      · rw [List.getElem?_eq_none z] at h2; cases h2
    rw [List.getElem?_set_self hl] at q2
    rw [h1] at q1
    cases q1; cases q2
    exact hob
  · rw [List.getElem?_set_ne hj] at q2
    have q := so.obs j b u q1 q2
    have ne : b ≠ a := fun e => by
      subst e
      exact hj (ndx so.nd h1 q1)
    cases u with
    | lst ds => obtain ⟨xs, e, r⟩ := q; exact ⟨xs, by rw [upd_ne ne]; exact e, fw.rpL r⟩
    | dct ds => obtain ⟨xs, e, r⟩ := q; exact ⟨xs, by rw [upd_ne ne]; exact e, fw.rpE r⟩
    | dead => obtain ⟨xs, e⟩ := q; exact ⟨xs, by rw [upd_ne ne]; exact e⟩
end
end Fro

namespace Fro
open PySem PySem.Spec L2

/-! ### what is wanted of a result -/
abbrev Slots := List (Option W)
abbrev Den (α : Type) := Slots → Sto → R α
abbrev Rl (α β : Type) := List Addr → Sto → Hp → α → β → Prop
/-- what is wanted of an exception -/
abbrev XP := L2.St → Nat → List D → Sto → List Addr → Hp → Prop
abbrev XP0 : XP := fun _ _ _ _ _ _ => False
def Post {α β : Type} (K : PySem.W.Frag) (rel : Rl α β) (ρ : List Addr) (S : Sto) (H : Hp) (r : R α) (Q : β → Hp → Prop) (E : Nat → List D → Sto → List Addr → Hp → Prop) : Prop :=
  match r with
  | .ok a S' => ∀ (b : β) (ρ' : List Addr) (H' : Hp), Fwd ρ S H ρ' S' H' → Sok K ρ' S' H' → rel ρ' S' H' a b → Q b H'
  | .exc c ds S' => ∀ (ρ' : List Addr) (H' : Hp), Fwd ρ S H ρ' S' H' → Sok K ρ' S' H' → E c ds S' ρ' H'
  | .bad => False
theorem Post.later {α β : Type} {K : PySem.W.Frag} {rel : Rl α β} {ρ ρ1 : List Addr} {S S1 : Sto} {H H1 : Hp} {r : R α} {Q : β → Hp → Prop} {E : Nat → List D → Sto → List Addr → Hp → Prop}
    (f : Fwd ρ S H ρ1 S1 H1) (h : Post K rel ρ S H r Q E) : Post K rel ρ1 S1 H1 r Q E := by
  cases r with
  | ok a S' => exact fun b ρ' H' f' so q => h b ρ' H' (f.trans f') so q
  | exc c ds S' => exact fun ρ' H' f' so => h ρ' H' (f.trans f') so
  | bad => exact h
def tG {α β : Type} (K : PySem.W.Frag) (rel : Rl α β) (E : XP) (den : Den α) : L2.St → Hp → (β → Hp → Prop) → Prop := fun σ H Q =>
  ∃ (δ : Slots) (ρ : List Addr) (S : Sto), RpSt K ρ S H δ σ ∧ Sok K ρ S H ∧ Post K rel ρ S H (den δ S) Q (E σ)
abbrev tE (K : PySem.W.Frag) (E : XP) (den : Den W) : TE := tG K (RpW K) E den
abbrev tT (K : PySem.W.Frag) (E : XP) (den : Den Bool) : TT := tG K (fun _ _ _ a b => a = b) E den
abbrev tA (K : PySem.W.Frag) (E : XP) (den : Den (List W)) : TA := tG K (RpWs K) E den
theorem tG_then {α β γ ε : Type} {K : PySem.W.Frag} {rel : Rl α β} {rel2 : Rl γ ε} {E : XP} {den : Den α} {k : α → Sto → R γ} {δ : Slots} {σ : L2.St} {ρ : List Addr} {S : Sto} {H : Hp} {Q : ε → Hp → Prop} {Q' : β → Hp → Prop}
    (st : RpSt K ρ S H δ σ) (so : Sok K ρ S H) (h : Post K rel2 ρ S H ((den δ S).bind k) Q (E σ))
    (hk : ∀ (a : α) (S1 : Sto) (b : β) (ρ1 : List Addr) (H1 : Hp), Fwd ρ S H ρ1 S1 H1 → RpSt K ρ1 S1 H1 δ σ → Sok K ρ1 S1 H1 → rel ρ1 S1 H1 a b → Post K rel2 ρ1 S1 H1 (k a S1) Q (E σ) → Q' b H1) : tG K rel E den σ H Q' := by
  refine ⟨δ, ρ, S, st, so, ?_⟩
  cases e : den δ S with
  | ok a S1 =>
    rw [e] at h
    exact fun b ρ1 H1 f so1 q => hk a S1 b ρ1 H1 f (f.st st) so1 q (Post.later f h)
  | exc c ds S1 => rw [e] at h; exact h
  | bad => rw [e] at h; exact h

/-! ### statements -/
inductive RS where
  | nx (δ : Slots) (S : Sto) | rt (w : W) (S : Sto) | bk (δ : Slots) (S : Sto) | ct (δ : Slots) (S : Sto) | xc (c : Nat) (ds : List D) (δ : Slots) (S : Sto) | bad
abbrev DenS := Slots → Sto → RS
def R.thenS {α : Type} (r : R α) (δ : Slots) (k : α → Sto → RS) : RS :=
  match r with
  | .ok a S => k a S
  | .exc c ds S => .xc c ds δ S
  | .bad => .bad
@[simp] theorem R.thenS_ok {α : Type} (a : α) (S : Sto) (δ : Slots) (f : α → Sto → RS) : (R.ok a S).thenS δ f = f a S := rfl
@[simp] theorem R.thenS_exc {α : Type} (c : Nat) (ds : List D) (S : Sto) (δ : Slots) (f : α → Sto → RS) : (R.exc c ds S : R α).thenS δ f = .xc c ds δ S := rfl
@[simp] theorem R.thenS_bad {α : Type} (δ : Slots) (f : α → Sto → RS) : (R.bad : R α).thenS δ f = .bad := rfl
def PostS (K : PySem.W.Frag) (ρ : List Addr) (S : Sto) (H : Hp) (r : RS) (D' : Ends) (E : XP) : Prop :=
  match r with
  | .nx δ S' => ∀ (σ : L2.St) (ρ' : List Addr) (H' : Hp), Fwd ρ S H ρ' S' H' → Sok K ρ' S' H' → RpSt K ρ' S' H' δ σ → D'.nx σ H'
  | .rt w S' => ∀ (v : V) (ρ' : List Addr) (H' : Hp), Fwd ρ S H ρ' S' H' → Sok K ρ' S' H' → RpW K ρ' S' H' w v → D'.rt v H'
  | .bk δ S' => ∀ (σ : L2.St) (ρ' : List Addr) (H' : Hp), Fwd ρ S H ρ' S' H' → Sok K ρ' S' H' → RpSt K ρ' S' H' δ σ → D'.bk σ H'
  | .ct δ S' => ∀ (σ : L2.St) (ρ' : List Addr) (H' : Hp), Fwd ρ S H ρ' S' H' → Sok K ρ' S' H' → RpSt K ρ' S' H' δ σ → D'.ct σ H'
  | .xc c ds δ S' => ∀ (σ : L2.St) (ρ' : List Addr) (H' : Hp), Fwd ρ S H ρ' S' H' → Sok K ρ' S' H' → RpSt K ρ' S' H' δ σ → E σ c ds S' ρ' H'
  | .bad => False
theorem PostS.later {K : PySem.W.Frag} {ρ ρ1 : List Addr} {S S1 : Sto} {H H1 : Hp} {r : RS} {D' : Ends} {E : XP} (f : Fwd ρ S H ρ1 S1 H1) (h : PostS K ρ S H r D' E) : PostS K ρ1 S1 H1 r D' E := by
  cases r with
  | nx δ S' => exact fun b ρ' H' f' so q => h b ρ' H' (f.trans f') so q
  | rt δ S' => exact fun b ρ' H' f' so q => h b ρ' H' (f.trans f') so q
  | bk δ S' => exact fun b ρ' H' f' so q => h b ρ' H' (f.trans f') so q
  | ct δ S' => exact fun b ρ' H' f' so q => h b ρ' H' (f.trans f') so q
  | xc c ds δ S' => exact fun b ρ' H' f' so q => h b ρ' H' (f.trans f') so q
  | bad => exact h
def tS (K : PySem.W.Frag) (E : XP) (den : DenS) : TS := fun D' σ H => ∃ (δ : Slots) (ρ : List Addr) (S : Sto), RpSt K ρ S H δ σ ∧ Sok K ρ S H ∧ PostS K ρ S H (den δ S) D' E
theorem tG_thenS {α β : Type} {K : PySem.W.Frag} {rel : Rl α β} {E : XP} {den : Den α} {k : α → Sto → RS} {δ : Slots} {σ : L2.St} {ρ : List Addr} {S : Sto} {H : Hp} {D' : Ends} {Q' : β → Hp → Prop}
    (st : RpSt K ρ S H δ σ) (so : Sok K ρ S H) (h : PostS K ρ S H ((den δ S).thenS δ k) D' E)
    (hk : ∀ (a : α) (S1 : Sto) (b : β) (ρ1 : List Addr) (H1 : Hp), Fwd ρ S H ρ1 S1 H1 → RpSt K ρ1 S1 H1 δ σ → Sok K ρ1 S1 H1 → rel ρ1 S1 H1 a b → PostS K ρ1 S1 H1 (k a S1) D' E → Q' b H1) : tG K rel E den σ H Q' := by
  refine ⟨δ, ρ, S, st, so, ?_⟩
  cases e : den δ S with
  | ok a S1 =>
    rw [e] at h
    exact fun b ρ1 H1 f so1 q => hk a S1 b ρ1 H1 f (f.st st) so1 q (PostS.later f h)
  | exc c ds S1 => rw [e] at h; exact fun ρ1 H1 f so1 => h σ ρ1 H1 f so1 (f.st st)
  | bad => rw [e] at h; exact h

/-! ### weaker readings -/
section
variable {X : Cx}
theorem pe_mono {e : Expr} {t t' : TE} (h : PE X e t) (w : ∀ σ H Q, t' σ H Q → t σ H Q) : PE X e t' := ⟨fun pins s σ H Q I q => h.run pins s σ H Q I (w σ H Q q)⟩
theorem pt_mono {e : Expr} {t t' : TT} (h : PT X e t) (w : ∀ σ H Q, t' σ H Q → t σ H Q) : PT X e t' := ⟨fun pins s σ H Q I q => h.run pins s σ H Q I (w σ H Q q)⟩
theorem pw_mono {e : Expr} {t t' : TT} (h : PW X e t) (w : ∀ σ H Q, t' σ H Q → t σ H Q) : PW X e t' := ⟨fun wh pins s σ H Q I q => h.run wh pins s σ H Q I (w σ H Q q)⟩
theorem pa_mono {es : List Expr} {t t' : TA} (h : PA X es t) (w : ∀ σ H Q, t' σ H Q → t σ H Q) : PA X es t' := ⟨fun pos pins s σ H Q I q => h.run pos pins s σ H Q I (w σ H Q q)⟩
theorem ps_mono {e : Stmt} {t t' : TS} (h : PS X e t) (w : ∀ D' σ H, t' D' σ H → t D' σ H) : PS X e t' := ⟨fun pins s σ H Q I q => h.run pins s σ H Q I (w Q σ H q)⟩
theorem pss_mono {e : List Stmt} {t t' : TS} (h : PSs X e t) (w : ∀ D' σ H, t' D' σ H → t D' σ H) : PSs X e t' := ⟨fun pins s σ H Q I q => h.run pins s σ H Q I (w Q σ H q)⟩
theorem pts_mono {e : List Expr} {t t' : TT} (h : PTs X e t) (w : ∀ σ H Q, t' σ H Q → t σ H Q) : PTs X e t' := ⟨fun pins s σ H Q I q => h.run pins s σ H Q I (w σ H Q q)⟩
end

/-! ### names, constants -/
def cVar (i : Nat) : Den W := fun δ S => match δ[i]? with
  | some (some w) => .ok w S
  | _ => .bad
def cC (d : D) : Den W := fun _ S => .ok (.v d) S
section
variable {X : Cx} {E : XP}
theorem de_of_var {e : Expr} {i : Nat} (h : PE X e (tVar i)) : PE X e (tE X.K E (cVar i)) := pe_mono h fun σ H Q ⟨δ, ρ, S, st, so, p⟩ => by
  unfold cVar at p
  cases q : δ[i]? with
  | none => rw [q] at p; exact p.elim
  | some o =>
    cases o with
    | none => rw [q] at p; exact p.elim
    | some w =>
      rw [q] at p
      obtain ⟨v, h1, h2⟩ := st.2 i w q
      exact ⟨v, h1, p v ρ H Fwd.refl so h2⟩
theorem de_of_c {e : Expr} {d : D} {v : V} (h : PE X e (tC v)) (r : ∀ H M, Rp X.K H M d v) : PE X e (tE X.K E (cC d)) := pe_mono h fun σ H Q ⟨δ, ρ, S, st, so, p⟩ => p v ρ H Fwd.refl so (r H _)
theorem de_var (i : Nat) {x : Str} {pos : Pos} (hN : X.N[i]? = some x := by rfl) (hv : Vis X.env.scope x := by first | exact Or.inl rfl | exact Or.inr (Or.inl rfl) | exact Or.inr (Or.inr rfl)) (hd : (x == ("__debug__" : Str)) = false := by decide)
    (hcd : (x == ("__classdict__" : Str)) = false := by decide) : PE X (.Name x pos) (tE X.K E (cVar i)) := de_of_var (pe_var hN hv hd hcd)
theorem de_int {i j pos} : PE X (.Constant (.int i) j pos) (tE X.K E (cC (.int i))) := de_of_c pe_int fun _ _ => .int i
theorem de_bl {b j pos} : PE X (.Constant (.bool b) j pos) (tE X.K E (cC (.bl b))) := de_of_c pe_bl fun _ _ => .bl b
theorem de_non {j pos} : PE X (.Constant .none j pos) (tE X.K E (cC .non)) := de_of_c pe_non fun _ _ => .non
theorem de_str (t : Tx) {x j pos} (h : x = sx t := by decide +kernel) : PE X (.Constant (.str x) j pos) (tE X.K E (cC (.str t))) := by
  subst h
  exact de_of_c pe_str fun _ _ => .str t
theorem de_glob {x : Str} {d : D} {v : V} {u : Value} {pos : Pos} (hm : X.mg x = some u) (r : RelV v u) (h : ∀ H M, Rp X.K H M d v) (hg : Gl X x := by rfl) (hd : (x == ("__debug__" : Str)) = false := by decide) :
    PE X (.Name x pos) (tE X.K E (cC d)) := de_of_c (pe_glob hg hm r hd) h
theorem de_type {x : Str} (T : Ty) {pos : Pos} (hm : X.mg x = none) (hv : bootBuiltins x = some (.type T.nm)) (hg : Gl X x := by rfl) (hn : x ≠ "__name__" := by decide) (hd : (x == ("__debug__" : Str)) = false := by decide) :
    PE X (.Name x pos) (tE X.K E (cC (.ty T))) := de_of_c (pe_bltn hg hm hv (v := .ty T.nm) rfl hn hd) fun _ _ => .ty T

/-! ### arguments -/
def cNil : Den (List W) := fun _ S => .ok [] S
def cCons (a : Den W) (b : Den (List W)) : Den (List W) := fun δ S => (a δ S).bind fun w S1 => (b δ S1).bind fun ws S2 => .ok (w :: ws) S2
theorem da_nil : PA X [] (tA X.K E cNil) := pa_mono pa_nil fun σ H Q ⟨δ, ρ, S, st, so, p⟩ => p [] ρ H Fwd.refl so .nil
end
end Fro

namespace Fro
open PySem PySem.Spec L2

section
variable {X : Cx} {E : XP}
theorem da_cons {e : Expr} {es : List Expr} {a : Den W} {b : Den (List W)} (ha : PE X e (tE X.K E a)) (hr : PA X es (tA X.K E b)) (hs : starEach (e :: es) X.env = (false, eval e X.env) :: starEach es X.env := by rfl) :
    PA X (e :: es) (tA X.K E (cCons a b)) := pa_mono (pa_cons ha hr hs) fun σ H Q ⟨δ, ρ, S, st, so, p⟩ =>
  tG_then st so p fun w S1 v ρ1 H1 f1 st1 so1 r1 p1 => tG_then st1 so1 p1 fun ws S2 vs ρ2 H2 f2 st2 so2 r2 p2 => p2 (v :: vs) ρ2 H2 Fwd.refl so2 (.cons (f2.rw r1) r2)

/-! ### displays -/
def toD : W → Option D
  | .v d => some d
  | _ => none
def toDs : List W → Option (List D)
  | [] => some []
  | w :: ws => match toD w, toDs ws with
    | some d, some ds => some (d :: ds)
    | _, _ => none
theorem toD_rp {K : PySem.W.Frag} {ρ : List Addr} {S : Sto} {H : Hp} {w : W} {v : V} {d : D} (h : RpW K ρ S H w v) (e : toD w = some d) : Rp K H (live ρ S) d v := by
  cases w with
  | v d' => cases e; exact h
  | r i => cases e
  | s ns => cases e
  | lk es => cases e
  | x c ds => cases e
theorem toDs_rp {K : PySem.W.Frag} {ρ : List Addr} {S : Sto} {H : Hp} : ∀ {ws : List W} {vs : List V} {ds : List D}, RpWs K ρ S H ws vs → toDs ws = some ds → RpL K H (live ρ S) ds vs
  | _, _, ds, .nil, e => by cases e; exact .nil
  | w :: ws, _, ds, .cons a b, e => by
    unfold toDs at e
    cases q1 : toD w with
    | none => rw [q1] at e; simp at e
    | some d =>
      cases q2 : toDs ws with
      | none => rw [q1, q2] at e; simp at e
      | some ds' =>
        rw [q1, q2] at e
        cases e
        exact .cons (toD_rp a q1) (toDs_rp b q2)
theorem le1000 {n : Nat} (h : n ≤ 1000) : n ≤ sizeLine := Nat.le_of_lt (small1000 h)
def cDisp (mk : List D → Sto → R W) (a : Den (List W)) : Den W := fun δ S => (a δ S).bind fun ws S1 => match toDs ws with
  | some ds => if ds.length ≤ 1000 then mk ds S1 else .bad
  | none => .bad
def cTup (a : Den (List W)) : Den W := cDisp (fun ds S => .ok (.v (.tup ds)) S) a
def cLst (a : Den (List W)) : Den W := cDisp (fun ds S => .ok (.v (.lst ds)) S) a
def cLstM (a : Den (List W)) : Den W := cDisp (fun ds S => .ok (.r S.length) (S ++ [.lst ds])) a
theorem disp_then {mk : List D → Sto → R W} {a : Den (List W)} {σ : L2.St} {H : Hp} {Q : VK} {Q' : List V → Hp → Prop} {K : PySem.W.Frag} (h : tE K E (cDisp mk a) σ H Q)
    (hk : ∀ (ds : List D) (S1 : Sto) (vs : List V) (ρ1 : List Addr) (H1 : Hp), Sok K ρ1 S1 H1 → RpL K H1 (live ρ1 S1) ds vs → vs.length ≤ sizeLine → Post K (RpW K) ρ1 S1 H1 (mk ds S1) Q (E σ) → Q' vs H1) : tA K E a σ H Q' := by
  obtain ⟨δ, ρ, S, st, so, p⟩ := h
  refine tG_then st so p fun ws S1 vs ρ1 H1 f1 st1 so1 r1 p1 => ?_
  cases q : toDs ws with
  | none => simp only [q] at p1; exact p1.elim
  | some ds =>
    have rl := toDs_rp r1 q
    by_cases hl : ds.length ≤ 1000
    · simp only [q, if_pos hl] at p1
      exact hk ds S1 vs ρ1 H1 so1 rl (by rw [← rl.length]; exact le1000 hl) p1
    · simp only [q, if_neg hl] at p1
      exact p1.elim
theorem de_tup {es : List Expr} {k : Nat} {pos : Pos} {a : Den (List W)} (h : PA X es (tA X.K E a)) (hd : ∀ t, PA X es t → PE X (.Tuple es k pos) (tTup t) := by exact fun _ h => pe_tup h) : PE X (.Tuple es k pos) (tE X.K E (cTup a)) := pe_mono (hd _ h) fun σ H Q q =>
  disp_then q fun ds S1 vs ρ1 H1 so1 rl hl p1 => ⟨hl, fun p np => p1 (.ref p) ρ1 _ (Fwd.laid so1 np) (so1.laid np) (Rp.tup (SqT.of upd_same) ((Fwd.laid so1 np).rpL rl))⟩
theorem de_lst {es : List Expr} {pos : Pos} {a : Den (List W)} (h : PA X es (tA X.K E a)) (hd : ∀ t, PA X es t → PE X (.List es pos) (tLst t) := by exact fun _ h => pe_lst h) : PE X (.List es pos) (tE X.K E (cLst a)) := pe_mono (hd _ h) fun σ H Q q =>
  disp_then q fun ds S1 vs ρ1 H1 so1 rl hl p1 => ⟨hl, fun p np => p1 (.ref p) ρ1 _ (Fwd.laid so1 np) (so1.laid np) (Rp.lst upd_same (so1.notNone np) ((Fwd.laid so1 np).rpL rl))⟩
theorem de_lstM {es : List Expr} {pos : Pos} {a : Den (List W)} (h : PA X es (tA X.K E a)) (hd : ∀ t, PA X es t → PE X (.List es pos) (tLst t) := by exact fun _ h => pe_lst h) : PE X (.List es pos) (tE X.K E (cLstM a)) := pe_mono (hd _ h) fun σ H Q q =>
  disp_then q fun ds S1 vs ρ1 H1 so1 rl hl p1 => ⟨hl, fun p np => by
    have fw : Fwd ρ1 S1 H1 (ρ1 ++ [p]) (S1 ++ [.lst ds]) (upd H1 p (.lst vs)) := Fwd.grown so1 np _
    refine p1 (.ref p) (ρ1 ++ [p]) _ fw (so1.grown np _ ⟨vs, upd_same, fw.rpL rl⟩) ⟨p, rfl, ?_⟩
    rw [List.getElem?_append_right (by rw [so1.len]; exact Nat.le_refl _), so1.len]
    simp⟩

/-! ### tests -/
def asB (w : W) (S : Sto) : R Bool := match w with
  | .v (.bl b) => .ok b S
  | _ => .bad
def cB (a : Den W) : Den Bool := fun δ S => (a δ S).bind asB
def cAnd (a b : Den Bool) : Den Bool := fun δ S => (a δ S).bind fun c S1 => if c then b δ S1 else .ok false S1
def cOr (a b : Den Bool) : Den Bool := fun δ S => (a δ S).bind fun c S1 => if c then .ok true S1 else b δ S1
def cNot (a : Den Bool) : Den Bool := fun δ S => (a δ S).bind fun c S1 => .ok (!c) S1
def cVal (a : Den Bool) : Den W := fun δ S => (a δ S).bind fun c S1 => .ok (.v (.bl c)) S1
theorem asB_post {K : PySem.W.Frag} {ρ : List Addr} {S : Sto} {H : Hp} {w : W} {v : V} {Q : Bool → Hp → Prop} {Ex} (so : Sok K ρ S H) (r : RpW K ρ S H w v) (p : Post K (fun _ _ _ a b => a = b) ρ S H (asB w S) Q Ex) : ∃ c, v = .bl c ∧ Q c H := by
  cases w with
  | v d =>
    cases d with
    | bl b => cases r; exact ⟨b, rfl, p b ρ H Fwd.refl so rfl⟩
    | _ => exact p.elim
  | r i => exact p.elim
  | s ns => exact p.elim
  | lk es => exact p.elim
  | x c ds => exact p.elim
theorem dt_val {e : Expr} {a : Den W} (h : PE X e (tE X.K E a)) (he : ∀ whole, isTrue e X.env whole = (do let v ← whole; standAt e.pos; holding [v] (truthy v)) := by intro _; rfl) : PT X e (tT X.K E (cB a)) :=
  pt_mono (pt_val h he) fun σ H Q ⟨δ, ρ, S, st, so, p⟩ => tG_then st so p fun w S1 v ρ1 H1 f1 st1 so1 r1 p1 => asB_post so1 r1 p1
theorem dt_not {e : Expr} {pos : Pos} {a : Den Bool} (h : PT X e (tT X.K E a)) : PT X (.UnaryOp .Not e pos) (tT X.K E (cNot a)) :=
  pt_mono (pt_not h) fun σ H Q ⟨δ, ρ, S, st, so, p⟩ => tG_then st so p fun w S1 v ρ1 H1 f1 st1 so1 r1 p1 => by cases r1; exact p1 _ ρ1 H1 Fwd.refl so1 rfl
theorem dw_and1 {e : Expr} {pos : Pos} {a : Den Bool} (h : PT X e (tT X.K E a)) : PW X (.BoolOp .And [e] pos) (tT X.K E a) := pw_and1 h
theorem dw_or1 {e : Expr} {pos : Pos} {a : Den Bool} (h : PT X e (tT X.K E a)) : PW X (.BoolOp .Or [e] pos) (tT X.K E a) := pw_or1 h
theorem dw_and {e e' : Expr} {rest : List Expr} {pos : Pos} {a b : Den Bool} (h : PT X e (tT X.K E a)) (h' : PW X (.BoolOp .And (e' :: rest) pos) (tT X.K E b)) : PW X (.BoolOp .And (e :: e' :: rest) pos) (tT X.K E (cAnd a b)) :=
  pw_mono (pw_and h h') fun σ H Q ⟨δ, ρ, S, st, so, p⟩ => tG_then st so p fun c S1 v ρ1 H1 f1 st1 so1 r1 p1 => by
    cases r1
    cases c with
    | true => rw [if_pos rfl]; exact ⟨δ, ρ1, S1, st1, so1, p1⟩
    | false => rw [if_neg Bool.false_ne_true]; exact p1 _ ρ1 H1 Fwd.refl so1 rfl
theorem dw_or {e e' : Expr} {rest : List Expr} {pos : Pos} {a b : Den Bool} (h : PT X e (tT X.K E a)) (h' : PW X (.BoolOp .Or (e' :: rest) pos) (tT X.K E b)) : PW X (.BoolOp .Or (e :: e' :: rest) pos) (tT X.K E (cOr a b)) :=
  pw_mono (pw_or h h') fun σ H Q ⟨δ, ρ, S, st, so, p⟩ => tG_then st so p fun c S1 v ρ1 H1 f1 st1 so1 r1 p1 => by
    cases r1
    cases c with
    | true => rw [if_pos rfl]; exact p1 _ ρ1 H1 Fwd.refl so1 rfl
    | false => rw [if_neg Bool.false_ne_true]; exact ⟨δ, ρ1, S1, st1, so1, p1⟩
/-- as values -/
def cAndV (a b : Den W) : Den W := fun δ S => (a δ S).bind fun w S1 => (asB w S1).bind fun c S2 => if c then b δ S2 else .ok (.v (.bl false)) S2
def cOrV (a b : Den W) : Den W := fun δ S => (a δ S).bind fun w S1 => (asB w S1).bind fun c S2 => if c then .ok (.v (.bl true)) S2 else b δ S2
def cNotV (a : Den W) : Den W := fun δ S => (a δ S).bind fun w S1 => (asB w S1).bind fun c S2 => .ok (.v (.bl (!c))) S2
theorem asB_then {K : PySem.W.Frag} {α β : Type} {rel : Rl α β} {ρ : List Addr} {S : Sto} {H : Hp} {w : W} {v : V} {k : Bool → Sto → R α} {Q : β → Hp → Prop} {Ex} (r : RpW K ρ S H w v) (p : Post K rel ρ S H ((asB w S).bind k) Q Ex) : ∃ c, v = .bl c ∧ Post K rel ρ S H (k c S) Q Ex := by
  cases w with
  | v d =>
    cases d with
    | bl b => cases r; exact ⟨b, rfl, p⟩
    | _ => exact p.elim
  | r i => exact p.elim
  | s ns => exact p.elim
  | lk es => exact p.elim
  | x c ds => exact p.elim
theorem de_one {op : BoolOp} {e : Expr} {pos : Pos} {a : Den W} (h : PE X e (tE X.K E a)) : PE X (.BoolOp op [e] pos) (tE X.K E a) := pe_one h
theorem de_and {e e' : Expr} {rest : List Expr} {pos : Pos} {a b : Den W} (h : PE X e (tE X.K E a)) (h' : PE X (.BoolOp .And (e' :: rest) pos) (tE X.K E b)) : PE X (.BoolOp .And (e :: e' :: rest) pos) (tE X.K E (cAndV a b)) :=
  pe_mono (pe_and h h') fun σ H Q ⟨δ, ρ, S, st, so, p⟩ => tG_then st so p fun w S1 v ρ1 H1 f1 st1 so1 r1 p1 => by
    obtain ⟨c, rfl, p2⟩ := asB_then r1 p1
    refine ⟨c, rfl, ?_⟩
    cases c with
    | true => rw [if_pos rfl]; exact ⟨δ, ρ1, S1, st1, so1, p2⟩
    | false => rw [if_neg Bool.false_ne_true]; exact p2 _ ρ1 H1 Fwd.refl so1 (.bl false)
theorem de_or {e e' : Expr} {rest : List Expr} {pos : Pos} {a b : Den W} (h : PE X e (tE X.K E a)) (h' : PE X (.BoolOp .Or (e' :: rest) pos) (tE X.K E b)) : PE X (.BoolOp .Or (e :: e' :: rest) pos) (tE X.K E (cOrV a b)) :=
  pe_mono (pe_or h h') fun σ H Q ⟨δ, ρ, S, st, so, p⟩ => tG_then st so p fun w S1 v ρ1 H1 f1 st1 so1 r1 p1 => by
    obtain ⟨c, rfl, p2⟩ := asB_then r1 p1
    refine ⟨c, rfl, ?_⟩
    cases c with
    | true => rw [if_pos rfl]; exact p2 _ ρ1 H1 Fwd.refl so1 (.bl true)
    | false => rw [if_neg Bool.false_ne_true]; exact ⟨δ, ρ1, S1, st1, so1, p2⟩
theorem de_not {e : Expr} {pos : Pos} {a : Den W} (h : PE X e (tE X.K E a)) : PE X (.UnaryOp .Not e pos) (tE X.K E (cNotV a)) :=
  pe_mono (pe_not h) fun σ H Q ⟨δ, ρ, S, st, so, p⟩ => tG_then st so p fun w S1 v ρ1 H1 f1 st1 so1 r1 p1 => by
    obtain ⟨c, rfl, p2⟩ := asB_then r1 p1
    exact ⟨c, rfl, p2 _ ρ1 H1 Fwd.refl so1 (.bl _)⟩
def cIf (t : Den Bool) (a b : Den W) : Den W := fun δ S => (t δ S).bind fun c S1 => if c then a δ S1 else b δ S1
theorem de_if {c e e' : Expr} {pos : Pos} {t : Den Bool} {a b : Den W} (hc : PT X c (tT X.K E t)) (h : PE X e (tE X.K E a)) (h' : PE X e' (tE X.K E b)) : PE X (.IfExp c e e' pos) (tE X.K E (cIf t a b)) :=
  pe_mono (pe_ifExp hc h h') fun σ H Q ⟨δ, ρ, S, st, so, p⟩ => tG_then st so p fun c S1 v ρ1 H1 f1 st1 so1 r1 p1 => by
    cases r1
    cases c with
    | true => rw [if_pos rfl]; exact ⟨δ, ρ1, S1, st1, so1, p1⟩
    | false => rw [if_neg Bool.false_ne_true]; exact ⟨δ, ρ1, S1, st1, so1, p1⟩
/-- code that is never reached -/
theorem de_dead {e : Expr} : PE X e (tE X.K E fun _ _ => .bad) := ⟨fun _ _ _ _ _ _ ⟨_, _, _, _, _, p⟩ => p.elim⟩

/-! ### blocks -/
def cNx : DenS := fun δ S => .nx δ S
def cSeq (a b : DenS) : DenS := fun δ S => match a δ S with
  | .nx δ' S' => b δ' S'
  | r => r
def cBad : DenS := fun _ _ => .bad
theorem ds_dead {s : Stmt} : PS X s (tS X.K E cBad) := ⟨fun _ _ _ _ _ _ ⟨_, _, _, _, _, p⟩ => p.elim⟩
theorem dss_dead {s : List Stmt} : PSs X s (tS X.K E cBad) := ⟨fun _ _ _ _ _ _ ⟨_, _, _, _, _, p⟩ => p.elim⟩
theorem dss_nil : PSs X [] (tS X.K E cNx) := pss_mono pss_nil fun D' σ H ⟨δ, ρ, S, st, so, p⟩ => p σ ρ H Fwd.refl so st
theorem dss_one {s : Stmt} {a : DenS} (h : PS X s (tS X.K E a)) : PSs X [s] (tS X.K E a) := pss_one h
theorem dss_cons {s : Stmt} {r : List Stmt} {a b : DenS} (h : PS X s (tS X.K E a)) (h' : PSs X r (tS X.K E b)) : PSs X (s :: r) (tS X.K E (cSeq a b)) :=
  pss_mono (pss_cons h h') fun D' σ H ⟨δ, ρ, S, st, so, p⟩ => by
    refine ⟨δ, ρ, S, st, so, ?_⟩
    unfold cSeq at p
    cases q : a δ S with
    | nx δ' S' =>
      simp only [q] at p
      exact fun σ' ρ' H' f so' st' => ⟨δ', ρ', S', st', so', PostS.later f p⟩
    | rt w S' => simp only [q] at p; exact p
    | bk w S' => simp only [q] at p; exact p
    | ct w S' => simp only [q] at p; exact p
    | xc c ds w S' => simp only [q] at p; exact p
    | bad => simp only [q] at p; exact p
def cRet (a : Den W) : DenS := fun δ S => (a δ S).thenS δ fun w S1 => .rt w S1
def cRetN : DenS := fun _ S => .rt (.v .non) S
def cExpr (a : Den W) : DenS := fun δ S => (a δ S).thenS δ fun _ S1 => .nx δ S1
def cIfS (t : Den Bool) (a b : DenS) : DenS := fun δ S => (t δ S).thenS δ fun c S1 => if c then a δ S1 else b δ S1
def cBrk : DenS := fun δ S => .bk δ S
def cCt : DenS := fun δ S => .ct δ S
theorem ds_ret {e : Expr} {pos : Pos} {a : Den W} (h : PE X e (tE X.K E a)) : PS X (.Return (some e) pos) (tS X.K E (cRet a)) :=
  ps_mono (ps_ret h) fun D' σ H ⟨δ, ρ, S, st, so, p⟩ => tG_thenS st so p fun w S1 v ρ1 H1 f1 st1 so1 r1 p1 => p1 v ρ1 H1 Fwd.refl so1 r1
theorem ds_retN {pos : Pos} : PS X (.Return none pos) (tS X.K E cRetN) := ps_mono ps_retN fun D' σ H ⟨δ, ρ, S, st, so, p⟩ => p .non ρ H Fwd.refl so .non
theorem ds_expr {e : Expr} {pos : Pos} {a : Den W} (h : PE X e (tE X.K E a)) (hs : swapsWith e none pos.line X.env = pure false := by rfl) : PS X (.Expr e pos) (tS X.K E (cExpr a)) :=
  ps_mono (ps_expr h hs) fun D' σ H ⟨δ, ρ, S, st, so, p⟩ => tG_thenS st so p fun w S1 v ρ1 H1 f1 st1 so1 r1 p1 => p1 σ ρ1 H1 Fwd.refl so1 st1
theorem ds_if {c : Expr} {u u' : List Stmt} {pos : Pos} {t : Den Bool} {a b : DenS} (hc : PT X c (tT X.K E t)) (h : PSs X u (tS X.K E a)) (h' : PSs X u' (tS X.K E b)) : PS X (.If c u u' pos) (tS X.K E (cIfS t a b)) :=
  ps_mono (ps_if hc h h') fun D' σ H ⟨δ, ρ, S, st, so, p⟩ => tG_thenS st so p fun c S1 v ρ1 H1 f1 st1 so1 r1 p1 => by
    cases r1
    cases c with
    | true => rw [if_pos rfl]; exact ⟨δ, ρ1, S1, st1, so1, p1⟩
    | false => rw [if_neg Bool.false_ne_true]; exact ⟨δ, ρ1, S1, st1, so1, p1⟩
theorem ds_pass {pos : Pos} : PS X (.Pass pos) (tS X.K E cNx) := ps_mono ps_pass fun D' σ H ⟨δ, ρ, S, st, so, p⟩ => p σ ρ H Fwd.refl so st
theorem ds_brk {pos : Pos} : PS X (.Break pos) (tS X.K E cBrk) := ps_mono ps_break fun D' σ H ⟨δ, ρ, S, st, so, p⟩ => p σ ρ H Fwd.refl so st
theorem ds_ct {pos : Pos} : PS X (.Continue pos) (tS X.K E cCt) := ps_mono ps_continue fun D' σ H ⟨δ, ρ, S, st, so, p⟩ => p σ ρ H Fwd.refl so st
theorem ds_doc {x j pos pos'} : PS X (.Expr (.Constant (.str x) j pos) pos') (tS X.K E cNx) := ps_mono ps_doc fun D' σ H ⟨δ, ρ, S, st, so, p⟩ => p σ ρ H Fwd.refl so st

/-! ### targets -/
abbrev DenG := W → Slots → Sto → Option (Slots × Sto)
/-- the target's reading is served by a denotation that changes the slots ts alone -/
def GOk (K : PySem.W.Frag) (g : TG) (dg : DenG) (ts : List Nat) : Prop := ∀ (ρ : List Addr) (S : Sto) (H : Hp) (δ : Slots) (σ : L2.St) (w : W) (v : V) (Q : L2.St → Hp → Prop) (δ' : Slots) (S' : Sto),
  RpSt K ρ S H δ σ → Sok K ρ S H → RpW K ρ S H w v → dg w δ S = some (δ', S') →
  (∀ (σ' : L2.St) (ρ' : List Addr) (H' : Hp), Fwd ρ S H ρ' S' H' → Sok K ρ' S' H' → RpSt K ρ' S' H' δ' σ' → σ'.length = σ.length → (∀ j, j ∉ ts → σ'[j]? = σ[j]?) → Q σ' H') → g v σ H Q
def gN (i : Nat) : DenG := fun w δ S => some (δ.set i (some w), S)
theorem gok_name {K : PySem.W.Frag} (i : Nat) : GOk K (gName i) (gN i) [i] := fun ρ S H δ σ w v Q δ' S' st so r e h => by
  cases e
  exact h _ ρ H Fwd.refl so (st.set i r) (by rw [List.length_set]) fun j hj => List.getElem?_set_ne (fun z => hj (by rw [z]; exact List.mem_singleton.mpr rfl))
abbrev DenGs := List D → Slots → Sto → Option (Slots × Sto)
def GsOk (K : PySem.W.Frag) (g : TGs) (dg : DenGs) (ts : List Nat) : Prop := ∀ (ρ : List Addr) (S : Sto) (H : Hp) (δ : Slots) (σ : L2.St) (ds : List D) (vs : List V) (Q : L2.St → Hp → Prop) (δ' : Slots) (S' : Sto),
  RpSt K ρ S H δ σ → Sok K ρ S H → RpL K H (live ρ S) ds vs → dg ds δ S = some (δ', S') →
  (∀ (σ' : L2.St) (ρ' : List Addr) (H' : Hp), Fwd ρ S H ρ' S' H' → Sok K ρ' S' H' → RpSt K ρ' S' H' δ' σ' → σ'.length = σ.length → (∀ j, j ∉ ts → σ'[j]? = σ[j]?) → Q σ' H') → g vs σ H Q
def gsNil : DenGs := fun ds δ S => match ds with
  | [] => some (δ, S)
  | _ => none
def gsCons (a : DenG) (b : DenGs) : DenGs := fun ds δ S => match ds with
  | d :: r => match a (.v d) δ S with
    | some (δ1, S1) => b r δ1 S1
    | none => none
  | [] => none
theorem gsok_nil {K : PySem.W.Frag} : GsOk K gNil gsNil [] := fun ρ S H δ σ ds vs Q δ' S' st so r e h => by
  cases ds with
  | nil => cases e; cases r; exact ⟨rfl, h σ ρ H Fwd.refl so st rfl fun _ _ => rfl⟩
  | cons d r => cases e
theorem gsok_cons {K : PySem.W.Frag} {g : TG} {gs : TGs} {a : DenG} {b : DenGs} {t1 t2 : List Nat} (h1 : GOk K g a t1) (h2 : GsOk K gs b t2) : GsOk K (gCons g gs) (gsCons a b) (t1 ++ t2) := fun ρ S H δ σ ds vs Q δ' S' st so r e h => by
  cases r with
  | nil => cases e
  | @cons d r v vs rd rr =>
    unfold gsCons at e
    cases q : a (.v d) δ S with
    | none => simp only [q] at e; cases e
    | some z =>
      obtain ⟨δ1, S1⟩ := z
      simp only [q] at e
      exact ⟨v, vs, rfl, h1 ρ S H δ σ (.v d) v _ δ1 S1 st so rd q fun σ1 ρ1 H1 f1 so1 st1 l1 k1 => h2 ρ1 S1 H1 δ1 σ1 r vs Q δ' S' st1 so1 (f1.rpL rr) e fun σ2 ρ2 H2 f2 so2 st2 l2 k2 =>
        h σ2 ρ2 H2 (f1.trans f2) so2 st2 (l2.trans l1) fun j hj => (k2 j fun z => hj (List.mem_append_right _ z)).trans (k1 j fun z => hj (List.mem_append_left _ z))⟩
def gT (n : Nat) (b : DenGs) : DenG := fun w δ S => match w with
  | .v (.tup ds) => if ds.length = n then b ds δ S else none
  | _ => none
theorem gok_tup {K : PySem.W.Frag} {n : Nat} {gs : TGs} {b : DenGs} {ts : List Nat} (h : GsOk K gs b ts) : GOk K (gTup K n gs) (gT n b) ts := fun ρ S H δ σ w v Q δ' S' st so r e hq => by
  unfold gT at e
  cases w with
  | r i => cases e
  | s ns => cases e
  | lk es => cases e
  | x c ds => cases e
  | v d =>
    cases d with
    | tup ds =>
      by_cases hl : ds.length = n
      · simp only [if_pos hl] at e
        cases r with
        | tup sq rl => exact ⟨_, _, rfl, sq, by rw [← rl.length]; exact hl, h ρ S H δ σ ds _ Q δ' S' st so rl e hq⟩
      · simp only [if_neg hl] at e; cases e
    | _ => cases e
def cAsg (a : Den W) (dg : DenG) : DenS := fun δ S => (a δ S).thenS δ fun w S1 => match dg w δ S1 with
  | some (δ', S') => .nx δ' S'
  | none => .bad
theorem asg_post {K : PySem.W.Frag} {g : TG} {dg : DenG} {ts : List Nat} (hg : GOk K g dg ts) {ρ : List Addr} {S : Sto} {H : Hp} {δ : Slots} {σ : L2.St} {w : W} {v : V} {D' : Ends} (st : RpSt K ρ S H δ σ) (so : Sok K ρ S H) (r : RpW K ρ S H w v)
    (p : PostS K ρ S H (match dg w δ S with | some (δ', S') => .nx δ' S' | none => .bad) D' E) : g v σ H D'.nx := by
  cases q : dg w δ S with
  | none => rw [q] at p; exact p.elim
  | some z =>
    obtain ⟨δ', S'⟩ := z
    rw [q] at p
    exact hg ρ S H δ σ w v _ δ' S' st so r q fun σ' ρ' H' f so' st' _ _ => p σ' ρ' H' f so' st'
theorem ds_asg {tg e : Expr} {pos : Pos} {a : Den W} {g : TG} {dg : DenG} {ts : List Nat} (he : PE X e (tE X.K E a)) (hp : PG X tg g) (hg : GOk X.K g dg ts) (hs : swapsWithSole [tg] e pos.line X.env = pure false := by rfl) (hw : swappedStores [tg] e X.env = pure none := by rfl)
    (h1 : (assignEach [tg] X.env).map (·.2) = [assign tg X.env] := by rfl) : PS X (.Assign [tg] e pos) (tS X.K E (cAsg a dg)) :=
  ps_mono (ps_asg he hp hs hw h1) fun D' σ H ⟨δ, ρ, S, st, so, p⟩ => tG_thenS st so p fun w S1 v ρ1 H1 f1 st1 so1 r1 p1 => asg_post hg st1 so1 r1 p1
theorem ds_set (i : Nat) {x : Str} {e : Expr} {pos pos' : Pos} {a : Den W} (hN : X.N.Nodup) (he : PE X e (tE X.K E a)) (hx : Loc X.env.scope x := by first | exact Or.inl rfl | exact Or.inr rfl) (hi : X.N[i]? = some x := by rfl)
    (hs : swapsWith e (some (.Name x pos')) pos.line X.env = pure false := by rfl) (hf : X.fn x = true ∨ X.env.scope.names.lookup x = some .local := by first | exact .inl rfl | exact .inr rfl | assumption) : PS X (.Assign [.Name x pos'] e pos) (tS X.K E (cAsg a (gN i))) :=
  ps_mono (ps_set hN hi hx he hs hf) fun D' σ H ⟨δ, ρ, S, st, so, p⟩ => tG_thenS st so p fun w S1 v ρ1 H1 f1 st1 so1 r1 p1 => asg_post (gok_name i) st1 so1 r1 p1
end
end Fro

namespace Fro
open PySem PySem.Spec L2

/-! ### what is walked -/
/-- an iterator that gives the data ds, one a turn, while the heap goes on -/
def Jok (K : PySem.W.Frag) : Rl (List D) It := fun ρ S H ds J => ∀ (i : Nat) (ρ' : List Addr) (S' : Sto) (H' : Hp), Fwd ρ S H ρ' S' H' → Sok K ρ' S' H' →
  (∀ d, ds[i]? = some d → J.go i H' ∧ ∀ x H'', J.yld i H' x H'' → Fwd ρ' S' H' ρ' S' H'' ∧ Sok K ρ' S' H'' ∧ Rp K H'' (live ρ' S') d x) ∧ (ds.length ≤ i → J.stop i H')
abbrev tI (K : PySem.W.Frag) (E : XP) (den : Den (List D)) : TI := tG K (Jok K) E den
theorem jok_list {K : PySem.W.Frag} {ρ : List Addr} {S : Sto} {H : Hp} {a : Addr} {xs : List V} {ds : List D} (h : H a = some (.lst xs)) (n : ¬ live ρ S a) (r : RpL K H (live ρ S) ds xs) : Jok K ρ S H ds (Itl K a) := fun i ρ' S' H' f so => by
  have sq : SqL K H' a xs := SqL.of (f.keep _ _ n h)
  have r' := f.rpL r
  refine ⟨fun d e => ?_, fun hl => ⟨xs, sq, by rw [← r.length]; exact hl⟩⟩
  obtain ⟨v, hv, rv⟩ := r'.get i e
  refine ⟨⟨xs, v, sq, hv⟩, fun x H'' y => ?_⟩
  obtain ⟨rfl, fx⟩ := y
  have ex : v = x := Option.some.inj (hv.symm.trans (fx xs sq))
  subst ex
  exact ⟨Fwd.refl, so, rv⟩
theorem jok_tup {K : PySem.W.Frag} {ρ : List Addr} {S : Sto} {H : Hp} {a : Addr} {xs : List V} {ds : List D} (h : SqT K H a xs) (r : RpL K H (live ρ S) ds xs) : Jok K ρ S H ds (Itt K a) := fun i ρ' S' H' f so => by
  have sq : SqT K H' a xs := sqT_mono f.tups f.frzs h
  have r' := f.rpL r
  refine ⟨fun d e => ?_, fun hl => ⟨xs, sq, by rw [← r.length]; exact hl⟩⟩
  obtain ⟨v, hv, rv⟩ := r'.get i e
  refine ⟨⟨xs, v, sq, hv⟩, fun x H'' y => ?_⟩
  obtain ⟨rfl, fx⟩ := y
  have ex : v = x := Option.some.inj (hv.symm.trans (fx xs sq))
  subst ex
  exact ⟨Fwd.refl, so, rv⟩
def rangeD (lo : Int) : Nat → List D
  | 0 => []
  | n + 1 => .int lo :: rangeD (lo + 1) n
theorem rangeD_length : ∀ (n : Nat) (lo : Int), (rangeD lo n).length = n
  | 0, _ => rfl
  | n + 1, lo => by
    show (rangeD (lo + 1) n).length + 1 = n + 1
    rw [rangeD_length n]
theorem rangeD_get : ∀ (n i : Nat) (lo : Int) (d : D), (rangeD lo n)[i]? = some d → i < n ∧ d = .int (lo + i)
  | 0, _, _, _, e => by simp [rangeD] at e
  | n + 1, 0, lo, d, e => by
    simp [rangeD] at e
    exact ⟨Nat.succ_pos _, by rw [← e]; simp⟩
  | n + 1, i + 1, lo, d, e => by
    have q := rangeD_get n i (lo + 1) d (by simpa [rangeD] using e)
    refine ⟨Nat.succ_lt_succ q.1, ?_⟩
    rw [q.2]
    congr 1
    omega
theorem jok_range {K : PySem.W.Frag} {ρ : List Addr} {S : Sto} {H : Hp} (lo : Int) (n : Nat) : Jok K ρ S H (rangeD lo n) (Itr lo n) := fun i ρ' S' H' f so => by
  refine ⟨fun d e => ?_, fun hl => by rw [rangeD_length] at hl; exact hl⟩
  obtain ⟨h1, rfl⟩ := rangeD_get n i lo d e
  refine ⟨h1, fun x H'' y => ?_⟩
  obtain ⟨rfl, rfl⟩ := y
  exact ⟨Fwd.refl, so, .int _⟩
section
variable {X : Cx} {E : XP} {tg : Expr}
theorem pi_mono {iter : Expr} {t t' : TI} (h : PI X tg iter t) (w : ∀ σ H Q, t' σ H Q → t σ H Q) : PI X tg iter t' := ⟨fun pins s σ H Q I q => h.run pins s σ H Q I (w σ H Q q)⟩
/-- a value that is a list; one that is a tuple -/
def asL (w : W) (S : Sto) : R (List D) := match w with
  | .v (.lst ds) => .ok ds S
  | _ => .bad
def asT (w : W) (S : Sto) : R (List D) := match w with
  | .v (.tup ds) => .ok ds S
  | _ => .bad
def itL (a : Den W) : Den (List D) := fun δ S => (a δ S).bind asL
def itT (a : Den W) : Den (List D) := fun δ S => (a δ S).bind asT
theorem di_list {e : Expr} {a : Den W} (h : PE X e (tE X.K E a)) : PI X tg e (tI X.K E (itL a)) := pi_mono (pi_list h) fun σ H Q ⟨δ, ρ, S, st, so, p⟩ => tG_then st so p fun w S1 v ρ1 H1 f1 st1 so1 r1 p1 => by
  cases w with
  | r i => exact p1.elim
  | s ns => exact p1.elim
  | lk es => exact p1.elim
  | x c ds => exact p1.elim
  | v d =>
    cases d with
    | lst ds =>
      cases r1 with
      | lst e n rl => exact ⟨_, rfl, ⟨_, SqL.of e⟩, p1 _ ρ1 H1 Fwd.refl so1 (jok_list e n rl)⟩
    | _ => exact p1.elim
theorem di_tup {e : Expr} {a : Den W} (h : PE X e (tE X.K E a)) : PI X tg e (tI X.K E (itT a)) := pi_mono (pi_tup h) fun σ H Q ⟨δ, ρ, S, st, so, p⟩ => tG_then st so p fun w S1 v ρ1 H1 f1 st1 so1 r1 p1 => by
  cases w with
  | r i => exact p1.elim
  | s ns => exact p1.elim
  | lk es => exact p1.elim
  | x c ds => exact p1.elim
  | v d =>
    cases d with
    | tup ds =>
      cases r1 with
      | tup e rl => exact ⟨_, rfl, ⟨_, e⟩, p1 _ ρ1 H1 Fwd.refl so1 (jok_tup e rl)⟩
    | _ => exact p1.elim
def asR (ws : List W) (S : Sto) : R (List D) := match ws with
  | [.v (.int n)] => if n < 1000000 then .ok (rangeD 0 n.toNat) S else .bad
  | _ => .bad
def itR (a : Den (List W)) : Den (List D) := fun δ S => (a δ S).bind asR
theorem asR_post {K : PySem.W.Frag} {ρ : List Addr} {S : Sto} {H : Hp} {ws : List W} {vs : List V} {Q : It → Hp → Prop} {Ex} (so : Sok K ρ S H) (r : RpWs K ρ S H ws vs) (p : Post K (Jok K) ρ S H (asR ws S) Q Ex) :
    ∃ n : Int, vs = [.int n] ∧ n < 1000000 ∧ Q (Itr 0 n.toNat) H := by
  unfold asR at p
  split at p
  · rename_i n
    cases r with
    | cons a b =>
      cases b
      cases a
      by_cases h : n < 1000000
      · rw [if_pos h] at p
        exact ⟨n, rfl, h, p _ ρ H Fwd.refl so (jok_range 0 _)⟩
      · rw [if_neg h] at p; exact p.elim
  · exact p.elim
/-- range(n): n from -2^62 on -/
def asR0 (ws : List W) (S : Sto) : R (List D) := match ws with
  | [.v (.int n)] => if 0 ≤ n ∧ n < 1000000 then .ok (rangeD 0 n.toNat) S else .bad
  | _ => .bad
def itR0 (a : Den (List W)) : Den (List D) := fun δ S => (a δ S).bind asR0
theorem di_range {e : Expr} {p pos : Pos} {a : Den (List W)} (hm : X.mg "range" = none) (h : PA X [e] (tA X.K E a)) (hg : Gl X "range" := by rfl) (hs : starEach [e] X.env = [(false, eval e X.env)] := by rfl) :
    PI X tg (.Call (.Name "range" p) [e] [] pos) (tI X.K E (itR0 a)) := pi_mono (pi_range1 hg hm h hs) fun σ H Q ⟨δ, ρ, S, st, so, p⟩ => tG_then st so p fun ws S1 vs ρ1 H1 f1 st1 so1 r1 p1 => by
  unfold asR0 at p1
  split at p1
  · rename_i n
    cases r1 with
    | cons a b =>
      cases b
      cases a
      by_cases h : 0 ≤ n ∧ n < 1000000
      · rw [if_pos h] at p1
        refine ⟨n, rfl, ?_, ?_, p1 _ ρ1 H1 Fwd.refl so1 (jok_range 0 _)⟩
        · have : (0 : Int) ≤ n := h.1
          exact Int.le_trans (by decide) this
        · exact Int.lt_trans h.2 (by decide)
      · rw [if_neg h] at p1; exact p1.elim
  · exact p1.elim

/-! ### for -/
def forL (dg : DenG) (body : DenS) : List D → Slots → Sto → RS
  | [], δ, S => .nx δ S
  | d :: ds, δ, S => match dg (.v d) δ S with
    | none => .bad
    | some (δ1, S1) => match body δ1 S1 with
      | .nx δ2 S2 => forL dg body ds δ2 S2
      | .ct δ2 S2 => forL dg body ds δ2 S2
      | .bk δ2 S2 => .nx δ2 S2
      | r => r
def cFor (it : Den (List D)) (dg : DenG) (body : DenS) : DenS := fun δ S => (it δ S).thenS δ fun ds S1 => forL dg body ds δ S1
theorem ds_for {iter : Expr} {body : List Stmt} {pos : Pos} {it : Den (List D)} {g : TG} {dg : DenG} {ts : List Nat} {b : DenS} (hp : PassesOwn (model X.prog X.w) X.A X.env X.xe) (hc : X.calm = true) (hi : PI X tg iter (tI X.K E it)) (hg : PG X tg g) (hgo : GOk X.K g dg ts)
    (hb : PSs X body (tS X.K E b)) (hs : ∀ x, foldedSetIterable iter X.env x = pure x := by intro _; rfl) : PS X (.For tg iter body [] pos) (tS X.K E (cFor it dg b)) :=
  ps_mono (ps_for hp hc hi hg hb hs) fun D' σ H ⟨δ, ρ, S, st, so, p⟩ => tG_thenS st so p fun ds S1 J ρ1 H1 f1 st1 so1 j1 p1 => by
    refine ⟨fun i m σ' H' => i + m = ds.length ∧ ∃ (δ' : Slots) (ρ' : List Addr) (S' : Sto), Fwd ρ1 S1 H1 ρ' S' H' ∧ RpSt X.K ρ' S' H' δ' σ' ∧ Sok X.K ρ' S' H' ∧ PostS X.K ρ' S' H' (forL dg b (ds.drop i) δ' S') D' E,
      ⟨ds.length, by omega, δ, ρ1, S1, Fwd.refl, st1, so1, by rw [List.drop_zero]; exact p1⟩, fun i m σ' H' hW => ?_⟩
    obtain ⟨em, δ', ρ', S', f', st', so', p'⟩ := hW
    obtain ⟨jg, js⟩ := j1 i ρ' S' H' f' so'
    by_cases hl : i < ds.length
    · have ed : ds.drop i = ds[i] :: ds.drop (i + 1) := List.drop_eq_getElem_cons hl
      rw [ed] at p'
      obtain ⟨g1, g2⟩ := jg ds[i] (List.getElem?_eq_getElem hl)
      refine .inr ⟨g1, fun σ2 H2 => ∃ (δ2 : Slots) (ρ2 : List Addr) (S2 : Sto), Fwd ρ1 S1 H1 ρ2 S2 H2 ∧ RpSt X.K ρ2 S2 H2 δ2 σ2 ∧ Sok X.K ρ2 S2 H2 ∧ PostS X.K ρ2 S2 H2 (forL dg b (ds.drop (i + 1)) δ2 S2) D' E, fun σ2 H2 ⟨δ2, ρ2, S2, a1, a2, a3, a4⟩ => ⟨m - 1, by omega, by omega, δ2, ρ2, S2, a1, a2, a3, a4⟩, fun x H3 y => ?_⟩
      obtain ⟨fy, soy, ry⟩ := g2 x H3 y
      unfold forL at p'
      cases q : dg (.v ds[i]) δ' S' with
      | none => simp only [q] at p'; exact p'.elim
      | some z =>
        obtain ⟨δ3, S3⟩ := z
        simp only [q] at p'
        refine hgo ρ' S' H3 δ' σ' (.v ds[i]) x _ δ3 S3 (fy.st st') soy ry q fun σ4 ρ4 H4 f4 so4 st4 _ _ => ?_
        have p4 := PostS.later (fy.trans f4) p'
        have f14 : Fwd ρ1 S1 H1 ρ4 S3 H4 := f'.trans (fy.trans f4)
        refine ⟨δ3, ρ4, S3, st4, so4, ?_⟩
        cases qb : b δ3 S3 with
        | nx δ5 S5 => simp only [qb] at p4; exact fun σ5 ρ5 H5 f5 so5 st5 => ⟨δ5, ρ5, S5, f14.trans f5, st5, so5, PostS.later f5 p4⟩
        | ct δ5 S5 => simp only [qb] at p4; exact fun σ5 ρ5 H5 f5 so5 st5 => ⟨δ5, ρ5, S5, f14.trans f5, st5, so5, PostS.later f5 p4⟩
        | bk δ5 S5 => simp only [qb] at p4; exact p4
        | rt w S5 => simp only [qb] at p4; exact p4
        | xc c cs w S5 => simp only [qb] at p4; exact p4
        | bad => simp only [qb] at p4; exact p4
    · refine .inl ⟨js (by omega), ?_⟩
      rw [List.drop_eq_nil_of_le (by omega)] at p'
      exact p' σ' ρ' H' Fwd.refl so' st'

/-! ### while -/
def whileN (t : Den Bool) (b : DenS) : Nat → Slots → Sto → RS
  | 0, _, _ => .bad
  | n + 1, δ, S => (t δ S).thenS δ fun c S1 => if c then (match b δ S1 with
      | .nx δ2 S2 => whileN t b n δ2 S2
      | .ct δ2 S2 => whileN t b n δ2 S2
      | .bk δ2 S2 => .nx δ2 S2
      | r => r) else .nx δ S1
def cWhile (n : Nat) (t : Den Bool) (b : DenS) : DenS := fun δ S => whileN t b n δ S
theorem ds_while {c : Expr} {body : List Stmt} {pos : Pos} {t : Den Bool} {b : DenS} (n : Nat) (hp : PassesOwn (model X.prog X.w) X.A X.env X.xe) (hc : PT X c (tT X.K E t)) (hb : PSs X body (tS X.K E b)) : PS X (.While c body [] pos) (tS X.K E (cWhile n t b)) :=
  ps_mono (ps_while hp hc hb) fun D' σ H ⟨δ, ρ, S, st, so, p⟩ => by
    refine ⟨fun m σ' H' => ∃ (δ' : Slots) (ρ' : List Addr) (S' : Sto), RpSt X.K ρ' S' H' δ' σ' ∧ Sok X.K ρ' S' H' ∧ PostS X.K ρ' S' H' (whileN t b m δ' S') D' E, ⟨n, δ, ρ, S, st, so, p⟩, fun m σ' H' hW => ?_⟩
    obtain ⟨δ', ρ', S', st', so', p'⟩ := hW
    cases m with
    | zero => exact p'.elim
    | succ m =>
      unfold whileN at p'
      refine tG_thenS st' so' p' fun c S1 v ρ1 H1 f1 st1 so1 r1 p1 => ?_
      cases r1
      cases c with
      | false => rw [if_neg Bool.false_ne_true]; exact p1 σ' ρ1 H1 Fwd.refl so1 st1
      | true =>
        rw [if_pos rfl]
        refine ⟨fun σ2 H2 => ∃ (δ2 : Slots) (ρ2 : List Addr) (S2 : Sto), RpSt X.K ρ2 S2 H2 δ2 σ2 ∧ Sok X.K ρ2 S2 H2 ∧ PostS X.K ρ2 S2 H2 (whileN t b m δ2 S2) D' E, fun σ2 H2 hN => ⟨m, Nat.lt_succ_self m, hN⟩, δ', ρ1, S1, st1, so1, ?_⟩
        have p2 : PostS X.K ρ1 S1 H1 (match b δ' S1 with
          | .nx δ2 S2 => whileN t b m δ2 S2
          | .ct δ2 S2 => whileN t b m δ2 S2
          | .bk δ2 S2 => .nx δ2 S2
          | r => r) D' E := p1
        cases qb : b δ' S1 with
        | nx δ5 S5 => simp only [qb] at p2; exact fun σ5 ρ5 H5 f5 so5 st5 => ⟨δ5, ρ5, S5, st5, so5, PostS.later f5 p2⟩
        | ct δ5 S5 => simp only [qb] at p2; exact fun σ5 ρ5 H5 f5 so5 st5 => ⟨δ5, ρ5, S5, st5, so5, PostS.later f5 p2⟩
        | bk δ5 S5 => simp only [qb] at p2; exact p2
        | rt w S5 => simp only [qb] at p2; exact p2
        | xc c cs w S5 => simp only [qb] at p2; exact p2
        | bad => simp only [qb] at p2; exact p2
end

/-! ### parts of a store -/
theorem Sok.sub {K : PySem.W.Frag} {ρ ρ1 : List Addr} {S S1 : Sto} {H : Hp} (so : Sok K ρ S H) (hl : ρ1.length = S1.length) (nd : ρ1.Nodup) (hs : ∀ (i : Nat) (a : Addr) (o : Ob), ρ1[i]? = some a → S1[i]? = some o → ∃ j : Nat, ρ[j]? = some a ∧ S[j]? = some o) :
    Sok K ρ1 S1 H ∧ ∀ b, live ρ1 S1 b → live ρ S b := by
  have lv : ∀ b, live ρ1 S1 b → live ρ S b := fun b ⟨i, o, h1, h2, h3⟩ => let ⟨j, q1, q2⟩ := hs i b o h1 h2; ⟨j, o, q1, q2, h3⟩
  refine ⟨⟨hl, nd, fun i a o h1 h2 => ?_⟩, lv⟩
  obtain ⟨j, q1, q2⟩ := hs i a o h1 h2
  have q := so.obs j a o q1 q2
  cases o with
  | lst ds => obtain ⟨xs, e, r⟩ := q; exact ⟨xs, e, r.mono (fun _ _ _ z => z) (fun _ _ z => z) (fun _ _ _ z => z) fun b l => .inl (lv b l)⟩
  | dct ds => obtain ⟨xs, e, r⟩ := q; exact ⟨xs, e, r.mono (fun _ _ _ z => z) (fun _ _ z => z) (fun _ _ _ z => z) fun b l => .inl (lv b l)⟩
  | dead => exact q
theorem Sok.take {K : PySem.W.Frag} {ρ : List Addr} {S : Sto} {H : Hp} (so : Sok K ρ S H) (n : Nat) : Sok K (ρ.take n) (S.take n) H ∧ ∀ b, live (ρ.take n) (S.take n) b → live ρ S b := by
  refine so.sub (by rw [List.length_take, List.length_take, so.len]) (so.nd.sublist (List.take_sublist _ _)) fun i a o h1 h2 => ?_
  rw [List.getElem?_take] at h1 h2
  split at h1
  · rename_i hi
    rw [if_pos hi] at h2
    exact ⟨i, h1, h2⟩
  · cases h1
theorem Rp.weak {K : PySem.W.Frag} {H : Hp} {M M' : Addr → Prop} {d : D} {v : V} (h : Rp K H M d v) (hm : ∀ b, M' b → M b) : Rp K H M' d v := h.mono (fun _ _ _ z => z) (fun _ _ z => z) (fun _ _ _ z => z) fun b l => .inl (hm b l)
theorem RpL.weak {K : PySem.W.Frag} {H : Hp} {M M' : Addr → Prop} {d : List D} {v : List V} (h : RpL K H M d v) (hm : ∀ b, M' b → M b) : RpL K H M' d v := h.mono (fun _ _ _ z => z) (fun _ _ z => z) (fun _ _ _ z => z) fun b l => .inl (hm b l)
theorem RpE.weak {K : PySem.W.Frag} {H : Hp} {M M' : Addr → Prop} {d : List (Tx × D)} {v : List (Key × V)} (h : RpE K H M d v) (hm : ∀ b, M' b → M b) : RpE K H M' d v := h.mono (fun _ _ _ z => z) (fun _ _ z => z) (fun _ _ _ z => z) fun b l => .inl (hm b l)
/-- what the store had in the end is let go; the rest as it is -/
theorem Fwd.cut {ρ ρ' : List Addr} {S S' : Sto} {H H' : Hp} (f : Fwd ρ S H ρ' S' H') (hl : ρ.length = S.length) (hl' : ρ'.length = S'.length) : Fwd ρ S H ρ (S'.take S.length) H' := by
  obtain ⟨more, e⟩ := f.ext
  refine ⟨⟨[], by simp⟩, f.keep, f.tups, f.frzs, fun b l => f.new b ?_⟩
  obtain ⟨i, o, h1, h2, h3⟩ := l
  rw [List.getElem?_take] at h2
  split at h2
  · rename_i hi
    exact ⟨i, o, by rw [e, List.getElem?_append_left (by omega)]; exact h1, h2, h3⟩
  · cases h2
end Fro

/-! Fro, guards: defs that are entered where no repr is under way. -/
namespace Fro
open PySem PySem.Spec L2 PyProof.Rows

/-- room for k calls, and no guarded walk (repr) under way -/
structure Room (k : Nat) (A : Around) : Prop where
  r : L2.Room k A
  g : A.guards = some []
theorem Room.mono {j k : Nat} {A : Around} (h : Room k A) (l : j ≤ k) : Room j A := ⟨h.r.mono l, h.g⟩
theorem Room.deeper {k : Nat} {A : Around} (h : Room (k + 1) A) (env : Env) : Room k (A.deeper env) := ⟨h.r.deeper env, h.g⟩
theorem Room.un {k : Nat} {A : Around} (h : Room k A) : A.units + 16 * k + 200 < cLine := h.r.un

/-- what a def keeps, entered with such room -/
structure FnOk (P : Program) (w : World) (K : PySem.W.Frag) (mg : Str → Option Value) (base : Heap) (CX : CXT) (k : Nat) (f : Addr) (fd : FuncData) (ps : List Str) (sp : Sp) : Prop where
  len : ∀ vs H Q E, sp vs H Q E → vs.length = ps.length
  go : ∀ (A : Around) (outer : List Env) (s : Shared) (H : Hp) (args : Args) (us : List Value) (vs : List V) (Q : VK) (E : XK), Room k A → Env0 P w K mg base A outer s H → BindsTo s fd args (ps.zip us) → Vals vs us → sp vs H Q E →
    codeAny (model P w) A (.call (.ref f) args) (CR CX outer P w H s Q E) s
theorem FnOk.mono {P : Program} {w : World} {K : PySem.W.Frag} {mg : Str → Option Value} {base : Heap} {CX : CXT} {j k : Nat} {f : Addr} {fd : FuncData} {ps : List Str} {sp : Sp} (F : FnOk P w K mg base CX j f fd ps sp) (h : j ≤ k) : FnOk P w K mg base CX k f fd ps sp :=
  ⟨F.len, fun A outer s H args us vs Q E hr e0 hb hv q => F.go A outer s H args us vs Q E (hr.mono h) e0 hb hv q⟩

section
variable {X : Cx} {CX : CXT} {k : Nat} {f : Addr} {fd : FuncData} {ps : List Str} {sp : Sp} {dvs : List V} {ds : List Value} {E : XK} {x : Str} {p pos : Pos} {e : Expr} {es : List Expr} {t : TA}
/-- the def runs at bound arguments -/
theorem call_in {pins : List (Addr × Obj)} {σ : L2.St} {H : Hp} {s : Shared} {Q : VK} {us : List Value} {vs : List V} (F : FnOk X.prog X.w X.K X.mg X.base CX k f fd ps sp) (hr : Room k X.A) (hb : Binds X.K fd ps ds) (hd : Vals dvs ds) (hx : Passes CX X E)
    (I : Inv X pins σ H s) (rv : Vals vs us) (q : sp (vs ++ dvs) H Q E) : wpAny (model X.prog X.w) X.A (PySem.call (.ref f) us) (EP X pins σ Q) X.xe s := by
  have both := rv.append hd
  have n : (us ++ ds).length = ps.length := both.length.symm.trans (F.len _ _ _ _ q)
  have c := F.go X.A X.stack s H ⟨us, []⟩ (us ++ ds) (vs ++ dvs) Q E hr I.env0 (hb s us I.kIn n) both q
  refine wpAny_call (codeAny_mono c fun res s' hres => ?_)
  match res, hres with
  | .error err, hres => exact hx pins σ H s err s' I hres
  | .ok (.ret u), hres => exact I.after hres
  | .ok .next, hres => exact hres.elim
  | .ok .brk, hres => exact hres.elim
  | .ok .cont, hres => exact hres.elim
theorem pe_call (F : FnOk X.prog X.w X.K X.mg X.base CX k f fd ps sp) (hr : Room k X.A) (hg : Gl X x) (hm : X.mg x = some (.ref f)) (hk : PySem.W.keepIn X.K (.ref f) = true) (hb : Binds X.K fd ps ds) (hd : Vals dvs ds) (hx : Passes CX X E)
    (ha : PA X (e :: es) t) (hdb : (x == ("__debug__" : Str)) = false := by decide) (he : starEach (e :: es) X.env = (false, eval e X.env) :: starEach es X.env := by rfl) (hpl : (backTo pos (starEach es X.env)).any (·.1) = false := by rfl) :
    PE X (.Call (.Name x p) (e :: es) [] pos) (tCall sp dvs E t) := ⟨fun pins s σ H Q I h =>
  wpAny_Call_Name_kw (ld_glob I hg hm (PySem.W.callWith_K (h₀ := X.base) I.ok.mod.kin hk (thn (ha.run pos pins s σ H _ I h) fun us s1 ⟨vs, H1, I1, rv, q⟩ => ⟨I1.kIn, call_in F hr hb hd hx I1 rv q⟩) he hpl) hdb)⟩
/-- calls that may raise: E may hang on the slots -/
def tCallS (sp : Sp) (dvs : List V) (E : L2.St → XK) (t : TA) : TE := fun σ H Q => t σ H fun vs H1 => sp (vs ++ dvs) H1 Q (E σ)
theorem call_inS {pins : List (Addr × Obj)} {σ : L2.St} {H : Hp} {s : Shared} {Q : VK} {us : List Value} {vs : List V} (F : FnOk X.prog X.w X.K X.mg X.base CX k f fd ps sp) (hr : Room k X.A) (hb : Binds X.K fd ps ds) (hd : Vals dvs ds)
    (hx : ∀ (pins : List (Addr × Obj)) (H : Hp) (s : Shared) (e : Value) (s' : Shared), Inv X pins σ H s → CX X.stack H s E e s' → X.xe e s')
    (I : Inv X pins σ H s) (rv : Vals vs us) (q : sp (vs ++ dvs) H Q E) : wpAny (model X.prog X.w) X.A (PySem.call (.ref f) us) (EP X pins σ Q) X.xe s := by
  have both := rv.append hd
  have n : (us ++ ds).length = ps.length := both.length.symm.trans (F.len _ _ _ _ q)
  have c := F.go X.A X.stack s H ⟨us, []⟩ (us ++ ds) (vs ++ dvs) Q E hr I.env0 (hb s us I.kIn n) both q
  refine wpAny_call (codeAny_mono c fun res s' hres => ?_)
  match res, hres with
  | .error err, hres => exact hx pins H s err s' I hres
  | .ok (.ret u), hres => exact I.after hres
  | .ok .next, hres => exact hres.elim
  | .ok .brk, hres => exact hres.elim
  | .ok .cont, hres => exact hres.elim
theorem pe_callS {ES : L2.St → XK} (F : FnOk X.prog X.w X.K X.mg X.base CX k f fd ps sp) (hr : Room k X.A) (hg : Gl X x) (hm : X.mg x = some (.ref f)) (hk : PySem.W.keepIn X.K (.ref f) = true) (hb : Binds X.K fd ps ds) (hd : Vals dvs ds)
    (hx : ∀ (σ : L2.St) (pins : List (Addr × Obj)) (H : Hp) (s : Shared) (e : Value) (s' : Shared), Inv X pins σ H s → CX X.stack H s (ES σ) e s' → X.xe e s')
    (ha : PA X (e :: es) t) (hdb : (x == ("__debug__" : Str)) = false := by decide) (he : starEach (e :: es) X.env = (false, eval e X.env) :: starEach es X.env := by rfl) (hpl : (backTo pos (starEach es X.env)).any (·.1) = false := by rfl) :
    PE X (.Call (.Name x p) (e :: es) [] pos) (tCallS sp dvs ES t) := ⟨fun pins s σ H Q I h =>
  wpAny_Call_Name_kw (ld_glob I hg hm (PySem.W.callWith_K (h₀ := X.base) I.ok.mod.kin hk (thn (ha.run pos pins s σ H _ I h) fun us s1 ⟨vs, H1, I1, rv, q⟩ => ⟨I1.kIn, call_inS F hr hb hd (hx σ) I1 rv q⟩) he hpl) hdb)⟩
theorem pe_callS0 {ES : L2.St → XK} (F : FnOk X.prog X.w X.K X.mg X.base CX k f fd ps sp) (hr : Room k X.A) (hg : Gl X x) (hm : X.mg x = some (.ref f)) (hk : PySem.W.keepIn X.K (.ref f) = true) (hb : Binds X.K fd ps ds) (hd : Vals dvs ds)
    (hx : ∀ (σ : L2.St) (pins : List (Addr × Obj)) (H : Hp) (s : Shared) (e : Value) (s' : Shared), Inv X pins σ H s → CX X.stack H s (ES σ) e s' → X.xe e s')
    (hdb : (x == ("__debug__" : Str)) = false := by decide) : PE X (.Call (.Name x p) [] [] pos) (tCallS sp dvs ES tNil) := ⟨fun pins s σ H Q I h =>
  wpAny_Call_Name_kw (ld_glob I hg hm (PySem.W.callWith_K0 I.kIn hk (call_inS (us := []) F hr hb hd (hx σ) I .nil h)) hdb)⟩
theorem pe_call0 (F : FnOk X.prog X.w X.K X.mg X.base CX k f fd ps sp) (hr : Room k X.A) (hg : Gl X x) (hm : X.mg x = some (.ref f)) (hk : PySem.W.keepIn X.K (.ref f) = true) (hb : Binds X.K fd ps ds) (hd : Vals dvs ds) (hx : Passes CX X E)
    (hdb : (x == ("__debug__" : Str)) = false := by decide) : PE X (.Call (.Name x p) [] [] pos) (tCall sp dvs E tNil) := ⟨fun pins s σ H Q I h =>
  wpAny_Call_Name_kw (ld_glob I hg hm (PySem.W.callWith_K0 I.kIn hk (call_in (us := []) F hr hb hd hx I .nil h)) hdb)⟩
end

section
variable {P : Program} {w : World} {K : PySem.W.Frag} {mg : Str → Option Value} {base : Heap}
/-- a def by its body -/
theorem funD_ok {CX : CXT} {x qual : Str} {params : Arguments} {body : List Stmt} {scope : Scope} {dvs : List V} {kws : List (Str × V)} {f : Addr} {fd : FuncData} {N ps : List Str} {k : Nat} {sp : Sp} (F : FunD K x qual params body scope dvs kws f fd) (S : FnScope N ps scope)
    (len : ∀ vs H Q E, sp vs H Q E → vs.length = ps.length)
    (hbody : ∀ (cdv : Value) (A : Around) (outer : List Env) (s : Shared) (H : Hp) (vs : List V) (Q : VK) (E : XK), Room k (A.deeper (envOfC qual scope s.heap.objs.size f cdv)) → sp vs H Q E →
      ∃ t, PSs (cxOf CX P w K mg base N qual scope f cdv A outer s H E) body t ∧ t { nx := fun _ H' => Q .non H', rt := Q } (start N vs) H) : FnOk P w K mg base CX (k + 1) f fd ps sp := by
  obtain ⟨oc, od, dV, kV, doc, pm, an, cdv, ct, osl, rfl, lk, hcd, _⟩ := F.ex
  constructor
  · exact len
  intro A outer s H args us vs Q E room e0 hb rv q
  have all : ∀ b o, base.get? b = some o → s.heap.get? b = some o := fun b o e => (e0.bs b o e).1
  have inK : K.In s.heap := e0.mod.kin.keeps all
  have cells : ∀ y ∈ ps.zip us, scope.names.lookup y.1 = some .local ∨ (scope.names.lookup y.1 = some .cell ∧ ((cellsFrom (s.heap.objs.size + 1) scope.names []).lookup y.1).isSome = true) := by
    intro y hy
    have hin : y.1 ∈ ps := (List.of_mem_zip (a := y.1) (b := y.2) hy).1
    exact (S.par y.1 hin).imp id fun c => ⟨c, PySem.W.cellsFrom_some _ _ _ (.inl c)⟩
  obtain ⟨t, ht, hq⟩ := hbody cdv A outer s H vs Q E (room.deeper _) q
  refine codeAny_call_function room.r.depth (inK _ _ lk) rfl S.co S.gen rfl (PySem.W.codeRec_of inK hcd) (hb _ _ _ _ (wpAny_newFunctionEnv_cells S.kind cells fun env he s1 x => ?_))
  subst he
  have I : Inv (cxOf CX P w K mg base N qual scope f cdv A outer s H E) [] (start N vs) H s1 := inv_start S room.r.hd e0 (len _ _ _ _ q) rv x
  refine ⟨(e0.mod.nolimit.keeps all).keeps x.toInCall.keep, codeAny_func (wpAny_mono (ht.run [] s1 (start N vs) H _ I hq) (fun fl s' hs => ?_) fun _ _ h => h)⟩
  match fl, hs with
  | .ret u, hs => obtain ⟨v, _, H', J, r, z⟩ := hs; exact ⟨v, H', J.os, J.bare, J.base, J.hok, r, z⟩
  | .next, hs => obtain ⟨_, H', J, z⟩ := hs; exact ⟨.non, H', J.os, J.bare, J.base, J.hok, rfl, z⟩
  | .brk, hs => obtain ⟨_, _, _, z⟩ := hs; exact z.elim
  | .cont, hs => obtain ⟨_, _, _, z⟩ := hs; exact z.elim
end

/-! ### the law's own call -/
/-- the law's def at the caller: H tracks the script alone, or nothing -/
theorem law_in {P : Program} {w : World} {K : PySem.W.Frag} {mg mb : Str → Option Value} {k : Nat} {fa a : Addr} {fd : FuncData} {x : Str} {sp : Sp} {s : Shared} {vs : List Value} {H : Hp}
    (inK : K.In s.heap) (hns : s.heap.Ns mainGlobals mg) (hb : s.heap.Ns builtinsNs mb) (hbb : ∀ x : Str, x ≠ "__name__" → mb x = bootBuiltins x) (hlim : s.heap.NoLimit) (hg : s.gens = #[])
    (ha : s.heap.get? a = some { cls := .type "list", data := .seq vs.toArray }) (hr : L2.Room k callerA)
    (F : ∀ base : Heap, K.In base → base.Ns mainGlobals mg → FnOk P w K mg base (CX P w) k fa fd [x] sp) (hbind : ∀ (s : Shared) (u : Value), BindsTo s fd ⟨[u], []⟩ [(x, u)])
    (hok : HOk P w H s.heap) (only : Only H) (one : ∀ b, H b ≠ none → b = a ∧ K.lookup a = none) (q : sp [.ref a] H (fun v _ => v = .bl true) fun _ _ _ => False) :
    codeAny (model P w) callerA (.call (.ref fa) ⟨[.ref a], []⟩) (fun r s' => r = .ok (.ret (.bool true)) ∧ OldK s.heap s'.heap ∧ s'.os = s.os ∧ AllBare s'.gens) s := by
  -- what is no list of the script is not tracked
  have free : ∀ {b : Addr} {o : Obj}, s.heap.get? b = some o → (∃ es ep, o.data = .dict es ep) → H b = none := fun {b o} e ⟨es, ep, d⟩ => Classical.byContradiction fun n => by
    obtain ⟨rfl, _⟩ := one b n
    rw [ha] at e
    cases e
    cases (show Data.seq vs.toArray _ = Data.dict es ep from d)
  have freeK : ∀ {b : Addr} {o : Obj}, K.lookup b = some o → H b = none := fun {b o} e => Classical.byContradiction fun n => by
    obtain ⟨rfl, z⟩ := one b n
    rw [z] at e; cases e
  have ns : ∀ {b : Addr} {m : Str → Option Value}, s.heap.Ns b m → (hidT s.heap H).Ns b m := fun ⟨o, es, ep, e, d, r⟩ => ⟨o, es, ep, hidT_get e (free e ⟨es, ep, d⟩), d, r⟩
  have bIn : K.In (hidT s.heap H) := fun b o e => hidT_get (inK b o e) (freeK e)
  have m : Mod K mg (hidT s.heap H) := by
    obtain ⟨mc, h1, h2⟩ := hlim
    exact ⟨bIn, ns hns, ⟨mb, ns hb, hbb⟩, mc, ns h1, h2⟩
  have e0 : Env0 P w K mg (hidT s.heap H) callerA [] s H := ⟨rfl, m, fun b o e => of_hidT e, Nat.le_of_eq (hidT_size _ _), trivial, (fun b z => by cases z), hok, .of_eq hg⟩
  refine codeAny_mono ((F _ bIn (ns hns)).go callerA [] s H ⟨[.ref a], []⟩ [.ref a] [.ref a] _ _ ⟨hr, rfl⟩ e0 (hbind s (.ref a)) (.cons rfl .nil) q) fun r s' h => ?_
  match r, h with
  | .error err, h => obtain ⟨_, _, _, _, _, _, _, _, _, _, _, _, z⟩ := h; exact z.elim
  | .ok .next, h => exact h.elim
  | .ok .brk, h => exact h.elim
  | .ok .cont, h => exact h.elim
  | .ok (.ret u), h =>
    obtain ⟨v, H', os, bare, un, hok', rv, z⟩ := h
    subst z
    have : u = .bool true := rv
    subst this
    refine ⟨rfl, OldK.of_keep fun b o e => ?_, os, bare⟩
    rcases only b with n | ⟨ob, xs, n⟩
    · exact un.keep b o e n (fun z => by cases z) (by simp)
    · have e1 := (hok b _ n).1
      have e2 := (hok' b _ (un.frzs b ob _ n)).1
      rw [e] at e1
      cases e1
      exact e2
/-- the goal that k_head leaves, from the law's promise -/
theorem walk_of {l : PySem.W.OpenLaw} {n k : Nat} {q : Program} {loose : List Str} {XP : (Str → Option Value) → Heap → Prop} {YP : World → Heap → Prop} {d : DefRec} {K : Params → PySem.W.Frag} {sp : World → Sp} {x : Str}
    (hn : l.most = some n) (hn2 : n ≤ sizeLine) (hdf : d.params.defaults = []) (hr : L2.Room k callerA) (hY : ∀ (w : World) (h : Heap), YP w h → (K w.params).In h)
    (F : ∀ (w : World) (mg : Str → Option Value) (fa : Addr) (h : Heap), (K w.params).In h → h.Ns mainGlobals mg → mg d.name = some (.ref fa) →
      ∃ fd : FuncData, (∀ (s : Shared) (u : Value), BindsTo s fd ⟨[u], []⟩ [(x, u)]) ∧ ∀ base : Heap, (K w.params).In base → base.Ns mainGlobals mg → FnOk l.prog w (K w.params) mg base (CX l.prog w) k fa fd [x] (sp w))
    (hsp : ∀ (w : World) (H : Hp) (a : Addr) (ns : List Int), ns.length ≤ n → Only H → SqL (K w.params) H a (ns.map V.int) → sp w [.ref a] H (fun v _ => v = .bl true) fun _ _ _ => False) :
    PySem.W.WalkO q loose XP YP l.row.toRowW d [] (fun f vs => PySem.call f vs) := by
  refine Att.attach_call hn hdf fun w s₀ s mg mb fa o pm cd doc a vs ns G Y ho hd hcd hmg hobj hints hlen hg => ?_
  have inK := hY w _ Y
  obtain ⟨fd, hb, hF⟩ := F w mg fa _ inK G.T.g hmg
  have hz : ns.length ≤ sizeLine := Nat.le_trans hlen hn2
  have rv := vals_ints hints
  cases hk : (K w.params).lookup a with
  | some o' =>
    have e := inK a o' hk
    rw [hobj] at e
    cases e
    have only : Only fun _ => none := fun _ => .inl rfl
    exact law_in inK G.T.g G.T.b G.T.builtins G.T.nolimit hg hobj hr hF hb (H := fun _ => none) (fun b u z => by cases (show (none : Option HO) = some u from z)) only (fun b z => absurd rfl z)
      (hsp w _ a ns hlen only (.inr ⟨_, vs.toArray, _, hk, rfl, rfl, rfl, by rw [List.size_toArray, hints.length]; exact hz, by simpa using rv⟩))
  | none =>
    let T : HO := .frz { cls := .type "list", data := .seq vs.toArray } (.lst (ns.map V.int))
    have at_ : ∀ b, upd (fun _ => none) a T b = none ∨ (b = a ∧ upd (fun _ => none) a T b = some T) := fun b => by
      by_cases e : b = a
      · subst e; exact .inr ⟨rfl, upd_same⟩
      · exact .inl (upd_ne e)
    have only : Only (upd (fun _ => none) a T) := fun b => (at_ b).imp id fun ⟨_, e⟩ => ⟨_, _, e⟩
    refine law_in inK G.T.g G.T.b G.T.builtins G.T.nolimit hg hobj hr hF hb (H := upd (fun _ => none) a T) (fun b u z => ?_) only (fun b z => ?_) (hsp w _ a ns hlen only (.inl (.inr ⟨_, upd_same⟩)))
    · rcases at_ b with e | ⟨rfl, e⟩
      · rw [e] at z; cases z
      · rw [e] at z
        cases z
        exact ⟨hobj, by rw [List.length_map]; exact hz, vs, _, rv, hobj⟩
    · rcases at_ b with e | ⟨rfl, e⟩
      · exact absurd e z
      · exact ⟨rfl, hk⟩
end Fro

namespace Fro
open PySem PySem.Spec L2

/-! ### defs -/
inductive Rv where
  | v (d : D) | old (i : Nat) | new (ob : Ob)
abbrev FDen := List W → Sto → R Rv
def chk (n : Nat) (fd : FDen) : FDen := fun ws S => if ws.length = n then fd ws S else .bad
def PostF (K : PySem.W.Frag) (ρ : List Addr) (S : Sto) (H : Hp) (r : R Rv) (Q : VK) (E : XK) : Prop :=
  match r with
  | .ok (.v d) S' => ∀ (v : V) (H' : Hp), Fwd ρ S H ρ S' H' → Sok K ρ S' H' → Rp K H' (live ρ S') d v → Q v H'
  | .ok (.old i) S' => ∀ (a : Addr) (H' : Hp), Fwd ρ S H ρ S' H' → Sok K ρ S' H' → ρ[i]? = some a → Q (.ref a) H'
  | .ok (.new ob) S' => ∀ (a : Addr) (H' : Hp), Fwd ρ S H (ρ ++ [a]) (S' ++ [ob]) H' → Sok K (ρ ++ [a]) (S' ++ [ob]) H' → Q (.ref a) H'
  | .exc c ds S' => ∀ (C d : Addr) (H' : Hp), Fwd ρ S H ρ S' H' → Sok K ρ S' H' → XRep K ρ S' H' c ds C d → E (.ref C) (some d) H'
  | .bad => False
/-- what a wish of exceptions wants -/
def XPW (K : PySem.W.Frag) (W : WX) : XP := fun σ c ds S ρ H => ∀ (C d : Addr) (H' : Hp), Fwd ρ S H ρ S H' → Sok K ρ S H' → XRep K ρ S H' c ds C d → W (.ref C) (some d) σ H'
theorem XRep.weak {K : PySem.W.Frag} {ρ ρ1 : List Addr} {S S1 : Sto} {H : Hp} {c : Nat} {ds : List D} {C d : Addr} (h : XRep K ρ S H c ds C d) (l : ∀ b, live ρ1 S1 b → live ρ S b) : XRep K ρ1 S1 H c ds C d :=
  ⟨h.cls, fun z => h.dead (l _ z), let ⟨vfs, e, q⟩ := h.at_; ⟨vfs, e, fun k n u h1 h2 => let ⟨v, a, b⟩ := q k n u h1 h2; ⟨v, a, b.weak l⟩⟩⟩
def spF (K : PySem.W.Frag) (n : Nat) (fd : FDen) : Sp := fun vs H Q E => ∃ (ws : List W) (ρ : List Addr) (S : Sto), RpWs K ρ S H ws vs ∧ Sok K ρ S H ∧ PostF K ρ S H (chk n fd ws S) Q E
def retv (n : Nat) (w : W) (S : Sto) : R Rv := match w with
  | .v d => .ok (.v d) (S.take n)
  | .r i => if i < n then .ok (.old i) (S.take n) else match S[i]? with
    | some ob => .ok (.new ob) (S.take n)
    | none => .bad
  | .s _ => .bad
  | .lk _ => .bad
  | .x _ _ => .bad
def slots0 (n : Nat) (ws : List W) : Slots := ws.map some ++ List.replicate (n - ws.length) none
def endF (n : Nat) (r : RS) : R Rv := match r with
  | .rt w S' => retv n w S'
  | .nx _ S' => .ok (.v .non) (S'.take n)
  | .xc c ds _ S' => .exc c ds (S'.take n)
  | _ => .bad
/-- a def with n slots -/
def fdef (n : Nat) (body : DenS) : FDen := fun ws S => endF S.length (body (slots0 n ws) S)
theorem take_pre {α : Type} {l m : List α} {n : Nat} (h : l.length = n) : (l ++ m).take n = l := by
  subst h
  simp
theorem start_rp {K : PySem.W.Frag} {ρ : List Addr} {S : Sto} {H : Hp} {N : List Str} {ws : List W} {vs : List V} (h : RpWs K ρ S H ws vs) : RpSt K ρ S H (slots0 N.length ws) (L2.start N vs) := by
  refine ⟨by unfold slots0 L2.start; simp [h.length], fun i w e => ?_⟩
  unfold slots0 at e
  have hi : i < ws.length := by
    rcases Nat.lt_or_ge i ws.length with z | z
    · exact z
    · rw [List.getElem?_append_right (by rw [List.length_map]; exact z)] at e
      rw [List.getElem?_replicate] at e
      split at e <;> cases e
  rw [List.getElem?_append_left (by rw [List.length_map]; exact hi), List.getElem?_map] at e
  have e2 : ws[i]? = some w := by
    cases q : ws[i]? with
    | none => rw [q] at e; cases e
    | some u => rw [q] at e; cases e; rfl
  have get : ∀ {ws : List W} {vs : List V} (i : Nat), RpWs K ρ S H ws vs → ws[i]? = some w → ∃ v, vs[i]? = some v ∧ RpW K ρ S H w v := by
    intro ws vs i h
    induction h generalizing i with
    | nil => intro e; simp at e
    | cons a b ih =>
      cases i with
      | zero => intro e; simp at e; subst e; exact ⟨_, rfl, a⟩
      | succ i => intro e; obtain ⟨v, q1, q2⟩ := ih i (by simpa using e); exact ⟨v, by simpa using q1, q2⟩
  obtain ⟨v, q1, q2⟩ := get i h e2
  refine ⟨v, ?_, q2⟩
  unfold L2.start
  have hv : i < vs.length := by rw [← h.length]; exact hi
  rw [List.getElem?_append_left (by rw [List.length_map]; exact hv), List.getElem?_map, q1]
  rfl
section
variable {P : Program} {w : World} {K : PySem.W.Frag} {mg : Str → Option Value} {base : Heap}
theorem end_post {ρ : List Addr} {S : Sto} {H : Hp} {r : RS} {Q : VK} {E : XK} (so : Sok K ρ S H) (p : PostF K ρ S H (endF S.length r) Q E) : PostS K ρ S H r { nx := fun _ H' => Q .non H', rt := Q } (XPW K fun cls d _ H => E cls d H) := by
  have cutS : ∀ {ρ' : List Addr} {S' : Sto} {H' : Hp}, Fwd ρ S H ρ' S' H' → Sok K ρ' S' H' → Fwd ρ S H ρ (S'.take S.length) H' ∧ Sok K ρ (S'.take S.length) H' ∧ ∀ b, live ρ (S'.take S.length) b → live ρ' S' b := fun {ρ' S' H'} f so' => by
    obtain ⟨more, e⟩ := f.ext
    have t := so'.take S.length
    rw [e, take_pre so.len, ← e] at t
    exact ⟨f.cut so.len so'.len, t.1, t.2⟩
  cases r with
  | nx δ S' => exact fun σ ρ' H' f so' st => let ⟨a, b, c⟩ := cutS f so'; p .non H' a b .non
  | bk δ S' => exact p.elim
  | ct δ S' => exact p.elim
  | xc c ds δ S' => exact fun σ ρ' H' f so' st C d H2 f2 so2 xr => let ⟨a, b, l⟩ := cutS (f.trans f2) so2; p C d H2 a b (xr.weak l)
  | bad => exact p
  | rt u S' =>
    intro v ρ' H' f so' r
    obtain ⟨fc, sc, lc⟩ := cutS f so'
    cases u with
    | s ns => exact p.elim
    | lk es => exact p.elim
    | x c ds => exact p.elim
    | v d => exact p v H' fc sc (r.weak lc)
    | r i =>
      obtain ⟨a, rfl, ea⟩ := r
      obtain ⟨more, em⟩ := f.ext
      by_cases hi : i < S.length
      · have p' : PostF K ρ S H (.ok (.old i) (S'.take S.length)) Q E := by
          have : endF S.length (.rt (.r i) S') = .ok (.old i) (S'.take S.length) := by simp only [endF, retv, if_pos hi]
          rw [this] at p; exact p
        refine p' a H' fc sc ?_
        rw [em, List.getElem?_append_left (by rw [so.len]; exact hi)] at ea
        exact ea
      · cases qo : S'[i]? with
        | none =>
          have : endF S.length (.rt (.r i) S') = .bad := by simp only [endF, retv, if_neg hi, qo]
          rw [this] at p; exact p.elim
        | some ob =>
          have p' : PostF K ρ S H (.ok (.new ob) (S'.take S.length)) Q E := by
            have : endF S.length (.rt (.r i) S') = .ok (.new ob) (S'.take S.length) := by simp only [endF, retv, if_neg hi, qo]
            rw [this] at p; exact p
          have hSl : S.length ≤ S'.length := by
            have := so'.len
            rw [em, List.length_append, so.len] at this
            omega
          have sub := so'.sub (ρ1 := ρ ++ [a]) (S1 := S'.take S.length ++ [ob]) (by rw [List.length_append, List.length_append, List.length_take, so.len]; simp; omega) (by
            rw [List.nodup_append]
            refine ⟨so.nd, by simp, fun x hx y hy e => ?_⟩
            rw [List.mem_singleton] at hy
            subst hy; subst e
            obtain ⟨j, hj⟩ := List.getElem?_of_mem hx
            have hjl : j < ρ.length := by
              rcases Nat.lt_or_ge j ρ.length with z | z
              · exact z
              · rw [List.getElem?_eq_none z] at hj; cases hj
            have : j = i := ndx so'.nd (by rw [em, List.getElem?_append_left hjl]; exact hj) ea
            rw [so.len] at hjl
            omega) (fun j x o h1 h2 => by
            by_cases hj : j < ρ.length
            · rw [List.getElem?_append_left hj] at h1
              rw [List.getElem?_append_left (by rw [List.length_take]; rw [so.len] at hj; omega), List.getElem?_take] at h2
              split at h2
              · exact ⟨j, by rw [em, List.getElem?_append_left hj]; exact h1, h2⟩
              · cases h2
            · rw [List.getElem?_append_right (by omega)] at h1
              rw [List.getElem?_append_right (by rw [List.length_take]; rw [so.len] at hj; omega)] at h2
              rw [show (S'.take S.length).length = ρ.length by rw [List.length_take, so.len]; omega] at h2
              have hz : j - ρ.length = 0 := by
                cases hz : j - ρ.length with
                | zero => rfl
                | succ n => rw [hz] at h1; simp at h1
              rw [hz] at h1 h2
              simp at h1 h2
              subst h1; subst h2
              exact ⟨i, ea, qo⟩)
          refine p' a H' ⟨⟨[a], rfl⟩, f.keep, f.tups, f.frzs, fun b l => f.new b (sub.2 b l)⟩ sub.1
end

/-! ### calls -/
def cRes (rv : Rv) (S : Sto) : R W := match rv with
  | .v d => .ok (.v d) S
  | .old i => .ok (.r i) S
  | .new (.lst ds) => .ok (.v (.lst ds)) S
  | .new (.dct es) => .ok (.v (.dct es)) S
  | .new .dead => .bad
def cResM (rv : Rv) (S : Sto) : R W := match rv with
  | .v d => .ok (.v d) S
  | .old i => .ok (.r i) S
  | .new ob => .ok (.r S.length) (S ++ [ob])
def cCall (n : Nat) (f : FDen) (a : Den (List W)) (dws : List W) : Den W := fun δ S => (a δ S).bind fun ws S1 => (chk n f (ws ++ dws) S1).bind cRes
def cCallM (n : Nat) (f : FDen) (a : Den (List W)) (dws : List W) : Den W := fun δ S => (a δ S).bind fun ws S1 => (chk n f (ws ++ dws) S1).bind cResM
theorem res_post {K : PySem.W.Frag} {ρ : List Addr} {S : Sto} {H : Hp} {r : R Rv} {Q : VK} {Ex : Nat → List D → Sto → List Addr → Hp → Prop} {E : XK} (hE : ∀ c ds S' H' C d, Ex c ds S' ρ H' → Sok K ρ S' H' → XRep K ρ S' H' c ds C d → E (.ref C) (some d) H') (so : Sok K ρ S H) (p : Post K (RpW K) ρ S H (r.bind cRes) Q Ex) : PostF K ρ S H r Q E := by
  cases r with
  | bad => exact p
  | exc c ds S' => exact fun C d H' f so' xr => hE _ _ _ _ _ _ (p ρ H' f so') so' xr
  | ok rv S' =>
    cases rv with
    | v d => exact fun v H' f so' r => p v ρ H' f so' r
    | old i => exact fun a H' f so' r => p (.ref a) ρ H' f so' ⟨a, rfl, r⟩
    | new ob =>
      intro a H' f so'
      have hl : ρ.length = S'.length := by
        have := so'.len
        rw [List.length_append, List.length_append] at this
        simpa using this
      have t := so'.take ρ.length
      rw [take_pre rfl, take_pre hl.symm] at t
      have fc : Fwd ρ S H ρ S' H' := ⟨⟨[], by simp⟩, f.keep, f.tups, f.frzs, fun b l => f.new b (live_left hl l)⟩
      have na : ¬ live ρ S' a := fun ⟨i, o, h1, _, _⟩ => by
        have h2 : (ρ ++ [a])[ρ.length]? = some a := by simp
        have hi : i < ρ.length := by
          rcases Nat.lt_or_ge i ρ.length with z | z
          · exact z
          · rw [List.getElem?_eq_none z] at h1; cases h1
        have : i = ρ.length := ndx so'.nd (by rw [List.getElem?_append_left hi]; exact h1) h2
        omega
      have q := so'.obs ρ.length a ob (by simp) (by rw [hl]; simp)
      cases ob with
      | lst ds => obtain ⟨xs, e, rl⟩ := q; exact p (.ref a) ρ H' fc t.1 (Rp.lst e na (rl.weak t.2))
      | dct ds => obtain ⟨xs, e, rl⟩ := q; exact p (.ref a) ρ H' fc t.1 (Rp.dct (.inl e) na (rl.weak t.2))
      | dead => exact p.elim
theorem resM_post {K : PySem.W.Frag} {ρ : List Addr} {S : Sto} {H : Hp} {r : R Rv} {Q : VK} {Ex : Nat → List D → Sto → List Addr → Hp → Prop} {E : XK} (hE : ∀ c ds S' H' C d, Ex c ds S' ρ H' → Sok K ρ S' H' → XRep K ρ S' H' c ds C d → E (.ref C) (some d) H') (so : Sok K ρ S H) (p : Post K (RpW K) ρ S H (r.bind cResM) Q Ex) : PostF K ρ S H r Q E := by
  cases r with
  | bad => exact p
  | exc c ds S' => exact fun C d H' f so' xr => hE _ _ _ _ _ _ (p ρ H' f so') so' xr
  | ok rv S' =>
    cases rv with
    | v d => exact fun v H' f so' r => p v ρ H' f so' r
    | old i => exact fun a H' f so' r => p (.ref a) ρ H' f so' ⟨a, rfl, r⟩
    | new ob =>
      intro a H' f so'
      have hl : ρ.length = S'.length := by
        have := so'.len
        rw [List.length_append, List.length_append] at this
        simpa using this
      exact p (.ref a) (ρ ++ [a]) H' f so' ⟨a, rfl, by rw [← hl]; simp⟩
section
variable {X : Cx}
theorem passF : Passes (CX X.prog X.w) X (fun _ _ _ => False) := fun _ _ _ _ _ _ _ ⟨_, _, _, _, _, _, _, _, _, _, _, _, z⟩ => z.elim
theorem de_call {x : Str} {p pos : Pos} {e : Expr} {es : List Expr} {a : Den (List W)} {den : FDen} {k n : Nat} {f : Addr} {fd : FuncData} {ps : List Str} {ds : List Value} {dvs : List V} {dws : List W} (F : FnOk X.prog X.w X.K X.mg X.base (CX X.prog X.w) k f fd ps (spF X.K n den)) (hr : Room k X.A)
    (hm : X.mg x = some (.ref f)) (hk : PySem.W.keepIn X.K (.ref f) = true) (hb : Binds X.K fd ps ds) (hd : Vals dvs ds) (hw : ∀ ρ S H, RpWs X.K ρ S H dws dvs) (ha : PA X (e :: es) (tA X.K XP0 a)) (hg : Gl X x := by rfl)
    (hdb : (x == ("__debug__" : Str)) = false := by decide) (he : starEach (e :: es) X.env = (false, eval e X.env) :: starEach es X.env := by rfl) (hpl : (backTo pos (starEach es X.env)).any (·.1) = false := by rfl) :
    PE X (.Call (.Name x p) (e :: es) [] pos) (tE X.K XP0 (cCall n den a dws)) := pe_mono (pe_call F hr hg hm hk hb hd passF ha hdb he hpl) fun σ H Q ⟨δ, ρ, S, st, so, q⟩ => tG_then st so q fun ws S1 vs ρ1 H1 f1 st1 so1 r1 p1 => ⟨ws ++ dws, ρ1, S1, r1.append (hw _ _ _), so1, res_post (fun _ _ _ _ _ _ z _ _ => z.elim) so1 p1⟩
theorem de_callM {x : Str} {p pos : Pos} {e : Expr} {es : List Expr} {a : Den (List W)} {den : FDen} {k n : Nat} {f : Addr} {fd : FuncData} {ps : List Str} {ds : List Value} {dvs : List V} {dws : List W} (F : FnOk X.prog X.w X.K X.mg X.base (CX X.prog X.w) k f fd ps (spF X.K n den)) (hr : Room k X.A)
    (hm : X.mg x = some (.ref f)) (hk : PySem.W.keepIn X.K (.ref f) = true) (hb : Binds X.K fd ps ds) (hd : Vals dvs ds) (hw : ∀ ρ S H, RpWs X.K ρ S H dws dvs) (ha : PA X (e :: es) (tA X.K XP0 a)) (hg : Gl X x := by rfl)
    (hdb : (x == ("__debug__" : Str)) = false := by decide) (he : starEach (e :: es) X.env = (false, eval e X.env) :: starEach es X.env := by rfl) (hpl : (backTo pos (starEach es X.env)).any (·.1) = false := by rfl) :
    PE X (.Call (.Name x p) (e :: es) [] pos) (tE X.K XP0 (cCallM n den a dws)) := pe_mono (pe_call F hr hg hm hk hb hd passF ha hdb he hpl) fun σ H Q ⟨δ, ρ, S, st, so, q⟩ => tG_then st so q fun ws S1 vs ρ1 H1 f1 st1 so1 r1 p1 => ⟨ws ++ dws, ρ1, S1, r1.append (hw _ _ _), so1, resM_post (fun _ _ _ _ _ _ z _ _ => z.elim) so1 p1⟩
theorem de_callX {Wx : WX} {x : Str} {p pos : Pos} {e : Expr} {es : List Expr} {a : Den (List W)} {den : FDen} {k n : Nat} {f : Addr} {fd : FuncData} {ps : List Str} {ds : List Value} {dvs : List V} {dws : List W} (F : FnOk X.prog X.w X.K X.mg X.base (CX X.prog X.w) k f fd ps (spF X.K n den)) (hr : Room k X.A) (tk : Takes X Wx)
    (hm : X.mg x = some (.ref f)) (hk : PySem.W.keepIn X.K (.ref f) = true) (hb : Binds X.K fd ps ds) (hd : Vals dvs ds) (hw : ∀ ρ S H, RpWs X.K ρ S H dws dvs) (ha : PA X (e :: es) (tA X.K (XPW X.K Wx) a)) (hg : Gl X x := by rfl)
    (hdb : (x == ("__debug__" : Str)) = false := by decide) (he : starEach (e :: es) X.env = (false, eval e X.env) :: starEach es X.env := by rfl) (hpl : (backTo pos (starEach es X.env)).any (·.1) = false := by rfl) :
    PE X (.Call (.Name x p) (e :: es) [] pos) (tE X.K (XPW X.K Wx) (cCall n den a dws)) := pe_mono (pe_callS (ES := fun σ cls d H => Wx cls d σ H) F hr hg hm hk hb hd (fun σ pins H s e s' I c => tk e s' (XE.of_call I (fun _ _ _ h => h) c)) ha hdb he hpl) fun σ H Q ⟨δ, ρ, S, st, so, q⟩ => tG_then st so q fun ws S1 vs ρ1 H1 f1 st1 so1 r1 p1 => ⟨ws ++ dws, ρ1, S1, r1.append (hw _ _ _), so1, res_post (fun _ _ _ _ _ _ z so xr => z _ _ _ Fwd.refl so xr) so1 p1⟩
theorem de_callMX {Wx : WX} {x : Str} {p pos : Pos} {e : Expr} {es : List Expr} {a : Den (List W)} {den : FDen} {k n : Nat} {f : Addr} {fd : FuncData} {ps : List Str} {ds : List Value} {dvs : List V} {dws : List W} (F : FnOk X.prog X.w X.K X.mg X.base (CX X.prog X.w) k f fd ps (spF X.K n den)) (hr : Room k X.A) (tk : Takes X Wx)
    (hm : X.mg x = some (.ref f)) (hk : PySem.W.keepIn X.K (.ref f) = true) (hb : Binds X.K fd ps ds) (hd : Vals dvs ds) (hw : ∀ ρ S H, RpWs X.K ρ S H dws dvs) (ha : PA X (e :: es) (tA X.K (XPW X.K Wx) a)) (hg : Gl X x := by rfl)
    (hdb : (x == ("__debug__" : Str)) = false := by decide) (he : starEach (e :: es) X.env = (false, eval e X.env) :: starEach es X.env := by rfl) (hpl : (backTo pos (starEach es X.env)).any (·.1) = false := by rfl) :
    PE X (.Call (.Name x p) (e :: es) [] pos) (tE X.K (XPW X.K Wx) (cCallM n den a dws)) := pe_mono (pe_callS (ES := fun σ cls d H => Wx cls d σ H) F hr hg hm hk hb hd (fun σ pins H s e s' I c => tk e s' (XE.of_call I (fun _ _ _ h => h) c)) ha hdb he hpl) fun σ H Q ⟨δ, ρ, S, st, so, q⟩ => tG_then st so q fun ws S1 vs ρ1 H1 f1 st1 so1 r1 p1 => ⟨ws ++ dws, ρ1, S1, r1.append (hw _ _ _), so1, resM_post (fun _ _ _ _ _ _ z so xr => z _ _ _ Fwd.refl so xr) so1 p1⟩
end

/-! ### list comprehensions -/
def wipeD (δ : Slots) : List Nat → Slots
  | [] => δ
  | v :: vs => (wipeD δ vs).set v none
theorem wipeD_length (δ : Slots) : ∀ vs : List Nat, (wipeD δ vs).length = δ.length
  | [] => rfl
  | v :: vs => by
    show ((wipeD δ vs).set v none).length = _
    rw [List.length_set, wipeD_length δ vs]
theorem wipeD_some {δ : Slots} {i : Nat} {w : W} : ∀ {vs : List Nat}, (wipeD δ vs)[i]? = some (some w) → δ[i]? = some (some w) ∧ i ∉ vs
  | [], e => ⟨e, by simp⟩
  | v :: vs, e => by
    have e' : ((wipeD δ vs).set v none)[i]? = some (some w) := e
    by_cases hv : v = i
    · subst hv
      by_cases hl : v < (wipeD δ vs).length
      · rw [List.getElem?_set_self hl] at e'; cases e'
      · rw [List.getElem?_eq_none (by rw [List.length_set]; omega)] at e'; cases e'
    · rw [List.getElem?_set_ne hv] at e'
      obtain ⟨h1, h2⟩ := wipeD_some e'
      exact ⟨h1, fun z => by
        rcases List.mem_cons.mp z with q | q
        · exact hv q.symm
        · exact h2 q⟩
theorem wipe_in {σ : L2.St} {i : Nat} (hl : i < σ.length) : ∀ {vs : List Nat}, i ∈ vs → (wipe σ vs)[i]? = some none
  | v :: vs, h => by
    show ((wipe σ vs).set v none)[i]? = some none
    by_cases hv : v = i
    · subst hv
      exact List.getElem?_set_self (by rw [wipe_length]; exact hl)
    · rw [List.getElem?_set_ne hv]
      rcases List.mem_cons.mp h with q | q
      · exact absurd q.symm hv
      · exact wipe_in hl q
theorem wipe_rp {K : PySem.W.Frag} {ρ : List Addr} {S : Sto} {H : Hp} {δ : Slots} {σ : L2.St} (vs : List Nat) (h : RpSt K ρ S H δ σ) : RpSt K ρ S H (wipeD δ vs) (wipe σ vs) := by
  refine ⟨by rw [wipeD_length, wipe_length]; exact h.1, fun i w e => ?_⟩
  obtain ⟨h1, h2⟩ := wipeD_some e
  obtain ⟨v, q1, q2⟩ := h.2 i w h1
  exact ⟨v, by rw [wipe_out h2]; exact q1, q2⟩
theorem wipe_same {σ σ' : L2.St} {vs ts : List Nat} (ht : ∀ j ∈ ts, j ∈ vs) (hl : σ'.length = (wipe σ vs).length) (hk : ∀ j, j ∉ ts → σ'[j]? = (wipe σ vs)[j]?) : wipe σ' vs = wipe σ vs := by
  apply List.ext_getElem?
  intro j
  by_cases hj : j ∈ vs
  · by_cases hlt : j < σ.length
    · rw [wipe_in hlt hj, wipe_in (by rw [hl, wipe_length]; exact hlt) hj]
    · rw [List.getElem?_eq_none (by rw [wipe_length, hl, wipe_length]; omega), List.getElem?_eq_none (by rw [wipe_length]; omega)]
  · rw [wipe_out hj, hk j fun z => hj (ht j z)]
def R.noexc {α : Type} (r : R α) : R α := match r with
  | .exc _ _ _ => .bad
  | r => r
@[simp] theorem R.noexc_ok {α : Type} (a : α) (S : Sto) : (R.ok a S).noexc = R.ok a S := rfl
def compL (dg : DenG) (tt : Den Bool) (te : Den W) (n : Nat) : List D → Slots → Sto → R Unit
  | [], _, S => .ok () S
  | d :: ds, δ, S => match dg (.v d) δ S with
    | none => .bad
    | some (δ1, S1) => (tt δ1 S1).noexc.bind fun c S2 => if c then (te δ1 S2).noexc.bind fun w S3 => match w, S3[n]? with
        | .v e, some (.lst acc) => if acc.length < 1000000 then compL dg tt te n ds δ (S3.set n (.lst (acc ++ [e]))) else .bad
        | _, _ => .bad
      else compL dg tt te n ds δ S2
def cComp (it : Den (List D)) (dg : DenG) (tt : Den Bool) (te : Den W) (vs : List Nat) : Den W := fun δ S => (it δ S).bind fun ds S1 =>
  (compL dg tt te S1.length ds (wipeD δ vs) (S1 ++ [.lst []])).bind fun _ S2 => if S2.length = S1.length + 1 then (match S2[S1.length]? with
    | some (.lst acc) => .ok (.v (.lst acc)) (S2.take S1.length)
    | _ => .bad) else .bad
def cCompM (it : Den (List D)) (dg : DenG) (tt : Den Bool) (te : Den W) (vs : List Nat) : Den W := fun δ S => (it δ S).bind fun ds S1 =>
  (compL dg tt te S1.length ds (wipeD δ vs) (S1 ++ [.lst []])).bind fun _ S2 => .ok (.r S1.length) S2
section
variable {K : PySem.W.Frag} {E : XP}
theorem comp_post {it : Den (List D)} {g : TG} {dg : DenG} {ts vs : List Nat} {tt : Den Bool} {te : Den W} (hg : GOk K g dg ts) (ht : ∀ j ∈ ts, j ∈ vs) {kf : Sto → Sto → R W} {σ : L2.St} {H : Hp} {Q : VK}
    (hkf : ∀ (ρ1 ρ2 : List Addr) (S1 S2 : Sto) (H1 H2 : Hp) (D' : Addr), Sok K ρ1 S1 H1 → H1 D' = none → Fwd ρ1 S1 H1 ρ2 S2 H2 → Sok K ρ2 S2 H2 → ρ2[S1.length]? = some D' → Post K (RpW K) ρ1 S1 H1 (kf S1 S2) Q (E σ) → Q (.ref D') H2)
    (h : tE K E (fun δ S => (it δ S).bind fun ds S1 => (compL dg tt te S1.length ds (wipeD δ vs) (S1 ++ [.lst []])).bind fun _ S2 => kf S1 S2) σ H Q) : tLc (tI K E it) g (tT K XP0 tt) (tE K XP0 te) vs σ H Q := by
  obtain ⟨δ, ρ, S, st, so, p⟩ := h
  refine tG_then st so p fun ds S1 J ρ1 H1 f1 st1 so1 j1 p1 => fun D' nD => ?_
  have fg : Fwd ρ1 S1 H1 (ρ1 ++ [D']) (S1 ++ [.lst []]) (upd H1 D' (.lst [])) := Fwd.grown so1 nD _
  have sg : Sok K (ρ1 ++ [D']) (S1 ++ [.lst []]) (upd H1 D' (.lst [])) := so1.grown nD _ ⟨[], upd_same, .nil⟩
  refine ⟨fun i m H' => i + m = ds.length ∧ ∃ (ρ' : List Addr) (S' : Sto), Fwd ρ1 S1 H1 ρ' S' H' ∧ ρ'[S1.length]? = some D' ∧ Sok K ρ' S' H' ∧ Post K (RpW K) ρ1 S1 H1 ((compL dg tt te S1.length (ds.drop i) (wipeD δ vs) S').bind fun _ S2 => kf S1 S2) Q (E σ),
    ⟨ds.length, by omega, _, _, fg, by rw [← so1.len]; simp, sg, by rw [List.drop_zero]; exact p1⟩, fun i m H' hW => ?_⟩
  obtain ⟨em, ρ', S', f', ed, so', p'⟩ := hW
  obtain ⟨jg, js⟩ := j1 i ρ' S' H' f' so'
  by_cases hl : i < ds.length
  · have edr : ds.drop i = ds[i] :: ds.drop (i + 1) := List.drop_eq_getElem_cons hl
    rw [edr] at p'
    obtain ⟨g1, g2⟩ := jg ds[i] (List.getElem?_eq_getElem hl)
    refine .inr ⟨g1, fun H2 => ∃ (ρ2 : List Addr) (S2 : Sto), Fwd ρ1 S1 H1 ρ2 S2 H2 ∧ ρ2[S1.length]? = some D' ∧ Sok K ρ2 S2 H2 ∧ Post K (RpW K) ρ1 S1 H1 ((compL dg tt te S1.length (ds.drop (i + 1)) (wipeD δ vs) S2).bind fun _ S2 => kf S1 S2) Q (E σ),
      fun H2 ⟨ρ2, S2, a1, a2, a3, a4⟩ => ⟨m - 1, by omega, by omega, ρ2, S2, a1, a2, a3, a4⟩, fun x H3 y => ?_⟩
    obtain ⟨fy, soy, ry⟩ := g2 x H3 y
    unfold compL at p'
    cases q : dg (.v ds[i]) (wipeD δ vs) S' with
    | none => simp only [q] at p'; exact p'.elim
    | some z =>
      obtain ⟨δ3, S3⟩ := z
      simp only [q] at p'
      have f3 : Fwd ρ1 S1 H1 ρ' S' H3 := f'.trans fy
      refine hg ρ' S' H3 (wipeD δ vs) (wipe σ vs) (.v ds[i]) x _ δ3 S3 (wipe_rp vs (f3.st st1)) soy ry q fun σ4 ρ4 H4 f4 so4 st4 l4 k4 => ?_
      refine ⟨wipe_same ht l4 k4, δ3, ρ4, S3, st4, so4, ?_⟩
      have f14 : Fwd ρ1 S1 H1 ρ4 S3 H4 := f3.trans f4
      have e4 : ρ4[S1.length]? = some D' := f4.at ed
      cases qt : tt δ3 S3 with
      | bad => rw [qt] at p'; exact p'.elim
      | exc c cs S5 => rw [qt] at p'; exact p'.elim
      | ok c S5 =>
        rw [qt] at p'
        intro b ρ5 H5 f5 so5 rb
        cases rb
        have f15 := f14.trans f5
        have e5 := f5.at e4
        cases c with
        | false =>
          rw [if_neg Bool.false_ne_true]
          exact ⟨ρ5, S5, f15, e5, so5, p'⟩
        | true =>
          rw [if_pos rfl]
          refine ⟨δ3, ρ5, S5, f5.st st4, so5, ?_⟩
          have p5 : Post K (RpW K) ρ1 S1 H1 (((te δ3 S5).noexc.bind fun w S3 => match w, S3[S1.length]? with
            | .v e, some (.lst acc) => if acc.length < 1000000 then compL dg tt te S1.length (ds.drop (i + 1)) (wipeD δ vs) (S3.set S1.length (.lst (acc ++ [e]))) else .bad
            | _, _ => .bad).bind fun _ S2 => kf S1 S2) Q (E σ) := p'
          cases qe : te δ3 S5 with
          | bad => rw [qe] at p5; exact p5.elim
          | exc c cs S6 => rw [qe] at p5; exact p5.elim
          | ok w S6 =>
            rw [qe] at p5
            intro y6 ρ6 H6 f6 so6 r6
            have f16 := f15.trans f6
            have e6 := f6.at e5
            cases w with
            | r j => exact p5.elim
            | s ns => exact p5.elim
            | lk es => exact p5.elim
            | x c ds => exact p5.elim
            | v e =>
              cases qn : S6[S1.length]? with
              | none => simp only [R.noexc_ok, R.bind_ok, qn] at p5; exact p5.elim
              | some ob =>
                cases ob with
                | dct es => simp only [R.noexc_ok, R.bind_ok, qn] at p5; exact p5.elim
                | dead => simp only [R.noexc_ok, R.bind_ok, qn] at p5; exact p5.elim
                | lst acc =>
                  simp only [R.noexc_ok, R.bind_ok, qn] at p5
                  obtain ⟨xs, ex, rl⟩ := so6.obs _ _ _ e6 qn
                  by_cases ha : acc.length < 1000000
                  · simp only [if_pos ha] at p5
                    refine ⟨xs, ex, by rw [← rl.length]; exact Nat.lt_trans ha (by decide), ?_⟩
                    have fc : Fwd ρ6 S6 H6 ρ6 (S6.set S1.length (.lst (acc ++ [e]))) (upd H6 D' (.lst (xs ++ [y6]))) := Fwd.changed so6 e6 qn rfl
                    exact ⟨ρ6, _, f16.trans fc, e6, so6.changed e6 qn rfl ⟨_, upd_same, (fc.rpL rl).append (.cons (fc.rp r6) .nil)⟩, p5⟩
                  · simp only [if_neg ha] at p5; exact p5.elim
  · refine .inl ⟨js (by omega), ?_⟩
    rw [List.drop_eq_nil_of_le (by omega)] at p'
    exact hkf ρ1 ρ' S1 S' H1 H' D' so1 nD f' so' ed p'
end
section
variable {X : Cx} {E : XP}
theorem de_comp {elt tg iter : Expr} {ifs : List Expr} {scope : Scope} {own : List (Str × Nat)} {pos : Pos} {it : Den (List D)} {g : TG} {dg : DenG} {ts : List Nat} {tt : Den Bool} {te : Den W} (hc : X.calm = true) (hN : X.N.Nodup) (hi : PI X tg iter (tI X.K E it)) (hgo : GOk X.K g dg ts) (ok : blkC X.N X.env.scope scope own = true)
    (hg : ∀ (s : Shared) (H : Hp) (C : Addr) (cl : List (Str × Addr)) (fp : List Addr), PG (X.blk s H scope (compEnvC scope cl C X.env) fp) tg g) (ht : ∀ (s : Shared) (H : Hp) (C : Addr) (cl : List (Str × Addr)) (fp : List Addr), PTs (X.blk s H scope (compEnvC scope cl C X.env) fp) ifs (tT X.K XP0 tt))
    (he : ∀ (s : Shared) (H : Hp) (C : Addr) (cl : List (Str × Addr)) (fp : List Addr), PE (X.blk s H scope (compEnvC scope cl C X.env) fp) elt (tE X.K XP0 te)) (hs : ∀ x, foldedSetIterable iter X.env x = pure x := by intro _; rfl) (hts : ∀ j ∈ ts, j ∈ own.map (·.2) := by decide) :
    PE X (.ListComp elt [⟨tg, iter, ifs, 0⟩] scope pos) (tE X.K E (cComp it dg tt te (own.map (·.2)))) := pe_mono (pe_lc hc hN hi (blkOk_by ok) hg ht he hs) fun σ H Q h => by
  refine comp_post hgo hts (kf := fun S1 S2 => if S2.length = S1.length + 1 then (match S2[S1.length]? with
    | some (.lst acc) => .ok (.v (.lst acc)) (S2.take S1.length)
    | _ => .bad) else .bad) (fun ρ1 ρ2 S1 S2 H1 H2 D' so1 nD f so2 e p => ?_) h
  by_cases hl : S2.length = S1.length + 1
  · simp only [if_pos hl] at p
    cases q : S2[S1.length]? with
    | none => rw [q] at p; exact p.elim
    | some ob =>
      cases ob with
      | dct es => rw [q] at p; exact p.elim
      | dead => rw [q] at p; exact p.elim
      | lst acc =>
        rw [q] at p
        obtain ⟨xs, ex, rl⟩ := so2.obs _ _ _ e q
        obtain ⟨more, em⟩ := f.ext
        have t := so2.take S1.length
        rw [em, take_pre so1.len, ← em] at t
        refine p (.ref D') ρ1 H2 (f.cut so1.len so2.len) t.1 (Rp.lst ex (fun l => so1.notIn nD ?_) (rl.weak t.2))
        obtain ⟨j, o, h1, _, _⟩ := l
        exact List.mem_of_getElem? h1
  · simp only [if_neg hl] at p; exact p.elim
theorem de_compM {elt tg iter : Expr} {ifs : List Expr} {scope : Scope} {own : List (Str × Nat)} {pos : Pos} {it : Den (List D)} {g : TG} {dg : DenG} {ts : List Nat} {tt : Den Bool} {te : Den W} (hc : X.calm = true) (hN : X.N.Nodup) (hi : PI X tg iter (tI X.K E it)) (hgo : GOk X.K g dg ts) (ok : blkC X.N X.env.scope scope own = true)
    (hg : ∀ (s : Shared) (H : Hp) (C : Addr) (cl : List (Str × Addr)) (fp : List Addr), PG (X.blk s H scope (compEnvC scope cl C X.env) fp) tg g) (ht : ∀ (s : Shared) (H : Hp) (C : Addr) (cl : List (Str × Addr)) (fp : List Addr), PTs (X.blk s H scope (compEnvC scope cl C X.env) fp) ifs (tT X.K XP0 tt))
    (he : ∀ (s : Shared) (H : Hp) (C : Addr) (cl : List (Str × Addr)) (fp : List Addr), PE (X.blk s H scope (compEnvC scope cl C X.env) fp) elt (tE X.K XP0 te)) (hs : ∀ x, foldedSetIterable iter X.env x = pure x := by intro _; rfl) (hts : ∀ j ∈ ts, j ∈ own.map (·.2) := by decide) :
    PE X (.ListComp elt [⟨tg, iter, ifs, 0⟩] scope pos) (tE X.K E (cCompM it dg tt te (own.map (·.2)))) := pe_mono (pe_lc hc hN hi (blkOk_by ok) hg ht he hs) fun σ H Q h => by
  refine comp_post hgo hts (kf := fun S1 S2 => .ok (.r S1.length) S2) (fun ρ1 ρ2 S1 S2 H1 H2 D' so1 nD f so2 e p => ?_) h
  exact p (.ref D') ρ2 H2 f so2 ⟨D', rfl, e⟩
theorem blk_by {N : List Str} {sc scope : Scope} {own : List (Str × Nat)} (h : blkC N sc scope own = true) : blkC N sc scope own = true := h
def cYes : Den Bool := fun _ S => .ok true S
theorem dts_nil : PTs X [] (tT X.K E cYes) := pts_mono pts_nil fun σ H Q ⟨δ, ρ, S, st, so, p⟩ => p true ρ H Fwd.refl so rfl
theorem dts_one {c : Expr} {t : Den Bool} (h : PT X c (tT X.K E t)) : PTs X [c] (tT X.K E t) := pts_one h
end
end Fro

namespace Fro
open PySem PySem.Spec L2

/-! ### what is read of a value -/
def rd (S : Sto) : W → Option D
  | .v d => some d
  | .r i => match S[i]? with
    | some (.lst ds) => some (.lst ds)
    | some (.dct es) => some (.dct es)
    | _ => none
  | .s _ => none
  | .lk es => some (.dct es)
  | .x _ _ => none
inductive Rq (K : PySem.W.Frag) (H : Hp) (M : Addr → Prop) : D → V → Prop
  | of {d : D} {v : V} : Rp K H M d v → Rq K H M d v
  | lst {a : Addr} {xs : List V} {ds : List D} : H a = some (.lst xs) → RpL K H M ds xs → Rq K H M (.lst ds) (.ref a)
  | dct {a : Addr} {kvs : List (Key × V)} {es : List (Tx × D)} : Rd H a (.dK kvs) → RpE K H M es kvs → Rq K H M (.dct es) (.ref a)
section
variable {K : PySem.W.Frag} {ρ : List Addr} {S : Sto} {H : Hp} {M : Addr → Prop} {v : V}
theorem rd_ok {w : W} {d : D} (so : Sok K ρ S H) (r : RpW K ρ S H w v) (e : rd S w = some d) : Rq K H (live ρ S) d v := by
  cases w with
  | v d' => cases e; exact .of r
  | s ns => cases e
  | x c ds => cases e
  | lk es =>
    cases e
    obtain ⟨a, o, kvs, rfl, q, _, r'⟩ := r
    exact .dct (.inr ⟨o, q⟩) r'
  | r i =>
    obtain ⟨a, rfl, ea⟩ := r
    unfold rd at e
    cases q : S[i]? with
    | none => simp only [q] at e; cases e
    | some ob =>
      cases ob with
      | lst ds =>
        simp only [q] at e
        cases e
        obtain ⟨xs, ex, rl⟩ := so.obs i a _ ea q
        exact .lst ex rl
      | dct ds =>
        simp only [q] at e
        cases e
        obtain ⟨xs, ex, rl⟩ := so.obs i a _ ea q
        exact .dct (.inl ex) rl
      | dead => simp only [q] at e; cases e
theorem Rq.int {i : Int} (h : Rq K H M (.int i) v) : v = .int i := by cases h with | of h => cases h; rfl
theorem Rq.bl {i : Bool} (h : Rq K H M (.bl i) v) : v = .bl i := by cases h with | of h => cases h; rfl
theorem Rq.str {i : Tx} (h : Rq K H M (.str i) v) : v = .str (sx i) := by cases h with | of h => cases h; rfl
theorem Rq.non (h : Rq K H M .non v) : v = .non := by cases h with | of h => cases h; rfl
theorem Rq.ty {i : Ty} (h : Rq K H M (.ty i) v) : v = .ty i.nm := by cases h with | of h => cases h; rfl
theorem Rq.tup {ds : List D} (h : Rq K H M (.tup ds) v) : ∃ a xs, v = .ref a ∧ SqT K H a xs ∧ RpL K H M ds xs := by cases h with | of h => cases h with | tup a b => exact ⟨_, _, rfl, a, b⟩
theorem Rq.lstE {ds : List D} (h : Rq K H M (.lst ds) v) : ∃ a xs, v = .ref a ∧ H a = some (.lst xs) ∧ RpL K H M ds xs := by
  cases h with
  | of h => cases h with | lst a n b => exact ⟨_, _, rfl, a, b⟩
  | lst a b => exact ⟨_, _, rfl, a, b⟩
theorem Rq.dctE {es : List (Tx × D)} (h : Rq K H M (.dct es) v) : ∃ a kvs, v = .ref a ∧ Rd H a (.dK kvs) ∧ RpE K H M es kvs := by
  cases h with
  | of h => cases h with | dct a n b => exact ⟨_, _, rfl, a, b⟩
  | dct a b => exact ⟨_, _, rfl, a, b⟩
end

/-! ### operators -/
/-- what follows an operation on data that keeps the store -/
def Nxt (K : PySem.W.Frag) (ρ : List Addr) (S : Sto) (H : Hp) (d : D) (Q : VK) : Prop := ∀ (v : V) (H' : Hp), Fwd ρ S H ρ S H' → Sok K ρ S H' → Rp K H' (live ρ S) d v → Q v H'
def G2 (K : PySem.W.Frag) (r : R2) (g : D → D → Option D) : Prop := ∀ (ρ : List Addr) (S : Sto) (H : Hp) (d e z : D) (x y : V) (Q : VK), Sok K ρ S H → Rq K H (live ρ S) d x → Rq K H (live ρ S) e y → g d e = some z → Nxt K ρ S H z Q → r x y H Q
def ap2 (g : D → D → Option D) (x y : W) (S : Sto) : R W := match rd S x, rd S y with
  | some d, some e => (match g d e with
    | some r => .ok (.v r) S
    | none => .bad)
  | _, _ => .bad
def op2 (g : D → D → Option D) (a b : Den W) : Den W := fun δ S => (a δ S).bind fun x S1 => (b δ S1).bind fun y S2 => ap2 g x y S2
section
variable {K : PySem.W.Frag} {ρ : List Addr} {S : Sto} {H : Hp}
theorem ap2_post {r : R2} {g : D → D → Option D} (hg : G2 K r g) {w u : W} {x y : V} {Q : VK} {Ex} (so : Sok K ρ S H) (rw1 : RpW K ρ S H w x) (rw2 : RpW K ρ S H u y) (p : Post K (RpW K) ρ S H (ap2 g w u S) Q Ex) : r x y H Q := by
  unfold ap2 at p
  cases q1 : rd S w with
  | none => simp only [q1] at p; exact p.elim
  | some d =>
    cases q2 : rd S u with
    | none => simp only [q1, q2] at p; exact p.elim
    | some e =>
      cases q3 : g d e with
      | none => simp only [q1, q2, q3] at p; exact p.elim
      | some z =>
        simp only [q1, q2, q3] at p
        exact hg ρ S H d e z x y Q so (rd_ok so rw1 q1) (rd_ok so rw2 q2) q3 fun v H' f so' rp => p v ρ H' f so' rp
end
section
variable {X : Cx} {E : XP} {e e' : Expr} {pos : Pos} {a b : Den W}
theorem op2_then {r : R2} {g : D → D → Option D} (hg : G2 X.K r g) {σ : L2.St} {H : Hp} {Q : VK} (h : tE X.K E (op2 g a b) σ H Q) : tOp r (tE X.K E a) (tE X.K E b) σ H Q := by
  obtain ⟨δ, ρ, S, st, so, p⟩ := h
  exact tG_then st so p fun w S1 x ρ1 H1 f1 st1 so1 r1 p1 => tG_then st1 so1 p1 fun u S2 y ρ2 H2 f2 st2 so2 r2 p2 => ap2_post hg so2 (f2.rw r1) r2 p2
theorem de_bin {op : Operator} {r : R2} {g : D → D → Option D} (ho : OpR X (binaryOp op) r) (hg : G2 X.K r g) (ha : PE X e (tE X.K E a)) (hb : PE X e' (tE X.K E b)) : PE X (.BinOp e op e' pos) (tE X.K E (op2 g a b)) :=
  pe_mono (pe_op ho ha hb) fun σ H Q h => op2_then hg h
theorem de_cmp {op : CmpOp} {r : R2} {g : D → D → Option D} (ho : OpR X (compareOp op) r) (hg : G2 X.K r g) (ha : PE X e (tE X.K E a)) (hb : PE X e' (tE X.K E b)) (hm : behindInMarks op e' = false := by first | exact nobehind _ (by decide) (by decide) | rfl) : PE X (.Compare e [op] [e'] pos) (tE X.K E (op2 g a b)) :=
  pe_mono (pe_cmpR ho ha hb hm) fun σ H Q h => op2_then hg h
theorem dt_cmp {op : CmpOp} {r : R2} {g : D → D → Option D} (ho : OpR X (compareOp op) r) (hg : G2 X.K r g) (ha : PE X e (tE X.K E a)) (hb : PE X e' (tE X.K E b)) (hm : behindInMarks op e' = false := by first | exact nobehind _ (by decide) (by decide) | rfl) : PT X (.Compare e [op] [e'] pos) (tT X.K E (cB (op2 g a b))) :=
  pt_mono (pt_cmpR ho ha hb hm) fun σ H Q ⟨δ, ρ, S, st, so, p⟩ => op2_then hg (tG_then st so p fun w S1 v ρ1 H1 f1 st1 so1 r1 p1 => asB_post so1 r1 p1)
/-- a op b op' c -/
def cChain (g g' : D → D → Option D) (a b c : Den W) : Den W := fun δ S => (a δ S).bind fun x S1 => (b δ S1).bind fun y S2 => (ap2 g x y S2).bind fun z S3 => (asB z S3).bind fun k S4 => if k then (c δ S4).bind fun u S5 => ap2 g' y u S5 else .ok (.v (.bl false)) S4
theorem chain_then {r r' : R2} {g g' : D → D → Option D} {c : Den W} (hg : G2 X.K r g) (hg' : G2 X.K r' g') {σ : L2.St} {H : Hp} {Q : VK} (h : tE X.K E (cChain g g' a b c) σ H Q) : tChain r r' (tE X.K E a) (tE X.K E b) (tE X.K E c) σ H Q := by
  obtain ⟨δ, ρ, S, st, so, p⟩ := h
  refine tG_then st so p fun w S1 x ρ1 H1 f1 st1 so1 r1 p1 => tG_then st1 so1 p1 fun u S2 y ρ2 H2 f2 st2 so2 r2 p2 => ?_
  have rx := f2.rw r1
  unfold ap2 at p2
  cases q1 : rd S2 w with
  | none => simp only [q1] at p2; exact p2.elim
  | some d =>
    cases q2 : rd S2 u with
    | none => simp only [q1, q2] at p2; exact p2.elim
    | some e =>
      cases q3 : g d e with
      | none => simp only [q1, q2, q3] at p2; exact p2.elim
      | some z =>
        simp only [q1, q2, q3, R.bind_ok] at p2
        refine hg ρ2 S2 H2 d e z x y _ so2 (rd_ok so2 rx q1) (rd_ok so2 r2 q2) q3 fun v H3 f3 so3 rp => ?_
        obtain ⟨k, rfl, p4⟩ := asB_then (w := .v z) rp (Post.later f3 p2)
        refine ⟨k, rfl, ?_⟩
        cases k with
        | false => rw [if_neg Bool.false_ne_true]; exact p4 _ ρ2 H3 Fwd.refl so3 (.bl false)
        | true =>
          rw [if_pos rfl]
          exact tG_then (f3.st st2) so3 p4 fun u2 S5 v5 ρ5 H5 f5 st5 so5 r5 p5 => ap2_post hg' so5 (f5.rw (f3.rw r2)) r5 p5
theorem de_chain {op op' : CmpOp} {r r' : R2} {g g' : D → D → Option D} {e'' : Expr} {c : Den W} (ho : OpR X (compareOp op) r) (ho' : OpR X (compareOp op') r') (hg : G2 X.K r g) (hg' : G2 X.K r' g') (ha : PE X e (tE X.K E a)) (hb : PE X e' (tE X.K E b)) (hc : PE X e'' (tE X.K E c))
    (hm : lastMarks [op, op'] [e', e''] = false := by with_unfolding_all rfl) : PE X (.Compare e [op, op'] [e', e''] pos) (tE X.K E (cChain g g' a b c)) := pe_mono (pe_chain ho ho' ha hb hc hm) fun σ H Q h => chain_then hg hg' h
theorem dt_chain {op op' : CmpOp} {r r' : R2} {g g' : D → D → Option D} {e'' : Expr} {c : Den W} (ho : OpR X (compareOp op) r) (ho' : OpR X (compareOp op') r') (hg : G2 X.K r g) (hg' : G2 X.K r' g') (ha : PE X e (tE X.K E a)) (hb : PE X e' (tE X.K E b)) (hc : PE X e'' (tE X.K E c))
    (hm : lastMarks [op, op'] [e', e''] = false := by with_unfolding_all rfl) : PT X (.Compare e [op, op'] [e', e''] pos) (tT X.K E (cB (cChain g g' a b c))) := pt_mono (pt_chain ho ho' ha hb hc hm) fun σ H Q ⟨δ, ρ, S, st, so, p⟩ => chain_then hg hg' (tG_then st so p fun w S1 v ρ1 H1 f1 st1 so1 r1 p1 => asB_post so1 r1 p1)
end

/-! ### data laid -/
section
variable {K : PySem.W.Frag} {ρ : List Addr} {S : Sto} {H : Hp} {Q : VK}
theorem nxt_lst {ds : List D} {xs : List V} (so : Sok K ρ S H) (r : RpL K H (live ρ S) ds xs) (n : Nxt K ρ S H (.lst ds) Q) (p : Addr) (np : H p = none) : Q (.ref p) (upd H p (.lst xs)) :=
  n _ _ (Fwd.laid so np) (so.laid np) (.lst upd_same (so.notNone np) ((Fwd.laid so np).rpL r))
theorem nxt_tup {ds : List D} {xs : List V} (so : Sok K ρ S H) (r : RpL K H (live ρ S) ds xs) (n : Nxt K ρ S H (.tup ds) Q) (p : Addr) (np : H p = none) : Q (.ref p) (upd H p (.tup xs)) :=
  n _ _ (Fwd.laid so np) (so.laid np) (.tup (SqT.of upd_same) ((Fwd.laid so np).rpL r))
theorem nxt_here {d : D} {v : V} (so : Sok K ρ S H) (r : Rp K H (live ρ S) d v) (n : Nxt K ρ S H d Q) : Q v H := n v H Fwd.refl so r
end

/-! ### ints -/
def gI (g : Int → Int → D) : D → D → Option D := fun d e => match d, e with
  | .int i, .int j => some (g i j)
  | _, _ => none
theorem g2_int {K : PySem.W.Frag} {h : Int → Int → V} {g : Int → Int → D} (hr : ∀ i j H M, Rp K H M (g i j) (h i j)) : G2 K (rI0 h) (gI g) := fun ρ S H d e z x y Q so rx ry q n => by
  unfold gI at q
  split at q
  · cases q
    exact ⟨_, _, rx.int, ry.int, nxt_here so (hr _ _ _ _) n⟩
  · cases q
def gIc (C : Int → Int → Prop) [∀ i j, Decidable (C i j)] (g : Int → Int → D) : D → D → Option D := fun d e => match d, e with
  | .int i, .int j => if C i j then some (g i j) else none
  | _, _ => none
theorem g2_intC {K : PySem.W.Frag} {C C' : Int → Int → Prop} [∀ i j, Decidable (C' i j)] {h : Int → Int → V} {g : Int → Int → D} (hc : ∀ i j, C' i j → C i j) (hr : ∀ i j H M, Rp K H M (g i j) (h i j)) : G2 K (rI C h) (gIc C' g) := fun ρ S H d e z x y Q so rx ry q n => by
  unfold gIc at q
  split at q
  · rename_i i j
    by_cases hC : C' i j
    · rw [if_pos hC] at q
      cases q
      exact ⟨_, _, rx.int, ry.int, hc _ _ hC, nxt_here so (hr _ _ _ _) n⟩
    · rw [if_neg hC] at q; cases q
  · cases q
abbrev gLt := gI fun i j => .bl (decide (i < j))
abbrev gLe := gI fun i j => .bl (decide (i ≤ j))
abbrev gGt := gI fun i j => .bl (decide (j < i))
abbrev gGe := gI fun i j => .bl (decide (j ≤ i))
abbrev gSub := gI fun i j => .int (i - j)
abbrev gDiv := gIc (fun _ j => 0 < j ∧ j < 1073741824) fun i j => .int (i / j)
abbrev gMod := gIc (fun _ j => 0 < j) fun i j => .int (i % j)
abbrev gPow := gIc (fun i j => 0 ≤ j ∧ j ≤ 1000000 ∧ i.natAbs < 18446744073709551616) fun i j => .int (i ^ j.toNat)
section
variable {X : Cx} {K : PySem.W.Frag}
theorem g2_lt : G2 K (rI0 fun i j => .bl (decide (i < j))) gLt := g2_int fun _ _ _ _ => .bl _
theorem g2_le : G2 K (rI0 fun i j => .bl (decide (i ≤ j))) gLe := g2_int fun _ _ _ _ => .bl _
theorem g2_gt : G2 K (rI0 fun i j => .bl (decide (j < i))) gGt := g2_int fun _ _ _ _ => .bl _
theorem g2_ge : G2 K (rI0 fun i j => .bl (decide (j ≤ i))) gGe := g2_int fun _ _ _ _ => .bl _
theorem g2_sub : G2 K (rI0 fun i j => .int (i - j)) gSub := g2_int fun _ _ _ _ => .int _
theorem g2_div : G2 K (rI CDiv fun i j => .int (i / j)) gDiv := g2_intC (fun _ _ h => h) fun _ _ _ _ => .int _
theorem g2_mod : G2 K (rI (fun _ j => 0 < j) fun i j => .int (i % j)) gMod := g2_intC (fun _ _ h => h) fun _ _ _ _ => .int _
theorem g2_pow : G2 K (rI CPow fun i j => .int (i ^ j.toNat)) gPow := g2_intC (fun _ _ h => ⟨h.1, h.2.1, Nat.lt_of_lt_of_le h.2.2 (by decide)⟩) fun _ _ _ _ => .int _
end
theorem lt_line {n : Nat} (h : n ≤ 1000000) : n ≤ sizeLine := Nat.le_trans h (by decide)
theorem sx_length (t : Tx) : (sx t).length = t.length := by simp [sx, Str.length]
theorem sx_append (t u : Tx) : sx t ++ sx u = sx (t ++ u) := by
  show Str.append _ _ = _
  simp [Str.append, sx]

/-! ### + -/
def gAdd : D → D → Option D := fun d e => match d, e with
  | .int i, .int j => some (.int (i + j))
  | .str t, .str u => if t.length + u.length ≤ 1000000 then some (.str (t ++ u)) else none
  | .lst ds, .lst es => if ds.length + es.length ≤ 1000000 then some (.lst (ds ++ es)) else none
  | .tup ds, .tup es => if ds.length + es.length ≤ 1000000 then some (.tup (ds ++ es)) else none
  | _, _ => none
def rAddA (K : PySem.W.Frag) : R2 := fun x y H Q => ((rI0 (fun i j => .int (i + j)) x y H Q ∨ (∃ i j, x = .str i ∧ y = .str j ∧ i.length + j.length ≤ sizeLine ∧ Q (.str (i ++ j)) H)) ∨ rCat x y H Q) ∨ rCatA K x y H Q
theorem op_addA {X : Cx} : OpR X (binaryOp .Add) (rAddA X.K) := ((op_add.or op_add_str).or op_cat).or op_catA
theorem g2_add {K : PySem.W.Frag} : G2 K (rAddA K) gAdd := fun ρ S H d e z x y Q so rx ry q n => by
  unfold gAdd at q
  split at q
  · cases q
    exact .inl (.inl (.inl ⟨_, _, rx.int, ry.int, nxt_here so (.int _) n⟩))
  · rename_i t u
    by_cases h : t.length + u.length ≤ 1000000
    · rw [if_pos h] at q
      cases q
      refine .inl (.inl (.inr ⟨_, _, rx.str, ry.str, by rw [sx_length, sx_length]; exact lt_line h, ?_⟩))
      rw [sx_append]
      exact nxt_here so (.str _) n
    · rw [if_neg h] at q; cases q
  · rename_i ds es
    by_cases h : ds.length + es.length ≤ 1000000
    · rw [if_pos h] at q
      cases q
      obtain ⟨a, xs, rfl, ha, ra⟩ := rx.lstE
      obtain ⟨b, ys, rfl, hb, rb⟩ := ry.lstE
      exact .inl (.inr ⟨a, b, xs, ys, rfl, rfl, ha, hb, by rw [← ra.length, ← rb.length]; exact lt_line h, nxt_lst so (ra.append rb) n⟩)
    · rw [if_neg h] at q; cases q
  · rename_i ds es
    by_cases h : ds.length + es.length ≤ 1000000
    · rw [if_pos h] at q
      cases q
      obtain ⟨a, xs, rfl, ha, ra⟩ := rx.tup
      obtain ⟨b, ys, rfl, hb, rb⟩ := ry.tup
      refine .inr ⟨a, b, xs, ys, rfl, rfl, ha, hb, by rw [← ra.length, ← rb.length]; exact lt_line h, fun e => ?_, fun _ e => ?_, fun _ _ => nxt_tup so (ra.append rb) n⟩
      · subst e
        cases ra
        exact nxt_here so (.tup hb rb) n
      · subst e
        cases rb
        rw [List.append_nil] at n
        exact nxt_here so (.tup ha ra) n
    · rw [if_neg h] at q; cases q
  · cases q

/-! ### times -/
def gMul : D → D → Option D := fun d e => match d, e with
  | .int i, .int j => if (-18446744073709551616 < i ∧ i < 18446744073709551616) ∨ (-18446744073709551616 < j ∧ j < 18446744073709551616) then some (.int (i * j)) else none
  | .lst ds, .int k => if k ≤ 1000 ∧ -1000 ≤ k ∧ ds.length ≤ 1000 then some (.lst (List.replicate k.toNat ds).flatten) else none
  | _, _ => none
def rMulA : R2 := fun x y H Q => rI CMul (fun i j => .int (i * j)) x y H Q ∨ rRep x y H Q
theorem op_mulA {X : Cx} : OpR X (binaryOp .Mult) rMulA := op_mul.or op_rep
theorem rpL_rep {K : PySem.W.Frag} {H : Hp} {M : Addr → Prop} {ds : List D} {xs : List V} (h : RpL K H M ds xs) : ∀ n : Nat, RpL K H M (List.replicate n ds).flatten (List.replicate n xs).flatten
  | 0 => .nil
  | n + 1 => by
    rw [List.replicate_succ, List.replicate_succ, List.flatten_cons, List.flatten_cons]
    exact h.append (rpL_rep h n)
theorem g2_mul {K : PySem.W.Frag} : G2 K rMulA gMul := fun ρ S H d e z x y Q so rx ry q n => by
  unfold gMul at q
  split at q
  · rename_i i j
    split at q
    · rename_i h
      cases q
      exact .inl ⟨_, _, rx.int, ry.int, by
        rcases h with h | h
        · exact .inl ⟨by have := h.1; omega, by have := h.2; omega⟩
        · exact .inr ⟨by have := h.1; omega, by have := h.2; omega⟩, nxt_here so (.int _) n⟩
    · cases q
  · rename_i ds k
    split at q
    · rename_i h
      cases q
      obtain ⟨a, xs, rfl, ha, ra⟩ := rx.lstE
      refine .inr ⟨a, k, xs, rfl, ry.int, ha, by have := h.2.1; omega, by have := h.1; omega, ?_, nxt_lst so (rpL_rep ra _) n⟩
      rw [← ra.length]
      have h1 : k.toNat ≤ 1000 := by have := h.1; omega
      exact lt_line (Nat.le_trans (Nat.mul_le_mul h.2.2 h1) (by decide))
    · cases q
  · cases q
end Fro

namespace Fro
open PySem PySem.Spec L2

/-! ### subscripts -/
def gIx : D → D → Option D := fun d e => match d, e with
  | .tup ds, .int i => atI ds i
  | .lst ds, .int i => atI ds i
  | .str t, .int i => if t.length ≤ 1000000 then (atI t i).map fun c => .str [c] else none
  | _, _ => none
def apIx (x y : W) (S : Sto) : R W := match x, y with
  | .s ns, .v (.int i) => (match atI ns i with
    | some n => .ok (.v (.int n)) S
    | none => .bad)
  | _, _ => ap2 gIx x y S
def cIx (a b : Den W) : Den W := fun δ S => (a δ S).bind fun x S1 => (b δ S1).bind fun y S2 => apIx x y S2
theorem rpL_at {K : PySem.W.Frag} {H : Hp} {M : Addr → Prop} {ds : List D} {xs : List V} {i : Int} {d : D} (h : RpL K H M ds xs) (e : atI ds i = some d) : ∃ v, atI xs i = some v ∧ Rp K H M d v := by
  unfold atI at e ⊢
  rw [← h.length]
  cases q : ixN ds.length i with
  | none => rw [q] at e; cases e
  | some j =>
    rw [q] at e
    exact h.get j e
theorem g2_ix {K : PySem.W.Frag} : G2 K (rIx K) gIx := fun ρ S H d e z x y Q so rx ry q n => by
  unfold gIx at q
  split at q
  · obtain ⟨a, xs, rfl, ha, ra⟩ := rx.tup
    obtain ⟨v, hv, rv⟩ := rpL_at ra q
    exact .inr (.inl ⟨a, xs, _, v, rfl, ry.int, ha, hv, nxt_here so rv n⟩)
  · obtain ⟨a, xs, rfl, ha, ra⟩ := rx.lstE
    obtain ⟨v, hv, rv⟩ := rpL_at ra q
    exact .inl ⟨a, xs, _, v, rfl, ry.int, SqL.of ha, hv, nxt_here so rv n⟩
  · rename_i t i
    by_cases h : t.length ≤ 1000000
    · rw [if_pos h] at q
      cases qc : atI t i with
      | none => rw [qc] at q; cases q
      | some c =>
        rw [qc] at q
        cases q
        exact .inr (.inr ⟨_, i, c, rx.str, ry.int, by rw [sx_length]; exact lt_line h, by simpa [sx] using qc, nxt_here so (.str [c]) n⟩)
    · rw [if_neg h] at q; cases q
  · cases q
theorem apIx_post {K : PySem.W.Frag} {ρ : List Addr} {S : Sto} {H : Hp} {w u : W} {x y : V} {Q : VK} {Ex} (so : Sok K ρ S H) (r1 : RpW K ρ S H w x) (r2 : RpW K ρ S H u y) (p : Post K (RpW K) ρ S H (apIx w u S) Q Ex) : rIx K x y H Q := by
  unfold apIx at p
  split at p
  · rename_i ns i
    obtain ⟨a, rfl, sc⟩ := r1
    cases r2
    cases q : atI ns i with
    | none => rw [q] at p; exact p.elim
    | some m =>
      rw [q] at p
      refine .inl ⟨a, ns.map V.int, i, .int m, rfl, rfl, sc.sq, ?_, p _ ρ H Fwd.refl so (.int m)⟩
      unfold atI at q ⊢
      rw [List.length_map]
      cases qj : ixN ns.length i with
      | none => rw [qj] at q; cases q
      | some j =>
        rw [qj] at q
        show (ns.map V.int)[j]? = some (.int m)
        rw [List.getElem?_map, show ns[j]? = some m from q]
        rfl
  · exact ap2_post g2_ix so r1 r2 p
theorem de_ix {X : Cx} {E : XP} {e e' : Expr} {pos : Pos} {a b : Den W} (ha : PE X e (tE X.K E a)) (hb : PE X e' (tE X.K E b)) (hs : PlainIx e' := by exact fun _ _ => rfl) : PE X (.Subscript e e' pos) (tE X.K E (cIx a b)) :=
  pe_mono (pe_ix ix_seq ha hb hs) fun σ H Q ⟨δ, ρ, S, st, so, p⟩ => tG_then st so p fun w S1 x ρ1 H1 f1 st1 so1 r1 p1 => tG_then st1 so1 p1 fun u S2 y ρ2 H2 f2 st2 so2 r2 p2 => apIx_post so2 (f2.rw r1) r2 p2

/-! ### == -/
mutual
def deq : D → D → Bool
  | .non, .non => true
  | .bl a, .bl b => a == b
  | .bl a, .int j => (if a then 1 else 0) == j
  | .int i, .bl b => i == (if b then 1 else 0)
  | .int i, .int j => i == j
  | .str x, .str y => x == y
  | .lst xs, .lst ys => deqL xs ys
  | .tup xs, .tup ys => deqL xs ys
  | _, _ => false
def deqL : List D → List D → Bool
  | [], [] => true
  | x :: xs, y :: ys => deq x y && deqL xs ys
  | _, _ => false
end
mutual
def okD : D → Bool
  | .non => true
  | .bl _ => true
  | .int _ => true
  | .str t => t.all fun c => decide (c < 1114112)
  | .tup ds => okDL ds
  | .lst ds => okDL ds
  | .dct _ => false
  | .ty _ => false
def okDL : List D → Bool
  | [] => true
  | d :: ds => okD d && okDL ds
end
mutual
def dep : D → Nat
  | .tup ds => depL ds + 1
  | .lst ds => depL ds + 1
  | .non => 0
  | .bl _ => 0
  | .int _ => 0
  | .str _ => 0
  | .dct _ => 0
  | .ty _ => 0
def depL : List D → Nat
  | [] => 0
  | d :: ds => max (dep d) (depL ds)
end
mutual
def py : D → PyData
  | .non => .none
  | .bl b => .bool b
  | .int i => .int i
  | .str t => .str (sx t)
  | .tup ds => .tuple (pyL ds)
  | .lst ds => .list (pyL ds)
  | .dct _ => .none
  | .ty _ => .none
def pyL : List D → List PyData
  | [] => []
  | d :: ds => py d :: pyL ds
end
mutual
theorem py_can : ∀ d : D, okD d = true → (py d).canLay0 = true
  | .non, _ => by simp only [py, PyData.canLay0]
  | .bl _, _ => by simp only [py, PyData.canLay0]
  | .int _, _ => by simp only [py, PyData.canLay0]
  | .str t, h => by
    simp only [okD] at h
    simp only [py, PyData.canLay0, PyData.strOk, sx]
    rw [← Array.all_toList]
    exact h
  | .tup ds, h => by
    simp only [py, PyData.canLay0]
    exact pyL_can ds (by simpa [okD] using h)
  | .lst ds, h => by
    simp only [py, PyData.canLay0]
    exact pyL_can ds (by simpa [okD] using h)
  | .dct _, h => by simp [okD] at h
  | .ty _, h => by simp [okD] at h
theorem pyL_can : ∀ ds : List D, okDL ds = true → PyData.canLayAll0 (pyL ds) = true
  | [], _ => by simp only [pyL, PyData.canLayAll0]
  | d :: ds, h => by
    have h' : okD d = true ∧ okDL ds = true := by simpa [okDL] using h
    simp only [pyL, PyData.canLayAll0, py_can d h'.1, pyL_can ds h'.2, Bool.and_self]
end
mutual
theorem py_dep : ∀ d : D, (py d).depth = dep d
  | .non => by simp only [py, PyData.depth, dep]
  | .bl _ => by simp only [py, PyData.depth, dep]
  | .int _ => by simp only [py, PyData.depth, dep]
  | .str _ => by simp only [py, PyData.depth, dep]
  | .tup ds => by simp only [py, PyData.depth, dep, pyL_dep ds]
  | .lst ds => by simp only [py, PyData.depth, dep, pyL_dep ds]
  | .dct _ => by simp only [py, PyData.depth, dep]
  | .ty _ => by simp only [py, PyData.depth, dep]
theorem pyL_dep : ∀ ds : List D, PyData.depthAll (pyL ds) = depL ds
  | [] => by simp only [pyL, PyData.depthAll, depL]
  | d :: ds => by simp only [pyL, PyData.depthAll, depL, py_dep d, pyL_dep ds]
end
theorem sx_beq (a b : Tx) : (sx a == sx b) = (a == b) := by
  by_cases h : a = b
  · subst h; simp
  · rw [beq_eq_false_iff_ne.mpr h, beq_eq_false_iff_ne.mpr fun e => h (sx_inj e)]
mutual
theorem py_eqv : ∀ d e : D, okD d = true → okD e = true → PyData.eqv (py d) (py e) = deq d e
  | .non, e, _, h => by cases e <;> simp_all [py, PyData.eqv, deq, okD]
  | .bl _, e, _, h => by cases e <;> simp_all [py, PyData.eqv, deq, okD]
  | .int _, e, _, h => by cases e <;> simp_all [py, PyData.eqv, deq, okD]
  | .str t, e, _, h => by
    cases e with
    | str u => simp only [py, PyData.eqv, deq, sx_beq]
    | _ => simp_all [py, PyData.eqv, deq, okD]
  | .tup ds, e, h1, h => by
    cases e with
    | tup es => simp only [py, PyData.eqv, deq]; exact pyL_eqv ds es (by simpa [okD] using h1) (by simpa [okD] using h)
    | _ => simp_all [py, PyData.eqv, deq, okD]
  | .lst ds, e, h1, h => by
    cases e with
    | lst es => simp only [py, PyData.eqv, deq]; exact pyL_eqv ds es (by simpa [okD] using h1) (by simpa [okD] using h)
    | _ => simp_all [py, PyData.eqv, deq, okD]
  | .dct _, _, h, _ => by simp [okD] at h
  | .ty _, _, h, _ => by simp [okD] at h
theorem pyL_eqv : ∀ ds es : List D, okDL ds = true → okDL es = true → PyData.eqvAll (pyL ds) (pyL es) = deqL ds es
  | [], [], _, _ => by simp only [pyL, PyData.eqvAll, deqL]
  | [], _ :: _, _, _ => by simp only [pyL, PyData.eqvAll, deqL]
  | _ :: _, [], _, _ => by simp only [pyL, PyData.eqvAll, deqL]
  | d :: ds, e :: es, h1, h2 => by
    have a1 : okD d = true ∧ okDL ds = true := by simpa [okDL] using h1
    have a2 : okD e = true ∧ okDL es = true := by simpa [okDL] using h2
    simp only [pyL, PyData.eqvAll, deqL, py_eqv d e a1.1 a2.1, pyL_eqv ds es a1.2 a2.2]
end
section
variable {K : PySem.W.Frag} {H : Hp} {M : Addr → Prop}
theorem rp_dp {d : D} {v : V} (h : Rp K H M d v) : okD d = true → Dp K H v (py d) :=
  Rp.rec (motive_1 := fun d v _ => okD d = true → Dp K H v (py d)) (motive_2 := fun ds vs _ => okDL ds = true → DpAll K H vs (pyL ds)) (motive_3 := fun _ _ _ => True)
    (fun _ => by simp only [py]; exact .non) (fun b _ => by simp only [py]; exact .bl b) (fun b _ => by simp only [py]; exact .int b) (fun b _ => by simp only [py]; exact .str _) (fun b h => by simp [okD] at h)
    (fun sq _ ih h => by simp only [py]; exact .tup sq (ih (by simpa [okD] using h))) (fun e n _ ih h => by simp only [py]; exact .lst (SqL.of e) (ih (by simpa [okD] using h))) (fun _ _ _ _ h => by simp [okD] at h)
    (fun _ => by simp only [pyL]; exact .nil) (fun {d ds v vs} _ _ ih1 ih2 h => by
      have a : okD d = true ∧ okDL ds = true := by simpa [okDL] using h
      simp only [pyL]; exact .cons (ih1 a.1) (ih2 a.2)) trivial (fun _ _ _ _ => trivial) h
theorem rpL_dp : ∀ {ds : List D} {vs : List V}, RpL K H M ds vs → okDL ds = true → DpAll K H vs (pyL ds)
  | _, _, .nil, _ => by simp only [pyL]; exact .nil
  | d :: ds, _, .cons a b, h => by
    have q : okD d = true ∧ okDL ds = true := by simpa [okDL] using h
    simp only [pyL]; exact .cons (rp_dp a q.1) (rpL_dp b q.2)
theorem rq_dp {d : D} {v : V} (h : Rq K H M d v) (ok : okD d = true) : Dp K H v (py d) := by
  cases h with
  | of h => exact rp_dp h ok
  | lst e r => simp only [py]; exact .lst (SqL.of e) (rpL_dp r (by simpa [okD] using ok))
  | dct e r => simp [okD] at ok
end
def gEq : D → D → Option D := fun d e => if (okD d && okD e && decide (min (dep d) (dep e) ≤ 64)) = true then some (.bl (deq d e)) else none
def gNe : D → D → Option D := fun d e => if (okD d && okD e && decide (min (dep d) (dep e) ≤ 64)) = true then some (.bl (!deq d e)) else none
def rEqM (K : PySem.W.Frag) (neg : Bool) : R2 := fun x y H Q => ∃ d e, Dp K H x d ∧ Dp K H y e ∧ d.canLay0 = true ∧ e.canLay0 = true ∧ min d.depth e.depth ≤ 64 ∧ Q (.bl (if neg = true then !PyData.eqv d e else PyData.eqv d e)) H
theorem hu64 {A : Around} {k : Nat} (hr : Room k A) : A.units + 64 < cLine := by have := hr.un; omega
section
variable {X : Cx} {k : Nat}
theorem op_eqM (hr : Room k X.A) : OpR X (compareOp .Eq) (rEqM X.K false) := by
  intro pins s σ H x y v u Q I rx ry h
  obtain ⟨d, e, hd, he, sd, se, hm, q⟩ := h
  obtain ⟨as, r1⟩ := Dp.reads I d x v hd rx
  obtain ⟨bs, r2⟩ := Dp.reads I e y u he ry
  exact SeqAt.compareEq_reads r1 r2 sd se (by have := hu64 hr; omega) ⟨.bl _, H, I, rfl, q⟩
theorem op_neM (hr : Room k X.A) : OpR X (compareOp .NotEq) (rEqM X.K true) := by
  intro pins s σ H x y v u Q I rx ry h
  obtain ⟨d, e, hd, he, sd, se, hm, q⟩ := h
  obtain ⟨as, r1⟩ := Dp.reads I d x v hd rx
  obtain ⟨bs, r2⟩ := Dp.reads I e y u he ry
  exact SeqAt.compareNe_reads r1 r2 sd se (by have := hu64 hr; omega) ⟨.bl _, H, I, rfl, q⟩
theorem g2_eq {K : PySem.W.Frag} : G2 K (rEqM K false) gEq := fun ρ S H d e z x y Q so rx ry q n => by
  unfold gEq at q
  split at q
  · rename_i h
    cases q
    simp only [Bool.and_eq_true, decide_eq_true_eq] at h
    refine ⟨py d, py e, rq_dp rx h.1.1, rq_dp ry h.1.2, py_can d h.1.1, py_can e h.1.2, by rw [py_dep, py_dep]; exact h.2, ?_⟩
    rw [if_neg Bool.false_ne_true, py_eqv d e h.1.1 h.1.2]
    exact nxt_here so (.bl _) n
  · cases q
theorem g2_ne {K : PySem.W.Frag} : G2 K (rEqM K true) gNe := fun ρ S H d e z x y Q so rx ry q n => by
  unfold gNe at q
  split at q
  · rename_i h
    cases q
    simp only [Bool.and_eq_true, decide_eq_true_eq] at h
    refine ⟨py d, py e, rq_dp rx h.1.1, rq_dp ry h.1.2, py_can d h.1.1, py_can e h.1.2, by rw [py_dep, py_dep]; exact h.2, ?_⟩
    rw [if_pos rfl, py_eqv d e h.1.1 h.1.2]
    exact nxt_here so (.bl _) n
  · cases q
end

/-! ### in -/
def flatD : D → Bool
  | .non => true
  | .bl _ => true
  | .int _ => true
  | .str _ => true
  | _ => false
def gInB (d e : D) : Option Bool := match e with
  | .tup es => if (flatD d && es.all flatD) = true then some (es.any fun y => deq y d) else none
  | .lst es => if (flatD d && es.all flatD) = true then some (es.any fun y => deq y d) else none
  | .str t => (match d with
    | .str [c] => some (decide (c ∈ t))
    | _ => none)
  | _ => none
def gIn : D → D → Option D := fun d e => (gInB d e).map .bl
def gNotIn : D → D → Option D := fun d e => (gInB d e).map fun b => .bl (!b)
def rInA (K : PySem.W.Frag) (neg : Bool) : R2 := fun x y H Q => rIn K neg x y H Q ∨ ∃ (c : Nat) (z : Str), x = .str ⟨#[c]⟩ ∧ y = .str z ∧ Q (.bl (if neg then !decide (c ∈ z.cps.toList) else decide (c ∈ z.cps.toList))) H
theorem op_inA {X : Cx} : OpR X (compareOp .In) (rInA X.K false) := by
  intro pins s σ H x y v u Q I rx ry h
  rcases h with h | h
  · exact op_in_seq pins s σ H x y v u Q I rx ry h
  · exact op_in_sign pins s σ H x y v u Q I rx ry h
theorem op_notInA {X : Cx} : OpR X (compareOp .NotIn) (rInA X.K true) := by
  intro pins s σ H x y v u Q I rx ry h
  rcases h with h | h
  · exact op_notIn_seq pins s σ H x y v u Q I rx ry h
  · exact op_notIn_sign pins s σ H x y v u Q I rx ry h
section
variable {K : PySem.W.Frag} {H : Hp} {M : Addr → Prop}
theorem rq_flat {d : D} {v : V} (h : Rq K H M d v) (f : flatD d = true) : flatV v = true := by
  cases d with
  | non => rw [h.non]; rfl
  | bl b => rw [h.bl]; rfl
  | int b => rw [h.int]; rfl
  | str b => rw [h.str]; rfl
  | _ => cases f
theorem eqV_deq {d e : D} {v u : V} (h : Rq K H M d v) (h' : Rq K H M e u) (f : flatD d = true) (f' : flatD e = true) : eqV v u = deq d e := by
  cases d with
  | non => cases e with
    | non => rw [h.non, h'.non]; rfl
    | bl b => rw [h.non, h'.bl]; rfl
    | int b => rw [h.non, h'.int]; rfl
    | str b => rw [h.non, h'.str]; rfl
    | _ => cases f'
  | bl c => cases e with
    | non => rw [h.bl, h'.non]; rfl
    | bl b => rw [h.bl, h'.bl]; rfl
    | int b => rw [h.bl, h'.int]; rfl
    | str b => rw [h.bl, h'.str]; rfl
    | _ => cases f'
  | int c => cases e with
    | non => rw [h.int, h'.non]; rfl
    | bl b => rw [h.int, h'.bl]; rfl
    | int b => rw [h.int, h'.int]; rfl
    | str b => rw [h.int, h'.str]; rfl
    | _ => cases f'
  | str c => cases e with
    | non => rw [h.str, h'.non]; rfl
    | bl b => rw [h.str, h'.bl]; rfl
    | int b => rw [h.str, h'.int]; rfl
    | str b => rw [h.str, h'.str]; show (sx c == sx b) = _; rw [sx_beq]; simp only [deq]
    | _ => cases f'
  | _ => cases f
theorem rpL_flat : ∀ {ds : List D} {vs : List V}, RpL K H M ds vs → ds.all flatD = true → vs.all flatV = true
  | _, _, .nil, _ => rfl
  | d :: ds, v :: vs, .cons a b, h => by
    rw [List.all_cons, Bool.and_eq_true] at h ⊢
    exact ⟨rq_flat (.of a) h.1, rpL_flat b h.2⟩
theorem rpL_in {d : D} {x : V} (hx : Rq K H M d x) (fx : flatD d = true) : ∀ {ds : List D} {vs : List V}, RpL K H M ds vs → ds.all flatD = true → inV x vs = ds.any fun y => deq y d
  | _, _, .nil, _ => rfl
  | e :: ds, v :: vs, .cons a b, h => by
    rw [List.all_cons, Bool.and_eq_true] at h
    have ih := rpL_in hx fx b h.2
    unfold inV at ih ⊢
    rw [List.any_cons, List.any_cons, ih, eqV_deq (.of a) hx h.1 fx]
end
theorem in_post {K : PySem.W.Frag} {ρ : List Addr} {S : Sto} {H : Hp} {d e : D} {x y : V} {b : Bool} {Q : VK} (neg : Bool) (rx : Rq K H (live ρ S) d x) (ry : Rq K H (live ρ S) e y) (q : gInB d e = some b) (n : Q (.bl (if neg then !b else b)) H) : rInA K neg x y H Q := by
  unfold gInB at q
  split at q
  · rename_i es
    split at q
    · rename_i h
      cases q
      rw [Bool.and_eq_true] at h
      obtain ⟨a, xs, rfl, ha, ra⟩ := ry.tup
      refine .inl ⟨a, xs, rfl, .inr ha, rq_flat rx h.1, rpL_flat ra h.2, ?_⟩
      rw [rpL_in rx h.1 ra h.2]; exact n
    · cases q
  · rename_i es
    split at q
    · rename_i h
      cases q
      rw [Bool.and_eq_true] at h
      obtain ⟨a, xs, rfl, ha, ra⟩ := ry.lstE
      refine .inl ⟨a, xs, rfl, .inl (SqL.of ha), rq_flat rx h.1, rpL_flat ra h.2, ?_⟩
      rw [rpL_in rx h.1 ra h.2]; exact n
    · cases q
  · split at q
    · rename_i t c
      cases q
      refine .inr ⟨c, _, rx.str, ry.str, ?_⟩
      have e : ∀ t : Tx, decide (c ∈ (sx t).cps.toList) = decide (c ∈ t) := fun t => by
        have e1 : (sx t).cps.toList = t := by simp [sx]
        rw [e1]
      rw [e]
      exact n
    · cases q
  · cases q
theorem g2_in {K : PySem.W.Frag} : G2 K (rInA K false) gIn := fun ρ S H d e z x y Q so rx ry q n => by
  unfold gIn at q
  cases qb : gInB d e with
  | none => rw [qb] at q; cases q
  | some b => rw [qb] at q; cases q; exact in_post false rx ry qb (nxt_here so (.bl b) n)
theorem g2_notIn {K : PySem.W.Frag} : G2 K (rInA K true) gNotIn := fun ρ S H d e z x y Q so rx ry q n => by
  unfold gNotIn at q
  cases qb : gInB d e with
  | none => rw [qb] at q; cases q
  | some b => rw [qb] at q; cases q; exact in_post true rx ry qb (nxt_here so (.bl (!b)) n)

/-! ### is None -/
def isNon : D → Bool
  | .non => true
  | _ => false
def gIs : D → D → Option D := fun d e => match e with
  | .non => some (.bl (isNon d))
  | _ => none
def gIsNot : D → D → Option D := fun d e => match e with
  | .non => some (.bl (!isNon d))
  | _ => none
theorem rq_isNon {K : PySem.W.Frag} {H : Hp} {M : Addr → Prop} {d : D} {v : V} (h : Rq K H M d v) : decide (v = .non) = isNon d := by
  cases d with
  | non => rw [h.non]; rfl
  | bl b => rw [h.bl]; rfl
  | int b => rw [h.int]; rfl
  | str b => rw [h.str]; rfl
  | ty b => rw [h.ty]; rfl
  | tup ds => obtain ⟨_, _, rfl, _⟩ := h.tup; rfl
  | lst ds => obtain ⟨_, _, rfl, _⟩ := h.lstE; rfl
  | dct ds => obtain ⟨_, _, rfl, _⟩ := h.dctE; rfl
theorem g2_is {K : PySem.W.Frag} : G2 K (fun x y H Q => y = .non ∧ Q (.bl (decide (x = .non))) H) gIs := fun ρ S H d e z x y Q so rx ry q n => by
  unfold gIs at q
  split at q
  · cases q
    refine ⟨ry.non, ?_⟩
    rw [rq_isNon rx]; exact nxt_here so (.bl _) n
  · cases q
theorem g2_isNot {K : PySem.W.Frag} : G2 K (fun x y H Q => y = .non ∧ Q (.bl (!decide (x = .non))) H) gIsNot := fun ρ S H d e z x y Q so rx ry q n => by
  unfold gIsNot at q
  split at q
  · cases q
    refine ⟨ry.non, ?_⟩
    rw [rq_isNon rx]; exact nxt_here so (.bl _) n
  · cases q
end Fro

namespace Fro
open PySem PySem.Spec L2

/-! ### built-in functions by data -/
def rdAll (S : Sto) : List W → Option (List D)
  | [] => some []
  | w :: ws => match rd S w, rdAll S ws with
    | some d, some ds => some (d :: ds)
    | _, _ => none
inductive RqL (K : PySem.W.Frag) (H : Hp) (M : Addr → Prop) : List D → List V → Prop
  | nil : RqL K H M [] []
  | cons {d : D} {ds : List D} {v : V} {vs : List V} : Rq K H M d v → RqL K H M ds vs → RqL K H M (d :: ds) (v :: vs)
theorem rdAll_ok {K : PySem.W.Frag} {ρ : List Addr} {S : Sto} {H : Hp} (so : Sok K ρ S H) : ∀ {ws : List W} {vs : List V} {ds : List D}, RpWs K ρ S H ws vs → rdAll S ws = some ds → RqL K H (live ρ S) ds vs
  | _, _, ds, .nil, e => by cases e; exact .nil
  | w :: ws, _, ds, .cons a b, e => by
    unfold rdAll at e
    cases q1 : rd S w with
    | none => rw [q1] at e; simp at e
    | some d =>
      cases q2 : rdAll S ws with
      | none => rw [q1, q2] at e; simp at e
      | some ds' =>
        rw [q1, q2] at e
        cases e
        exact .cons (rd_ok so a q1) (rdAll_ok so b q2)
def GN (K : PySem.W.Frag) (r : List V → Hp → VK → Prop) (g : List D → Option D) : Prop := ∀ (ρ : List Addr) (S : Sto) (H : Hp) (ds : List D) (z : D) (xs : List V) (Q : VK), Sok K ρ S H → RqL K H (live ρ S) ds xs → g ds = some z → Nxt K ρ S H z Q → r xs H Q
def apN (g : List D → Option D) (ws : List W) (S : Sto) : R W := match rdAll S ws with
  | some ds => (match g ds with
    | some r => .ok (.v r) S
    | none => .bad)
  | none => .bad
def cBlt (g : List D → Option D) (a : Den (List W)) : Den W := fun δ S => (a δ S).bind fun ws S1 => apN g ws S1
theorem apN_post {K : PySem.W.Frag} {ρ : List Addr} {S : Sto} {H : Hp} {r : List V → Hp → VK → Prop} {g : List D → Option D} (hg : GN K r g) {ws : List W} {xs : List V} {Q : VK} {Ex} (so : Sok K ρ S H) (rw1 : RpWs K ρ S H ws xs) (p : Post K (RpW K) ρ S H (apN g ws S) Q Ex) : r xs H Q := by
  unfold apN at p
  cases q1 : rdAll S ws with
  | none => simp only [q1] at p; exact p.elim
  | some ds =>
    cases q3 : g ds with
    | none => simp only [q1, q3] at p; exact p.elim
    | some z =>
      simp only [q1, q3] at p
      exact hg ρ S H ds z xs Q so (rdAll_ok so rw1 q1) q3 fun v H' f so' rp => p v ρ H' f so' rp
section
variable {X : Cx} {E : XP} {x : Str} {p pos : Pos} {e : Expr} {es : List Expr} {a : Den (List W)} {r : List V → Hp → VK → Prop} {g : List D → Option D}
theorem de_blt {id : String} (hc : CallR X (.builtin id) r) (hg : GN X.K r g) (hm : X.mg x = none) (hv : bootBuiltins x = some (.builtin id)) (ha : PA X (e :: es) (tA X.K E a)) (hgl : Gl X x := by rfl) (hn : x ≠ "__name__" := by decide) (hdb : (x == ("__debug__" : Str)) = false := by decide)
    (he : starEach (e :: es) X.env = (false, eval e X.env) :: starEach es X.env := by rfl) (hpl : (backTo pos (starEach es X.env)).any (·.1) = false := by rfl) : PE X (.Call (.Name x p) (e :: es) [] pos) (tE X.K E (cBlt g a)) :=
  pe_mono (pe_callB hc hgl hm hv ha hn hdb he hpl) fun σ H Q ⟨δ, ρ, S, st, so, q⟩ => tG_then st so q fun ws S1 vs ρ1 H1 f1 st1 so1 r1 p1 => apN_post hg so1 r1 p1
theorem de_bty {T : String} (hc : CallR X (.type T) r) (hg : GN X.K r g) (hm : X.mg x = none) (hv : bootBuiltins x = some (.type T)) (ha : PA X (e :: es) (tA X.K E a)) (hgl : Gl X x := by rfl) (hn : x ≠ "__name__" := by decide) (hdb : (x == ("__debug__" : Str)) = false := by decide)
    (he : starEach (e :: es) X.env = (false, eval e X.env) :: starEach es X.env := by rfl) (hpl : (backTo pos (starEach es X.env)).any (·.1) = false := by rfl) : PE X (.Call (.Name x p) (e :: es) [] pos) (tE X.K E (cBlt g a)) :=
  pe_mono (pe_callTy hc hgl hm hv ha hn hdb he hpl) fun σ H Q ⟨δ, ρ, S, st, so, q⟩ => tG_then st so q fun ws S1 vs ρ1 H1 f1 st1 so1 r1 p1 => apN_post hg so1 r1 p1
end
/-- len -/
def gLen : List D → Option D := fun ds => match ds with
  | [.lst es] => some (.int es.length)
  | [.tup es] => some (.int es.length)
  | [.str t] => if t.length ≤ 1000000 then some (.int t.length) else none
  | _ => none
def apLen (ws : List W) (S : Sto) : R W := match ws with
  | [.s ns] => .ok (.v (.int ns.length)) S
  | _ => apN gLen ws S
def cLen (a : Den (List W)) : Den W := fun δ S => (a δ S).bind fun ws S1 => apLen ws S1
theorem gn_len {K : PySem.W.Frag} : GN K (fun xs H Q => ∃ x n, xs = [x] ∧ LenV K x H n ∧ Q (.int n) H) gLen := fun ρ S H ds z xs Q so rx q n => by
  unfold gLen at q
  split at q
  · cases q
    cases rx with
    | cons a b =>
      cases b
      obtain ⟨p, ys, rfl, hy, ry⟩ := a.lstE
      exact ⟨_, ys.length, rfl, .inl ⟨ys, SqL.of hy, rfl⟩, by rw [← ry.length]; exact nxt_here so (.int _) n⟩
  · cases q
    cases rx with
    | cons a b =>
      cases b
      obtain ⟨p, ys, rfl, hy, ry⟩ := a.tup
      exact ⟨_, ys.length, rfl, .inr ⟨ys, hy, rfl⟩, by rw [← ry.length]; exact nxt_here so (.int _) n⟩
  · rename_i t
    split at q
    · rename_i h
      cases q
      cases rx with
      | cons a b =>
        cases b
        rw [a.str]
        exact ⟨_, t.length, rfl, ⟨by rw [sx_length]; exact lt_line h, (sx_length t).symm⟩, nxt_here so (.int _) n⟩
    · cases q
  · cases q
theorem de_len {X : Cx} {E : XP} {p pos : Pos} {e : Expr} {a : Den (List W)} (hm : X.mg "len" = none) (ha : PA X [e] (tA X.K E a)) (hgl : Gl X "len" := by rfl)
    (he : starEach [e] X.env = (false, eval e X.env) :: starEach [] X.env := by rfl) (hpl : (backTo pos (starEach [] X.env)).any (·.1) = false := by rfl) : PE X (.Call (.Name "len" p) [e] [] pos) (tE X.K E (cLen a)) :=
  pe_mono (pe_callB call_len hgl hm PySem.boot_len ha (by decide) (by decide) he hpl) fun σ H Q ⟨δ, ρ, S, st, so, q⟩ => tG_then st so q fun ws S1 vs ρ1 H1 f1 st1 so1 r1 p1 => by
    unfold apLen at p1
    split at p1
    · rename_i ns
      cases r1 with
      | cons a b =>
        cases b
        obtain ⟨c, rfl, sc⟩ := a
        exact ⟨_, ns.length, rfl, .inl ⟨_, sc.sq, by rw [List.length_map]⟩, p1 _ ρ1 H1 Fwd.refl so1 (.int _)⟩
    · exact apN_post gn_len so1 r1 p1
/-- isinstance -/
def tyOf : D → Option String
  | .non => some "NoneType"
  | .bl _ => some "bool"
  | .int _ => some "int"
  | .str _ => some "str"
  | .tup _ => some "tuple"
  | .lst _ => some "list"
  | .dct _ => some "dict"
  | .ty _ => none
def isiD (d : D) (T : Ty) : Option Bool := match d, T with
  | .str _, .str => some true
  | .tup _, .tup => some true
  | .lst _, .lst => some true
  | .dct _, .dct => some true
  | .int _, .int => some true
  | .bl _, .bl => some true
  | .bl _, .int => some true
  | .ty _, _ => none
  | _, _ => some false
theorem isiD_kit {d : D} {T : Ty} {b : Bool} (h : isiD d T = some b) : ∃ t, tyOf d = some t ∧ kitB t T.nm = some b := by
  cases d <;> cases T <;> first | (cases h; exact ⟨_, rfl, by decide +kernel⟩) | (cases h)
theorem rq_ty {K : PySem.W.Frag} {H : Hp} {M : Addr → Prop} {d : D} {v : V} {t : String} (h : Rq K H M d v) (e : tyOf d = some t) : TyX K H v (.type t) := by
  cases d with
  | non => cases e; rw [h.non]; exact .base .non
  | bl b => cases e; rw [h.bl]; exact .base (.bl b)
  | int b => cases e; rw [h.int]; exact .base (.int b)
  | str b => cases e; rw [h.str]; exact .base (.str _)
  | ty b => cases e
  | tup ds =>
    cases e
    obtain ⟨a, xs, rfl, sq, _⟩ := h.tup
    rcases sq with (sq | ⟨o, sq⟩) | ⟨o, its, n, l, c, _⟩
    · exact .base (.tup sq)
    · exact .fTuple sq
    · exact .kTuple l c
  | lst ds => cases e; obtain ⟨a, xs, rfl, sq, _⟩ := h.lstE; exact .base (.lst sq)
  | dct ds => cases e; obtain ⟨a, xs, rfl, sq, _⟩ := h.dctE; exact sq.elim (fun q => .base (.dK q)) (fun ⟨_, q⟩ => .fDict q)
def gIsi : List D → Option D := fun ds => match ds with
  | [d, .ty T] => (isiD d T).map .bl
  | _ => none
theorem gn_isi {K : PySem.W.Frag} : GN K (rIsi K) gIsi := fun ρ S H ds z xs Q so rx q n => by
  unfold gIsi at q
  split at q
  · rename_i d T
    cases qb : isiD d T with
    | none => rw [qb] at q; cases q
    | some b =>
      rw [qb] at q
      cases q
      obtain ⟨t, h1, h2⟩ := isiD_kit qb
      cases rx with
      | cons r1 r2 =>
        cases r2 with
        | cons r2 r3 =>
          cases r3
          rw [r2.ty]
          exact ⟨_, _, .type t, .type T.nm, b, rfl, .ty _, rq_ty r1 h1, kit_ty h2, nxt_here so (.bl b) n⟩
  · cases q
/-- all, any -/
def blL : List D → Option (List Bool)
  | [] => some []
  | .bl b :: ds => (blL ds).map (b :: ·)
  | _ :: _ => none
theorem blL_rp {K : PySem.W.Frag} {H : Hp} {M : Addr → Prop} : ∀ {ds : List D} {bs : List Bool} {vs : List V}, blL ds = some bs → RpL K H M ds vs → vs = bs.map V.bl
  | [], bs, _, e, .nil => by cases e; rfl
  | d :: ds, bs, _, e, .cons a b => by
    cases d with
    | bl c =>
      cases a
      unfold blL at e
      cases q : blL ds with
      | none => rw [q] at e; cases e
      | some cs =>
        rw [q] at e
        cases e
        rw [blL_rp q b]
        rfl
    | _ => cases e
def gAll : List D → Option D := fun ds => match ds with
  | [.lst es] => (blL es).map fun bs => .bl (bs.all id)
  | _ => none
def gAny : List D → Option D := fun ds => match ds with
  | [.lst es] => (blL es).map fun bs => .bl (bs.any id)
  | _ => none
theorem gn_all {K : PySem.W.Frag} : GN K (rAll K) gAll := fun ρ S H ds z xs Q so rx q n => by
  unfold gAll at q
  split at q
  · rename_i es
    cases qb : blL es with
    | none => rw [qb] at q; cases q
    | some bs =>
      rw [qb] at q
      cases q
      cases rx with
      | cons r1 r2 =>
        cases r2
        obtain ⟨a, ys, rfl, ha, ra⟩ := r1.lstE
        rw [blL_rp qb ra] at ha
        exact ⟨a, bs, rfl, SqL.of ha, nxt_here so (.bl _) n⟩
  · cases q
theorem gn_any {K : PySem.W.Frag} : GN K (rAny K) gAny := fun ρ S H ds z xs Q so rx q n => by
  unfold gAny at q
  split at q
  · rename_i es
    cases qb : blL es with
    | none => rw [qb] at q; cases q
    | some bs =>
      rw [qb] at q
      cases q
      cases rx with
      | cons r1 r2 =>
        cases r2
        obtain ⟨a, ys, rfl, ha, ra⟩ := r1.lstE
        rw [blL_rp qb ra] at ha
        exact ⟨a, bs, rfl, SqL.of ha, nxt_here so (.bl _) n⟩
  · cases q
/-- int, max, min -/
def gInt : List D → Option D := fun ds => match ds with
  | [.int i] => some (.int i)
  | [.bl b] => some (.int (if b then 1 else 0))
  | _ => none
theorem gn_int {K : PySem.W.Frag} : GN K (fun xs H Q => (∃ i, xs = [.int i] ∧ Q (.int i) H) ∨ ∃ k, xs = [.bl k] ∧ Q (.int (if k then 1 else 0)) H) gInt := fun ρ S H ds z xs Q so rx q n => by
  unfold gInt at q
  split at q
  · cases q
    cases rx with
    | cons r1 r2 => cases r2; exact .inl ⟨_, by rw [r1.int], nxt_here so (.int _) n⟩
  · cases q
    cases rx with
    | cons r1 r2 => cases r2; exact .inr ⟨_, by rw [r1.bl], nxt_here so (.int _) n⟩
  · cases q
def gMax2 : List D → Option D := fun ds => match ds with
  | [.int i, .int j] => some (.int (if j > i then j else i))
  | _ => none
def gMin2 : List D → Option D := fun ds => match ds with
  | [.int i, .int j] => some (.int (if j < i then j else i))
  | _ => none
theorem gn_max2 {K : PySem.W.Frag} : GN K (fun xs H Q => ∃ i j, xs = [.int i, .int j] ∧ Q (.int (if j > i then j else i)) H) gMax2 := fun ρ S H ds z xs Q so rx q n => by
  unfold gMax2 at q
  split at q
  · cases q
    cases rx with
    | cons r1 r2 => cases r2 with
      | cons r2 r3 => cases r3; exact ⟨_, _, by rw [r1.int, r2.int], nxt_here so (.int _) n⟩
  · cases q
theorem gn_min2 {K : PySem.W.Frag} : GN K (fun xs H Q => ∃ i j, xs = [.int i, .int j] ∧ Q (.int (if j < i then j else i)) H) gMin2 := fun ρ S H ds z xs Q so rx q n => by
  unfold gMin2 at q
  split at q
  · cases q
    cases rx with
    | cons r1 r2 => cases r2 with
      | cons r2 r3 => cases r3; exact ⟨_, _, by rw [r1.int, r2.int], nxt_here so (.int _) n⟩
  · cases q

/-! ### methods of lists of the store -/
def isRL (x : W) (S : Sto) : Option (Nat × List D) := match x with
  | .r i => (match S[i]? with
    | some (.lst ds) => some (i, ds)
    | _ => none)
  | _ => none
theorem isRL_ok {K : PySem.W.Frag} {ρ : List Addr} {S : Sto} {H : Hp} {w : W} {v : V} {i : Nat} {ds : List D} (so : Sok K ρ S H) (r : RpW K ρ S H w v) (e : isRL w S = some (i, ds)) : ∃ a xs, w = .r i ∧ v = .ref a ∧ ρ[i]? = some a ∧ S[i]? = some (.lst ds) ∧ H a = some (.lst xs) ∧ RpL K H (live ρ S) ds xs := by
  unfold isRL at e
  split at e
  · rename_i j
    split at e
    · rename_i ds' q
      cases e
      obtain ⟨a, rfl, ea⟩ := r
      obtain ⟨xs, ex, rl⟩ := so.obs i a _ ea q
      exact ⟨a, xs, rfl, rfl, ea, q, ex, rl⟩
    · cases e
  · cases e
def cMth (a : Den W) (k : Nat → Slots → Sto → R W) : Den W := fun δ S => (a δ S).bind fun x S1 => match isRL x S1 with
  | some (i, _) => k i δ S1
  | none => .bad
def apAppend (i : Nat) (y : W) (S : Sto) : R W := match isRL (.r i) S, toD y with
  | some (_, ds), some d => if ds.length < 1000000 then .ok (.v .non) (S.set i (.lst (ds ++ [d]))) else .bad
  | _, _ => .bad
def cAppend (a b : Den W) : Den W := cMth a fun i δ S1 => (b δ S1).bind fun y S2 => apAppend i y S2
def apExtend (i : Nat) (y : W) (S : Sto) : R W := match isRL (.r i) S, rd S y with
  | some (_, ds), some (.lst es) => if ds.length + es.length ≤ 1000000 then .ok (.v .non) (S.set i (.lst (ds ++ es))) else .bad
  | _, _ => .bad
def cExtend (a b : Den W) : Den W := cMth a fun i δ S1 => (b δ S1).bind fun y S2 => apExtend i y S2
def apPop (i : Nat) (S : Sto) : R W := match isRL (.r i) S with
  | some (_, ds) => (match ds[ds.length - 1]? with
    | some d => .ok (.v d) (S.set i (.lst ds.dropLast))
    | none => .bad)
  | _ => .bad
def cPop (a : Den W) : Den W := cMth a fun i _ S1 => apPop i S1
section
variable {K : PySem.W.Frag} {ρ : List Addr} {S : Sto} {H : Hp} {i : Nat} {v : V} {Q : VK} {Ex : Nat → List D → Sto → List Addr → Hp → Prop}
theorem append_post {y : W} {u : V} (so : Sok K ρ S H) (r : RpW K ρ S H (.r i) v) (r2 : RpW K ρ S H y u) (p : Post K (RpW K) ρ S H (apAppend i y S) Q Ex) : rAppend v [u] H Q := by
  unfold apAppend at p
  split at p
  · rename_i j ds d q1 q2
    obtain ⟨a, xs, e1, rfl, ea, es, ex, rl⟩ := isRL_ok so r q1
    cases e1
    split at p
    · rename_i hl
      refine ⟨a, xs, u, rfl, rfl, ex, by rw [← rl.length]; exact Nat.lt_trans hl (by decide), ?_⟩
      have fc : Fwd ρ S H ρ (S.set i (.lst (ds ++ [d]))) (upd H a (.lst (xs ++ [u]))) := Fwd.changed so ea es rfl
      exact p .non ρ _ fc (so.changed ea es rfl ⟨_, upd_same, (fc.rpL rl).append (.cons (fc.rp (toD_rp r2 q2)) .nil)⟩) .non
    · exact p.elim
  · exact p.elim
theorem extend_post {y : W} {u : V} (so : Sok K ρ S H) (r : RpW K ρ S H (.r i) v) (r2 : RpW K ρ S H y u) (p : Post K (RpW K) ρ S H (apExtend i y S) Q Ex) : rExtend v [u] H Q := by
  unfold apExtend at p
  split at p
  · rename_i j ds es0 q1 q2
    obtain ⟨a, xs, e1, rfl, ea, es, ex, rl⟩ := isRL_ok so r q1
    cases e1
    obtain ⟨b, ys, rfl, hb, rb⟩ := (rd_ok so r2 q2).lstE
    split at p
    · rename_i hl
      refine ⟨a, b, xs, ys, rfl, rfl, ex, hb, by rw [← rl.length, ← rb.length]; exact lt_line hl, ?_⟩
      have fc : Fwd ρ S H ρ (S.set i (.lst (ds ++ es0))) (upd H a (.lst (xs ++ ys))) := Fwd.changed so ea es rfl
      exact p .non ρ _ fc (so.changed ea es rfl ⟨_, upd_same, (fc.rpL rl).append (fc.rpL rb)⟩) .non
    · exact p.elim
  · exact p.elim
theorem pop_post (so : Sok K ρ S H) (r : RpW K ρ S H (.r i) v) (p : Post K (RpW K) ρ S H (apPop i S) Q Ex) : rPop v [] H Q := by
  unfold apPop at p
  split at p
  · rename_i j ds q1
    obtain ⟨a, xs, e1, rfl, ea, es, ex, rl⟩ := isRL_ok so r q1
    cases e1
    split at p
    · rename_i d qd
      obtain ⟨y, hy, ry⟩ := rl.get _ qd
      refine ⟨a, xs, y, rfl, rfl, ex, by rw [← rl.length]; exact hy, ?_⟩
      have fc : Fwd ρ S H ρ (S.set i (.lst ds.dropLast)) (upd H a (.lst xs.dropLast)) := Fwd.changed so ea es rfl
      exact p y ρ _ fc (so.changed ea es rfl ⟨_, upd_same, (fc.rpL rl).dropLast⟩) (fc.rp ry)
    · exact p.elim
  · exact p.elim
end
section
variable {X : Cx} {E : XP} {o e : Expr} {apos cpos : Pos} {a b : Den W}
theorem mth_then {k : Nat → Slots → Sto → R W} {σ : L2.St} {H : Hp} {Q : VK} {Q' : VK} (h : tE X.K E (cMth a k) σ H Q)
    (hk : ∀ (δ : Slots) (i : Nat) (S1 : Sto) (v : V) (ρ1 : List Addr) (H1 : Hp), RpSt X.K ρ1 S1 H1 δ σ → Sok X.K ρ1 S1 H1 → RpW X.K ρ1 S1 H1 (.r i) v → tyV X.K "list" v H1 → Post X.K (RpW X.K) ρ1 S1 H1 (k i δ S1) Q (E σ) → Q' v H1) : tE X.K E a σ H Q' := by
  obtain ⟨δ, ρ, S, st, so, p⟩ := h
  refine tG_then st so p fun x S1 v ρ1 H1 f1 st1 so1 r1 p1 => ?_
  cases q : isRL x S1 with
  | none => simp only [q] at p1; exact p1.elim
  | some z =>
    obtain ⟨i, ds⟩ := z
    simp only [q] at p1
    obtain ⟨c, xs, rfl, rfl, ea, es, ex, rl⟩ := isRL_ok so1 r1 q
    exact hk δ i S1 _ ρ1 H1 st1 so1 r1 (.inl ⟨rfl, xs, SqL.of ex⟩) p1
theorem de_append (ha : PE X o (tE X.K E a)) (hb : PE X e (tE X.K E b)) (hs : starEach [e] X.env = (false, eval e X.env) :: starEach [] X.env := by rfl)
    (hd : ∀ to t, PE X o to → PA X [e] t → PE X (.Call (.Attribute o "append" apos) [e] [] cpos) (tBM X.K "list" rAppend to t) := by exact fun _ _ ho h => pe_bm PySem.F.plainAttrs_list PySem.F.slot_list_append PySem.F.type_list_append mt_append ho h) :
    PE X (.Call (.Attribute o "append" apos) [e] [] cpos) (tE X.K E (cAppend a b)) :=
  pe_mono (hd _ _ ha (pa_cons hb pa_nil hs)) fun σ H Q h => mth_then h fun δ i S1 v ρ1 H1 st1 so1 r1 ty p1 => ⟨ty, tG_then st1 so1 p1 fun y S2 u ρ2 H2 f2 st2 so2 r2 p2 => append_post so2 (f2.rw r1) r2 p2⟩
theorem de_extend (ha : PE X o (tE X.K E a)) (hb : PE X e (tE X.K E b)) (hs : starEach [e] X.env = (false, eval e X.env) :: starEach [] X.env := by rfl)
    (hd : ∀ to t, PE X o to → PA X [e] t → PE X (.Call (.Attribute o "extend" apos) [e] [] cpos) (tBM X.K "list" rExtend to t) := by exact fun _ _ ho h => pe_bm PySem.F.plainAttrs_list PySem.F.slot_list_extend PySem.F.type_list_extend mt_extend ho h) :
    PE X (.Call (.Attribute o "extend" apos) [e] [] cpos) (tE X.K E (cExtend a b)) :=
  pe_mono (hd _ _ ha (pa_cons hb pa_nil hs)) fun σ H Q h => mth_then h fun δ i S1 v ρ1 H1 st1 so1 r1 ty p1 => ⟨ty, tG_then st1 so1 p1 fun y S2 u ρ2 H2 f2 st2 so2 r2 p2 => extend_post so2 (f2.rw r1) r2 p2⟩
theorem de_pop (ha : PE X o (tE X.K E a)) (hbase : attributeBase o "pop" X.env (eval o X.env) = eval o X.env := by rfl) (hline : (apos.endLine == cpos.line) = true := by rfl) :
    PE X (.Call (.Attribute o "pop" apos) [] [] cpos) (tE X.K E (cPop a)) :=
  pe_mono (pe_bm0 PySem.F.plainAttrs_list PySem.F.slot_list_pop PySem.F.type_list_pop mt_pop ha hbase hline) fun σ H Q h => mth_then h fun δ i S1 v ρ1 H1 st1 so1 r1 ty p1 => ⟨ty, pop_post so1 r1 p1⟩
end

/-! ### a list's place is stored -/
def gSubD (a b : Den W) : DenG := fun w δ S => match a δ S with
  | .ok x S1 => (match b δ S1 with
    | .ok (.v (.int k)) S2 => (match isRL x S2, toD w with
      | some (i, ds), some d => (match ixN ds.length k with
        | some j => some (δ, S2.set i (.lst (ds.set j d)))
        | none => none)
      | _, _ => none)
    | _ => none)
  | _ => none
theorem gok_sub {K : PySem.W.Frag} {a b : Den W} : GOk K (L2.gSub (tE K XP0 a) (tE K XP0 b) rSetL) (gSubD a b) [] := fun ρ S H δ σ w v Q δ' S' st so r e h => by
  unfold gSubD at e
  cases qa : a δ S with
  | bad => simp only [qa] at e; cases e
  | exc c cs S1 => simp only [qa] at e; cases e
  | ok x S1 =>
    simp only [qa] at e
    refine ⟨δ, ρ, S, st, so, ?_⟩
    rw [qa]
    intro o ρ1 H1 f1 so1 r1
    cases qb : b δ S1 with
    | bad => simp only [qb] at e; cases e
    | exc c cs S2 => simp only [qb] at e; cases e
    | ok y S2 =>
      refine ⟨δ, ρ1, S1, f1.st st, so1, ?_⟩
      rw [qb]
      intro iv ρ2 H2 f2 so2 r2
      cases y with
      | r i => simp only [qb] at e; cases e
      | s ns => simp only [qb] at e; cases e
      | lk es => simp only [qb] at e; cases e
      | x c ds => simp only [qb] at e; cases e
      | v dk =>
        cases dk with
        | int k =>
          simp only [qb] at e
          cases q1 : isRL x S2 with
          | none => simp only [q1] at e; cases e
          | some z =>
            obtain ⟨i, ds⟩ := z
            cases q2 : toD w with
            | none => simp only [q1, q2] at e; cases e
            | some d =>
              cases q3 : ixN ds.length k with
              | none => simp only [q1, q2, q3] at e; cases e
              | some j =>
                simp only [q1, q2, q3] at e
                cases e
                cases r2
                obtain ⟨c, xs, rfl, rfl, ea, es, ex, rl⟩ := isRL_ok so2 (f2.rw r1) q1
                refine ⟨c, xs, k, j, rfl, rfl, ex, by rw [← rl.length]; exact q3, ?_⟩
                have fc : Fwd ρ2 S2 H2 ρ2 (S2.set i (.lst (ds.set j d))) (upd H2 c (.lst (xs.set j v))) := Fwd.changed so2 ea es rfl
                have f12 := f1.trans f2
                have rv := toD_rp (f12.rw r) q2
                exact h σ ρ2 _ (f12.trans fc) (so2.changed ea es rfl ⟨_, upd_same, (fc.rpL rl).set j (fc.rp rv)⟩) ((f12.trans fc).st st) rfl fun _ _ => rfl
        | _ => simp only [qb] at e; cases e

/-! ### slices -/
def cutD {α : Type} (xs : List α) (lo hi : Option Int) : List α := (xs.drop (HT.sIx xs.length 0 lo)).take (HT.sIx xs.length xs.length hi - HT.sIx xs.length 0 lo)
theorem rpL_cut {K : PySem.W.Frag} {H : Hp} {M : Addr → Prop} {ds : List D} {xs : List V} (h : RpL K H M ds xs) (lo hi : Option Int) : RpL K H M (cutD ds lo hi) (cutV xs lo hi) := by
  unfold cutD cutV
  rw [← h.length]
  exact (h.drop _).take _
def slD (d : D) (lo hi : Option Int) : Option D := match d with
  | .lst ds => some (.lst (cutD ds lo hi))
  | .tup ds => some (.tup (cutD ds lo hi))
  | _ => none
def asO (w : W) (S : Sto) : R (Option Int) := match w with
  | .v (.int i) => .ok (some i) S
  | _ => .bad
def cPart (a : Den W) : Den (Option Int) := fun δ S => (a δ S).bind asO
def cNoPart : Den (Option Int) := fun _ S => .ok none S
def apSl (x : W) (lo hi : Option Int) (S : Sto) : R W := match rd S x with
  | some d => (match slD d lo hi with
    | some z => .ok (.v z) S
    | none => .bad)
  | none => .bad
def cSl (a : Den W) (lo hi : Den (Option Int)) : Den W := fun δ S => (a δ S).bind fun x S1 => (lo δ S1).bind fun l S2 => (hi δ S2).bind fun u S3 => apSl x l u S3
abbrev tO (K : PySem.W.Frag) (E : XP) (den : Den (Option Int)) : TO := tG K (fun _ _ _ a b => a = b) E den
def rSlB (K : PySem.W.Frag) : V → Option Int → Option Int → Hp → VK → Prop := fun x lo hi H Q => rSlL K x lo hi H Q ∨ rSlA K x lo hi H Q
section
variable {X : Cx} {E : XP}
theorem po_mono {e : Option Expr} {t t' : TO} (h : PO X e t) (w : ∀ σ H Q, t' σ H Q → t σ H Q) : PO X e t' := ⟨fun pins s σ H Q I q => h.run pins s σ H Q I (w σ H Q q)⟩
theorem dp_none : PO X none (tO X.K E cNoPart) := po_mono po_none fun σ H Q ⟨δ, ρ, S, st, so, p⟩ => p none ρ H Fwd.refl so rfl
theorem dp_some {e : Expr} {a : Den W} (h : PE X e (tE X.K E a)) : PO X (some e) (tO X.K E (cPart a)) := po_mono (po_some h) fun σ H Q ⟨δ, ρ, S, st, so, p⟩ => tG_then st so p fun w S1 v ρ1 H1 f1 st1 so1 r1 p1 => by
  cases w with
  | r i => exact p1.elim
  | s i => exact p1.elim
  | lk es => exact p1.elim
  | x c ds => exact p1.elim
  | v d =>
    cases d with
    | int i => cases r1; exact ⟨i, rfl, p1 _ ρ1 H1 Fwd.refl so1 rfl⟩
    | _ => exact p1.elim
theorem cut_whole {α : Type} {xs : List α} {lo hi : Option Int} (h : HT.sIx xs.length 0 lo = 0 ∧ HT.sIx xs.length xs.length hi = xs.length) : cutD xs lo hi = xs := by
  unfold cutD
  rw [h.1, h.2]
  simp
theorem de_sl {e : Expr} {lo hi : Option Expr} {p2 pos : Pos} {a : Den W} {l u : Den (Option Int)} (ha : PE X e (tE X.K E a)) (hl : PO X lo (tO X.K E l)) (hu : PO X hi (tO X.K E u)) : PE X (.Subscript e (.Slice lo hi none p2) pos) (tE X.K E (cSl a l u)) :=
  pe_mono (pe_slice (sl_list.or sl_tupA) ha hl hu) fun σ H Q ⟨δ, ρ, S, st, so, p⟩ => tG_then st so p fun w S1 x ρ1 H1 f1 st1 so1 r1 p1 => tG_then st1 so1 p1 fun l S2 l' ρ2 H2 f2 st2 so2 r2 p2 => tG_then st2 so2 p2 fun u S3 u' ρ3 H3 f3 st3 so3 r3 p3 => by
    cases r2
    cases r3
    have rx := f3.rw (f2.rw r1)
    unfold apSl at p3
    cases q : rd S3 w with
    | none => simp only [q] at p3; exact p3.elim
    | some d =>
      simp only [q] at p3
      have rq := rd_ok so3 rx q
      cases d with
      | lst ds =>
        obtain ⟨b, xs, rfl, hb, rb⟩ := rq.lstE
        exact .inl ⟨b, xs, rfl, SqL.of hb, nxt_lst so3 (rpL_cut rb l u) fun v H' f so' rp => p3 v ρ3 H' f so' rp⟩
      | tup ds =>
        obtain ⟨b, xs, rfl, hb, rb⟩ := rq.tup
        have nx : Nxt X.K ρ3 S3 H3 (.tup (cutD ds l u)) Q := fun v H' f so' rp => p3 v ρ3 H' f so' rp
        refine .inr ⟨b, xs, rfl, hb, fun hw => ?_, fun _ => nxt_tup so3 (rpL_cut rb l u) nx⟩
        rw [← rb.length] at hw
        rw [cut_whole hw] at nx
        exact nxt_here so3 (.tup hb rb) nx
      | _ => exact p3.elim
end

/-! ### a text's signs -/
def asS (w : W) (S : Sto) : R (List D) := match w with
  | .v (.str t) => .ok (t.map fun c => .str [c]) S
  | _ => .bad
def itS (a : Den W) : Den (List D) := fun δ S => (a δ S).bind asS
theorem jok_str {K : PySem.W.Frag} {ρ : List Addr} {S : Sto} {H : Hp} (t : Tx) : Jok K ρ S H (t.map fun c => .str [c]) (Its (sx t)) := fun i ρ' S' H' f so => by
  refine ⟨fun d e => ?_, fun hl => by rw [List.length_map] at hl; show (sx t).cps.size ≤ i; simpa [sx] using hl⟩
  rw [List.getElem?_map] at e
  cases q : t[i]? with
  | none => rw [q] at e; cases e
  | some c =>
    rw [q] at e
    cases e
    have hi : i < t.length := by
      rcases Nat.lt_or_ge i t.length with z | z
      · exact z
      · rw [List.getElem?_eq_none z] at q; cases q
    refine ⟨by show i < (sx t).cps.size; simpa [sx] using hi, fun x H'' y => ?_⟩
    obtain ⟨rfl, c', hc, rfl⟩ := y
    have e2 : t[i]? = some c' := by simpa [sx] using hc
    rw [q] at e2
    cases e2
    exact ⟨Fwd.refl, so, .str [c]⟩
theorem di_str {X : Cx} {E : XP} {tg e : Expr} {a : Den W} (h : PE X e (tE X.K E a)) : PI X tg e (tI X.K E (itS a)) := pi_mono (pi_str h) fun σ H Q ⟨δ, ρ, S, st, so, p⟩ => tG_then st so p fun w S1 v ρ1 H1 f1 st1 so1 r1 p1 => by
  cases w with
  | r i => exact p1.elim
  | s ns => exact p1.elim
  | lk es => exact p1.elim
  | x c ds => exact p1.elim
  | v d =>
    cases d with
    | str t => cases r1; exact ⟨_, rfl, p1 _ ρ1 H1 Fwd.refl so1 (jok_str t)⟩
    | _ => exact p1.elim

/-! ### data of the written part -/
def kdV : Nat → PySem.W.Frag → Value → D → Bool
  | 0, _, _, _ => false
  | n + 1, K, u, d => match u, d with
    | .none, .non => true
    | .bool b, .bl c => b == c
    | .int i _, .int j => i == j
    | .str x _, .str t => x == sx t
    | .ref a, .tup ds => (match K.lookup a with
      | some o => o.cls == .type "tuple" && (match o.data with
        | .seq its _ => decide (its.size ≤ 1000) && kdL (kdV n K) its.toList ds
        | _ => false)
      | none => false)
    | _, _ => false
where kdL (f : Value → D → Bool) : List Value → List D → Bool
  | [], [] => true
  | u :: us, d :: ds => f u d && kdL f us ds
  | _, _ => false
theorem kdL_ok {K : PySem.W.Frag} {H : Hp} {M : Addr → Prop} {f : Value → D → Bool} (hf : ∀ u d, f u d = true → ∃ v, RelV v u ∧ Rp K H M d v) : ∀ {us : List Value} {ds : List D}, kdV.kdL f us ds = true → ∃ vs, Vals vs us ∧ RpL K H M ds vs
  | [], [], _ => ⟨[], .nil, .nil⟩
  | [], _ :: _, h => by simp [kdV.kdL] at h
  | _ :: _, [], h => by simp [kdV.kdL] at h
  | u :: us, d :: ds, h => by
    have h' : f u d = true ∧ kdV.kdL f us ds = true := by simpa [kdV.kdL] using h
    obtain ⟨v, h1, h2⟩ := hf u d h'.1
    obtain ⟨vs, h3, h4⟩ := kdL_ok hf h'.2
    exact ⟨v :: vs, .cons h1 h3, .cons h2 h4⟩
theorem kdV_ok {K : PySem.W.Frag} {H : Hp} {M : Addr → Prop} : ∀ (n : Nat) (u : Value) (d : D), kdV n K u d = true → ∃ v, RelV v u ∧ Rp K H M d v
  | 0, _, _, h => by simp [kdV] at h
  | n + 1, u, d, h => by
    unfold kdV at h
    split at h
    · exact ⟨.non, rfl, .non⟩
    · rename_i b c
      have e : b = c := by simpa using h
      subst e
      exact ⟨.bl b, rfl, .bl b⟩
    · rename_i i t j
      have e : i = j := by simpa using h
      subst e
      exact ⟨.int i, ⟨_, rfl⟩, .int i⟩
    · rename_i x t s
      have e : x = sx s := by simpa using h
      subst e
      exact ⟨.str _, ⟨_, rfl⟩, .str s⟩
    · rename_i a ds
      cases q : K.lookup a with
      | none => rw [q] at h; cases h
      | some o =>
        rw [q] at h
        simp only [Bool.and_eq_true] at h
        obtain ⟨h1, h2⟩ := h
        have hc : o.cls = .type "tuple" := by simpa using h1
        split at h2
        · rename_i its m hd
          rw [Bool.and_eq_true] at h2
          obtain ⟨vs, r1, r2⟩ := kdL_ok (kdV_ok n) h2.2
          exact ⟨.ref a, rfl, .tup (.inr ⟨o, its, m, q, hc, hd, le1000 (of_decide_eq_true h2.1), r1⟩) r2⟩
        · cases h2
    · cases h
/-- a constant of the module -/
theorem de_const {X : Cx} {E : XP} {x : Str} {d : D} {u : Value} {pos : Pos} (n : Nat) (hm : X.mg x = some u) (h : kdV n X.K u d = true) (hg : Gl X x := by rfl) (hd : (x == ("__debug__" : Str)) = false := by decide) : PE X (.Name x pos) (tE X.K E (cC d)) := by
  obtain ⟨v, hv, _⟩ := kdV_ok (H := fun _ => none) (M := fun _ => False) n u d h
  refine de_glob hm hv (fun H M => ?_) hg hd
  obtain ⟨v', hv', r⟩ := kdV_ok (H := H) (M := M) n u d h
  rw [hv.inj hv']; exact r
end Fro

namespace Fro
open PySem PySem.Spec L2

/-! ### tables of the module, keyed by texts -/
def lkT : List (Tx × D) → Tx → Option D
  | [], _ => none
  | (k, d) :: r, t => if k = t then some d else lkT r t
def kdE (n : Nat) (K : PySem.W.Frag) : List DictEntry → List (Tx × D) → Bool
  | [], [] => true
  | e :: es, (t, d) :: r => (match e.key with
    | .str x _ => x == sx t
    | _ => false) && kdV n K e.val d && kdE n K es r
  | _, _ => false
theorem kdE_find {n : Nat} {K : PySem.W.Frag} : ∀ {es : List DictEntry} {tbl : List (Tx × D)}, kdE n K es tbl = true → ∀ t : Tx,
    (es.any (·.refKey) = false) ∧ ((lkT tbl t = none ∧ es.find? (fun e => e.key.isStr (sx t)) = none) ∨ ∃ d e, lkT tbl t = some d ∧ es.find? (fun e => e.key.isStr (sx t)) = some e ∧ kdV n K e.val d = true)
  | [], [], _, t => ⟨rfl, .inl ⟨rfl, rfl⟩⟩
  | [], _ :: _, h, _ => by simp [kdE] at h
  | _ :: _, [], h, _ => by simp [kdE] at h
  | e :: es, (k, d) :: r, h, t => by
    unfold kdE at h
    simp only [Bool.and_eq_true] at h
    obtain ⟨⟨h1, h2⟩, h3⟩ := h
    obtain ⟨i1, i2⟩ := kdE_find h3 t
    cases qk : e.key with
    | str x tk =>
      rw [qk] at h1
      have ex : x = sx k := by simpa using h1
      subst ex
      have nr : e.refKey = false := by simp [DictEntry.refKey, qk]
      refine ⟨by rw [List.any_cons, nr, i1]; rfl, ?_⟩
      by_cases hk : k = t
      · subst hk
        refine .inr ⟨d, e, by simp [lkT], ?_, h2⟩
        rw [List.find?_cons]
        have : e.key.isStr (sx k) = true := by rw [qk]; simp [Value.isStr]
        rw [this]
      · have hf : e.key.isStr (sx t) = false := by
          rw [qk]
          show (sx k == sx t) = false
          rw [sx_beq]
          exact beq_eq_false_iff_ne.mpr hk
        have hl : lkT ((k, d) :: r) t = lkT r t := by
          show (if k = t then some d else lkT r t) = _
          rw [if_neg hk]
        rw [hl, List.find?_cons, hf]
        exact i2
    | _ => rw [qk] at h1; cases h1
structure KD (K : PySem.W.Frag) (w : World) (a : Addr) (tbl : List (Tx × D)) : Prop where
  ex : ∃ (es : Array DictEntry) (n m : Nat), KDict K w a es n ∧ kdE m K es.toList tbl = true
theorem KD.look {K : PySem.W.Frag} {w : World} {a : Addr} {tbl : List (Tx × D)} (h : KD K w a tbl) (t : Tx) :
    (lkT tbl t = none ∧ PySem.W.nsIn K a (sx t) = some none) ∨ ∃ d u v, lkT tbl t = some d ∧ PySem.W.nsIn K a (sx t) = some (some u) ∧ RelV v u ∧ ∀ H M, Rp K H M d v := by
  obtain ⟨es, n, m, kd, he⟩ := h.ex
  obtain ⟨h1, h2⟩ := kdE_find he t
  have hn : PySem.W.nsIn K a (sx t) = (match es.toList.find? (·.key.isStr (sx t)) with
      | some e => some (some e.val)
      | none => if es.toList.any (·.refKey) then none else some none) := by
    unfold PySem.W.nsIn
    rw [kd.at_]
    rfl
  rw [hn]
  rcases h2 with ⟨q1, q2⟩ | ⟨d, e, q1, q2, q3⟩
  · refine .inl ⟨q1, ?_⟩
    rw [q2, h1]
    rfl
  · obtain ⟨v, hv, _⟩ := kdV_ok (H := fun _ => none) (M := fun _ => False) m e.val d q3
    refine .inr ⟨d, e.val, v, q1, by rw [q2], hv, fun H M => ?_⟩
    obtain ⟨v', hv', r⟩ := kdV_ok (H := H) (M := M) m e.val d q3
    rw [hv.inj hv']; exact r
def apKIn (tbl : List (Tx × D)) (neg : Bool) (x : W) (S : Sto) : R W := match x with
  | .v (.str t) => .ok (.v (.bl (if neg then !(lkT tbl t).isSome else (lkT tbl t).isSome))) S
  | _ => .bad
def cKIn (tbl : List (Tx × D)) (neg : Bool) (a : Den W) : Den W := fun δ S => (a δ S).bind fun x S1 => apKIn tbl neg x S1
def apKGet (tbl : List (Tx × D)) (x : W) (S : Sto) : R W := match x with
  | .v (.str t) => (match lkT tbl t with
    | some d => .ok (.v d) S
    | none => .bad)
  | _ => .bad
def cKGet (tbl : List (Tx × D)) (a : Den W) : Den W := fun δ S => (a δ S).bind fun x S1 => apKGet tbl x S1
section
variable {X : Cx} {E : XP} {e : Expr} {x : Str} {p pos : Pos} {a : Den W} {d : Addr} {tbl : List (Tx × D)}
theorem de_kin (hk : KD X.K X.w d tbl) (hm : X.mg x = some (.ref d)) (ha : PE X e (tE X.K E a)) (hg : Gl X x := by rfl) (hd : (x == ("__debug__" : Str)) = false := by decide) (hmk : behindInMarks .In (.Name x p) = false := by rfl) : PE X (.Compare e [.In] [.Name x p] pos) (tE X.K E (cKIn tbl false a)) := by
  obtain ⟨es, n, m, kd, he⟩ := hk.ex
  refine pe_mono (pe_cmpR (op_in_kd kd) ha (pe_glob hg hm (v := .ref d) rfl hd) hmk) fun σ H Q ⟨δ, ρ, S, st, so, p⟩ => tG_then st so p fun w S1 v ρ1 H1 f1 st1 so1 r1 p1 => ?_
  unfold apKIn at p1
  split at p1
  · rename_i t
    cases r1
    rcases hk.look t with ⟨q1, q2⟩ | ⟨dd, u, vv, q1, q2, q3, q4⟩
    · exact ⟨_, none, rfl, rfl, q2, by rw [q1] at p1; exact p1 _ ρ1 H1 Fwd.refl so1 (.bl false)⟩
    · exact ⟨_, some u, rfl, rfl, q2, by rw [q1] at p1; exact p1 _ ρ1 H1 Fwd.refl so1 (.bl true)⟩
  · exact p1.elim
theorem de_knotin (hk : KD X.K X.w d tbl) (hm : X.mg x = some (.ref d)) (ha : PE X e (tE X.K E a)) (hg : Gl X x := by rfl) (hd : (x == ("__debug__" : Str)) = false := by decide) (hmk : behindInMarks .NotIn (.Name x p) = false := by rfl) : PE X (.Compare e [.NotIn] [.Name x p] pos) (tE X.K E (cKIn tbl true a)) := by
  obtain ⟨es, n, m, kd, he⟩ := hk.ex
  refine pe_mono (pe_cmpR (op_notIn_kd kd) ha (pe_glob hg hm (v := .ref d) rfl hd) hmk) fun σ H Q ⟨δ, ρ, S, st, so, p⟩ => tG_then st so p fun w S1 v ρ1 H1 f1 st1 so1 r1 p1 => ?_
  unfold apKIn at p1
  split at p1
  · rename_i t
    cases r1
    rcases hk.look t with ⟨q1, q2⟩ | ⟨dd, u, vv, q1, q2, q3, q4⟩
    · exact ⟨_, none, rfl, rfl, q2, by rw [q1] at p1; exact p1 _ ρ1 H1 Fwd.refl so1 (.bl true)⟩
    · exact ⟨_, some u, rfl, rfl, q2, by rw [q1] at p1; exact p1 _ ρ1 H1 Fwd.refl so1 (.bl false)⟩
  · exact p1.elim
theorem dt_kin (hk : KD X.K X.w d tbl) (hm : X.mg x = some (.ref d)) (ha : PE X e (tE X.K E a)) (hg : Gl X x := by rfl) (hd : (x == ("__debug__" : Str)) = false := by decide) (hmk : behindInMarks .In (.Name x p) = false := by rfl) : PT X (.Compare e [.In] [.Name x p] pos) (tT X.K E (cB (cKIn tbl false a))) := by
  obtain ⟨es, n, m, kd, he⟩ := hk.ex
  refine pt_mono (pt_cmpR (op_in_kd kd) ha (pe_glob hg hm (v := .ref d) rfl hd) hmk) fun σ H Q ⟨δ, ρ, S, st, so, p⟩ => ?_
  have p' : Post X.K (fun _ _ _ a b => a = b) ρ S H ((a δ S).bind fun w S1 => (apKIn tbl false w S1).bind asB) Q (E σ) := by
    have e : (cB (cKIn tbl false a)) δ S = (a δ S).bind fun w S1 => (apKIn tbl false w S1).bind asB := by
      unfold cB cKIn
      cases a δ S <;> rfl
    rw [e] at p; exact p
  refine tG_then st so p' fun w S1 v ρ1 H1 f1 st1 so1 r1 p1 => ?_
  unfold apKIn at p1
  split at p1
  · rename_i t
    cases r1
    rcases hk.look t with ⟨q1, q2⟩ | ⟨dd, u, vv, q1, q2, q3, q4⟩
    · exact ⟨_, none, rfl, rfl, q2, false, rfl, by rw [q1] at p1; exact p1 _ ρ1 H1 Fwd.refl so1 rfl⟩
    · exact ⟨_, some u, rfl, rfl, q2, true, rfl, by rw [q1] at p1; exact p1 _ ρ1 H1 Fwd.refl so1 rfl⟩
  · exact p1.elim
theorem dt_knotin (hk : KD X.K X.w d tbl) (hm : X.mg x = some (.ref d)) (ha : PE X e (tE X.K E a)) (hg : Gl X x := by rfl) (hd : (x == ("__debug__" : Str)) = false := by decide) (hmk : behindInMarks .NotIn (.Name x p) = false := by rfl) : PT X (.Compare e [.NotIn] [.Name x p] pos) (tT X.K E (cB (cKIn tbl true a))) := by
  obtain ⟨es, n, m, kd, he⟩ := hk.ex
  refine pt_mono (pt_cmpR (op_notIn_kd kd) ha (pe_glob hg hm (v := .ref d) rfl hd) hmk) fun σ H Q ⟨δ, ρ, S, st, so, p⟩ => ?_
  have p' : Post X.K (fun _ _ _ a b => a = b) ρ S H ((a δ S).bind fun w S1 => (apKIn tbl true w S1).bind asB) Q (E σ) := by
    have e : (cB (cKIn tbl true a)) δ S = (a δ S).bind fun w S1 => (apKIn tbl true w S1).bind asB := by
      unfold cB cKIn
      cases a δ S <;> rfl
    rw [e] at p; exact p
  refine tG_then st so p' fun w S1 v ρ1 H1 f1 st1 so1 r1 p1 => ?_
  unfold apKIn at p1
  split at p1
  · rename_i t
    cases r1
    rcases hk.look t with ⟨q1, q2⟩ | ⟨dd, u, vv, q1, q2, q3, q4⟩
    · exact ⟨_, none, rfl, rfl, q2, true, rfl, by rw [q1] at p1; exact p1 _ ρ1 H1 Fwd.refl so1 rfl⟩
    · exact ⟨_, some u, rfl, rfl, q2, false, rfl, by rw [q1] at p1; exact p1 _ ρ1 H1 Fwd.refl so1 rfl⟩
  · exact p1.elim
theorem de_kget (hk : KD X.K X.w d tbl) (hm : X.mg x = some (.ref d)) (ha : PE X e (tE X.K E a)) (hg : Gl X x := by rfl) (hd : (x == ("__debug__" : Str)) = false := by decide) (hs : PlainIx e := by exact fun _ _ => rfl) : PE X (.Subscript (.Name x p) e pos) (tE X.K E (cKGet tbl a)) := by
  obtain ⟨es, n, m, kd, he⟩ := hk.ex
  refine pe_mono (pe_ix ix_kdict (pe_glob hg hm (v := .ref d) rfl hd) ha hs) fun σ H Q ⟨δ, ρ, S, st, so, p⟩ => tG_then st so p fun w S1 v ρ1 H1 f1 st1 so1 r1 p1 => ?_
  unfold apKGet at p1
  split at p1
  · rename_i t
    cases r1
    rcases hk.look t with ⟨q1, q2⟩ | ⟨dd, u, vv, q1, q2, q3, q4⟩
    · simp only [q1] at p1; exact p1.elim
    · simp only [q1] at p1
      exact ⟨d, _, vv, rfl, rfl, ⟨es, n, u, kd.at_, kd.lit, q2, q3⟩, p1 _ ρ1 H1 Fwd.refl so1 (q4 _ _)⟩
  · exact p1.elim
end
end Fro

namespace Fro
open PySem PySem.Spec L2

/-! ### an object of the store is changed no more: it is a value from here on -/
def frz (w : W) (S : Sto) : R W := match w with
  | .r i => (match S[i]? with
    | some (.lst ds) => .ok (.v (.lst ds)) (S.set i .dead)
    | some (.dct es) => .ok (.v (.dct es)) (S.set i .dead)
    | _ => .bad)
  | w => .ok w S
def cFrz (a : Den W) : Den W := fun δ S => (a δ S).bind frz
section
variable {K : PySem.W.Frag} {ρ : List Addr} {S : Sto} {H : Hp}
theorem live_dead {i : Nat} {b : Addr} (h : live ρ (S.set i .dead) b) : live ρ S b ∧ ρ[i]? ≠ some b ∨ live ρ S b := by
  obtain ⟨j, o, h1, h2, h3⟩ := h
  by_cases hj : i = j
  · subst hj
    by_cases hl : i < S.length
    · rw [List.getElem?_set_self hl] at h2; cases h2; cases h3
    · rw [List.getElem?_eq_none (by rw [List.length_set]; omega)] at h2; cases h2
  · rw [List.getElem?_set_ne hj] at h2
    exact .inr ⟨j, o, h1, h2, h3⟩
theorem Fwd.frozen (i : Nat) : Fwd ρ S H ρ (S.set i .dead) H where
  ext := ⟨[], by simp⟩
  keep := fun b u _ e => e
  tups := fun b u e => e
  frzs := fun b u z e => e
  new := fun b l => by
    rcases live_dead l with q | q
    · exact .inl q.1
    · exact .inl q
theorem Sok.frozen (so : Sok K ρ S H) (i : Nat) : Sok K ρ (S.set i .dead) H := by
  have fw : Fwd ρ S H ρ (S.set i .dead) H := Fwd.frozen i
  refine ⟨by rw [List.length_set]; exact so.len, so.nd, fun j a o h1 h2 => ?_⟩
  by_cases hj : i = j
  · subst hj
    by_cases hl : i < S.length
    · rw [List.getElem?_set_self hl] at h2
      cases h2
      have q := so.obs i a S[i] h1 (List.getElem?_eq_getElem hl)
      cases e : S[i] with
      | lst ds => rw [e] at q; obtain ⟨xs, e1, _⟩ := q; exact ⟨_, e1⟩
      | dct ds => rw [e] at q; obtain ⟨xs, e1, _⟩ := q; exact ⟨_, e1⟩
      | dead => rw [e] at q; exact q
    · rw [List.getElem?_eq_none (by rw [List.length_set]; omega)] at h2; cases h2
  · rw [List.getElem?_set_ne hj] at h2
    have q := so.obs j a o h1 h2
    cases o with
    | lst ds => obtain ⟨xs, e, r⟩ := q; exact ⟨xs, e, fw.rpL r⟩
    | dct ds => obtain ⟨xs, e, r⟩ := q; exact ⟨xs, e, fw.rpE r⟩
    | dead => exact q
theorem Sok.frozenAt (so : Sok K ρ S H) {i : Nat} {a : Addr} (h1 : ρ[i]? = some a) (hl : i < S.length) : ¬ live ρ (S.set i .dead) a :=
  (so.frozen i).deadAt h1 (List.getElem?_set_self hl)
theorem frz_post {w : W} {v : V} {Q : VK} {Ex} (so : Sok K ρ S H) (r : RpW K ρ S H w v) (p : Post K (RpW K) ρ S H (frz w S) Q Ex) : Q v H := by
  cases w with
  | v d => exact p v ρ H Fwd.refl so r
  | s ns => exact p v ρ H Fwd.refl so r
  | lk es => exact p v ρ H Fwd.refl so r
  | x c ds => exact p v ρ H Fwd.refl so r
  | r i =>
    obtain ⟨a, rfl, ea⟩ := r
    cases q : S[i]? with
    | none => simp only [frz, q] at p; exact p.elim
    | some ob =>
      have hl : i < S.length := by
        rcases Nat.lt_or_ge i S.length with h | h
        · exact h
        · rw [List.getElem?_eq_none h] at q; cases q
      have fw : Fwd ρ S H ρ (S.set i .dead) H := Fwd.frozen i
      cases ob with
      | dead => simp only [frz, q] at p; exact p.elim
      | lst ds =>
        simp only [frz, q] at p
        obtain ⟨xs, e, rl⟩ := so.obs i a _ ea q
        exact p (.ref a) ρ H fw (so.frozen i) (Rp.lst e (so.frozenAt ea hl) (fw.rpL rl))
      | dct es =>
        simp only [frz, q] at p
        obtain ⟨xs, e, rl⟩ := so.obs i a _ ea q
        exact p (.ref a) ρ H fw (so.frozen i) (Rp.dct (.inl e) (so.frozenAt ea hl) (fw.rpE rl))
end
theorem de_frz {X : Cx} {E : XP} {e : Expr} {a : Den W} (h : PE X e (tE X.K E a)) : PE X e (tE X.K E (cFrz a)) :=
  pe_mono h fun σ H Q ⟨δ, ρ, S, st, so, p⟩ => tG_then st so p fun w S1 v ρ1 H1 f1 st1 so1 r1 p1 => frz_post so1 r1 p1

/-- a slot's object is a value from here on -/
def cFz (i : Nat) (b : DenS) : DenS := fun δ S => match δ[i]? with
  | some (some w) => (frz w S).thenS δ fun w' S1 => b (δ.set i (some w')) S1
  | _ => .bad
theorem fz_rp {K : PySem.W.Frag} {ρ : List Addr} {S : Sto} {H : Hp} {δ : Slots} {σ : L2.St} {i : Nat} {b : DenS} {D' : Ends} {E : XP} (st : RpSt K ρ S H δ σ) (so : Sok K ρ S H) (p : PostS K ρ S H (cFz i b δ S) D' E) :
    ∃ (δ' : Slots) (S' : Sto), RpSt K ρ S' H δ' σ ∧ Sok K ρ S' H ∧ PostS K ρ S' H (b δ' S') D' E := by
  unfold cFz at p
  cases q : δ[i]? with
  | none => simp only [q] at p; exact p.elim
  | some o =>
    cases o with
    | none => simp only [q] at p; exact p.elim
    | some w =>
      simp only [q] at p
      obtain ⟨v, ev, rv⟩ := st.2 i w q
      have hset : ∀ (S' : Sto) (w' : W), Fwd ρ S H ρ S' H → RpW K ρ S' H w' v → RpSt K ρ S' H (δ.set i (some w')) σ := fun S' w' f r => by
        have := (f.st st).set i r
        rw [show σ.set i (some v) = σ from by
          apply List.ext_getElem?
          intro j
          by_cases hj : i = j
          · subst hj
            have hl : i < σ.length := by
              rcases Nat.lt_or_ge i σ.length with h | h
              · exact h
              · rw [List.getElem?_eq_none h] at ev; cases ev
            rw [List.getElem?_set_self hl, ev]
          · rw [List.getElem?_set_ne hj]] at this
        exact this
      cases w with
      | v d => exact ⟨_, S, hset S _ Fwd.refl rv, so, p⟩
      | s ns => exact ⟨_, S, hset S _ Fwd.refl rv, so, p⟩
      | lk es => exact ⟨_, S, hset S _ Fwd.refl rv, so, p⟩
      | x c ds => exact ⟨_, S, hset S _ Fwd.refl rv, so, p⟩
      | r j =>
        obtain ⟨a, rfl, ea⟩ := rv
        cases q2 : S[j]? with
        | none => simp only [frz, q2] at p; exact p.elim
        | some ob =>
          have hl : j < S.length := by
            rcases Nat.lt_or_ge j S.length with h | h
            · exact h
            · rw [List.getElem?_eq_none h] at q2; cases q2
          have fw : Fwd ρ S H ρ (S.set j .dead) H := Fwd.frozen j
          cases ob with
          | dead => simp only [frz, q2] at p; exact p.elim
          | lst ds =>
            simp only [frz, q2] at p
            obtain ⟨xs, e, rl⟩ := so.obs j a _ ea q2
            exact ⟨_, _, hset _ (.v (.lst ds)) fw (Rp.lst e (so.frozenAt ea hl) (fw.rpL rl)), so.frozen j, PostS.later fw p⟩
          | dct es =>
            simp only [frz, q2] at p
            obtain ⟨xs, e, rl⟩ := so.obs j a _ ea q2
            exact ⟨_, _, hset _ (.v (.dct es)) fw (Rp.dct (.inl e) (so.frozenAt ea hl) (fw.rpE rl)), so.frozen j, PostS.later fw p⟩
theorem ds_fz {X : Cx} {E : XP} {s : Stmt} {b : DenS} (i : Nat) (h : PS X s (tS X.K E b)) : PS X s (tS X.K E (cFz i b)) :=
  ps_mono h fun D' σ H ⟨δ, ρ, S, st, so, p⟩ => by
    obtain ⟨δ', S', st', so', p'⟩ := fz_rp st so p
    exact ⟨δ', ρ, S', st', so', p'⟩

/-! ### calls without arguments -/
section
variable {X : Cx}
theorem de_call0 {x : Str} {p pos : Pos} {den : FDen} {k n : Nat} {f : Addr} {fd : FuncData} {ps : List Str} {ds : List Value} {dvs : List V} {dws : List W} (F : FnOk X.prog X.w X.K X.mg X.base (CX X.prog X.w) k f fd ps (spF X.K n den)) (hr : Room k X.A)
    (hm : X.mg x = some (.ref f)) (hk : PySem.W.keepIn X.K (.ref f) = true) (hb : Binds X.K fd ps ds) (hd : Vals dvs ds) (hw : ∀ ρ S H, RpWs X.K ρ S H dws dvs) (hg : Gl X x := by rfl)
    (hdb : (x == ("__debug__" : Str)) = false := by decide) :
    PE X (.Call (.Name x p) [] [] pos) (tE X.K XP0 (cCall n den cNil dws)) := pe_mono (pe_call0 F hr hg hm hk hb hd passF hdb) fun σ H Q ⟨δ, ρ, S, st, so, q⟩ => ⟨dws, ρ, S, hw _ _ _, so, res_post (fun _ _ _ _ _ _ z _ _ => z.elim) so q⟩
theorem de_call0M {x : Str} {p pos : Pos} {den : FDen} {k n : Nat} {f : Addr} {fd : FuncData} {ps : List Str} {ds : List Value} {dvs : List V} {dws : List W} (F : FnOk X.prog X.w X.K X.mg X.base (CX X.prog X.w) k f fd ps (spF X.K n den)) (hr : Room k X.A)
    (hm : X.mg x = some (.ref f)) (hk : PySem.W.keepIn X.K (.ref f) = true) (hb : Binds X.K fd ps ds) (hd : Vals dvs ds) (hw : ∀ ρ S H, RpWs X.K ρ S H dws dvs) (hg : Gl X x := by rfl)
    (hdb : (x == ("__debug__" : Str)) = false := by decide) :
    PE X (.Call (.Name x p) [] [] pos) (tE X.K XP0 (cCallM n den cNil dws)) := pe_mono (pe_call0 F hr hg hm hk hb hd passF hdb) fun σ H Q ⟨δ, ρ, S, st, so, q⟩ => ⟨dws, ρ, S, hw _ _ _, so, resM_post (fun _ _ _ _ _ _ z _ _ => z.elim) so q⟩
theorem de_call0X {Wx : WX} {x : Str} {p pos : Pos} {den : FDen} {k n : Nat} {f : Addr} {fd : FuncData} {ps : List Str} {ds : List Value} {dvs : List V} {dws : List W} (F : FnOk X.prog X.w X.K X.mg X.base (CX X.prog X.w) k f fd ps (spF X.K n den)) (hr : Room k X.A) (tk : Takes X Wx)
    (hm : X.mg x = some (.ref f)) (hk : PySem.W.keepIn X.K (.ref f) = true) (hb : Binds X.K fd ps ds) (hd : Vals dvs ds) (hw : ∀ ρ S H, RpWs X.K ρ S H dws dvs) (hg : Gl X x := by rfl)
    (hdb : (x == ("__debug__" : Str)) = false := by decide) :
    PE X (.Call (.Name x p) [] [] pos) (tE X.K (XPW X.K Wx) (cCall n den cNil dws)) := pe_mono (pe_callS0 (ES := fun σ cls d H => Wx cls d σ H) F hr hg hm hk hb hd (fun σ pins H s e s' I c => tk e s' (XE.of_call I (fun _ _ _ h => h) c)) hdb) fun σ H Q ⟨δ, ρ, S, st, so, q⟩ => ⟨dws, ρ, S, hw _ _ _, so, res_post (fun _ _ _ _ _ _ z so xr => z _ _ _ Fwd.refl so xr) so q⟩
theorem de_call0MX {Wx : WX} {x : Str} {p pos : Pos} {den : FDen} {k n : Nat} {f : Addr} {fd : FuncData} {ps : List Str} {ds : List Value} {dvs : List V} {dws : List W} (F : FnOk X.prog X.w X.K X.mg X.base (CX X.prog X.w) k f fd ps (spF X.K n den)) (hr : Room k X.A) (tk : Takes X Wx)
    (hm : X.mg x = some (.ref f)) (hk : PySem.W.keepIn X.K (.ref f) = true) (hb : Binds X.K fd ps ds) (hd : Vals dvs ds) (hw : ∀ ρ S H, RpWs X.K ρ S H dws dvs) (hg : Gl X x := by rfl)
    (hdb : (x == ("__debug__" : Str)) = false := by decide) :
    PE X (.Call (.Name x p) [] [] pos) (tE X.K (XPW X.K Wx) (cCallM n den cNil dws)) := pe_mono (pe_callS0 (ES := fun σ cls d H => Wx cls d σ H) F hr hg hm hk hb hd (fun σ pins H s e s' I c => tk e s' (XE.of_call I (fun _ _ _ h => h) c)) hdb) fun σ H Q ⟨δ, ρ, S, st, so, q⟩ => ⟨dws, ρ, S, hw _ _ _, so, resM_post (fun _ _ _ _ _ _ z so xr => z _ _ _ Fwd.refl so xr) so q⟩
end

/-! ### a, b = x, y -/
def cPar (is : List Nat) (a : Den (List W)) : DenS := fun δ S => (a δ S).thenS δ fun ws S1 => if ws.length = is.length then .nx ((is.zip ws).foldl (fun δ p => δ.set p.1 (some p.2)) δ) S1 else .bad
section
variable {X : Cx} {E : XP}
theorem ds_par (i j : Nat) {x y : Str} {e e' : Expr} {a : Den (List W)} {px py pt pos : Pos} {kt k2 pt2} (hN : X.N.Nodup) (ha : PA X [e, e'] (tA X.K E a)) (hc : X.calm = true := by rfl) (hi : X.N[i]? = some x := by rfl) (hj : X.N[j]? = some y := by rfl) (hij : i ≠ j := by decide)
    (hx : X.env.scope.names.lookup x = some .local := by rfl) (hy : X.env.scope.names.lookup y = some .local := by rfl)
    (hw : swappedStores [.Tuple [.Name x px, .Name y py] kt pt] (.Tuple [e, e'] k2 pt2) X.env = pure (some [x, y]) := by rfl)
    (hs : swapsWithSole [.Tuple [.Name x px, .Name y py] kt pt] (.Tuple [e, e'] k2 pt2) pos.line X.env = pure false := by rfl) :
    PS X (.Assign [.Tuple [.Name x px, .Name y py] kt pt] (.Tuple [e, e'] k2 pt2) pos) (tS X.K E (cPar [i, j] a)) :=
  ps_mono (ps_par hc hN hi hj hij hx hy ha hw hs) fun D' σ H ⟨δ, ρ, S, st, so, p⟩ => tG_thenS st so p fun ws S1 vs ρ1 H1 f1 st1 so1 r1 p1 => by
    by_cases hl : ws.length = [i, j].length
    · rw [if_pos hl] at p1
      match ws, vs, r1, hl with
      | [w1, w2], _, .cons (v := v1) q1 (.cons (v := v2) q2 .nil), _ => exact ⟨v1, v2, rfl, p1 _ ρ1 H1 Fwd.refl so1 ((st1.set i q1).set j q2)⟩
    · rw [if_neg hl] at p1; exact p1.elim
theorem ds_par3 (i j l : Nat) {x y z : Str} {e e' e'' : Expr} {a : Den (List W)} {px py pz pt pos : Pos} {kt k2 pt2} (hN : X.N.Nodup) (ha : PA X [e, e', e''] (tA X.K E a)) (hc : X.calm = true := by rfl) (hi : X.N[i]? = some x := by rfl) (hj : X.N[j]? = some y := by rfl) (hl : X.N[l]? = some z := by rfl) (hij : i ≠ j := by decide) (hil : i ≠ l := by decide) (hjl : j ≠ l := by decide)
    (hx : X.env.scope.names.lookup x = some .local := by rfl) (hy : X.env.scope.names.lookup y = some .local := by rfl) (hz : X.env.scope.names.lookup z = some .local := by rfl)
    (hw : swappedStores [.Tuple [.Name x px, .Name y py, .Name z pz] kt pt] (.Tuple [e, e', e''] k2 pt2) X.env = pure (some [x, y, z]) := by rfl)
    (hs : swapsWithSole [.Tuple [.Name x px, .Name y py, .Name z pz] kt pt] (.Tuple [e, e', e''] k2 pt2) pos.line X.env = pure false := by rfl) :
    PS X (.Assign [.Tuple [.Name x px, .Name y py, .Name z pz] kt pt] (.Tuple [e, e', e''] k2 pt2) pos) (tS X.K E (cPar [i, j, l] a)) :=
  ps_mono (ps_par3 hc hN hi hj hl hij hil hjl hx hy hz ha hw hs) fun D' σ H ⟨δ, ρ, S, st, so, p⟩ => tG_thenS st so p fun ws S1 vs ρ1 H1 f1 st1 so1 r1 p1 => by
    by_cases hl : ws.length = [i, j, l].length
    · rw [if_pos hl] at p1
      match ws, vs, r1, hl with
      | [w1, w2, w3], _, .cons (v := v1) q1 (.cons (v := v2) q2 (.cons (v := v3) q3 .nil)), _ => exact ⟨v1, v2, v3, rfl, p1 _ ρ1 H1 Fwd.refl so1 (((st1.set i q1).set j q2).set l q3)⟩
    · rw [if_neg hl] at p1; exact p1.elim
end

/-! ### methods of texts -/
def asX (w : W) (S : Sto) : R Tx := match w with
  | .v (.str t) => .ok t S
  | _ => .bad
def ap1 (g : D → Option D) (y : W) (S : Sto) : R W := match rd S y with
  | some e => (match g e with
    | some r => .ok (.v r) S
    | none => .bad)
  | none => .bad
def cM1 (g : Tx → D → Option D) (a b : Den W) : Den W := fun δ S => (a δ S).bind fun w S1 => (asX w S1).bind fun t S2 => (b δ S2).bind fun y S3 => ap1 (g t) y S3
def cM0 (g : Tx → Option D) (a : Den W) : Den W := fun δ S => (a δ S).bind fun w S1 => (asX w S1).bind fun t S2 => match g t with
  | some r => .ok (.v r) S2
  | none => .bad
def GM1 (K : PySem.W.Frag) (r : V → List V → Hp → VK → Prop) (g : Tx → D → Option D) : Prop := ∀ (ρ : List Addr) (S : Sto) (H : Hp) (t : Tx) (e z : D) (y : V) (Q : VK), Sok K ρ S H → Rq K H (live ρ S) e y → g t e = some z → Nxt K ρ S H z Q → r (.str (sx t)) [y] H Q
def GM0 (K : PySem.W.Frag) (r : V → List V → Hp → VK → Prop) (g : Tx → Option D) : Prop := ∀ (ρ : List Addr) (S : Sto) (H : Hp) (t : Tx) (z : D) (Q : VK), Sok K ρ S H → g t = some z → Nxt K ρ S H z Q → r (.str (sx t)) [] H Q
theorem asX_then {K : PySem.W.Frag} {α β : Type} {rel : Rl α β} {ρ : List Addr} {S : Sto} {H : Hp} {w : W} {v : V} {k : Tx → Sto → R α} {Q : β → Hp → Prop} {Ex} (r : RpW K ρ S H w v) (p : Post K rel ρ S H ((asX w S).bind k) Q Ex) : ∃ t, v = .str (sx t) ∧ Post K rel ρ S H (k t S) Q Ex := by
  cases w with
  | v d =>
    cases d with
    | str t => cases r; exact ⟨t, rfl, p⟩
    | _ => exact p.elim
  | r i => exact p.elim
  | s ns => exact p.elim
  | lk es => exact p.elim
  | x c ds => exact p.elim
section
variable {X : Cx} {E : XP} {o e : Expr} {apos pos : Pos} {a b : Den W} {name : Str}
theorem de_m1 {id : String} {r : V → List V → Hp → VK → Prop} {g : Tx → D → Option D} (slot : Slot "str" name id) (ty : typeOf (.builtin id) = pure (.type "method_descriptor")) (rule : MtR X id r) (hg : GM1 X.K r g) (ha : PE X o (tE X.K E a)) (hb : PE X e (tE X.K E b))
    (hs : starEach [e] X.env = [(false, eval e X.env)] := by rfl) (hbase : attributeBase o name X.env (eval o X.env) = eval o X.env := by rfl) (hline : (apos.endLine == pos.line) = true := by rfl) : PE X (.Call (.Attribute o name apos) [e] [] pos) (tE X.K E (cM1 g a b)) :=
  pe_mono (pe_m1 slot ty rule ha hb hs hbase hline) fun σ H Q ⟨δ, ρ, S, st, so, p⟩ => tG_then st so p fun w S1 x ρ1 H1 f1 st1 so1 r1 p1 => by
    obtain ⟨t, rfl, p2⟩ := asX_then r1 p1
    refine ⟨⟨_, rfl⟩, tG_then st1 so1 p2 fun y S2 u ρ2 H2 f2 st2 so2 r2 p3 => ?_⟩
    unfold ap1 at p3
    cases q1 : rd S2 y with
    | none => simp only [q1] at p3; exact p3.elim
    | some d =>
      cases q3 : g t d with
      | none => simp only [q1, q3] at p3; exact p3.elim
      | some z =>
        simp only [q1, q3] at p3
        exact hg ρ2 S2 H2 t d z u Q so2 (rd_ok so2 r2 q1) q3 fun v H' f so' rp => p3 v ρ2 H' f so' rp
theorem de_m0 {id : String} {r : V → List V → Hp → VK → Prop} {g : Tx → Option D} (slot : Slot "str" name id) (ty : typeOf (.builtin id) = pure (.type "method_descriptor")) (rule : MtR X id r) (hg : GM0 X.K r g) (ha : PE X o (tE X.K E a))
    (hbase : attributeBase o name X.env (eval o X.env) = eval o X.env := by rfl) (hline : (apos.endLine == pos.line) = true := by rfl) : PE X (.Call (.Attribute o name apos) [] [] pos) (tE X.K E (cM0 g a)) :=
  pe_mono (pe_m0 slot ty rule ha hbase hline) fun σ H Q ⟨δ, ρ, S, st, so, p⟩ => tG_then st so p fun w S1 x ρ1 H1 f1 st1 so1 r1 p1 => by
    obtain ⟨t, rfl, p2⟩ := asX_then r1 p1
    refine ⟨⟨_, rfl⟩, ?_⟩
    cases q3 : g t with
    | none => simp only [q3] at p2; exact p2.elim
    | some z =>
      simp only [q3] at p2
      exact hg ρ1 S1 H1 t z Q so1 q3 fun v H' f so' rp => p2 v ρ1 H' f so' rp
end
/-- the texts of a row -/
def txs : List D → Option (List Tx)
  | [] => some []
  | .str t :: r => (txs r).map (t :: ·)
  | _ => none
theorem txs_rp {K : PySem.W.Frag} {H : Hp} {M : Addr → Prop} : ∀ {ds : List D} {ts : List Tx} {vs : List V}, txs ds = some ts → RpL K H M ds vs → vs = (ts.map sx).map V.str
  | [], ts, _, e, .nil => by cases e; rfl
  | .str t :: r, ts, _, e, .cons a b => by
    unfold txs at e
    cases q : txs r with
    | none => rw [q] at e; cases e
    | some us =>
      rw [q] at e
      cases e
      cases a
      rw [txs_rp q b]
      rfl
  | .non :: _, _, _, e, _ => by cases e
  | .bl _ :: _, _, _, e, _ => by cases e
  | .int _ :: _, _, _, e, _ => by cases e
  | .tup _ :: _, _, _, e, _ => by cases e
  | .lst _ :: _, _, _, e, _ => by cases e
  | .dct _ :: _, _, _, e, _ => by cases e
  | .ty _ :: _, _, _, e, _ => by cases e
def joinT (s : Tx) : List Tx → Tx
  | [] => []
  | [p] => p
  | p :: q :: r => p ++ (s ++ joinT s (q :: r))
theorem joinT_eq (s : Tx) : ∀ ts : List Tx, TL.joinL s ts = joinT s ts
  | [] => rfl
  | [_] => rfl
  | p :: q :: r => by
    show p ++ (s ++ TL.joinL s (q :: r)) = p ++ (s ++ joinT s (q :: r))
    rw [joinT_eq s (q :: r)]
def gJoin (s : Tx) : D → Option D := fun d => match (match d with
    | .lst ds => txs ds
    | .tup ds => txs ds
    | _ => none) with
  | some ts => if (ts.map List.length).sum + ts.length * s.length ≤ 1000000 then some (.str (joinT s ts)) else none
  | none => none
theorem gm_join {K : PySem.W.Frag} : GM1 K (fun x xs H Q => ∃ a p, ∃ ys : List Str, x = .str a ∧ xs = [.ref p] ∧ (SqL K H p (ys.map V.str) ∨ SqT K H p (ys.map V.str)) ∧
    (ys.map (·.length)).sum + ys.length * a.length ≤ 16777216 ∧ Q (.str (Txt.join a ys)) H) gJoin := fun ρ S H t e z y Q so r q n => by
  have fin : ∀ ts : List Tx, (if (ts.map List.length).sum + ts.length * t.length ≤ 1000000 then some (D.str (joinT t ts)) else none) = some z →
      ((ts.map sx).map (·.length)).sum + (ts.map sx).length * (sx t).length ≤ 16777216 ∧ Q (.str (Txt.join (sx t) (ts.map sx))) H := fun ts h => by
    by_cases hl : (ts.map List.length).sum + ts.length * t.length ≤ 1000000
    · rw [if_pos hl] at h
      cases h
      refine ⟨?_, ?_⟩
      · have e1 : ((ts.map sx).map (·.length)) = ts.map List.length := SX.lens ts
        rw [e1, List.length_map, sx_length]
        omega
      · have e2 : Txt.join (sx t) (ts.map sx) = sx (joinT t ts) := (SX.join_S t ts).trans (congrArg sx (joinT_eq t ts))
        rw [e2]
        exact nxt_here so (.str _) n
    · rw [if_neg hl] at h; cases h
  unfold gJoin at q
  cases e with
  | lst ds =>
    simp only at q
    cases q1 : txs ds with
    | none => rw [q1] at q; cases q
    | some ts =>
      rw [q1] at q
      obtain ⟨h1, h2⟩ := fin ts q
      obtain ⟨a, xs, rfl, ea, rl⟩ := r.lstE
      cases txs_rp q1 rl
      exact ⟨_, a, ts.map sx, rfl, rfl, .inl (SqL.of ea), h1, h2⟩
  | tup ds =>
    simp only at q
    cases q1 : txs ds with
    | none => rw [q1] at q; cases q
    | some ts =>
      rw [q1] at q
      obtain ⟨h1, h2⟩ := fin ts q
      obtain ⟨a, xs, rfl, ea, rl⟩ := r.tup
      cases txs_rp q1 rl
      exact ⟨_, a, ts.map sx, rfl, rfl, .inr ea, h1, h2⟩
  | non => cases q
  | bl _ => cases q
  | int _ => cases q
  | str _ => cases q
  | dct _ => cases q
  | ty _ => cases q
theorem de_join {X : Cx} {E : XP} {o e : Expr} {apos pos : Pos} {a b : Den W} (ha : PE X o (tE X.K E a)) (hb : PE X e (tE X.K E b))
    (hs : starEach [e] X.env = [(false, eval e X.env)] := by rfl) (hbase : attributeBase o "join" X.env (eval o X.env) = eval o X.env := by rfl) (hline : (apos.endLine == pos.line) = true := by rfl) : PE X (.Call (.Attribute o "join" apos) [e] [] pos) (tE X.K E (cM1 gJoin a b)) :=
  de_m1 F.slot_str_join F.type_str_join mt_join gm_join ha hb hs hbase hline
end Fro

namespace Fro
open PySem PySem.Spec L2

section
variable {P : Program} {w : World} {K : PySem.W.Frag} {mg : Str → Option Value} {base : Heap}
theorem fn_denD {x qual : Str} {params : Arguments} {stm : List Stmt} {scope : Scope} {dvs : List V} {kws : List (Str × V)} {f : Addr} {fd : FuncData} {N ps : List Str} {k n m : Nat} {body : DenS} (F : FunD K x qual params stm scope dvs kws f fd) (S : FnScope N ps scope)
    (hb : ∀ (cdv : Value) (A : Around) (outer : List Env) (s : Shared) (H : Hp) (E : XK), Room k (A.deeper (PyProof.Rows.envOfC qual scope s.heap.objs.size f cdv)) → Takes (cxOf (CX P w) P w K mg base N qual scope f cdv A outer s H E) (fun cls d _ H => E cls d H) → PassesOwn (model P w) (cxOf (CX P w) P w K mg base N qual scope f cdv A outer s H E).A (cxOf (CX P w) P w K mg base N qual scope f cdv A outer s H E).env (cxOf (CX P w) P w K mg base N qual scope f cdv A outer s H E).xe →
      PSs (cxOf (CX P w) P w K mg base N qual scope f cdv A outer s H E) stm (tS K (XPW K fun cls d _ H => E cls d H) body)) (hn : ps.length = n := by rfl) (hm : N.length = m := by rfl) :
    FnOk P w K mg base (CX P w) (k + 1) f fd ps (spF K n (fdef m body)) := by
  subst hn; subst hm
  refine funD_ok F S (fun vs H Q E h => ?_) (fun cdv A outer s H vs Q E hr h => ?_)
  · obtain ⟨ws, ρ, S, r, so, p⟩ := h
    by_cases hl : ws.length = ps.length
    · rw [← r.length]; exact hl
    · unfold chk at p; rw [if_neg hl] at p; exact p.elim
  · obtain ⟨ws, ρ, S, r, so, p⟩ := h
    by_cases hl : ws.length = ps.length
    · unfold chk at p
      rw [if_pos hl] at p
      exact ⟨_, hb cdv A outer s H E hr (takes_of rfl rfl rfl rfl) (passes_of rfl), slots0 N.length ws, ρ, S, start_rp r, so, end_post so p⟩
    · unfold chk at p; rw [if_neg hl] at p; exact p.elim
theorem fn_zero {f : Addr} {fd : FuncData} {ps : List Str} {k n : Nat} {den : FDen} (h : den = fun _ _ => .bad) : FnOk P w K mg base (CX P w) k f fd ps (spF K n den) := by
  subst h
  have no : ∀ vs H Q E, ¬ spF K n (fun _ _ => .bad) vs H Q E := fun vs H Q E ⟨ws, ρ, S, r, so, p⟩ => by
    unfold chk at p
    split at p <;> exact p
  exact ⟨fun vs H Q E h => absurd h (no vs H Q E), fun A outer s H args us vs Q E _ _ _ _ h => absurd h (no vs H Q E)⟩
end

/-- the law's own end -/
theorem end_sp {K : PySem.W.Frag} {H : Hp} {a : Addr} {ns : List Int} {fd : FDen} {E : XK} (h : fd [.s ns] [] = .ok (.v (.bl true)) []) (hS : SqL K H a (ns.map V.int)) : spF K 1 fd [.ref a] H (fun v _ => v = .bl true) E := by
  have nl : ∀ b, ¬ live [] [] b := fun b ⟨i, o, h1, _⟩ => by simp at h1
  refine ⟨[.s ns], [], [], .cons ⟨a, rfl, Scr.of hS (nl a)⟩ .nil, ⟨rfl, List.nodup_nil, fun i a o h1 _ => by simp at h1⟩, ?_⟩
  unfold chk
  rw [if_pos (show [W.s ns].length = 1 from rfl), h]
  intro v H' f so r
  cases r
  rfl
theorem dfl_one {K : PySem.W.Frag} {u : Value} {d : D} {v : V} {n : Nat} (h : kdV n K u d = true) (hv : RelV v u) : ∀ ρ S H, RpW K ρ S H (.v d) v := fun ρ S H => by
  obtain ⟨v', hv', r⟩ := kdV_ok (H := H) (M := live ρ S) n u d h
  rw [hv.inj hv']; exact r

/-! ### -x -/
def apNeg (x : W) (S : Sto) : R W := match x with
  | .v (.int i) => .ok (.v (.int (-i))) S
  | _ => .bad
def cNeg (a : Den W) : Den W := fun δ S => (a δ S).bind fun x S1 => apNeg x S1
theorem de_neg {X : Cx} {E : XP} {e : Expr} {pos : Pos} {a : Den W} (h : PE X e (tE X.K E a)) : PE X (.UnaryOp .USub e pos) (tE X.K E (cNeg a)) :=
  pe_mono (pe_un un_neg h) fun σ H Q ⟨δ, ρ, S, st, so, p⟩ => tG_then st so p fun w S1 v ρ1 H1 f1 st1 so1 r1 p1 => by
    unfold apNeg at p1
    split at p1
    · rename_i i
      cases r1
      exact ⟨i, rfl, p1 _ ρ1 H1 Fwd.refl so1 (.int _)⟩
    · exact p1.elim
/-! ### is True -/
def gIsB : D → D → Option D := fun d e => match d, e with
  | .bl a, .bl b => some (.bl (decide (a = b)))
  | _, _ => none
def gIsNotB : D → D → Option D := fun d e => match d, e with
  | .bl a, .bl b => some (.bl (!decide (a = b)))
  | _, _ => none
theorem g2_isB {K : PySem.W.Frag} : G2 K rIsB gIsB := fun ρ S H d e z x y Q so rx ry q n => by
  unfold gIsB at q
  split at q
  · cases q
    exact ⟨_, _, rx.bl, ry.bl, nxt_here so (.bl _) n⟩
  · cases q
theorem g2_isNotB {K : PySem.W.Frag} : G2 K rNotB gIsNotB := fun ρ S H d e z x y Q so rx ry q n => by
  unfold gIsNotB at q
  split at q
  · cases q
    exact ⟨_, _, rx.bl, ry.bl, nxt_here so (.bl _) n⟩
  · cases q
/-! ### xs[::-1] -/
def apRev (x : W) (S : Sto) : R W := match rd S x with
  | some (.lst ds) => .ok (.v (.lst ds.reverse)) S
  | _ => .bad
def cRev (a : Den W) : Den W := fun δ S => (a δ S).bind fun x S1 => apRev x S1
theorem de_rev {X : Cx} {E : XP} {e : Expr} {k : Nat} {p1 p2 p3 pos : Pos} {a : Den W} (h : PE X e (tE X.K E a)) : PE X (.Subscript e (.Slice none none (some (.UnaryOp .USub (.Constant (.int 1) k p1) p2)) p3) pos) (tE X.K E (cRev a)) :=
  pe_mono (pe_revL h) fun σ H Q ⟨δ, ρ, S, st, so, p⟩ => tG_then st so p fun w S1 v ρ1 H1 f1 st1 so1 r1 p1 => by
    unfold apRev at p1
    split at p1
    · rename_i ds q
      obtain ⟨b, xs, rfl, hb, rb⟩ := (rd_ok so1 r1 q).lstE
      exact ⟨b, xs, rfl, SqL.of hb, nxt_lst so1 rb.reverse fun v H' f so' rp => p1 v ρ1 H' f so' rp⟩
    · exact p1.elim
/-! ### name = [..] -/
section
variable {X : Cx} {E : XP}
theorem asg_comp {g : TG} {dg : DenG} {ts vs : List Nat} {it : Den (List D)} {tt : Den Bool} {te : Den W} (i : Nat) (hgo : GOk X.K g dg ts) (hts : ∀ j ∈ ts, j ∈ vs) {D' : Ends} {σ : L2.St} {H : Hp}
    (h : tS X.K E (cAsg (cComp it dg tt te vs) (gN i)) D' σ H) : tAsg (tLc (tI X.K E it) g (tT X.K XP0 tt) (tE X.K XP0 te) vs) (gName i) D' σ H := by
  have hm : ∀ {den : Den W}, tS X.K E (cAsg den (gN i)) D' σ H → tE X.K E den σ H fun x H1 => gName i x σ H1 D'.nx := fun {den} ⟨δ, ρ, S, st, so, p⟩ => tG_thenS st so p fun w S1 v ρ1 H1 f1 st1 so1 r1 p1 => asg_post (gok_name i) st1 so1 r1 p1
  have q := hm h
  refine comp_post hgo hts (kf := fun S1 S2 => if S2.length = S1.length + 1 then (match S2[S1.length]? with
    | some (.lst acc) => .ok (.v (.lst acc)) (S2.take S1.length)
    | _ => .bad) else .bad) (fun ρ1 ρ2 S1 S2 H1 H2 D' so1 nD f so2 e p => ?_) q
  by_cases hl : S2.length = S1.length + 1
  · simp only [if_pos hl] at p
    cases q : S2[S1.length]? with
    | none => rw [q] at p; exact p.elim
    | some ob =>
      cases ob with
      | dct es => rw [q] at p; exact p.elim
      | dead => rw [q] at p; exact p.elim
      | lst acc =>
        rw [q] at p
        obtain ⟨xs, ex, rl⟩ := so2.obs _ _ _ e q
        obtain ⟨more, em⟩ := f.ext
        have t := so2.take S1.length
        rw [em, take_pre so1.len, ← em] at t
        refine p (.ref D') ρ1 H2 (f.cut so1.len so2.len) t.1 (Rp.lst ex (fun l => so1.notIn nD ?_) (rl.weak t.2))
        obtain ⟨j, o, h1, _, _⟩ := l
        exact List.mem_of_getElem? h1
  · simp only [if_neg hl] at p; exact p.elim
theorem ds_setComp (i : Nat) {y : Str} {py : Pos} {elt tg iter : Expr} {ifs : List Expr} {scope : Scope} {own : List (Str × Nat)} {pos spos : Pos} {it : Den (List D)} {g : TG} {dg : DenG} {ts : List Nat} {tt : Den Bool} {te : Den W} (hc : X.calm = true) (hN : X.N.Nodup) (hi : PI X tg iter (tI X.K E it)) (hgo : GOk X.K g dg ts) (ok : blkC X.N X.env.scope scope own = true)
    (hg : ∀ (s : Shared) (H : Hp) (C : Addr) (cl : List (Str × Addr)) (fp : List Addr), PG (X.blk s H scope (compEnvC scope cl C X.env) fp) tg g) (ht : ∀ (s : Shared) (H : Hp) (C : Addr) (cl : List (Str × Addr)) (fp : List Addr), PTs (X.blk s H scope (compEnvC scope cl C X.env) fp) ifs (tT X.K XP0 tt))
    (he : ∀ (s : Shared) (H : Hp) (C : Addr) (cl : List (Str × Addr)) (fp : List Addr), PE (X.blk s H scope (compEnvC scope cl C X.env) fp) elt (tE X.K XP0 te)) (hs : ∀ x, foldedSetIterable iter X.env x = pure x := by intro _; rfl) (hts : ∀ j ∈ ts, j ∈ own.map (·.2) := by decide)
    (hy : X.N[i]? = some y := by rfl) (hyl : X.env.scope.names.lookup y = some .local := by rfl) (hsw : swapsWith (.ListComp elt [⟨tg, iter, ifs, 0⟩] scope pos) (some (.Name y py)) spos.line X.env = pure true := by exact sw_true rfl rfl rfl (by decide +kernel)) :
    PS X (.Assign [.Name y py] (.ListComp elt [⟨tg, iter, ifs, 0⟩] scope pos) spos) (tS X.K E (cAsg (cComp it dg tt te (own.map (·.2))) (gN i))) :=
  ps_mono (ps_setLc hc hN hy hyl hsw hi (blkOk_by ok) hg ht he hs) fun D' σ H h => asg_comp i hgo hts h
end
end Fro

/-! Fro, exceptions: the classes' own __init__, over super().__init__. -/
namespace Fro
open PySem PySem.Spec L2 PyProof.Rows NdefX ClX

/-- an __init__ at f that closes over its class D -/
structure SupFn (P : Program) (K : PySem.W.Frag) (f D : Addr) (F : NF) : Prop where
  lk : ∃ (oc : Value) (od : Option Addr) (doc pm ctv : Value) (sl : Array (Option Value)), K.lookup f = some ⟨oc, od, .func (F.fd doc pm ctv), sl⟩
  cd : PySem.W.codeIn K (.ref F.c) F.qual = true
  file : ∃ (ccl : Value) (cdd : Option Addr) (vs : Array Value) (ccs : Array (Option Value)) (fl : Str) (tf : Tok), K.lookup F.c = some ⟨ccl, cdd, .fields vs, ccs⟩ ∧ vs[2]? = some (.str fl tf) ∧ ((P.main.file : Str) == fl) = true
  cell : ∃ (cc : Addr) (cl : Value) (cld : Option Addr) (csl : Array (Option Value)), F.cl = [(("__class__" : Str), cc)] ∧ K.lookup cc = some ⟨cl, cld, .cell (some (.ref D)), csl⟩
  isC : ∃ cd, PySem.W.clsIn K D = some cd
  sup : (P.main.scope.names.lookup ("super" : Str)).isSome = false
  par : ∃ ar : Arg, (F.params.posonlyargs ++ F.params.args).head? = some ar ∧ ar.arg = ("self" : Str)
  ks : F.scope.names.lookup ("super" : Str) = some .globalImplicit
  kc : F.scope.names.lookup ("__class__" : Str) = some .free

theorem sup_base {X : Cx} {pins : List (Addr × Obj)} {σ : L2.St} {H : Hp} {s : Shared} {f D C a L : Addr} {F : NF} {body : List Stmt} {p0 p1 : Pos} {whole : Sem Value} {E : Value → Shared → Prop} {Q : Value → Shared → Prop} {ox : Obj}
    (I : Inv X pins σ H s) (hE : X.env = envF F f L) (SF : SupFn X.prog X.K f D F) (h0 : X.N[0]? = some ("self" : Str)) (h1 : σ[0]? = some (some (.ref a))) (hkl : F.scope.names.lookup ("self" : Str) = some .local) (hm : X.mg "super" = none)
    (ha : s.heap.get? a = some ox) (hxc : ox.cls = .ref C) (hnc : ∀ c, ox.data ≠ .cls c) (hsub : PySem.W.mroIn X.K C (.ref D) = some true)
    (h : ∀ h', h'.get? s.heap.objs.size = some (PySem.W.ks_superObj D a C) → (∀ y o, s.heap.get? y = some o → h'.get? y = some o) → Q (.ref s.heap.objs.size) { s with heap := h' }) :
    _root_.PySem.wpAt (model X.prog X.w) X.A (.func body X.env) (attributeBase (.Call (.Name "super" p0) [] [] p1) "__init__" X.env whole) Q E s := by
  have kin := I.kIn
  obtain ⟨oc, od, doc, pm, ctv, sl, lk⟩ := SF.lk
  obtain ⟨ccl, cdd, vs, ccs, fl, tf, hcode, hvs, hfile⟩ := SF.file
  obtain ⟨cc, cl, cld, csl, ecl, hcell⟩ := SF.cell
  obtain ⟨cdD, hD⟩ := SF.isC
  obtain ⟨ar, hp, hn⟩ := SF.par
  obtain ⟨oD, hD1, hD2⟩ : ∃ oD, s.heap.get? D = some oD ∧ oD.data = .cls cdD := by
    unfold PySem.W.clsIn at hD
    split at hD
    · rename_i c d cd' sl ho
      cases hD
      exact ⟨_, kin _ _ ho, rfl⟩
    · cases hD
  have hkind := I.ok.kind
  have hfn : X.env.func = some f := by rw [hE]
  have hco : X.env.code = .ref F.c := by rw [hE]
  have hks : X.env.kindOf "super" = some .globalImplicit := by rw [hE]; exact SF.ks
  have hkc : X.env.kindOf "__class__" = some .free := by rw [hE]; exact SF.kc
  have hcl : X.env.cells.lookup ("__class__" : Str) = some cc := by rw [hE]; show F.cl.lookup _ = _; rw [ecl]; rfl
  have hkl' : X.env.kindOf "self" = some .local := by rw [hE]; exact hkl
  obtain ⟨m, hns, hl⟩ := id I.loc
  obtain ⟨u, ru, lu⟩ := hl 0 "self" (.ref a) h0 h1 (.inl (by rw [hE]; exact hkl))
  obtain rfl : u = Value.ref a := ru
  have hv : m "self" = some (.ref a) := by
    rcases lu with ⟨_, e⟩ | ⟨k, _⟩
    · exact e
    · rw [hkl'] at k; rcases k with k | k <;> cases k
  obtain ⟨mb, hb1, hb2⟩ := I.mod.blt
  refine ks_wpAt_super_base (env := X.env) hks hkc (by decide) hfn (kin _ _ lk) rfl hp hco (kin _ _ hcode) rfl hvs hfile SF.sup ?_
  refine PySem.W.ks_loadName_global hkind hks (Calls.loadGlobal_builtin (by rw [I.ok.glob]; exact I.mod.glob.keeps I.bk) hm (by rw [I.ok.blt]; exact hb1.keeps I.bk) ((hb2 _ (by decide +kernel)).trans (show bootBuiltins "super" = some (.type "super") from by first | boot_by_name | rfl | kernel_rfl)) ⟨rfl, ?_⟩)
  refine wpAny_loadName_free hkind hkc hcl ⟨_, kin _ _ hcell, rfl⟩ ?_
  rw [hn]
  refine wpAny_loadName_local hkind hkl' hns hv ?_
  obtain ⟨hh, g, d, t, os⟩ := s
  refine ks_wpAny_isType_cls hD1 hD2 ⟨rfl, ?_⟩
  exact ks_wpAny_call_super hD1 hD2 ha hxc hnc (PySem.W.looks_mroIn kin hsub) fun h' e k => h h' e k
end Fro

namespace Fro
open PySem PySem.Spec L2 PyProof.Rows NdefX ClX

section
variable {X : Cx} {pins : List (Addr × Obj)} {σ : L2.St} {H : Hp} {s : Shared} {f D C a L : Addr} {F : NF} {body : List Stmt} {p0 p1 p2 p3 p4 : Pos} {E : Value → Shared → Prop} {Q : Flow → Shared → Prop} {ox : Obj}
/-- super().__init__(), the next one a def -/
theorem sup_own {pl : Sem Bool} {f2 : Addr} {fd2 : FuncData} {sp2 : Sp} {k : Nat} {Qv : VK} (I : Inv X pins σ H s) (hE : X.env = envF F f L) (SF : SupFn X.prog X.K f D F) (h0 : X.N[0]? = some ("self" : Str)) (h1 : σ[0]? = some (some (.ref a))) (hkl : F.scope.names.lookup ("self" : Str) = some .local) (hm : X.mg "super" = none)
    (ha : s.heap.get? a = some ox) (hxc : ox.cls = .ref C) (hnc : ∀ c, ox.data ≠ .cls c) (hsub : PySem.W.mroIn X.K C (.ref D) = some true)
    (ho : PySem.W.nsIn X.K cStatics "thirdparty.any" = some none) (hm2 : PySem.W.ks_superIn X.K C D "__init__" = some (some (.ref f2))) (ht : PySem.W.typeIn X.K (.ref f2) = some (.type "function")) (hfn : PySem.W.fnIn X.K f2 = true)
    (F2 : L2.FnOk X.prog X.w X.K X.mg X.base CX0 k f2 fd2 ["self"] sp2) (hr : L2.Room k X.A) (hb2 : Binds X.K fd2 ["self"] []) (q : sp2 [.ref a] H Qv (fun _ _ _ => False))
    (hQ : ∀ s' v H', Inv X pins σ H' s' → Qv v H' → Q .next s')
    (hcc : eval (.Call (.Attribute (.Call (.Name "super" p0) [] [] p1) "__init__" p2) [] [] p3) X.env = (do
      let ov ← attributeBase (.Call (.Name "super" p0) [] [] p1) "__init__" X.env (eval (.Call (.Name "super" p0) [] [] p1) X.env)
      standAt p2.atName
      let (f, first) ← holding [ov] (getMethod ov "__init__" pl)
      callWith p3 f first (backTo p3 (starEach [] X.env)) []) := by rfl) :
    _root_.PySem.wpAt (model X.prog X.w) X.A (.func body X.env) (exec (.Expr (.Call (.Attribute (.Call (.Name "super" p0) [] [] p1) "__init__" p2) [] [] p3) p4) X.env) Q E s := by
  refine ks_wpAt_Expr_any (ks_wpAt_MethodCall (sup_base I hE SF h0 h1 hkl hm ha hxc hnc hsub fun h' e k => ?_) hcc) I.quiet
  have I1 : Inv X pins σ H { s with heap := h' } := I.kept (t' := s.toks) k
  have kin := I1.kIn
  obtain ⟨hh, g, d, t, os⟩ := s
  cases hc : PySem.W.clsIn X.K C with
  | none => unfold PySem.W.ks_superIn at hm2; rw [hc] at hm2; cases hm2
  | some cd =>
    unfold PySem.W.ks_superIn at hm2
    rw [hc] at hm2
    obtain ⟨of, hof, hofc⟩ : ∃ of, h'.get? f2 = some of ∧ of.cls = .type "function" := by
      have ht' : (X.K.lookup f2).map (·.cls) = some (.type "function") := ht
      cases z : X.K.lookup f2 with
      | none => rw [z] at ht'; cases ht'
      | some of => rw [z] at ht'; exact ⟨of, kin _ _ z, Option.some.inj ht'⟩
    have IA : PySem.W.InstAt h' a ox C (ox.dict.bind fun d => h'.get? d) → a ≠ C := fun J => PySem.W.ks_ne kin J hc
    have neC : a ≠ C := by
      rintro rfl
      unfold PySem.W.clsIn at hc
      split at hc
      · rename_i c' d' cd' sl' ho'
        have e2 := kin _ _ ho'
        rw [k _ _ ha] at e2
        cases e2
        exact hnc _ rfl
      · cases hc
    refine ks_wpAny_getMethod_super e (PySem.W.looks_opaque kin ho) (l₀ := cd.mro) (fun A Q E s k q => wpAny_bind ((PySem.W.looks_clsIn kin hc) A _ E s k (wpAny_pure q))) rfl kin hm2 hof hofc neC (by decide) ?_
    have k2 : ∀ b o, h'.get? b = some o → (h'.push { cls := .type "method", data := .fields #[.ref f2, .ref a] }).get? b = some o := fun b o z => Heap.get?_push_of_some _ z
    have I2 : Inv X pins σ H ⟨h'.push { cls := .type "method", data := .fields #[.ref f2, .ref a] }, g, d, t + 1, os⟩ := I1.kept (t' := t + 1) k2
    have hq : (h'.push { cls := .type "method", data := .fields #[.ref f2, .ref a] }).get? h'.objs.size = some (PySem.W.methodObj (.ref f2) (.ref a)) := Heap.get?_push_at rfl rfl
    refine PySem.W.callWith_M0 (K := X.K) ⟨hq, I2.kIn⟩ hfn ?_
    refine wpAny_call (PySem.W.method_call hq ?_)
    refine codeAny_mono (F2.run X.A X.stack _ H ⟨[.ref a], []⟩ [.ref a] [.ref a] Qv (fun _ _ _ => False) hr I2.env0 (hb2 _ [.ref a] I2.kIn rfl) (.cons rfl .nil) q) fun r s' hres => ?_
    match r, hres with
    | .error err, hres => exact hres.elim
    | .ok .next, hres => exact hres.elim
    | .ok .brk, hres => exact hres.elim
    | .ok .cont, hres => exact hres.elim
    | .ok (.ret u), hres =>
      obtain ⟨v, H', J, rv, z⟩ := I2.after hres
      exact hQ s' v H' J z
/-- super().__init__(e), the next one ValueError's -/
theorem sup_blt {pl : Sem Bool} {e : Expr} {ta : TA} (I : Inv X pins σ H s) (hE : X.env = envF F f L) (SF : SupFn X.prog X.K f D F) (h0 : X.N[0]? = some ("self" : Str)) (h1 : σ[0]? = some (some (.ref a))) (hkl : F.scope.names.lookup ("self" : Str) = some .local) (hm : X.mg "super" = none)
    (ea : H a = some (exo a C none)) (T : OexC X.K C) (hsub : PySem.W.mroIn X.K C (.ref D) = some true) (hB : PySem.W.subIn X.K (.ref C) (.type "ValueError") = some true)
    (ho : PySem.W.nsIn X.K cStatics "thirdparty.any" = some none) (hm2 : PySem.W.ks_superIn X.K C D "__init__" = some (some (.builtin "ValueError.__init__")))
    (hA : PA X [e] ta) (q : ta σ H fun vs H1 => vs.length ≤ 1000 ∧ H1 = H)
    (hQ : ∀ s', Inv X pins σ H s' → Q .next s')
    (hx : ∀ u s, X.xe u s → E u s)
    (hs : swapsWith (.Call (.Attribute (.Call (.Name "super" p0) [] [] p1) "__init__" p2) [e] [] p3) none p4.line X.env = pure false := by rfl)
    (he : starEach [e] X.env = [(false, eval e X.env)] := by rfl)
    (hcc : eval (.Call (.Attribute (.Call (.Name "super" p0) [] [] p1) "__init__" p2) [e] [] p3) X.env = (do
      let ov ← attributeBase (.Call (.Name "super" p0) [] [] p1) "__init__" X.env (eval (.Call (.Name "super" p0) [] [] p1) X.env)
      standAt p2.atName
      let (f, first) ← holding [ov] (getMethod ov "__init__" pl)
      callWith p3 f first (backTo p3 (starEach [e] X.env)) []) := by rfl) :
    _root_.PySem.wpAt (model X.prog X.w) X.A (.func body X.env) (exec (.Expr (.Call (.Attribute (.Call (.Name "super" p0) [] [] p1) "__init__" p2) [e] [] p3) p4) X.env) Q E s := by
  obtain ⟨nm, qn, N, bs, bm, sn, sub, ab, col, dd, k0, k1, k2, k3, k5, hC, hbm⟩ := T.cls
  obtain ⟨t1, hget⟩ := exo_at I.hok ea
  refine ks_wpAt_Expr_any (ks_wpAt_MethodCall (sup_base I hE SF h0 h1 hkl hm hget rfl (fun c z => nomatch z) hsub fun h' e' k => ?_) hcc) I.quiet hs
  have I1 : Inv X pins σ H { s with heap := h' } := I.kept (t' := s.toks) k
  have kin := I1.kIn
  obtain ⟨hh, g, d, t, os⟩ := s
  cases hc : PySem.W.clsIn X.K C with
  | none => unfold PySem.W.ks_superIn at hm2; rw [hc] at hm2; cases hm2
  | some cd =>
    unfold PySem.W.ks_superIn at hm2
    rw [hc] at hm2
    have hget' := k _ _ hget
    have J : PySem.W.InstAt h' a ({ cls := .ref C, dict := none, data := .fields #[.ref t1, .none, .none, .none, .bool false, .none] } : Obj) C none := ⟨hget', rfl, rfl, trivial⟩
    have hI : PySem.W.Looks (model X.prog X.w) h' (isInstance (.ref a) (.type "ValueError")) true := J.type.andThen (PySem.W.looks_subIn kin hB)
    refine PySem.W.kxs_getMethod PySem.W.kxs_ValueError e' (PySem.W.looks_opaque kin ho) (l₀ := cd.mro) (fun A Q E s k q => wpAny_bind ((PySem.W.looks_clsIn kin hc) A _ E s k (wpAny_pure q))) rfl kin hm2 hI (PySem.W.ks_ne kin J hc) (by decide) ?_
    have kp : ∀ b o, h'.get? b = some o → (h'.push (PySem.W.kxs_mw "ValueError.__init__" a)).get? b = some o := fun b o z => Heap.get?_push_of_some _ z
    have hu : (h'.push (PySem.W.kxs_mw "ValueError.__init__" a)).get? h'.objs.size = some (PySem.W.kxs_mw "ValueError.__init__" a) := Heap.get?_push_at rfl rfl
    have I2 : Inv X ((h'.objs.size, PySem.W.kxs_mw "ValueError.__init__" a) :: pins) σ H ⟨h'.push (PySem.W.kxs_mw "ValueError.__init__" a), g, d, t + 1, os⟩ := pin_new (s := ⟨h', g, d, t, os⟩) (t' := t + 1) I1 kp (Nat.le_refl _) hu (fun v z => nomatch z)
    show wpAny _ _ (callWith p3 (.ref h'.objs.size) [] (backTo p3 (starEach [e] X.env)) []) _ _ _
    rw [he]
    refine PySem.W.kxs_callWith (i := "ValueError.__init__") (x := a) (by rfl) (PySem.Calls.evalArgs_plain ?_)
    have hrun := hA.run p3 _ _ σ H _ I2 q
    rw [he] at hrun
    refine wpAny_mono hrun (fun us s1 hz => ?_) fun u s1 z => hx u s1 z
    obtain ⟨vs, H1, I3, rv, hl, eH⟩ := hz
    subst eH
    refine ⟨pin_at I3, ?_⟩
    obtain ⟨t3, hget3⟩ := exo_at I3.hok ea
    obtain ⟨h3, g3, d3, tk3, os3⟩ := s1
    have hu3 := pin_at I3
    refine wpAny_call (codeAny_of_tree ?_)
    show wpAny _ X.A.in1 (callAny (.ref h'.objs.size) ⟨us, []⟩) _ _ _
    simp only [callAny]
    refine wpAny_bind (wpAny_load hu3 ?_)
    simp only [PySem.W.kxs_mw, show (Value.type "method-wrapper" == Value.type "method" || Value.type "method-wrapper" == Value.type "builtin_function_or_method" || Value.type "method-wrapper" == Value.type "method-wrapper") = true by decide, if_true]
    refine PySem.W.KFB.if_so (by decide) ?_
    refine wpAny_bind (PySem.W.check_bound_init PySem.F.excBase_ValueError.toExcCallFacts (I3.kIn _ _ hC) hget3 rfl ?_)
    refine wpAny_bind (wpAny_pure (wpAny_pure ?_))
    refine ⟨plainId_quiet PySem.F.excBase_ValueError.init.plain _, codeAny_builtin PySem.F.excBase_ValueError.initEntry ?_⟩
    have hlen : us.length ≤ sizeLine := by
      rw [← Paired.length rv, sizeLine_eq]
      omega
    refine PySem.W.exc_init_tree (cls := .ref C) (t0 := t3) (dv := none) (c2 := .none) (c3 := .none) (b4 := .bool false) hget3 hlen fun h4 k4 hx4 _ => ?_
    have J4 := (unpin I3).write (t' := tk3) (x := a) (e := a) (o := exo a C none) (by rw [ea]; exact True.intro) (.inl rfl) k4 ⟨_, hx4⟩ (exo_ok hx4)
    have eu : upd H1 a (exo a C none) = H1 := by
      funext b
      by_cases hb : b = a
      · rw [hb, upd_same, ea]
      · rw [upd_ne hb]
    rw [eu] at J4
    exact hQ _ J4
end
end Fro

namespace Fro
open PySem PySem.Spec L2 PyProof.Rows NdefX ClX

section
variable {P : Program} {w : World} {K : PySem.W.Frag} {mg : Str → Option Value} {base : Heap} {f D : Addr} {F : NF} {N ps : List Str} {k : Nat} {sp : Sp}
/-- an __init__ over super(), by its body -/
theorem sup_fn (SF : SupFn P K f D F) (S : NScope N ps ["__class__"] F.scope) (hb : ∀ (doc pm ctv : Value) (us : List Value), us.length = ps.length → bindArgs (F.fd doc pm ctv) ⟨us, []⟩ = pure (ps.zip us)) (len : ∀ vs H Q E, sp vs H Q E → vs.length = ps.length)
    (hbody : ∀ (A : Around) (outer : List Env) (s : Shared) (H : Hp) (vs : List V) (Q : VK) (E : XK), L2.Room k (A.deeper (envF F f s.heap.objs.size)) → sp vs H Q E → ∀ s1, Inv (ncx CX0 P w K mg base N F f A outer s H E) [] (startF N vs [some (.ref D)]) H s1 →
      _root_.PySem.wpAt (model P w) (ncx CX0 P w K mg base N F f A outer s H E).A (.func F.body (ncx CX0 P w K mg base N F f A outer s H E).env) (execs F.body (ncx CX0 P w K mg base N F f A outer s H E).env) (SP (ncx CX0 P w K mg base N F f A outer s H E) [] { nx := fun _ H' => Q .non H', rt := Q }) (ncx CX0 P w K mg base N F f A outer s H E).xe s1) :
    ∃ fd, Binds K fd ps [] ∧ L2.FnOk P w K mg base CX0 (k + 1) f fd ps sp := by
  obtain ⟨oc, od, doc, pm, ctv, sl, lk⟩ := SF.lk
  refine ⟨F.fd doc pm ctv, fun s us _ hl => .of_eq (by rw [List.append_nil] at hl ⊢; exact hb doc pm ctv us hl), len, fun A outer s H args us vs Q E hr e0 hbd r hsp => ?_⟩
  have hl := len _ _ _ _ hsp
  have all : ∀ b o, base.get? b = some o → s.heap.get? b = some o := fun b o e => (e0.bs b o e).1
  have inK : K.In s.heap := e0.mod.kin.keeps all
  have lim : s.heap.NoLimit := e0.mod.nolimit.keeps all
  obtain ⟨cc, cl, cld, csl, ecl, hcell⟩ := SF.cell
  have C : CellsAt F.cl ["__class__"] [some (.ref D)] s.heap H := by
    rw [ecl]
    have one : ∀ y c, List.lookup y [(("__class__" : Str), cc)] = some c → y = ("__class__" : Str) ∧ c = cc := fun y c e => by
      unfold List.lookup at e
      split at e
      · rename_i q; cases e; exact ⟨by simpa using q, rfl⟩
      · cases e
    have ic : s.heap.IsCell cc (some (.ref D)) := ⟨_, inK _ _ hcell, rfl⟩
    refine ⟨rfl, fun y c e => ?_, fun x y c e1 e2 => (one x c e1).1.trans (one y c e2).1.symm, fun i y e => ?_⟩
    · obtain ⟨_, rfl⟩ := one y c e
      exact ⟨(e0.bs _ _ (e0.mod.kin _ _ hcell)).2, _, ic⟩
    · cases i with
      | succ i => simp at e
      | zero =>
        simp at e
        subst e
        exact ⟨cc, by simp [List.lookup], fun v z => by simp at z; subst z; exact ⟨_, rfl, ic⟩⟩
  refine codeAny_call_function hr.depth (inK _ _ lk) rfl S.co S.gen rfl (PySem.W.codeRec_of inK SF.cd) (hbd _ _ _ _ ?_)
  refine wpAny_newFunctionEnv S.nocell (fun ⟨n, _⟩ hy => S.par n (List.of_mem_zip hy).1) (fun h₁ hns hsb => ⟨lim.fresh _ hsb, ?_⟩) S.kind
  show codeAny _ _ (.func F.body (envF F f s.heap.objs.size)) _ _
  refine ks_codeAny_funcAt ?_
  have kp : ∀ b o, s.heap.get? b = some o → h₁.get? b = some o := fun b o e => hsb.extBut b o (Nat.ne_of_lt (Heap.lt_size e)) (Heap.get?_push_of_some _ e)
  have I : Inv (ncx CX0 P w K mg base N F f A outer s H E) [] (startF N vs [some (.ref D)]) H { s with heap := h₁, toks := s.toks + (ps.zip us).length } := inv_startN S hr.hd e0 hl r C hns kp
  refine _root_.PySem.wpAt_mono (hbody A outer s H vs Q E (hr.deeper _) hsp _ I) (fun fl s' hs => ?_) fun e s' hs => hs
  have fin : ∀ {σ' : L2.St} {H' : Hp} {v : V} {u : Value}, Inv (ncx CX0 P w K mg base N F f A outer s H E) [] σ' H' s' → L2.RelV v u → Q v H' → CE outer P w H s Q u s' :=
    fun {σ' H' v u} J rv q => ⟨v, H', J.os, J.bare, J.base, J.hok, rv, q⟩
  cases fl with
  | ret u =>
    obtain ⟨v, σ', H', J, rv, q⟩ := hs
    exact fin J rv q
  | next =>
    obtain ⟨σ', H', J, q⟩ := hs
    exact fin (v := V.non) (u := Value.none) J rfl q
  | brk =>
    obtain ⟨_, _, _, q⟩ := hs
    exact False.elim q
  | cont =>
    obtain ⟨_, _, _, q⟩ := hs
    exact False.elim q
end

/-- what the written part says of a class C under KindError (at D0) -/
structure KeC (K : PySem.W.Frag) (D0 C : Addr) : Prop where
  ox : OexC K C
  mro : PySem.W.mroIn K C (.ref D0) = some true
  ve : PySem.W.subIn K (.ref C) (.type "ValueError") = some true
  up : PySem.W.ks_superIn K C D0 "__init__" = some (some (.builtin "ValueError.__init__"))
def spKe (K : PySem.W.Frag) (D0 : Addr) : Sp := fun vs H Q _ => ∃ a C, vs = [.ref a] ∧ H a = some (exo a C none) ∧ KeC K D0 C ∧ Q .non H
/-- the tree of super().__init__(es) -/
def SupTree (p0 p1 p2 p3 : Pos) (es : List Expr) (pl : Env → Sem Bool) : Prop := ∀ env : Env, eval (.Call (.Attribute (.Call (.Name "super" p0) [] [] p1) "__init__" p2) es [] p3) env = (do
      let ov ← attributeBase (.Call (.Name "super" p0) [] [] p1) "__init__" env (eval (.Call (.Name "super" p0) [] [] p1) env)
      standAt p2.atName
      let (f, first) ← holding [ov] (getMethod ov "__init__" (pl env))
      callWith p3 f first (backTo p3 (starEach es env)) [])
/-- KindError.__init__ -/
theorem ke_init {P : Program} {w : World} {K : PySem.W.Frag} {mg : Str → Option Value} {base : Heap} {f D0 : Addr} {F : NF} {x : Str} {j : Nat} {p0 p1 p2 p3 p4 p5 : Pos} {pl : Env → Sem Bool} (SF : SupFn P K f D0 F) (S : NScope ["self", "__class__"] ["self"] ["__class__"] F.scope)
    (hb : ∀ (doc pm ctv : Value) (us : List Value), us.length = 1 → bindArgs (F.fd doc pm ctv) ⟨us, []⟩ = pure ([("self" : Str)].zip us))
    (hbody : F.body = [.Expr (.Call (.Attribute (.Call (.Name "super" p0) [] [] p1) "__init__" p2) [.Constant (.str x) j p5] [] p3) p4]) (hcc : SupTree p0 p1 p2 p3 [.Constant (.str x) j p5] pl)
    (hm : mg "super" = none) (ho : PySem.W.nsIn K cStatics "thirdparty.any" = some none) :
    ∃ fd, Binds K fd ["self"] [] ∧ L2.FnOk P w K mg base CX0 1 f fd ["self"] (spKe K D0) := by
  refine sup_fn SF S hb (fun vs H Q E ⟨a, C, e, _⟩ => by rw [e]; rfl) fun A outer s H vs Q E hr hsp s1 I => ?_
  obtain ⟨a, C, rfl, ea, T, q⟩ := hsp
  rw [hbody]
  refine ks_wpAt_execs_cons ?_
  refine sup_blt (X := ncx CX0 P w K mg base ["self", "__class__"] F f A outer s H E) (ta := tCons (tC (.str x)) tNil) (L := s.heap.objs.size) (H := H) (σ := startF ["self", "__class__"] [.ref a] [some (.ref D0)]) (C := C) (pins := []) I rfl SF rfl rfl (S.par _ (by simp)) hm ea T.ox T.mro T.ve ho T.up (pa_cons pe_str pa_nil) ?_ (fun s' J => ?_) (fun _ _ z => z) rfl rfl (hcc _)
  · exact ⟨by simp, rfl⟩
  · exact _root_.PySem.wpAt_of_wpAny (wpAny_execs_nil ⟨_, H, J, q⟩)

/-- what an __init__ that keeps its parameters promises -/
def spX (C : Addr) (fl : List Str) : Sp := fun vs H Q _ => ∃ a ws, vs = .ref a :: ws ∧ ws.length = fl.length ∧ H a = some (exo a C none) ∧ ∀ d, H d = none → d ≠ a → Q .non (upd (upd H d (exd d (fl.zip ws).reverse)) a (exo a C (some d)))
theorem exo_eq {a C C' : Addr} {d : Option Addr} (h : exo a C d = exo a C' d) : True := trivial
section
variable {P : Program} {w : World} {K : PySem.W.Frag} {mg : Str → Option Value} {base : Heap} {f f0 C D0 : Addr} {F : NF} {fd0 : FuncData} {p0 p1 p2 p3 p4 : Pos} {pl : Env → Sem Bool}
/-- C.__init__(self, a): super().__init__(); self.a = a -/
theorem x_init1 {n1 : Str} {q1 q2 q3 q4 : Pos} (SF : SupFn P K f C F) (S : NScope ["self", n1, "__class__"] ["self", n1] ["__class__"] F.scope)
    (hb : ∀ (doc pm ctv : Value) (us : List Value), us.length = 2 → bindArgs (F.fd doc pm ctv) ⟨us, []⟩ = pure ([("self" : Str), n1].zip us))
    (hbody : F.body = [.Expr (.Call (.Attribute (.Call (.Name "super" p0) [] [] p1) "__init__" p2) [] [] p3) p4, .Assign [.Attribute (.Name "self" q1) n1 q2] (.Name n1 q3) q4]) (hcc : SupTree p0 p1 p2 p3 [] pl)
    (hm : mg "super" = none) (ho : PySem.W.nsIn K cStatics "thirdparty.any" = some none) (T : KeC K D0 C) (hself : PySem.W.mroIn K C (.ref C) = some true) (hup : PySem.W.ks_superIn K C C "__init__" = some (some (.ref f0)))
    (ht : PySem.W.typeIn K (.ref f0) = some (.type "function")) (hfn : PySem.W.fnIn K f0 = true) (hb0 : Binds K fd0 ["self"] []) (F0 : L2.FnOk P w K mg base CX0 1 f0 fd0 ["self"] (spKe K D0))
    (hn1 : PySem.W.findIn K (.ref C) n1 = some none) (hd1 : (n1 == ("__debug__" : Str)) = false := by decide) (hc1 : (n1 == ("__classdict__" : Str)) = false := by decide) :
    ∃ fd, Binds K fd ["self", n1] [] ∧ L2.FnOk P w K mg base CX0 2 f fd ["self", n1] (spX C [n1]) := by
  refine sup_fn SF S hb (fun vs H Q E ⟨a, ws, e, hl, _⟩ => by rw [e]; simp [hl]) fun A outer s H vs Q E hr hsp s1 I => ?_
  obtain ⟨a, ws, rfl, hl, ea, q⟩ := hsp
  obtain ⟨v, rfl⟩ : ∃ v, ws = [v] := by
    match ws, hl with
    | [v], _ => exact ⟨v, rfl⟩
  rw [hbody]
  obtain ⟨t1, hget⟩ := exo_at I.hok ea
  refine ks_wpAt_execs_cons ?_
  refine sup_own (X := ncx CX0 P w K mg base ["self", n1, "__class__"] F f A outer s H E) (C := C) (D := C) (L := s.heap.objs.size) (σ := startF ["self", n1, "__class__"] [.ref a, v] [some (.ref C)]) (Qv := fun _ H' => H' = H) (sp2 := spKe K D0) I rfl SF rfl rfl (S.par _ (by simp)) hm hget rfl (fun c z => nomatch z) hself ho hup ht hfn F0 hr hb0 ⟨a, C, rfl, ea, T, rfl⟩ (fun s' u H' J eH => ?_) (hcc _)
  subst eH
  refine _root_.PySem.wpAt_of_wpAny ?_
  have W : PSs (ncx CX0 P w K mg base ["self", n1, "__class__"] F f A outer s H' E) [.Assign [.Attribute (.Name "self" q1) n1 q2] (.Name n1 q3) q4] (tOst K n1 (tVar 0) (tVar 1)) :=
    pss_one (ps_ost (pe_var rfl (.inl (S.par _ (by simp))) (by decide) (by decide)) (pe_var rfl (.inl (S.par _ (by simp))) hd1 hc1))
  refine W.run [] s' _ H' _ J ?_
  exact ⟨v, rfl, .ref a, rfl, a, C, rfl, T.ox, hn1, .inl ⟨ea, fun d nd ne => q d nd ne⟩⟩
/-- .. with two parameters -/
theorem x_init2 {n1 n2 : Str} {q1 q2 q3 q4 r1 r2 r3 r4 : Pos} (SF : SupFn P K f C F) (S : NScope ["self", n1, n2, "__class__"] ["self", n1, n2] ["__class__"] F.scope)
    (hb : ∀ (doc pm ctv : Value) (us : List Value), us.length = 3 → bindArgs (F.fd doc pm ctv) ⟨us, []⟩ = pure ([("self" : Str), n1, n2].zip us))
    (hbody : F.body = [.Expr (.Call (.Attribute (.Call (.Name "super" p0) [] [] p1) "__init__" p2) [] [] p3) p4, .Assign [.Attribute (.Name "self" q1) n1 q2] (.Name n1 q3) q4, .Assign [.Attribute (.Name "self" r1) n2 r2] (.Name n2 r3) r4]) (hcc : SupTree p0 p1 p2 p3 [] pl)
    (hm : mg "super" = none) (ho : PySem.W.nsIn K cStatics "thirdparty.any" = some none) (T : KeC K D0 C) (hself : PySem.W.mroIn K C (.ref C) = some true) (hup : PySem.W.ks_superIn K C C "__init__" = some (some (.ref f0)))
    (ht : PySem.W.typeIn K (.ref f0) = some (.type "function")) (hfn : PySem.W.fnIn K f0 = true) (hb0 : Binds K fd0 ["self"] []) (F0 : L2.FnOk P w K mg base CX0 1 f0 fd0 ["self"] (spKe K D0))
    (hn1 : PySem.W.findIn K (.ref C) n1 = some none) (hn2 : PySem.W.findIn K (.ref C) n2 = some none) (hd1 : (n1 == ("__debug__" : Str)) = false := by decide) (hc1 : (n1 == ("__classdict__" : Str)) = false := by decide) (hd2 : (n2 == ("__debug__" : Str)) = false := by decide) (hc2 : (n2 == ("__classdict__" : Str)) = false := by decide) :
    ∃ fd, Binds K fd ["self", n1, n2] [] ∧ L2.FnOk P w K mg base CX0 2 f fd ["self", n1, n2] (spX C [n1, n2]) := by
  refine sup_fn SF S hb (fun vs H Q E ⟨a, ws, e, hl, _⟩ => by rw [e]; simp [hl]) fun A outer s H vs Q E hr hsp s1 I => ?_
  obtain ⟨a, ws, rfl, hl, ea, q⟩ := hsp
  obtain ⟨v, u, rfl⟩ : ∃ v u, ws = [v, u] := by
    match ws, hl with
    | [v, u], _ => exact ⟨v, u, rfl⟩
  rw [hbody]
  obtain ⟨t1, hget⟩ := exo_at I.hok ea
  refine ks_wpAt_execs_cons ?_
  refine sup_own (X := ncx CX0 P w K mg base ["self", n1, n2, "__class__"] F f A outer s H E) (C := C) (D := C) (L := s.heap.objs.size) (σ := startF ["self", n1, n2, "__class__"] [.ref a, v, u] [some (.ref C)]) (Qv := fun _ H' => H' = H) (sp2 := spKe K D0) I rfl SF rfl rfl (S.par _ (by simp)) hm hget rfl (fun c z => nomatch z) hself ho hup ht hfn F0 hr hb0 ⟨a, C, rfl, ea, T, rfl⟩ (fun s' z H' J eH => ?_) (hcc _)
  subst eH
  refine _root_.PySem.wpAt_of_wpAny ?_
  have W : PSs (ncx CX0 P w K mg base ["self", n1, n2, "__class__"] F f A outer s H' E) [.Assign [.Attribute (.Name "self" q1) n1 q2] (.Name n1 q3) q4, .Assign [.Attribute (.Name "self" r1) n2 r2] (.Name n2 r3) r4] (tSeq (tOst K n1 (tVar 0) (tVar 1)) (tOst K n2 (tVar 0) (tVar 2))) :=
    pss_cons (ps_ost (pe_var rfl (.inl (S.par _ (by simp))) (by decide) (by decide)) (pe_var rfl (.inl (S.par _ (by simp))) hd1 hc1)) (pss_one (ps_ost (pe_var rfl (.inl (S.par _ (by simp))) (by decide) (by decide)) (pe_var rfl (.inl (S.par _ (by simp))) hd2 hc2)))
  refine W.run [] s' _ H' _ J ?_
  refine ⟨v, rfl, .ref a, rfl, a, C, rfl, T.ox, hn1, .inl ⟨ea, fun d nd ne => ?_⟩⟩
  refine ⟨u, rfl, .ref a, rfl, a, C, rfl, T.ox, hn2, .inr ⟨d, [(n1, v)], upd_same, by rw [upd_ne ne, upd_same], by simp, ?_⟩⟩
  have e : upd (upd (upd H' d (exd d [(n1, v)])) a (exo a C (some d))) d (exd d ((n2, u) :: [(n1, v)])) = upd (upd H' d (exd d ([n1, n2].zip [v, u]).reverse)) a (exo a C (some d)) := by
    funext b
    by_cases hd : b = d
    · rw [hd, upd_same, upd_ne ne, upd_same]; rfl
    · rw [upd_ne hd]
      by_cases ha : b = a
      · rw [ha, upd_same, upd_same]
      · rw [upd_ne ha, upd_ne ha, upd_ne hd, upd_ne hd]
  have q' := q d nd ne
  rw [← e] at q'
  exact q'
end
end Fro

/-! Fro, exceptions: raise, try, what a caught one has. -/
namespace Fro
open PySem PySem.Spec L2 PyProof.Rows NdefX ClX

/-! ### raise -/
/-- the class c stands at C, its __init__ at fI -/
structure XCls (P : Program) (w : World) (K : PySem.W.Frag) (mg : Str → Option Value) (base : Heap) (c : Nat) (C fI : Addr) : Prop where
  gC : mg (xname c) = some (.ref C)
  ns : PySem.W.nsIn K mainGlobals (xname c) = some (some (.ref C))
  ox : OexC K C
  iC : PySem.W.findIn K (.ref C) "__init__" = some (some (.ref fI))
  tI : PySem.W.typeIn K (.ref fI) = some (.type "function")
  F : ∃ fd, Binds K fd ("self" :: xflds c) [] ∧ L2.FnOk P w K mg base CX0 2 fI fd ("self" :: xflds c) (spX C (xflds c))
def cRaise (c : Nat) (a : Den (List W)) : DenS := fun δ S => (a δ S).thenS δ fun ws S1 => match toDs ws with
  | some ds => if ds.length = (xflds c).length then .xc c ds δ S1 else .bad
  | none => .bad
theorem xflds_nodup (c : Nat) : (xflds c).Nodup := by
  unfold xflds
  split <;> decide +kernel
theorem xflds_len (c : Nat) : (xflds c).length ≤ 2 := by
  unfold xflds
  split <;> decide
theorem zipV_look : ∀ {ps : List Str} {us : List V} {i : Nat} {x : Str} {u : V}, ps.Nodup → ps[i]? = some x → us[i]? = some u → (ps.zip us).reverse.lookup x = some u
  | [], _, _, _, _, _, h, _ => by simp at h
  | _ :: _, [], _, _, _, _, _, h => by simp at h
  | p :: ps, v :: us, 0, x, u, nd, h1, h2 => by
    simp at h1 h2
    subst h1
    subst h2
    have hn : (ps.zip us).reverse.lookup p = none := by
      cases e : (ps.zip us).reverse.lookup p with
      | none => rfl
      | some w => exact absurd (List.of_mem_zip (List.mem_reverse.mp (PySem.mem_of_lookup e))).1 (List.nodup_cons.mp nd).1
    rw [List.zip_cons_cons, List.reverse_cons, List.lookup_append, hn]
    simp [List.lookup]
  | p :: ps, v :: us, i + 1, x, u, nd, h1, h2 => by
    have e : (ps.zip us).reverse.lookup x = some u := zipV_look (i := i) (List.nodup_cons.mp nd).2 (by simpa using h1) (by simpa using h2)
    rw [List.zip_cons_cons, List.reverse_cons, List.lookup_append, e] <;> rfl
section
variable {X : Cx} {Wx : WX}
theorem ds_raise {c : Nat} {C fI : Addr} {x : Str} {e : Expr} {es : List Expr} {p pos pos' : Pos} {a : Den (List W)} (T : XCls X.prog X.w X.K X.mg X.base c C fI) (hr : Room 3 X.A) (tk : Takes X Wx) (hc : X.calm = true) (ha : PA X (e :: es) (tA X.K (XPW X.K Wx) a)) (hx : xname c = x := by rfl) (hg : Gl X x := by rfl)
    (hdb : (x == ("__debug__" : Str)) = false := by decide) (he : starEach (e :: es) X.env = (false, eval e X.env) :: starEach es X.env := by rfl) (hpl : (backTo pos (starEach es X.env)).any (·.1) = false := by rfl) :
    PS X (.Raise (some (.Call (.Name x p) (e :: es) [] pos)) none pos') (tS X.K (XPW X.K Wx) (cRaise c a)) := by
  subst hx
  obtain ⟨fd, hb, F⟩ := T.F
  refine ps_mono (ps_raise hc tk (pmk_oex (dvs := []) (ds := []) T.ox T.iC T.tI F hr.r hb .nil (fun _ _ _ _ _ _ _ z => z.elim) hg T.gC ha hdb he hpl)) fun D' σ H ⟨δ, ρ, S, st, so, p⟩ => ?_
  refine tG_thenS st so p fun ws S1 vs ρ1 H1 f1 st1 so1 r1 p1 => ?_
  cases q : toDs ws with
  | none => simp only [q] at p1; exact p1.elim
  | some ds =>
    simp only [q] at p1
    by_cases hl : ds.length = (xflds c).length
    · rw [if_pos hl] at p1
      have rl := toDs_rp r1 q
      have hv : vs.length = (xflds c).length := by rw [← rl.length]; exact hl
      refine ⟨by rw [hv]; exact Nat.le_trans (xflds_len c) (by decide), fun b nb => ?_⟩
      refine ⟨b, vs ++ [], rfl, by rw [List.append_nil]; exact hv, upd_same, fun d nd ne => ⟨rfl, d, ((xflds c).zip vs).reverse, upd_same, ?_, ?_, ?_⟩⟩
      · rw [upd_ne ne, upd_same, List.append_nil]
      · rw [upd_ne ne] at nd; exact nd
      · rw [upd_ne ne] at nd
        rw [List.append_nil]
        have eH : upd (del (upd (upd (upd H1 b (exo b C none)) d (exd d ((xflds c).zip vs).reverse)) b (exo b C (some d))) b) d (.xd ((xflds c).zip vs).reverse) = upd H1 d (.xd ((xflds c).zip vs).reverse) := by
          funext y
          by_cases hd : y = d
          · rw [hd, upd_same, upd_same]
          · rw [upd_ne hd, upd_ne hd]
            by_cases hb' : y = b
            · rw [hb', del_same, nb]
            · rw [del_ne hb', upd_ne hb', upd_ne hd, upd_ne hb']
        rw [eH]
        have fw : Fwd ρ1 S1 H1 ρ1 S1 (upd H1 d (.xd ((xflds c).zip vs).reverse)) := Fwd.laid so1 nd
        refine p1 σ ρ1 H1 Fwd.refl so1 st1 C d _ fw (so1.laid nd) ⟨T.ns, so1.notNone nd, _, upd_same, fun k n u h1 h2 => ?_⟩
        obtain ⟨v, hv1, hv2⟩ := rl.get k h2
        exact ⟨v, zipV_look (xflds_nodup c) h1 hv1, fw.rp hv2⟩
    · rw [if_neg hl] at p1; exact p1.elim
end

/-! ### what is caught -/
section
variable {X : Cx} {pins : List (Addr × Obj)} {σ : L2.St} {H : Hp} {s : Shared} {a C d : Addr}
/-- the context of an except suite -/
abbrev suT (X : Cx) (a : Addr) (pn : List (Addr × Obj)) : Cx := { X with A := X.A.mark (some (.ref a)), calm := false, pn := pn, xe := fun _ _ => False }
theorem xob_ok {P : Program} {w : World} {h : Heap} {oe : Obj} {vs : Array Value} (he : h.get? a = some oe) (h1 : oe.cls = .ref C) (h2 : oe.dict = some d) (h3 : oe.data = .fields vs) : ObjOk P w H h a (xob a C d) :=
  ⟨⟨oe, vs, he, h1, h2, h3⟩, ⟨oe, he⟩, fun g1 g2 ⟨o, us, e, q1, q2, q3⟩ k => ⟨o, us, k _ e, q1, q2, q3⟩⟩
theorem xob_at {P : Program} {w : World} {h : Heap} (hok : HOk P w H h) (e : H a = some (xob a C d)) : ∃ (oe : Obj) (vs : Array Value), h.get? a = some oe ∧ oe.cls = .ref C ∧ oe.dict = some d ∧ oe.data = .fields vs := (hok a _ e).1
theorem xob_own {x : Addr} : xob a C d ≠ .own x := fun z => by
  have z' : HO.ext _ = HO.own x := z
  cases z'
/-- an exception that is caught is tracked from here on -/
theorem inv_caught (I : Inv X pins σ H s) {oe : Obj} {vs : Array Value} (he : s.heap.get? a = some oe) (h1 : oe.cls = .ref C) (h2 : oe.dict = some d) (h3 : oe.data = .fields vs) (na : H a = none) (n0 : X.s_0.heap.get? a = none) (nL : a ≠ X.env.locals) (np : ∀ p ∈ X.pn ++ pins, p.1 ≠ a) :
    Inv (suT X a (X.pn ++ pins)) [] σ (upd H a (xob a C d)) s := by
  have ne0 : ∀ {b : Addr} {o : Obj}, X.s_0.heap.get? b = some o → b ≠ a := fun {b o} e z => by rw [z, n0] at e; cases e
  have neH : ∀ {b : Addr} {o : HO}, H b = some o → b ≠ a := fun {b o} e z => by rw [z, na] at e; cases e
  refine ⟨⟨I.ok.mod, I.ok.kind, I.ok.glob, I.ok.blt, I.ok.above, I.ok.inj, I.ok.has, I.ok.cab, (fun z => absurd (show false = true from z) Bool.false_ne_true), I.ok.frames, I.ok.stk, I.ok.exf, I.ok.bs, I.ok.bsz, I.ok.noex, I.ok.exfs, I.ok.funs, I.ok.frf⟩, I.os, I.bare,
    ⟨I.base.keep, I.base.slot, fun b o e n x => by rw [upd_ne (ne0 e)]; exact I.base.free b o e n x, I.base.there, fun b xs e => ?_, fun b o xs e => ?_, fun b ps e => ?_⟩, I.loc, I.cell, ?_, fun x c e => ?_, fun p hp => ?_, fun b o e => ?_, I.len⟩
  · have q := I.base.tups b xs e
    rw [upd_ne (neH q)]; exact q
  · have q := I.base.frzs b o xs e
    rw [upd_ne (neH q)]; exact q
  · obtain ⟨more, q⟩ := I.base.tbls b ps e
    exact ⟨more, by rw [upd_ne (neH q)]; exact q⟩
  · rw [upd_ne (Ne.symm nL)]; exact I.free
  · have nc : c ≠ a := fun z => by
      obtain ⟨v, o, ho, hd⟩ := I.cell x c e
      rw [z, he] at ho
      cases ho
      rw [h3] at hd; cases hd
    rw [upd_ne nc]; exact I.freeC x c e
  · have hp' : p ∈ X.pn ++ pins := by simpa using hp
    obtain ⟨e, n, q⟩ := I.pin p hp'
    exact ⟨e, by rw [upd_ne (np p hp')]; exact n, q⟩
  · by_cases hb : b = a
    · subst hb
      rw [upd_same] at e
      cases e
      exact xob_ok he h1 h2 h3
    · rw [upd_ne hb] at e
      exact (I.hok b o e).stay (fun _ _ _ z => z) (fun c hc => by rw [upd_ne (neH hc)]; exact hc) (fun c xs hc => by rw [upd_ne (neH hc)]; exact hc)
theorem inv_uncaught {a : Addr} {pn' : List (Addr × Obj)} (I : Inv (suT X a (X.pn ++ pins)) pn' σ H s) (ok : X.Ok) : Inv X pins σ H s :=
  ⟨ok, I.os, I.bare, I.base, I.loc, I.cell, I.free, I.freeC, fun p hp => I.pin p (List.mem_append_left _ hp), I.hok, I.len⟩
end

/-! ### try .. except .., several clauses, with names or without -/
abbrev Hd := Value × Option Nat × TS
def endsAs (i : Option Nat) (D : Ends) : Ends := match i with
  | none => D
  | some i => { nx := fun σ' H' => D.nx (σ'.set i none) H', rt := D.rt, bk := fun σ' H' => D.bk (σ'.set i none) H', ct := fun σ' H' => D.ct (σ'.set i none) H' }
def setAs (i : Option Nat) (σ : L2.St) (a : Addr) : L2.St := match i with
  | none => σ
  | some i => σ.set i (some (.ref a))
/-- what the clauses wish of an exception of the body -/
def wT (K : PySem.W.Frag) (Wout : WX) (D : Ends) : List Hd → WX
  | [] => Wout
  | (c, i, ts) :: r => fun cls d σ H => ∃ b, PySem.W.exmOne K cls c = some b ∧ (b = true → ∃ C dd, cls = .ref C ∧ d = some dd ∧ ∀ a, H a = none → ts (endsAs i D) (setAs i σ a) (upd H a (xob a C dd))) ∧ (b = false → wT K Wout D r cls d σ H)
inductive HsOk (X : Cx) : List ExceptHandler → List Hd → Prop
  | nil : HsOk X [] []
  | plain {x : Str} {c : Value} {ts : TS} {b₀ : Stmt} {suite : List Stmt} {np pos' : Pos} {hds : List ExceptHandler} {l : List Hd} (hc : Names X x c)
      (hsu : ∀ (a : Addr) (pn : List (Addr × Obj)), PSs (suT X a pn) (b₀ :: suite) ts) (r : HsOk X hds l) :
      HsOk X (.ExceptHandler (some (.Name x np)) none (b₀ :: suite) pos' :: hds) ((c, none, ts) :: l)
  | as_ {x n : Str} {i : Nat} {c : Value} {ts : TS} {b₀ : Stmt} {suite : List Stmt} {np pos' : Pos} {hds : List ExceptHandler} {l : List Hd} (hc : Names X x c) (hN : X.N.Nodup) (hi : X.N[i]? = some n) (hln : X.env.kindOf n = some .local)
      (hsu : ∀ (a : Addr) (pn : List (Addr × Obj)), PSs (suT X a pn) (b₀ :: suite) ts) (r : HsOk X hds l) :
      HsOk X (.ExceptHandler (some (.Name x np)) (some n) (b₀ :: suite) pos' :: hds) ((c, some i, ts) :: l)
section
variable {X : Cx} {body : List Stmt} {h₀ : ExceptHandler} {hds : List ExceptHandler} {l : List Hd} {pos : Pos} {tb : WX → TS} {Wout : WX}
theorem ps_tryT (hs : X.stack = X.env :: X.outer) (hf : X.env.frame = some X.env.locals) (hex : X.ex = []) (tk : Takes X Wout)
    (hb : ∀ (W : WX) (pn : List (Addr × Obj)) (xe : Value → Shared → Prop), Takes (X.tr pn xe) W → PassesOwn (model X.prog X.w) X.A X.env xe → PSs (X.tr pn xe) body (tb W))
    (hh : HsOk X (h₀ :: hds) l) : PS X (.Try body (h₀ :: hds) [] [] pos) (fun D σ H => tb (wT X.K Wout D l) D σ H) := by
  refine ⟨fun pins s σ H D I h => ?_⟩
  have ok := I.ok
  have hfr : X.A.frames = some (X.env :: X.outer) := by rw [ok.frames, hs]
  refine wpAny_Try_except ?_
  refine wpAny_mono ((hb (wT X.K Wout D l) (X.pn ++ pins) (fun e s₁ => wpAny (model X.prog X.w) X.A (noteFrame e X.env) (fun _ s₂ => wpAny (model X.prog X.w) X.A (setFlight e none) (fun _ s₃ =>
    wpAny (model X.prog X.w) X.A (handleBy e X.env (h₀ :: hds)) (SP X pins D) X.xe s₃) X.xe s₂) X.xe s₁) (fun u s' xx => ?_) PassesOwn.looking).run [] s σ H D (I.toTry _) h) (fun f s1 hsp => ?_) (fun e s1 he => he)
  · -- the catch
    obtain ⟨a, B, sI, pins', σ', H', cls, d, rfl, J', nb, up, sky, na, os, ag, w⟩ := xx
    have J : Inv X pins σ' H' sI := J'.ofTry ok
    have sky' : Sky B (X.env :: X.outer) a (Zc cls d) X.env.locals s'.heap := by rw [← hs]; exact sky
    show wpAny (model X.prog X.w) X.A (noteFrame (.ref a) X.env) _ _ _
    refine Sky.land Zc.steady hfr hf sky' fun h3 fl3 up3 => ?_
    have J3 : Inv X pins σ' H' { s' with heap := h3 } := J.landed nb fl3.1 (up.trans up3) os ag
    obtain ⟨oe3, vs3, he3, hz3, hd3⟩ := fl3.there
    have Bn : B.get? a = none := fl3.2.1
    have notFr : ∀ {h : Heap} {o : Obj} {vs : Array Value}, h.FunFrames B (X.env :: X.outer) → h.get? a = some o → o.data = .fields vs → a ∉ frs (X.env :: X.outer) := fun {h o vs} ff e dd hm => by
      obtain ⟨_, o', e', hnf⟩ := ff.mem hm
      rw [e] at e'; cases e'
      exact hnf _ dd
    have nfr := notFr fl3.2.2.1 he3 hd3
    have nL : a ≠ X.env.locals := fun z => nfr (List.mem_filterMap.mpr ⟨X.env, List.mem_cons_self, by rw [hf, z]⟩)
    have nF : a ∉ X.fs := fun hm => by
      obtain ⟨e, he, q⟩ := List.mem_filterMap.mp hm
      exact nfr (List.mem_filterMap.mpr ⟨e, List.mem_cons_of_mem _ he, q⟩)
    have notSI : ∀ {o : Obj}, sI.heap.get? a ≠ some o := fun {o} e => by
      have z := nb a o e (by rw [hs]; exact nfr)
      rw [Bn] at z; cases z
    have n0 : X.s_0.heap.get? a = none := by
      cases e : X.s_0.heap.get? a with
      | none => rfl
      | some o =>
        obtain ⟨o', z⟩ := J.base.there a o e (by rw [hex]; simp)
        exact absurd z notSI
    have np : ∀ p ∈ X.pn ++ pins, p.1 ≠ a := fun p hp z => by
      obtain ⟨e, _⟩ := J.pin p hp
      rw [z] at e
      exact notSI e
    have go : ∀ {hds' : List ExceptHandler} {l' : List Hd}, HsOk X hds' l' → wT X.K Wout D l' cls d σ' H' →
        wpAny (model X.prog X.w) X.A (handleBy (.ref a) X.env hds') (SP X pins D) X.xe { s' with heap := h3 } := by
      intro hds' l' hk
      have test : ∀ {x : Str} {c : Value} {np' : Pos} {Q : Value → Shared → Prop} {E : Value → Shared → Prop}, Names X x c → Q c { s' with heap := h3 } → wpAny (model X.prog X.w) (X.A.mark (some (.ref a))) (eval (.Name x np') X.env) Q E { s' with heap := h3 } := fun {x c np' Q E} hc q => by
        obtain ⟨hg, hdbg, hm | ⟨hm, hv, hnn⟩⟩ := hc
        · exact ld_glob (X := X.suite a ((a, oe3) :: (X.pn ++ pins))) (J3.suite he3 hd3 na nL nF) hg hm q hdbg
        · exact ld_blt (X := X.suite a ((a, oe3) :: (X.pn ++ pins))) (J3.suite he3 hd3 na nL nF) hg hm hv q hnn hdbg
      have LT : PySem.W.Looks (model X.prog X.w) h3 (typeOf (.ref a)) cls := fun A Q E s k q => wpAny_typeOf_ref (k _ _ he3) (by rw [hz3.1]; exact q)
      induction hk with
      | nil =>
        intro w
        refine wpAny_handleBy_nil ?_
        obtain ⟨k1, k2, k3, oe, vs, T, oT, ts', he, hz, hd, h1, hr⟩ := id fl3
        unfold PySem.passOn
        refine wpAny_bind (wpAny_field he hd h1 ?_)
        rw [if_neg (show ¬ ((Value.ref T == Value.none) = true) from by simp)]
        have fin : wpAny (model X.prog X.w) X.A (setFlight (.ref a) X.env.frame) (fun _ s4 => wpAny (model X.prog X.w) X.A (throw (.ref a) : Sem Flow) (SP X pins D) X.xe s4) X.xe { s' with heap := h3 } := by
          rw [hf]
          refine HandSPX.setFlight_upZ fl3 fun h4 hh4 up4 => wpAny_throw (tk _ _ ?_)
          exact ⟨a, B, sI, pins, σ', H', cls, d, rfl, J, nb, (up.trans up3).trans up4, .inr (.inr (by rw [hs]; exact hh4)), na, os, ag, w⟩
        first
          | exact wpAny_bind (wpAny_pure (wpAny_bind fin))
          | exact wpAny_bind fin
      | @plain x c ts b₀ suite np' pos' hds2 l2 hc hsu r ih =>
        intro w
        obtain ⟨b, hb1, hyes, hno⟩ := w
        refine wpAny_handleBy_cons (codeAny_handlers_test ?_) (by intro q; cases q)
        have LM := PySem.W.exm_one (M := model X.prog X.w) (J3.kIn) LT hb1
        refine test hc (LM.here ?_)
        cases b with
        | true =>
          obtain ⟨C, dd, rfl, rfl, hq⟩ := hyes rfl
          refine codeAny_handlers_suite ?_
          refine HandSPX.lands_againZ fl3 fun h4 fl4 up4 => ?_
          have J4 : Inv X pins σ' H' { s' with heap := h4 } := J.landed nb fl4.1 ((up.trans up3).trans up4) os ag
          obtain ⟨oe4, vs4, he4, hz4, hd4⟩ := fl4.there
          have S4 := inv_caught J4 he4 hz4.1 hz4.2 hd4 na n0 nL np
          refine wpAny_mono ((hsu a (X.pn ++ pins)).run [] _ _ _ _ S4 (hq a na)) (fun f s6 hsp => ?_) (fun _ _ z => False.elim z)
          cases f with
          | next =>
            obtain ⟨σ6, H6, S6, q6⟩ := hsp
            exact ⟨_, _, inv_uncaught S6 ok, q6⟩
          | brk =>
            obtain ⟨σ6, H6, S6, q6⟩ := hsp
            exact ⟨_, _, inv_uncaught S6 ok, q6⟩
          | cont =>
            obtain ⟨σ6, H6, S6, q6⟩ := hsp
            exact ⟨_, _, inv_uncaught S6 ok, q6⟩
          | ret u =>
            obtain ⟨v6, σ6, H6, S6, r6, q6⟩ := hsp
            exact ⟨_, _, _, inv_uncaught S6 ok, r6, q6⟩
        | false =>
          show wpAny _ X.A (handleBy (.ref a) X.env hds2) _ _ _
          exact ih (hno rfl)
      | @as_ x n i c ts b₀ suite np' pos' hds2 l2 hc hN hi hln hsu r ih =>
        intro w
        obtain ⟨b, hb1, hyes, hno⟩ := w
        refine wpAny_handleBy_cons (codeAny_handlers_test ?_) (by intro q; cases q)
        have LM := PySem.W.exm_one (M := model X.prog X.w) (J3.kIn) LT hb1
        refine test hc (LM.here ?_)
        cases b with
        | true =>
          obtain ⟨C, dd, rfl, rfl, hq⟩ := hyes rfl
          refine codeAny_handlers_suite_as ?_
          refine HandSPX.lands_againZ fl3 fun h4 fl4 up4 => ?_
          have J4 : Inv X pins σ' H' { s' with heap := h4 } := J.landed nb fl4.1 ((up.trans up3).trans up4) os ag
          obtain ⟨oe4, vs4, he4, hz4, hd4⟩ := fl4.there
          have S4 := inv_caught J4 he4 hz4.1 hz4.2 hd4 na n0 nL np
          refine store_ok (X := suT X a (X.pn ++ pins)) (v := .ref a) S4 hN hi (.inl hln) rfl (fun s5 S5 => ?_) (.inr hln)
          refine wpAny_mono ((hsu a (X.pn ++ pins)).run [] s5 _ _ _ S5 (hq a na)) (fun f s6 hsp => ?_) (fun _ _ z => False.elim z)
          have end_ : ∀ {σ6 : L2.St} {H6 : Hp} {Q : Shared → Prop}, Inv (suT X a (X.pn ++ pins)) [] σ6 H6 s6 → (∀ s7, Inv X pins (σ6.set i none) H6 s7 → Q s7) →
              wpAny (model X.prog X.w) X.A (do bindName X.env n .none; unbindBehindTheSuite X.env n pos') (fun _ s7 => Q s7) X.xe s6 := fun {σ6 H6 Q} S6 hq => gone_ok (inv_uncaught S6 ok) hN hi hln hq
          cases f with
          | next =>
            obtain ⟨σ6, H6, S6, q6⟩ := hsp
            exact end_ S6 fun s7 J7 => ⟨_, _, J7, q6⟩
          | brk =>
            obtain ⟨σ6, H6, S6, q6⟩ := hsp
            exact end_ S6 fun s7 J7 => ⟨_, _, J7, q6⟩
          | cont =>
            obtain ⟨σ6, H6, S6, q6⟩ := hsp
            exact end_ S6 fun s7 J7 => ⟨_, _, J7, q6⟩
          | ret u =>
            obtain ⟨v6, σ6, H6, S6, r6, q6⟩ := hsp
            exact end_ S6 fun s7 J7 => ⟨_, _, _, J7, r6, q6⟩
        | false =>
          show wpAny _ X.A (handleBy (.ref a) X.env hds2) _ _ _
          exact ih (hno rfl)
    exact go hh w
  · cases f with
    | next =>
      obtain ⟨σ', H', J', q⟩ := hsp
      exact wpAny_execs_nil ⟨σ', H', J'.ofTry ok, q⟩
    | brk =>
      obtain ⟨σ', H', J', q⟩ := hsp
      exact ⟨σ', H', J'.ofTry ok, q⟩
    | cont =>
      obtain ⟨σ', H', J', q⟩ := hsp
      exact ⟨σ', H', J'.ofTry ok, q⟩
    | ret u =>
      obtain ⟨v, σ', H', J', r, q⟩ := hsp
      exact ⟨v, σ', H', J'.ofTry ok, r, q⟩
end
end Fro

namespace Fro
open PySem PySem.Spec L2 PyProof.Rows NdefX ClX

/-- is the class c under the class h -/
def subx (c h : Nat) : Bool := h == 0 || c == h
/-- behind an except suite -/
def outS (i : Option Nat) (r : RS) : RS := match r with
  | .nx δ S => .nx (match i with | some i => δ.set i none | none => δ) S
  | .bk δ S => .bk (match i with | some i => δ.set i none | none => δ) S
  | .ct δ S => .ct (match i with | some i => δ.set i none | none => δ) S
  | .rt w S => .rt w S
  | _ => .bad
def inS (i : Option Nat) (c : Nat) (ds : List D) (δ : Slots) : Slots := match i with
  | some i => δ.set i (some (.x c ds))
  | none => δ
def hand : List (Nat × Option Nat × DenS) → Nat → List D → Slots → Sto → RS
  | [], c, ds, δ, S => .xc c ds δ S
  | (h, i, su) :: r, c, ds, δ, S => if subx c h then outS i (su (inS i c ds δ) S) else hand r c ds δ S
def cTry (body : DenS) (hs : List (Nat × Option Nat × DenS)) : DenS := fun δ S => match body δ S with
  | .xc c ds δ' S' => hand hs c ds δ' S'
  | r => r
/-- the clause's class: what it takes -/
def XM (K : PySem.W.Frag) (h : Nat) (c : Value) : Prop := ∀ (k : Nat) (C : Addr), PySem.W.nsIn K mainGlobals (xname k) = some (some (.ref C)) → PySem.W.exmOne K (.ref C) c = some (subx k h)
inductive HdD (X : Cx) : List ExceptHandler → List Hd → List (Nat × Option Nat × DenS) → Prop
  | nil : HdD X [] [] []
  | plain {x : Str} {c : Value} {h : Nat} {su : DenS} {b₀ : Stmt} {suite : List Stmt} {np pos' : Pos} {hds : List ExceptHandler} {l : List Hd} {m : List (Nat × Option Nat × DenS)} (xm : XM X.K h c) (hc : X.mg x = some c)
      (hsu : ∀ (a : Addr) (pn : List (Addr × Obj)), PSs (suT X a pn) (b₀ :: suite) (tS X.K XP0 su)) (r : HdD X hds l m) (hg : Gl X x := by rfl) (hd : (x == ("__debug__" : Str)) = false := by decide) :
      HdD X (.ExceptHandler (some (.Name x np)) none (b₀ :: suite) pos' :: hds) ((c, none, tS X.K XP0 su) :: l) ((h, none, su) :: m)
  | as_ {x n : Str} (i : Nat) {c : Value} {h : Nat} {su : DenS} {b₀ : Stmt} {suite : List Stmt} {np pos' : Pos} {hds : List ExceptHandler} {l : List Hd} {m : List (Nat × Option Nat × DenS)} (xm : XM X.K h c) (hc : X.mg x = some c) (hN : X.N.Nodup)
      (hsu : ∀ (a : Addr) (pn : List (Addr × Obj)), PSs (suT X a pn) (b₀ :: suite) (tS X.K XP0 su)) (r : HdD X hds l m) (hi : X.N[i]? = some n := by rfl) (hln : X.env.kindOf n = some .local := by rfl) (hg : Gl X x := by rfl) (hd : (x == ("__debug__" : Str)) = false := by decide) :
      HdD X (.ExceptHandler (some (.Name x np)) (some n) (b₀ :: suite) pos' :: hds) ((c, some i, tS X.K XP0 su) :: l) ((h, some i, su) :: m)
theorem HdD.ok {X : Cx} {hds : List ExceptHandler} {l : List Hd} {m : List (Nat × Option Nat × DenS)} (h : HdD X hds l m) : HsOk X hds l := by
  induction h with
  | nil => exact .nil
  | plain xm hc hsu r hg hd ih => exact .plain ⟨hg, hd, .inl hc⟩ hsu ih
  | as_ i xm hc hN hsu r hi hln hg hd ih => exact .as_ ⟨hg, hd, .inl hc⟩ hN hi hln hsu ih
theorem st_unset {K : PySem.W.Frag} {ρ : List Addr} {S : Sto} {H : Hp} {δ : Slots} {σ : L2.St} (st : RpSt K ρ S H δ σ) (i : Nat) : RpSt K ρ S H (δ.set i none) (σ.set i none) := by
  refine ⟨by rw [List.length_set, List.length_set]; exact st.1, fun j w e => ?_⟩
  by_cases hj : i = j
  · subst hj
    by_cases hl : i < δ.length
    · rw [List.getElem?_set_self hl] at e; cases e
    · rw [List.getElem?_eq_none (by rw [List.length_set]; omega)] at e; cases e
  · rw [List.getElem?_set_ne hj] at e ⊢
    exact st.2 j w e
theorem out_post {K : PySem.W.Frag} {ρ : List Addr} {S : Sto} {H : Hp} {i : Option Nat} {r : RS} {D' : Ends} {E : XP} (p : PostS K ρ S H (outS i r) D' E) : PostS K ρ S H r (endsAs i D') XP0 := by
  cases i with
  | none =>
    cases r with
    | nx δ S' => exact p
    | bk δ S' => exact p
    | ct δ S' => exact p
    | rt w S' => exact p
    | xc c ds δ S' => exact p.elim
    | bad => exact p
  | some i =>
    cases r with
    | nx δ S' => exact fun σ ρ' H' f so st => p _ ρ' H' f so (st_unset st i)
    | bk δ S' => exact fun σ ρ' H' f so st => p _ ρ' H' f so (st_unset st i)
    | ct δ S' => exact fun σ ρ' H' f so st => p _ ρ' H' f so (st_unset st i)
    | rt w S' => exact p
    | xc c ds δ S' => exact p.elim
    | bad => exact p
theorem hand_wish {X : Cx} {hds : List ExceptHandler} {l : List Hd} {m : List (Nat × Option Nat × DenS)} (hh : HdD X hds l m) {Wx : WX} {ρ : List Addr} {S : Sto} {H : Hp} {c : Nat} {ds : List D} {δ : Slots} {σ : L2.St} {D' : Ends} {C d : Addr} (st : RpSt X.K ρ S H δ σ) (so : Sok X.K ρ S H) (xr : XRep X.K ρ S H c ds C d)
    (p : PostS X.K ρ S H (hand m c ds δ S) D' (XPW X.K Wx)) : wT X.K Wx D' l (.ref C) (some d) σ H := by
  induction hh with
  | nil => exact p σ ρ H Fwd.refl so st C d H Fwd.refl so xr
  | @plain x cv h su b₀ suite np pos' hds l m xm hc hsu r hg hd ih =>
    refine ⟨subx c h, xm c C xr.cls, fun e => ⟨C, d, rfl, rfl, fun a na => ?_⟩, fun e => ?_⟩
    · unfold hand at p
      rw [if_pos e] at p
      have fw : Fwd ρ S H ρ S (upd H a (xob a C d)) := Fwd.laid so na
      exact ⟨δ, ρ, S, fw.st st, so.laid na, PostS.later fw (out_post p)⟩
    · unfold hand at p
      rw [if_neg (by rw [e]; decide)] at p
      exact ih p
  | @as_ x n i cv h su b₀ suite np pos' hds l m xm hc hN hsu r hi hln hg hd ih =>
    refine ⟨subx c h, xm c C xr.cls, fun e => ⟨C, d, rfl, rfl, fun a na => ?_⟩, fun e => ?_⟩
    · unfold hand at p
      rw [if_pos e] at p
      have fw : Fwd ρ S H ρ S (upd H a (xob a C d)) := Fwd.laid so na
      exact ⟨δ.set i (some (.x c ds)), ρ, S, (fw.st st).set i ⟨a, C, d, rfl, upd_same, so.notNone na, xr.fwd fw⟩, so.laid na, PostS.later fw (out_post p)⟩
    · unfold hand at p
      rw [if_neg (by rw [e]; decide)] at p
      exact ih p
section
variable {X : Cx} {Wx : WX}
theorem ds_try {body : List Stmt} {h₀ : ExceptHandler} {hds : List ExceptHandler} {l : List Hd} {m : List (Nat × Option Nat × DenS)} {pos : Pos} {b : DenS} (tk : Takes X Wx)
    (hb : ∀ (W' : WX) (pn : List (Addr × Obj)) (xe : Value → Shared → Prop), Takes (X.tr pn xe) W' → PassesOwn (model X.prog X.w) X.A X.env xe → PSs (X.tr pn xe) body (tS X.K (XPW X.K W') b))
    (hh : HdD X (h₀ :: hds) l m) (hs : X.stack = X.env :: X.outer := by rfl) (hf : X.env.frame = some X.env.locals := by rfl) (hex : X.ex = [] := by rfl) : PS X (.Try body (h₀ :: hds) [] [] pos) (tS X.K (XPW X.K Wx) (cTry b m)) := by
  refine ps_mono (ps_tryT (tb := fun W' => tS X.K (XPW X.K W') b) hs hf hex tk hb hh.ok) fun D' σ H ⟨δ, ρ, S, st, so, p⟩ => ?_
  refine ⟨δ, ρ, S, st, so, ?_⟩
  unfold cTry at p
  cases q : b δ S with
  | nx δ' S' => simp only [q] at p; exact p
  | rt δ' S' => simp only [q] at p; exact p
  | bk δ' S' => simp only [q] at p; exact p
  | ct δ' S' => simp only [q] at p; exact p
  | bad => simp only [q] at p; exact p
  | xc c ds δ' S' =>
    simp only [q] at p
    exact fun σ' ρ' H' f so' st' C d H2 f2 so2 xr => hand_wish hh (f2.st st') so2 xr (PostS.later (f.trans f2) p)
/-! ### e.f -/
/-- what is read of the classes -/
structure XRead (K : PySem.W.Frag) (c : Nat) (C : Addr) : Prop where
  xf : XfC K C
  no : ∀ n, n ∈ xflds c → PySem.W.findIn K (.ref C) n = some none
def XReads (K : PySem.W.Frag) : Prop := ∀ (c : Nat) (C : Addr), PySem.W.nsIn K mainGlobals (xname c) = some (some (.ref C)) → XRead K c C
def apXat (n : Str) (w : W) (S : Sto) : R W := match w with
  | .x c ds => match (xflds c).findIdx? (· == n) with
    | some k => match ds[k]? with
      | some d => .ok (.v d) S
      | none => .bad
    | none => .bad
  | _ => .bad
def cXat (n : Str) (a : Den W) : Den W := fun δ S => (a δ S).bind fun w S1 => apXat n w S1
theorem de_xat {E : XP} {e : Expr} {n : Str} {pos : Pos} {a : Den W} (R : XReads X.K) (h : PE X e (tE X.K E a)) (hb : attributeBase e n X.env (eval e X.env) = eval e X.env := by rfl) : PE X (.Attribute e n pos) (tE X.K E (cXat n a)) := by
  refine ⟨fun pins s σ H Q I ⟨δ, ρ, S, st, so, p⟩ => ?_⟩
  refine attr_of hb (thn (h.run pins s σ H (fun v H1 => ∃ w ρ1 S1, Sok X.K ρ1 S1 H1 ∧ RpW X.K ρ1 S1 H1 w v ∧ Post X.K (RpW X.K) ρ1 S1 H1 (apXat n w S1) Q (E σ)) I ?_) fun u s1 hh => ?_)
  · exact tG_then st so p fun w S1 v ρ1 H1 f1 st1 so1 r1 p1 => ⟨w, ρ1, S1, so1, r1, p1⟩
  · obtain ⟨x, H1, I1, rx, w, ρ1, S1, so1, rw1, p1⟩ := hh
    cases w with
    | v d => exact p1.elim
    | r i => exact p1.elim
    | s ns => exact p1.elim
    | lk es => exact p1.elim
    | x c ds =>
      obtain ⟨b, C, d, rfl, eb, nb, xr⟩ := rw1
      obtain rfl : u = Value.ref b := rx
      unfold apXat at p1
      cases q : (xflds c).findIdx? (· == n) with
      | none => simp only [q] at p1; exact p1.elim
      | some k =>
        simp only [q] at p1
        cases qd : ds[k]? with
        | none => simp only [qd] at p1; exact p1.elim
        | some dk =>
          simp only [qd] at p1
          obtain ⟨hk, hn⟩ : (xflds c)[k]? = some n ∧ n ∈ xflds c := by
            obtain ⟨hlt, hp, _⟩ := List.findIdx?_eq_some_iff_getElem.mp q
            have : (xflds c)[k] = n := by simpa using hp
            exact ⟨by rw [List.getElem?_eq_getElem hlt, this], this ▸ List.getElem_mem hlt⟩
          obtain ⟨vfs, ed, hv⟩ := xr.at_
          obtain ⟨v, lv, rv⟩ := hv k n dk hk qd
          have T := R c C xr.cls
          obtain ⟨oe, vs, ho, h1, h2, h3⟩ := xob_at I1.hok eb
          have hx : ObjOk X.prog X.w H1 s1.heap d (.xd vfs) := I1.hok d _ ed
          obtain ⟨mA, hns, hr⟩ := hx
          obtain ⟨od, hod, hl⟩ := lookIn_ns hns
          obtain ⟨u, hu, ru⟩ := RelO.some_of (v := v) (o := mA n) (by rw [← lv]; exact hr n)
          have J : PySem.W.InstAt s1.heap b oe C (some od) := ⟨ho, h1, by unfold PySem.W.notCls; rw [h3] <;> rfl, by rw [h2]; exact hod⟩
          exact HandSPX.exc_get I1.kIn J T.xf.ga T.xf.gg T.xf.exC (PySem.W.findObj_own T.xf.hdC (T.no n hn) rfl (by rw [hl, hu])) (handed_of ru) ⟨v, H1, I1.tok _, ru, p1 v ρ1 H1 Fwd.refl so1 rv⟩
end
end Fro

/-! Fro, exceptions: what the head's facts give. -/
namespace Fro
open PySem PySem.Spec L2 PyProof.Rows NdefX ClX

/-- the first statement of a class -/
def clsStm (s : Stmt) : Stmt := match s with
  | .ClassDef _ _ _ b _ _ _ _ _ _ _ => b.headD (.Pass ⟨0, 0, 0, 0⟩)
  | s => s
abbrev nfI (st : Stmt) (qual : Str) (cc cd : Addr) : NF := ⟨"__init__", qual, defArgs st, defBody st, defScope st, [("__class__", cc)], cd⟩
def fileB (P : Program) (K : PySem.W.Frag) (cd : Addr) : Bool := match K.lookup cd with
  | some ⟨_, _, .fields vs, _⟩ => (match (vs[2]? : Option Value) with
    | some (.str fl _) => (P.main.file : Str) == fl
    | _ => false)
  | _ => false
def cellB (K : PySem.W.Frag) (cc D : Addr) : Bool := match K.lookup cc with
  | some ⟨_, _, .cell (some (.ref d)), _⟩ => d == D
  | _ => false
def iniB (P : Program) (K : PySem.W.Frag) (D cc cd : Addr) (qual : Str) : Bool :=
  PySem.W.codeIn K (.ref cd) qual && (fileB P K cd && (cellB K cc D && ((PySem.W.clsIn K D).isSome && !(P.main.scope.names.lookup ("super" : Str)).isSome)))
theorem sup_mk {P : Program} {K : PySem.W.Frag} {st : Stmt} {qual : Str} {f D cc cd : Addr} {oc : Value} {od : Option Addr} {doc pm ctv : Value} {sl : Array (Option Value)} {ar : Arg} (lk : K.lookup f = some ⟨oc, od, .func ((nfI st qual cc cd).fd doc pm ctv), sl⟩) (hb : iniB P K D cc cd qual = true)
    (hp : ((defArgs st).posonlyargs ++ (defArgs st).args).head? = some ar := by rfl) (ha : ar.arg = ("self" : Str) := by rfl) (ks : (defScope st).names.lookup ("super" : Str) = some .globalImplicit := by rfl) (kc : (defScope st).names.lookup ("__class__" : Str) = some .free := by rfl) : SupFn P K f D (nfI st qual cc cd) := by
  unfold iniB at hb
  simp only [Bool.and_eq_true] at hb
  obtain ⟨h1, h2, h3, h4, h5⟩ := hb
  refine ⟨⟨_, _, _, _, _, _, lk⟩, h1, ?_, ?_, Option.isSome_iff_exists.mp h4, by simpa using h5, ⟨ar, hp, ha⟩, ks, kc⟩
  · unfold fileB at h2
    split at h2
    · rename_i vs _ e
      split at h2
      · rename_i fl t e2
        exact ⟨_, _, _, _, _, _, e, e2, h2⟩
      · cases h2
    · cases h2
  · unfold cellB at h3
    split at h3
    · rename_i d _ e
      obtain rfl : d = D := by simpa using h3
      exact ⟨cc, _, _, _, rfl, e⟩
    · cases h3
/-- a class under KindError, at D0 -/
def keB (K : PySem.W.Frag) (D0 C : Addr) : Bool :=
  decide (PySem.W.findIn K (.ref C) "__setattr__" = some (some (.builtin "object.__setattr__"))) && (decide (PySem.W.subIn K (.ref C) (.type "BaseException") = some true) && (decide (PySem.W.typeIn K (.ref C) = some (.type "type")) && (PySem.W.keepIn K (.ref C) &&
    (decide (PySem.W.mroIn K C (.ref D0) = some true) && (decide (PySem.W.subIn K (.ref C) (.type "ValueError") = some true) && decide (PySem.W.ks_superIn K C D0 "__init__" = some (some (.builtin "ValueError.__init__"))))))))
theorem ke_mk {K : PySem.W.Frag} {D0 C N : Addr} {nm q : Str} {bs bm : List Value} {sn : List Str} {sub : List Value} {ab : Bool} {col : Option Bool} {dd : Option Addr} {k0 k1 k2 k3 k5 : Option Value} (lk : K.lookup C = some (excClassObj nm q C N bs bm true sn sub ab col dd k0 k1 k2 k3 k5 "ValueError.__new__")) (hr : PySem.HandSPX.refsVE bm = true) (h : keB K D0 C = true) : KeC K D0 C := by
  unfold keB at h
  simp only [Bool.and_eq_true, decide_eq_true_eq] at h
  obtain ⟨h1, h2, h3, h4, h5, h6, h7⟩ := h
  exact ⟨⟨⟨_, _, _, _, _, _, _, _, _, _, _, _, _, _, _, lk, hr⟩, h1, h2, h3, h4⟩, h5, h6, h7⟩
/-- a class that is raised: its own facts -/
def raB (K : PySem.W.Frag) (C f0 : Addr) (fl : List Str) : Bool :=
  decide (PySem.W.mroIn K C (.ref C) = some true) && (decide (PySem.W.ks_superIn K C C "__init__" = some (some (.ref f0))) && fl.all fun n => decide (PySem.W.findIn K (.ref C) n = some none))
def fnB (K : PySem.W.Frag) (f : Addr) : Bool := decide (PySem.W.typeIn K (.ref f) = some (.type "function")) && PySem.W.fnIn K f
/-- all clauses: what a class in a clause takes -/
def xmB (K : PySem.W.Frag) (h : Nat) (c : Value) : Bool := (List.range 14).all fun k => match PySem.W.nsIn K mainGlobals (xname k) with
  | some (some (.ref C)) => decide (PySem.W.exmOne K (.ref C) c = some (subx k h))
  | _ => true
theorem xname_top (k : Nat) (h : 13 ≤ k) : xname k = "" := by
  unfold xname
  split <;> first | (exfalso; omega) | rfl
theorem xflds_top (k : Nat) (h : 13 ≤ k) : xflds k = [] := by
  unfold xflds
  split <;> first | (exfalso; omega) | rfl
def noneB (K : PySem.W.Frag) : Bool := match PySem.W.nsIn K mainGlobals "" with
  | some (some _) => false
  | _ => true
theorem xm_mk {K : PySem.W.Frag} {h : Nat} {c : Value} (hn : noneB K = true) (hb : xmB K h c = true) : XM K h c := fun k C e => by
  by_cases hk : 13 ≤ k
  · rw [xname_top k hk] at e
    unfold noneB at hn
    rw [e] at hn
    cases hn
  · have q := List.all_eq_true.mp hb k (List.mem_range.mpr (by omega))
    rw [e] at q
    exact of_decide_eq_true q
def xrB (K : PySem.W.Frag) : Bool := (List.range 14).all fun k => match PySem.W.nsIn K mainGlobals (xname k) with
  | some (some (.ref C)) => xfB K C && (xflds k).all fun n => decide (PySem.W.findIn K (.ref C) n = some none)
  | _ => true
theorem xr_mk {K : PySem.W.Frag} (hn : noneB K = true) (hb : xrB K = true) : XReads K := fun k C e => by
  by_cases hk : 13 ≤ k
  · rw [xname_top k hk] at e
    unfold noneB at hn
    rw [e] at hn
    cases hn
  · have q := List.all_eq_true.mp hb k (List.mem_range.mpr (by omega))
    rw [e] at q
    obtain ⟨q1, q2⟩ := Bool.and_eq_true_iff.mp q
    exact ⟨xfB_ok q1, fun n hm => of_decide_eq_true (List.all_eq_true.mp q2 n hm)⟩
end Fro
namespace Fro
open PySem PySem.Spec L2 PyProof.Rows NdefX ClX
theorem fnB_ty {K : PySem.W.Frag} {f : Addr} (h : fnB K f = true) : PySem.W.typeIn K (.ref f) = some (.type "function") := of_decide_eq_true (Bool.and_eq_true_iff.mp h).1
theorem fnB_fn {K : PySem.W.Frag} {f : Addr} (h : fnB K f = true) : PySem.W.fnIn K f = true := (Bool.and_eq_true_iff.mp h).2
theorem raB_self {K : PySem.W.Frag} {C f0 : Addr} {fl : List Str} (h : raB K C f0 fl = true) : PySem.W.mroIn K C (.ref C) = some true := of_decide_eq_true (Bool.and_eq_true_iff.mp h).1
theorem raB_up {K : PySem.W.Frag} {C f0 : Addr} {fl : List Str} (h : raB K C f0 fl = true) : PySem.W.ks_superIn K C C "__init__" = some (some (.ref f0)) := of_decide_eq_true (Bool.and_eq_true_iff.mp (Bool.and_eq_true_iff.mp h).2).1
theorem raB_no {K : PySem.W.Frag} {C f0 : Addr} {fl : List Str} (h : raB K C f0 fl = true) {n : Str} (hn : n ∈ fl) : PySem.W.findIn K (.ref C) n = some none := of_decide_eq_true (List.all_eq_true.mp (Bool.and_eq_true_iff.mp (Bool.and_eq_true_iff.mp h).2).2 n hn)
end Fro

namespace Fro
open PySem PySem.Spec L2

/-! ### dicts keyed by texts, as data -/
def hasE (es : List (Tx × D)) (t : Tx) : Bool := es.any fun e => e.1 == t
def putE (es : List (Tx × D)) (t : Tx) (d : D) : List (Tx × D) := if hasE es t = true then es.map fun e => if e.1 = t then (e.1, d) else e else es ++ [(t, d)]
def mergeE (es more : List (Tx × D)) : List (Tx × D) := more.foldl (fun acc e => putE acc e.1 e.2) es
section
variable {K : PySem.W.Frag} {H : Hp} {M : Addr → Prop}
theorem key_dec (t u : Tx) : decide ((Sum.inr (sx t) : Key) = Sum.inr (sx u)) = (t == u) := by
  by_cases h : t = u
  · subst h; simp
  · have : (Sum.inr (sx t) : Key) ≠ Sum.inr (sx u) := fun e => h (sx_inj (Sum.inr.inj e))
    rw [decide_eq_false this, beq_eq_false_iff_ne.mpr h]
theorem rpE_get : ∀ {es : List (Tx × D)} {kvs : List (Key × V)} (t : Tx), RpE K H M es kvs → (lkT es t = none ∧ valV kvs (Sum.inr (sx t)) = none) ∨ ∃ d v, lkT es t = some d ∧ valV kvs (Sum.inr (sx t)) = some v ∧ Rp K H M d v
  | _, _, t, .nil => .inl ⟨rfl, rfl⟩
  | _, _, t, .cons (t := u) (d := d) (es := es) (v := v) a b => by
    by_cases h : u = t
    · subst h
      exact .inr ⟨d, v, if_pos rfl, valV_pos rfl, a⟩
    · have hk : ¬ ((Sum.inr (sx u), v) : Key × V).1 = Sum.inr (sx t) := fun e => h (sx_inj (Sum.inr.inj e))
      rw [valV_neg hk, show lkT ((u, d) :: es) t = lkT es t from if_neg h]
      exact rpE_get t b
theorem rpE_len : ∀ {es : List (Tx × D)} {kvs : List (Key × V)}, RpE K H M es kvs → es.length = kvs.length
  | _, _, .nil => rfl
  | _, _, .cons _ b => by rw [List.length_cons, List.length_cons, rpE_len b]
theorem rpE_has : ∀ {es : List (Tx × D)} {kvs : List (Key × V)} (t : Tx), RpE K H M es kvs → (kvs.any fun kv => decide (kv.1 = Sum.inr (sx t))) = hasE es t
  | _, _, t, .nil => rfl
  | _, _, t, .cons (t := u) a b => by
    have ih := rpE_has t b
    unfold hasE at ih ⊢
    rw [List.any_cons, List.any_cons, ih, key_dec]
theorem rpE_map : ∀ {es : List (Tx × D)} {kvs : List (Key × V)} (t : Tx) {d : D} {v : V}, RpE K H M es kvs → Rp K H M d v → RpE K H M (es.map fun e => if e.1 = t then (e.1, d) else e) (kvs.map fun kv => if kv.1 = Sum.inr (sx t) then (kv.1, v) else kv)
  | _, _, t, d, v, .nil, _ => .nil
  | _, _, t, d, v, .cons (t := u) (d := d') (v := v') a b, r => by
    rw [List.map_cons, List.map_cons]
    have ih := rpE_map t b r
    by_cases h : u = t
    · subst h
      rw [if_pos rfl, if_pos rfl]
      exact .cons r ih
    · rw [if_neg h, if_neg (fun e => h (sx_inj (Sum.inr.inj e)))]
      exact .cons a ih
theorem rpE_snoc : ∀ {es : List (Tx × D)} {kvs : List (Key × V)} (t : Tx) {d : D} {v : V}, RpE K H M es kvs → Rp K H M d v → RpE K H M (es ++ [(t, d)]) (kvs ++ [(Sum.inr (sx t), v)])
  | _, _, t, d, v, .nil, r => .cons r .nil
  | _, _, t, d, v, .cons a b, r => .cons a (rpE_snoc t b r)
theorem rpE_put {es : List (Tx × D)} {kvs : List (Key × V)} (t : Tx) {d : D} {v : V} (h : RpE K H M es kvs) (r : Rp K H M d v) : RpE K H M (putE es t d) (putK kvs (Sum.inr (sx t)) v) := by
  unfold putE putK
  rw [rpE_has t h]
  by_cases q : hasE es t = true
  · rw [if_pos q, if_pos q]; exact rpE_map t h r
  · rw [if_neg q, if_neg q]; exact rpE_snoc t h r
theorem rpE_merge : ∀ {more : List (Tx × D)} {mkv : List (Key × V)} {es : List (Tx × D)} {kvs : List (Key × V)}, RpE K H M more mkv → RpE K H M es kvs → RpE K H M (mergeE es more) (mergeK kvs mkv)
  | _, _, es, kvs, .nil, h => h
  | _, _, es, kvs, .cons (t := t) (d := d) (es := r) (v := v) (kvs := rk) a b, h => by
    show RpE K H M (mergeE (putE es t d) r) (mergeK (putK kvs (Sum.inr (sx t)) v) rk)
    exact rpE_merge b (rpE_put t h a)
theorem rpE_atI : ∀ {es : List (Tx × D)} {kvs : List (Key × V)} (i : Nat) {e : Tx × D}, RpE K H M es kvs → es[i]? = some e → ∃ v, kvs[i]? = some (Sum.inr (sx e.1), v) ∧ Rp K H M e.2 v
  | _, _, _, _, .nil, e => by simp at e
  | _, _, 0, _, .cons a _, e => by simp at e; subst e; exact ⟨_, rfl, a⟩
  | _, _, i + 1, _, .cons _ b, e => by
    obtain ⟨v, h1, h2⟩ := rpE_atI i b (by simpa using e)
    exact ⟨v, by simpa using h1, h2⟩
end

/-! ### d.get(k, x); d[k] -/
def apDGet2 (x y z : W) (S : Sto) : R W := match rd S x, y with
  | some (.dct es), .v (.str t) => (match lkT es t with
    | some d => .ok (.v d) S
    | none => .ok z S)
  | _, _ => .bad
def isDct (x : W) (S : Sto) : Bool := match rd S x with
  | some (.dct _) => true
  | _ => false
def cDGet2 (a b c : Den W) : Den W := fun δ S => (a δ S).bind fun x S1 => if isDct x S1 = true then (b δ S1).bind fun y S2 => (c δ S2).bind fun z S3 => apDGet2 x y z S3 else .bad
def apDIx (x y : W) (S : Sto) : R W := match rd S x, y with
  | some (.dct es), .v (.str t) => (match lkT es t with
    | some d => .ok (.v d) S
    | none => .bad)
  | _, _ => .bad
def cDIx (a b : Den W) : Den W := fun δ S => (a δ S).bind fun x S1 => (b δ S1).bind fun y S2 => apDIx x y S2
def apDIn (neg : Bool) (y x : W) (S : Sto) : R W := match rd S x, y with
  | some (.dct es), .v (.str t) => .ok (.v (.bl (if neg then !(lkT es t).isSome else (lkT es t).isSome))) S
  | _, _ => .bad
def cDIn (neg : Bool) (b a : Den W) : Den W := fun δ S => (b δ S).bind fun y S1 => (a δ S1).bind fun x S2 => apDIn neg y x S2
section
variable {K : PySem.W.Frag} {ρ : List Addr} {S : Sto} {H : Hp}
theorem isDct_ok {x : W} {v : V} (so : Sok K ρ S H) (r : RpW K ρ S H x v) (h : isDct x S = true) : ∃ a, v = .ref a ∧ IsD H a := by
  unfold isDct at h
  cases q : rd S x with
  | none => simp only [q] at h; cases h
  | some d =>
    cases d with
    | dct es =>
      obtain ⟨a, kvs, rfl, hd, _⟩ := (rd_ok so r q).dctE
      exact ⟨a, rfl, .inl ⟨kvs, hd⟩⟩
    | _ => simp only [q] at h; cases h
theorem dGet_at {x : W} {v : V} {es : List (Tx × D)} (so : Sok K ρ S H) (r : RpW K ρ S H x v) (q : rd S x = some (.dct es)) (t : Tx) :
    ∃ a, v = .ref a ∧ ((lkT es t = none ∧ DGet H a (.str (sx t)) none) ∨ ∃ d u, lkT es t = some d ∧ DGet H a (.str (sx t)) (some u) ∧ Rp K H (live ρ S) d u) := by
  obtain ⟨a, kvs, rfl, hd, re⟩ := (rd_ok so r q).dctE
  refine ⟨a, rfl, ?_⟩
  rcases rpE_get t re with ⟨h1, h2⟩ | ⟨d, u, h1, h2, h3⟩
  · exact .inl ⟨h1, .inl ⟨kvs, Sum.inr (sx t), hd, rfl, h2.symm⟩⟩
  · exact .inr ⟨d, u, h1, .inl ⟨kvs, Sum.inr (sx t), hd, rfl, h2.symm⟩, h3⟩
end
section
variable {X : Cx} {E : XP} {k : Nat} {o e f : Expr} {apos cpos pos : Pos} {a b c : Den W}
theorem hu1 {A : Around} (hr : Room k A) : A.units + 1 < cLine := by have := hr.un; omega
theorem de_dget2 (hr : Room k X.A) (ho : PE X o (tE X.K E a)) (he : PE X e (tE X.K E b)) (hf : PE X f (tE X.K E c)) (m : M2 X o "get" apos e f cpos := by exact ⟨rfl, rfl, rfl, rfl⟩) : PE X (.Call (.Attribute o "get" apos) [e, f] [] cpos) (tE X.K E (cDGet2 a b c)) :=
  pe_mono (pe_dget2 (hu1 hr) ho he hf m) fun σ H Q ⟨δ, ρ, S, st, so, p⟩ => tG_then st so p fun x S1 v ρ1 H1 f1 st1 so1 r1 p1 => by
    by_cases hd : isDct x S1 = true
    · rw [if_pos hd] at p1
      obtain ⟨a, rfl, ia⟩ := isDct_ok so1 r1 hd
      refine ⟨a, rfl, ia, tG_then st1 so1 p1 fun y S2 u ρ2 H2 f2 st2 so2 r2 p2 => tG_then st2 so2 p2 fun z S3 w ρ3 H3 f3 st3 so3 r3 p3 => ?_⟩
      have rx := f3.rw (f2.rw r1)
      have ry := f3.rw r2
      unfold apDGet2 at p3
      split at p3
      · rename_i es t q
        obtain ⟨a', ea, h⟩ := dGet_at so3 rx q t
        cases ea
        cases ry
        rcases h with ⟨h1, h2⟩ | ⟨d, u, h1, h2, h3⟩
        · rw [h1] at p3
          exact ⟨none, h2, p3 w ρ3 H3 Fwd.refl so3 r3⟩
        · rw [h1] at p3
          exact ⟨some u, h2, p3 u ρ3 H3 Fwd.refl so3 h3⟩
      · exact p3.elim
    · rw [if_neg hd] at p1; exact p1.elim
theorem de_dix (hr : Room k X.A) (ho : PE X o (tE X.K E a)) (he : PE X e (tE X.K E b)) (hs : PlainIx e := by exact fun _ _ => rfl) : PE X (.Subscript o e pos) (tE X.K E (cDIx a b)) :=
  pe_mono (pe_dget (hu1 hr) ho he hs) fun σ H Q ⟨δ, ρ, S, st, so, p⟩ => tG_then st so p fun x S1 v ρ1 H1 f1 st1 so1 r1 p1 => tG_then st1 so1 p1 fun y S2 u ρ2 H2 f2 st2 so2 r2 p2 => by
    have rx := f2.rw r1
    unfold apDIx at p2
    split at p2
    · rename_i es t q
      obtain ⟨a', rfl, h⟩ := dGet_at so2 rx q t
      cases r2
      rcases h with ⟨h1, h2⟩ | ⟨d, u, h1, h2, h3⟩
      · rw [h1] at p2; exact p2.elim
      · rw [h1] at p2
        exact ⟨a', u, rfl, h2, p2 u ρ2 H2 Fwd.refl so2 h3⟩
    · exact p2.elim
theorem din_post {K : PySem.W.Frag} {ρ : List Addr} {S : Sto} {H : Hp} {y x : W} {u v : V} {Q : VK} {Ex} (neg : Bool) (so : Sok K ρ S H) (ry : RpW K ρ S H y u) (rx : RpW K ρ S H x v) (p : Post K (RpW K) ρ S H (apDIn neg y x S) Q Ex) : ∃ a o, v = .ref a ∧ DGet H a u o ∧ Q (.bl (if neg then !o.isSome else o.isSome)) H := by
  unfold apDIn at p
  split at p
  · rename_i es t q
    obtain ⟨a', rfl, h⟩ := dGet_at so rx q t
    cases ry
    rcases h with ⟨h1, h2⟩ | ⟨d, u, h1, h2, h3⟩
    · refine ⟨a', none, rfl, h2, p _ ρ H Fwd.refl so ?_⟩
      rw [h1]
      exact .bl _
    · refine ⟨a', some u, rfl, h2, p _ ρ H Fwd.refl so ?_⟩
      rw [h1]
      exact .bl _
  · exact p.elim
theorem de_din (hr : Room k X.A) (he : PE X e (tE X.K E b)) (ho : PE X o (tE X.K E a)) (hm : behindInMarks .In o = false := by rfl) : PE X (.Compare e [.In] [o] pos) (tE X.K E (cDIn false b a)) :=
  pe_mono (pe_cmp (pc_din (hu1 hr) he ho) hm) fun σ H Q ⟨δ, ρ, S, st, so, p⟩ => tG_then st so p fun y S1 u ρ1 H1 f1 st1 so1 r1 p1 => tG_then st1 so1 p1 fun x S2 v ρ2 H2 f2 st2 so2 r2 p2 => din_post false so2 (f2.rw r1) r2 p2
theorem de_dnotin (hr : Room k X.A) (he : PE X e (tE X.K E b)) (ho : PE X o (tE X.K E a)) (hm : behindInMarks .NotIn o = false := by rfl) : PE X (.Compare e [.NotIn] [o] pos) (tE X.K E (cDIn true b a)) :=
  pe_mono (pe_cmp (pc_dnotin (hu1 hr) he ho) hm) fun σ H Q ⟨δ, ρ, S, st, so, p⟩ => tG_then st so p fun y S1 u ρ1 H1 f1 st1 so1 r1 p1 => tG_then st1 so1 p1 fun x S2 v ρ2 H2 f2 st2 so2 r2 p2 => din_post true so2 (f2.rw r1) r2 p2
end
end Fro

namespace Fro
open PySem PySem.Spec L2

/-! ### {k: v, ..} -/
abbrev Prs := List (Den W × Den W)
def oneP (x y : W) (S : Sto) : R (Tx × D) := match x, y with
  | .v (.str t), .v d => .ok (t, d) S
  | _, _ => .bad
def pairsD : Prs → Den (List (Tx × D))
  | [] => fun _ S => .ok [] S
  | (a, b) :: r => fun δ S => (a δ S).bind fun x S1 => (b δ S1).bind fun y S2 => (oneP x y S2).bind fun e S3 => (pairsD r δ S3).bind fun es S4 => .ok (e :: es) S4
def endDict (n : Nat) (es : List (Tx × D)) (S1 : Sto) : R W := match S1[n]? with
  | some (.dct []) => if es.length ≤ 15 ∧ S1.length = n + 1 then .ok (.v (.dct (mergeE [] es))) (S1.take n) else .bad
  | _ => .bad
def cDict (ps : Prs) : Den W := fun δ S => (pairsD ps δ (S ++ [.dct []])).bind fun es S1 => endDict S.length es S1
theorem RpE.app : ∀ {K : PySem.W.Frag} {H : Hp} {M : Addr → Prop} {es : List (Tx × D)} {kvs : List (Key × V)}, RpE K H M es kvs → ∀ {fs : List (Tx × D)} {kvs' : List (Key × V)}, RpE K H M fs kvs' → RpE K H M (es ++ fs) (kvs ++ kvs')
  | _, _, _, _, _, .nil, _, _, h => h
  | _, _, _, _, _, .cons a b, _, _, h => .cons a (b.app h)
section
variable {K : PySem.W.Frag} {E : XP}
/-- what follows is kept at the place where it was wanted -/
theorem tG_thenB {α β γ ε : Type} {rel : Rl α β} {rel2 : Rl γ ε} {den : Den α} {k : α → Sto → R γ} {δ : Slots} {σ : L2.St} {ρ0 ρ : List Addr} {S0 S : Sto} {H0 H : Hp} {Q : ε → Hp → Prop} {Q' : β → Hp → Prop} (f0 : Fwd ρ0 S0 H0 ρ S H)
    (st : RpSt K ρ S H δ σ) (so : Sok K ρ S H) (h : Post K rel2 ρ0 S0 H0 ((den δ S).bind k) Q (E σ))
    (hk : ∀ (a : α) (S1 : Sto) (b : β) (ρ1 : List Addr) (H1 : Hp), Fwd ρ S H ρ1 S1 H1 → RpSt K ρ1 S1 H1 δ σ → Sok K ρ1 S1 H1 → rel ρ1 S1 H1 a b → Post K rel2 ρ0 S0 H0 (k a S1) Q (E σ) → Q' b H1) : tG K rel E den σ H Q' := by
  refine ⟨δ, ρ, S, st, so, ?_⟩
  cases e : den δ S with
  | ok a S1 =>
    rw [e] at h
    exact fun b ρ1 H1 f so1 q => hk a S1 b ρ1 H1 f (f.st st) so1 q h
  | exc c ds S1 => rw [e] at h; exact fun ρ1 H1 f so1 => h ρ1 H1 (f0.trans f) so1
  | bad => rw [e] at h; exact h
theorem pairs_bind {a b : Den W} {r : Prs} {k : List (Tx × D) → Sto → R W} {δ : Slots} {S : Sto} : ((pairsD ((a, b) :: r) δ S).bind k) = ((a δ S).bind fun x S1 => (b δ S1).bind fun y S2 => (oneP x y S2).bind fun e S3 => (pairsD r δ S3).bind fun es S4 => k (e :: es) S4) := by
  show R.bind (R.bind (a δ S) _) k = _
  cases a δ S with
  | bad => rfl
  | exc c ds S1 => rfl
  | ok x S1 =>
    show R.bind (R.bind (b δ S1) _) k = R.bind (b δ S1) _
    cases b δ S1 with
    | bad => rfl
    | exc c ds S1 => rfl
    | ok y S2 =>
      show R.bind (R.bind (oneP x y S2) _) k = R.bind (oneP x y S2) _
      cases oneP x y S2 with
      | bad => rfl
      | exc c ds S1 => rfl
      | ok e S3 =>
        show R.bind (R.bind (pairsD r δ S3) _) k = R.bind (pairsD r δ S3) _
        cases pairsD r δ S3 <;> rfl
theorem pairs_then {ρ0 : List Addr} {S0 : Sto} {H0 : Hp} : ∀ {ps : Prs} {k : List (Tx × D) → Sto → R W} {δ : Slots} {σ : L2.St} {ρ : List Addr} {S : Sto} {H : Hp} {Q : VK} {Q' : List (V × V) → Hp → Prop}, Fwd ρ0 S0 H0 ρ S H → RpSt K ρ S H δ σ → Sok K ρ S H → Post K (RpW K) ρ0 S0 H0 ((pairsD ps δ S).bind k) Q (E σ) →
    (∀ (es : List (Tx × D)) (S1 : Sto) (kvs : List (Key × V)) (ρ1 : List Addr) (H1 : Hp), Fwd ρ S H ρ1 S1 H1 → Sok K ρ1 S1 H1 → RpE K H1 (live ρ1 S1) es kvs → Post K (RpW K) ρ0 S0 H0 (k es S1) Q (E σ) → Q' (kvs.map fun kv => (kV kv.1, kv.2)) H1) →
    tPairs (ps.map fun p => (tE K E p.1, tE K E p.2)) σ H Q'
  | [], k, δ, σ, ρ, S, H, Q, Q', f0, st, so, p, h => h [] S [] ρ H Fwd.refl so .nil p
  | (a, b) :: r, k, δ, σ, ρ, S, H, Q, Q', f0, st, so, p, h => by
    rw [pairs_bind] at p
    rw [List.map_cons]
    refine tG_thenB f0 st so p fun x S1 v ρ1 H1 f1 st1 so1 r1 p1 => tG_thenB (f0.trans f1) st1 so1 p1 fun y S2 u ρ2 H2 f2 st2 so2 r2 p2 => ?_
    have rx := f2.rw r1
    unfold oneP at p2
    split at p2
    · rename_i t d
      cases rx
      refine pairs_then (f0.trans (f1.trans f2)) st2 so2 p2 fun es S3 kvs ρ3 H3 f3 so3 re p3 => ?_
      exact h ((t, d) :: es) S3 ((Sum.inr (sx t), u) :: kvs) ρ3 H3 (f1.trans (f2.trans f3)) so3 (.cons (f3.rp r2) re) p3
    · exact p2.elim
/-- an object that no one of the store is may be written at -/
theorem Sok.wrote {ρ : List Addr} {S : Sto} {H : Hp} {p : Addr} {o u : HO} (so : Sok K ρ S H) (n : ¬ live ρ S p) (hu : H p = some u) (hk : ∀ d v, Rp K H (live ρ S) d v → Rp K (upd H p o) (live ρ S) d v) : Sok K ρ S (upd H p o) := by
  have hkL : ∀ {ds : List D} {vs : List V}, RpL K H (live ρ S) ds vs → RpL K (upd H p o) (live ρ S) ds vs := fun {ds vs} h => by
    induction ds generalizing vs with
    | nil => cases h; exact .nil
    | cons d ds ih => cases h with | cons a b => exact .cons (hk _ _ a) (ih b)
  have hkE : ∀ {ds : List (Tx × D)} {vs : List (Key × V)}, RpE K H (live ρ S) ds vs → RpE K (upd H p o) (live ρ S) ds vs := fun {ds vs} h => by
    induction ds generalizing vs with
    | nil => cases h; exact .nil
    | cons d ds ih => cases h with | cons a b => exact .cons (hk _ _ a) (ih b)
  refine ⟨so.len, so.nd, fun i a ob h1 h2 => ?_⟩
  have q := so.obs i a ob h1 h2
  cases ob with
  | lst ds =>
    obtain ⟨xs, e, r⟩ := q
    have ne : a ≠ p := fun z => n (z ▸ ⟨i, _, h1, h2, rfl⟩)
    exact ⟨xs, by rw [upd_ne ne]; exact e, hkL r⟩
  | dct ds =>
    obtain ⟨xs, e, r⟩ := q
    have ne : a ≠ p := fun z => n (z ▸ ⟨i, _, h1, h2, rfl⟩)
    exact ⟨xs, by rw [upd_ne ne]; exact e, hkE r⟩
  | dead =>
    obtain ⟨z, e⟩ := q
    by_cases ne : a = p
    · rw [ne]; exact ⟨o, upd_same⟩
    · exact ⟨z, by rw [upd_ne ne]; exact e⟩
theorem dict_post {ps : Prs} {σ : L2.St} {H : Hp} {Q : VK} (h : tE K E (cDict ps) σ H Q) : tDisp (ps.map fun p => (tE K E p.1, tE K E p.2)) σ H Q := fun p np => by
  obtain ⟨δ, ρ, S, st, so, ps'⟩ := h
  have fg : Fwd ρ S H (ρ ++ [p]) (S ++ [.dct []]) (upd H p (.dK [])) := Fwd.grown so np _
  have sg : Sok K (ρ ++ [p]) (S ++ [.dct []]) (upd H p (.dK [])) := so.grown np _ ⟨[], upd_same, .nil⟩
  have ep : (ρ ++ [p])[S.length]? = some p := by rw [← so.len]; simp
  refine pairs_then fg (fg.st st) sg ps' fun es S1 kvs ρ1 H1 f1 so1 re p1 => ?_
  have e1 : ρ1[S.length]? = some p := f1.at ep
  unfold endDict at p1
  split at p1
  · rename_i q
    split at p1
    · rename_i hc
      obtain ⟨xs, ex, rx⟩ := so1.obs _ _ _ e1 q
      cases rx
      refine ⟨ex, kvs, rfl, by rw [← rpE_len re]; exact hc.1, ?_⟩
      have fc : Fwd ρ1 S1 H1 ρ1 (S1.set S.length (.dct (mergeE [] es))) (upd H1 p (.dK (mergeK [] kvs))) := Fwd.changed so1 e1 q rfl
      have rm : RpE K (upd H1 p (.dK (mergeK [] kvs))) (live ρ1 (S1.set S.length (.dct (mergeE [] es)))) (mergeE [] es) (mergeK [] kvs) := fc.rpE (rpE_merge re .nil)
      have sc : Sok K ρ1 (S1.set S.length (.dct (mergeE [] es))) (upd H1 p (.dK (mergeK [] kvs))) := so1.changed e1 q rfl ⟨_, upd_same, rm⟩
      have ff : Fwd ρ S H ρ1 (S1.set S.length (.dct (mergeE [] es))) (upd H1 p (.dK (mergeK [] kvs))) := fg.trans (f1.trans fc)
      obtain ⟨more, em⟩ := ff.ext
      have t := sc.take S.length
      have ecut : (S1.set S.length (.dct (mergeE [] es))).take S.length = S1.take S.length := by
        apply List.ext_getElem?
        intro j
        by_cases hj : j < S.length
        · rw [List.getElem?_take_of_lt hj, List.getElem?_take_of_lt hj, List.getElem?_set_ne (by omega)]
        · rw [List.getElem?_eq_none (by rw [List.length_take]; omega), List.getElem?_eq_none (by rw [List.length_take]; omega)]
      rw [em, take_pre so.len, ← em] at t
      have fcut := ff.cut so.len sc.len
      rw [ecut] at t fcut
      have np' : ¬ live ρ (S1.take S.length) p := fun l => so.notIn np (by
        obtain ⟨j, o, h1, _, _⟩ := l
        exact List.mem_of_getElem? h1)
      exact p1 (.ref p) ρ _ fcut t.1 (Rp.dct (.inl upd_same) np' (rm.weak t.2))
    · exact p1.elim
  · exact p1.elim
end
section
variable {X : Cx} {E : XP} {pos : Pos}
theorem de_dict {keys : List (Option Expr)} {values : List Expr} {ps : Prs} (h : PPs X pos keys values (ps.map fun p => (tE X.K E p.1, tE X.K E p.2))) (hall : keys.all (·.isSome) = true := by rfl) (hl : keys.length = values.length := by rfl) (h0 : keys ≠ [] := by exact fun z => nomatch z) (h15 : keys.length ≤ 15 := by decide) :
    PE X (.Dict keys values pos) (tE X.K E (cDict ps)) := pe_mono (pe_disp h hall hl h0 h15) fun σ H Q z => dict_post z
theorem dd_nil : PPs X pos [] [] (([] : Prs).map fun p => (tE X.K E p.1, tE X.K E p.2)) := pps_nil
theorem dd_cons {k v : Expr} {ks : List (Option Expr)} {vs : List Expr} {a b : Den W} {r : Prs} (hk : PE X k (tE X.K E a)) (hv : PE X v (tE X.K E b)) (hr : PPs X pos ks vs (r.map fun p => (tE X.K E p.1, tE X.K E p.2))) : PPs X pos (some k :: ks) (v :: vs) (((a, b) :: r).map fun p => (tE X.K E p.1, tE X.K E p.2)) := pps_cons hk hv hr
def cDict0 : Den W := fun _ S => .ok (.v (.dct [])) S
def cDict0M : Den W := fun _ S => .ok (.r S.length) (S ++ [.dct []])
end
end Fro

namespace Fro
open PySem PySem.Spec L2

/-! ### a dict that is walked is locked -/
section
variable {K : PySem.W.Frag} {H : Hp} {M : Addr → Prop} {a : Addr} {kvs : List (Key × V)} {od : Obj}
/-- what stands for data stands for it when a dict is locked, or let go -/
theorem Rp.swap {H' : Hp} (hne : ∀ b, b ≠ a → H' b = H b) (h1 : Rd H a (.dK kvs)) (h2 : Rd H' a (.dK kvs)) (h3 : ∀ xs, H a ≠ some (.tup xs)) (h4 : ∀ o xs, H a ≠ some (.frz o (.tup xs))) (h5 : ∀ xs, H a ≠ some (.lst xs)) {d : D} {v : V} (h : Rp K H M d v) : Rp K H' M d v := by
  have hT : ∀ {b : Addr} {xs : List V}, SqT K H b xs → SqT K H' b xs := fun {b xs} q => by
    rcases q with (q | ⟨o, q⟩) | q
    · exact .inl (.inl ((hne b fun z => h3 xs (z ▸ q)).trans q))
    · exact .inl (.inr ⟨o, (hne b fun z => h4 o xs (z ▸ q)).trans q⟩)
    · exact .inr q
  have uq : ∀ {ks : List (Key × V)}, Rd H a (.dK ks) → ks = kvs := fun {ks} q => by
    rcases q with q | ⟨o, q⟩ <;> rcases h1 with h | ⟨o', h⟩ <;> (first | (rw [h] at q; cases q; rfl) | (rw [h] at q; cases q))
  have hD : ∀ {b : Addr} {ks : List (Key × V)}, Rd H b (.dK ks) → Rd H' b (.dK ks) := fun {b ks} q => by
    by_cases hb : b = a
    · subst hb
      rw [uq q]; exact h2
    · rcases q with q | ⟨o, q⟩
      · exact .inl ((hne b hb).trans q)
      · exact .inr ⟨o, (hne b hb).trans q⟩
  exact Rp.rec (motive_1 := fun d v _ => Rp K H' M d v) (motive_2 := fun ds vs _ => RpL K H' M ds vs) (motive_3 := fun es kvs _ => RpE K H' M es kvs)
    .non .bl .int .str .ty (fun q _ z => .tup (hT q) z) (fun {b xs ds} e n _ z => .lst ((hne b fun y => h5 xs (y ▸ e)).trans e) n z) (fun e n _ z => .dct (hD e) n z)
    .nil (fun _ _ x y => .cons x y) .nil (fun _ _ x y => .cons x y) h
theorem RpE.of {H H' : Hp} {M M' : Addr → Prop} (hk : ∀ d v, Rp K H M d v → Rp K H' M' d v) : ∀ {es : List (Tx × D)} {kvs : List (Key × V)}, RpE K H M es kvs → RpE K H' M' es kvs
  | _, _, .nil => .nil
  | _, _, .cons a b => .cons (hk _ _ a) (RpE.of hk b)
theorem rp_lock (h : H a = some (.dK kvs)) {d : D} {v : V} (r : Rp K H M d v) : Rp K (upd H a (.frz od (.dK kvs))) M d v :=
  r.swap (fun b hb => upd_ne hb) (.inl h) (.inr ⟨od, upd_same⟩) (fun xs z => by rw [h] at z; cases z) (fun o xs z => by rw [h] at z; cases z) (fun xs z => by rw [h] at z; cases z)
theorem rp_unlock (h : H a = some (.frz od (.dK kvs))) {d : D} {v : V} (r : Rp K H M d v) : Rp K (upd H a (.dK kvs)) M d v :=
  r.swap (fun b hb => upd_ne hb) (.inr ⟨od, h⟩) (.inl upd_same) (fun xs z => by rw [h] at z; cases z) (fun o xs z => by rw [h] at z; cases z) (fun xs z => by rw [h] at z; cases z)
end
/-- a locked dict is a dict -/
def unlk : W → W
  | .lk es => .v (.dct es)
  | w => w
def unlkS (δ : Slots) : Slots := δ.map fun o => o.map unlk
section
variable {K : PySem.W.Frag} {ρ : List Addr} {S : Sto} {H : Hp} {a : Addr} {kvs : List (Key × V)} {od : Obj}
theorem unlk_rp {w : W} {v : V} (h : RpW K ρ S H w v) : RpW K ρ S H (unlk w) v := by
  cases w with
  | lk es => obtain ⟨b, o, ks, rfl, q, n, r⟩ := h; exact Rp.dct (.inr ⟨o, q⟩) n r
  | _ => exact h
theorem rw_lock (h : H a = some (.dK kvs)) {w : W} {v : V} (r : RpW K ρ S H w v) : RpW K ρ S (upd H a (.frz od (.dK kvs))) w v := by
  cases w with
  | v d => exact rp_lock h r
  | r i => exact r
  | s ns =>
    obtain ⟨b, rfl, q⟩ := r
    refine ⟨b, rfl, ?_⟩
    rcases q with ⟨q, n⟩ | ⟨o, q⟩ | q
    · exact .inl ⟨by rw [upd_ne (fun z => by rw [z, h] at q; cases q)]; exact q, n⟩
    · exact .inr (.inl ⟨o, by rw [upd_ne (fun z => by rw [z, h] at q; cases q)]; exact q⟩)
    · exact .inr (.inr q)
  | x c ds =>
    obtain ⟨b, C, d, rfl, q, n, xr⟩ := r
    obtain ⟨vfs, e, g⟩ := xr.at_
    exact ⟨b, C, d, rfl, by rw [upd_ne (fun z => by rw [z, h] at q; cases (Option.some.inj q))]; exact q, n, xr.cls, xr.dead, vfs, by rw [upd_ne (fun z => by rw [z, h] at e; cases e)]; exact e, fun k m u h1 h2 => let ⟨v, h3, h4⟩ := g k m u h1 h2; ⟨v, h3, rp_lock h h4⟩⟩
  | lk es =>
    obtain ⟨b, o, ks, rfl, q, n, r⟩ := r
    exact ⟨b, o, ks, rfl, by rw [upd_ne (fun z => by rw [z, h] at q; cases q)]; exact q, n, RpE.of (fun _ _ => rp_lock h) r⟩
theorem rw_unlock (h : H a = some (.frz od (.dK kvs))) {w : W} {v : V} (r : RpW K ρ S H w v) : RpW K ρ S (upd H a (.dK kvs)) (unlk w) v := by
  cases w with
  | v d => exact rp_unlock h r
  | r i => exact r
  | s ns =>
    obtain ⟨b, rfl, q⟩ := r
    refine ⟨b, rfl, ?_⟩
    rcases q with ⟨q, n⟩ | ⟨o, q⟩ | q
    · exact .inl ⟨by rw [upd_ne (fun z => by rw [z, h] at q; cases q)]; exact q, n⟩
    · exact .inr (.inl ⟨o, by rw [upd_ne (fun z => by rw [z, h] at q; cases q)]; exact q⟩)
    · exact .inr (.inr q)
  | x c ds =>
    obtain ⟨b, C, d, rfl, q, n, xr⟩ := r
    obtain ⟨vfs, e, g⟩ := xr.at_
    exact ⟨b, C, d, rfl, by rw [upd_ne (fun z => by rw [z, h] at q; cases (Option.some.inj q))]; exact q, n, xr.cls, xr.dead, vfs, by rw [upd_ne (fun z => by rw [z, h] at e; cases e)]; exact e, fun k m u h1 h2 => let ⟨v, h3, h4⟩ := g k m u h1 h2; ⟨v, h3, rp_unlock h h4⟩⟩
  | lk es =>
    have r' := unlk_rp r
    exact rp_unlock h r'
theorem sok_lock (so : Sok K ρ S H) (n : ¬ live ρ S a) (h : H a = some (.dK kvs)) : Sok K ρ S (upd H a (.frz od (.dK kvs))) := so.wrote n h fun _ _ => rp_lock h
theorem sok_unlock (so : Sok K ρ S H) (n : ¬ live ρ S a) (h : H a = some (.frz od (.dK kvs))) : Sok K ρ S (upd H a (.dK kvs)) := so.wrote n h fun _ _ => rp_unlock h
theorem st_lock {δ : Slots} {σ : L2.St} (h : H a = some (.dK kvs)) (st : RpSt K ρ S H δ σ) : RpSt K ρ S (upd H a (.frz od (.dK kvs))) δ σ := ⟨st.1, fun i w e => let ⟨v, h1, h2⟩ := st.2 i w e; ⟨v, h1, rw_lock h h2⟩⟩
theorem unlkS_at {δ : Slots} {i : Nat} {w : W} (e : (unlkS δ)[i]? = some (some w)) : ∃ w', δ[i]? = some (some w') ∧ w = unlk w' := by
  unfold unlkS at e
  rw [List.getElem?_map] at e
  cases q : δ[i]? with
  | none => rw [q] at e; cases e
  | some o =>
    rw [q] at e
    cases o with
    | none => cases e
    | some w' => cases e; exact ⟨w', rfl, rfl⟩
theorem st_unlock {δ : Slots} {σ : L2.St} (h : H a = some (.frz od (.dK kvs))) (st : RpSt K ρ S H δ σ) : RpSt K ρ S (upd H a (.dK kvs)) (unlkS δ) σ := ⟨by unfold unlkS; rw [List.length_map]; exact st.1, fun i w e => by
  obtain ⟨w', e', rfl⟩ := unlkS_at e
  obtain ⟨v, h1, h2⟩ := st.2 i w' e'
  exact ⟨v, h1, rw_unlock h h2⟩⟩
theorem st_unlk {δ : Slots} {σ : L2.St} (st : RpSt K ρ S H δ σ) : RpSt K ρ S H (unlkS δ) σ := ⟨by unfold unlkS; rw [List.length_map]; exact st.1, fun i w e => by
  obtain ⟨w', e', rfl⟩ := unlkS_at e
  obtain ⟨v, h1, h2⟩ := st.2 i w' e'
  exact ⟨v, h1, unlk_rp h2⟩⟩
/-- there and back -/
theorem fwd_locked {ρ1 : List Addr} {S1 : Sto} {H1 : Hp} (h : H a = some (.dK kvs)) (n : ¬ live ρ S a) (f : Fwd ρ S (upd H a (.frz od (.dK kvs))) ρ1 S1 H1) : H1 a = some (.frz od (.dK kvs)) ∧ ¬ live ρ1 S1 a ∧ Fwd ρ S H ρ1 S1 (upd H1 a (.dK kvs)) := by
  have h1 : H1 a = some (.frz od (.dK kvs)) := f.frzs _ _ _ upd_same
  refine ⟨h1, fun l => ?_, ⟨f.ext, fun b o nb e => ?_, fun b xs e => ?_, fun b o u e => ?_, fun b l => ?_⟩⟩
  · rcases f.new _ l with z | z
    · exact n z
    · rw [upd_same] at z; cases z
  · by_cases hb : b = a
    · subst hb
      rw [h] at e
      rw [upd_same]; exact e
    · rw [upd_ne hb]
      exact f.keep b o nb (by rw [upd_ne hb]; exact e)
  · have hb : b ≠ a := fun z => by rw [z, h] at e; cases e
    rw [upd_ne hb]
    exact f.tups b xs (by rw [upd_ne hb]; exact e)
  · have hb : b ≠ a := fun z => by rw [z, h] at e; cases e
    rw [upd_ne hb]
    exact f.frzs b o u (by rw [upd_ne hb]; exact e)
  · rcases f.new b l with z | z
    · exact .inl z
    · by_cases hb : b = a
      · subst hb
        rw [upd_same] at z; cases z
      · rw [upd_ne hb] at z; exact .inr z
/-- the slot of a dict, locked -/
theorem st_slot {δ : Slots} {σ : L2.St} {i : Nat} {es : List (Tx × D)} {v : V} (st : RpSt K ρ S H δ σ) (e : σ[i]? = some (some v)) (r : RpW K ρ S H (.lk es) v) : RpSt K ρ S H (δ.set i (some (.lk es))) σ := by
  have q := st.set i r
  rw [show σ.set i (some v) = σ from by
    apply List.ext_getElem?
    intro j
    by_cases hj : i = j
    · subst hj
      have hl : i < σ.length := by
        rcases Nat.lt_or_ge i σ.length with h | h
        · exact h
        · rw [List.getElem?_eq_none h] at e; cases e
      rw [List.getElem?_set_self hl, e]
    · rw [List.getElem?_set_ne hj]] at q
  exact q
end
def okLk (r : R W) : R W := match r with
  | .ok w S => .ok (unlk w) S
  | _ => .bad
/-- an expression that walks the dict in slot i -/
def cLk (i : Nat) (den : Den W) : Den W := fun δ S => match δ[i]? with
  | some (some (.v (.dct es))) => okLk (den (δ.set i (some (.lk es))) S)
  | some (some (.lk _)) => okLk (den δ S)
  | _ => .bad
def okLkS (r : RS) : RS := match r with
  | .nx δ S => .nx (unlkS δ) S
  | .rt w S => .rt (unlk w) S
  | .bk δ S => .bk (unlkS δ) S
  | .ct δ S => .ct (unlkS δ) S
  | _ => .bad
def cLkS (i : Nat) (den : DenS) : DenS := fun δ S => match δ[i]? with
  | some (some (.v (.dct es))) => okLkS (den (δ.set i (some (.lk es))) S)
  | some (some (.lk _)) => okLkS (den δ S)
  | _ => .bad
section
variable {X : Cx} {E : XP}
theorem lk_here {den : Den W} {δ : Slots} {σ : L2.St} {ρ : List Addr} {S : Sto} {H : Hp} {Q : VK} {Ex} (p : Post X.K (RpW X.K) ρ S H (okLk (den δ S)) Q Ex) : Post X.K (RpW X.K) ρ S H (den δ S) Q (E σ) := by
  cases q : den δ S with
  | bad => rw [q] at p; exact p
  | exc c ds S1 => rw [q] at p; exact p.elim
  | ok w S1 => rw [q] at p; exact fun v ρ1 H1 f so r => p v ρ1 H1 f so (unlk_rp r)
theorem de_lk (i : Nat) {e : Expr} {den : Den W} (h : PE X e (tE X.K E den)) : PE X e (tE X.K E (cLk i den)) := ⟨fun pins s σ H Q I ⟨δ, ρ, S, st, so, p⟩ => by
  unfold cLk at p
  split at p
  · rename_i es q
    obtain ⟨v, ev, rv⟩ := st.2 i _ q
    cases rv with
    | dct hd n re =>
      rename_i a kvs
      rcases hd with hd | ⟨o, hd⟩
      · refine (pe_lock h).run pins s σ H Q I ⟨a, _, hd, trivial, fun od => ⟨δ.set i (some (.lk es)), ρ, S, st_slot (st_lock hd st) ev ⟨a, od, kvs, rfl, upd_same, n, RpE.of (fun _ _ => rp_lock hd) re⟩, sok_lock so n hd, ?_⟩⟩
        cases qd : den (δ.set i (some (.lk es))) S with
        | bad => rw [qd] at p; exact p.elim
        | exc c ds S1 => rw [qd] at p; exact p.elim
        | ok w S1 =>
          rw [qd] at p
          intro v1 ρ1 H1 f so1 r
          obtain ⟨h1, n1, ff⟩ := fwd_locked hd n f
          exact ⟨h1, p v1 ρ1 _ ff (sok_unlock so1 n1 h1) (rw_unlock h1 r)⟩
      · exact h.run pins s σ H Q I ⟨_, ρ, S, st_slot st ev ⟨a, o, kvs, rfl, hd, n, re⟩, so, lk_here p⟩
  · exact h.run pins s σ H Q I ⟨δ, ρ, S, st, so, lk_here p⟩
  · exact p.elim⟩
theorem lkS_here {den : DenS} {δ : Slots} {ρ : List Addr} {S : Sto} {H : Hp} {D' : Ends} (p : PostS X.K ρ S H (okLkS (den δ S)) D' E) : PostS X.K ρ S H (den δ S) D' E := by
  cases q : den δ S with
  | bad => rw [q] at p; exact p
  | xc c ds δ1 S1 => rw [q] at p; exact p.elim
  | rt w S1 => rw [q] at p; exact fun v ρ1 H1 f so r => p v ρ1 H1 f so (unlk_rp r)
  | nx δ1 S1 => rw [q] at p; exact fun v ρ1 H1 f so r => p v ρ1 H1 f so (st_unlk r)
  | bk δ1 S1 => rw [q] at p; exact fun v ρ1 H1 f so r => p v ρ1 H1 f so (st_unlk r)
  | ct δ1 S1 => rw [q] at p; exact fun v ρ1 H1 f so r => p v ρ1 H1 f so (st_unlk r)
theorem ds_lk (i : Nat) {s : Stmt} {den : DenS} (h : PS X s (tS X.K E den)) : PS X s (tS X.K E (cLkS i den)) := ⟨fun pins s σ H D' I ⟨δ, ρ, S, st, so, p⟩ => by
  unfold cLkS at p
  split at p
  · rename_i es q
    obtain ⟨v, ev, rv⟩ := st.2 i _ q
    cases rv with
    | dct hd n re =>
      rename_i a kvs
      rcases hd with hd | ⟨o, hd⟩
      · refine (ps_lock h).run pins s σ H D' I ⟨a, _, hd, trivial, fun od => ⟨δ.set i (some (.lk es)), ρ, S, st_slot (st_lock hd st) ev ⟨a, od, kvs, rfl, upd_same, n, RpE.of (fun _ _ => rp_lock hd) re⟩, sok_lock so n hd, ?_⟩⟩
        cases qd : den (δ.set i (some (.lk es))) S with
        | bad => rw [qd] at p; exact p.elim
        | xc c ds δ1 S1 => rw [qd] at p; exact p.elim
        | rt w S1 =>
          rw [qd] at p
          intro v1 ρ1 H1 f so1 r
          obtain ⟨h1, n1, ff⟩ := fwd_locked hd n f
          exact ⟨h1, p v1 ρ1 _ ff (sok_unlock so1 n1 h1) (rw_unlock h1 r)⟩
        | nx δ1 S1 =>
          rw [qd] at p
          intro v1 ρ1 H1 f so1 r
          obtain ⟨h1, n1, ff⟩ := fwd_locked hd n f
          exact ⟨h1, p v1 ρ1 _ ff (sok_unlock so1 n1 h1) (st_unlock h1 r)⟩
        | bk δ1 S1 =>
          rw [qd] at p
          intro v1 ρ1 H1 f so1 r
          obtain ⟨h1, n1, ff⟩ := fwd_locked hd n f
          exact ⟨h1, p v1 ρ1 _ ff (sok_unlock so1 n1 h1) (st_unlock h1 r)⟩
        | ct δ1 S1 =>
          rw [qd] at p
          intro v1 ρ1 H1 f so1 r
          obtain ⟨h1, n1, ff⟩ := fwd_locked hd n f
          exact ⟨h1, p v1 ρ1 _ ff (sok_unlock so1 n1 h1) (st_unlock h1 r)⟩
      · exact h.run pins s σ H D' I ⟨_, ρ, S, st_slot st ev ⟨a, o, kvs, rfl, hd, n, re⟩, so, lkS_here p⟩
  · exact h.run pins s σ H D' I ⟨δ, ρ, S, st, so, lkS_here p⟩
  · exact p.elim⟩
end

/-! ### items, values, keys of a locked dict -/
def itemsD (es : List (Tx × D)) : List D := es.map fun e => .tup [.str e.1, e.2]
def valsD (es : List (Tx × D)) : List D := es.map fun e => e.2
def keysD (es : List (Tx × D)) : List D := es.map fun e => .str e.1
def asLk (g : List (Tx × D) → List D) (w : W) (S : Sto) : R (List D) := match w with
  | .lk es => .ok (g es) S
  | _ => .bad
def itI (a : Den W) : Den (List D) := fun δ S => (a δ S).bind (asLk itemsD)
def itV (a : Den W) : Den (List D) := fun δ S => (a δ S).bind (asLk valsD)
def itK (a : Den W) : Den (List D) := fun δ S => (a δ S).bind (asLk keysD)
section
variable {K : PySem.W.Frag} {ρ : List Addr} {S : Sto} {H : Hp} {a : Addr} {kvs : List (Key × V)} {o : Obj} {es : List (Tx × D)}
theorem jok_items (h : H a = some (.frz o (.dK kvs))) (r : RpE K H (live ρ S) es kvs) : Jok K ρ S H (itemsD es) (Iti a o kvs) := fun i ρ' S' H' f so => by
  have h' := f.frzs _ _ _ h
  have r' := f.rpE r
  refine ⟨fun d e => ?_, fun hl => ⟨h', by rw [← rpE_len r]; unfold itemsD at hl; rw [List.length_map] at hl; exact hl⟩⟩
  unfold itemsD at e
  rw [List.getElem?_map] at e
  cases q : es[i]? with
  | none => rw [q] at e; cases e
  | some en =>
    rw [q] at e
    cases e
    obtain ⟨v, hv, rv⟩ := rpE_atI i r' q
    have hi : i < kvs.length := (List.getElem?_eq_some_iff.mp hv).1
    refine ⟨⟨h', hi⟩, fun x H'' y => ?_⟩
    obtain ⟨T, k, u, e1, rfl, nT, rfl⟩ := y
    rw [hv] at e1
    cases e1
    have fl : Fwd ρ' S' H' ρ' S' (upd H' T (.tup [kV (Sum.inr (sx en.1)), v])) := Fwd.laid so nT
    exact ⟨fl, so.laid nT, .tup (SqT.of upd_same) (.cons (.str _) (.cons (fl.rp rv) .nil))⟩
theorem jok_vals (h : H a = some (.frz o (.dK kvs))) (r : RpE K H (live ρ S) es kvs) : Jok K ρ S H (valsD es) (Itd a o kvs) := fun i ρ' S' H' f so => by
  have h' := f.frzs _ _ _ h
  have r' := f.rpE r
  refine ⟨fun d e => ?_, fun hl => ⟨h', by rw [← rpE_len r]; unfold valsD at hl; rw [List.length_map] at hl; exact hl⟩⟩
  unfold valsD at e
  rw [List.getElem?_map] at e
  cases q : es[i]? with
  | none => rw [q] at e; cases e
  | some en =>
    rw [q] at e
    cases e
    obtain ⟨v, hv, rv⟩ := rpE_atI i r' q
    have hi : i < kvs.length := (List.getElem?_eq_some_iff.mp hv).1
    refine ⟨⟨h', hi⟩, fun x H'' y => ?_⟩
    obtain ⟨rfl, k, e1⟩ := y
    rw [hv] at e1
    cases e1
    exact ⟨Fwd.refl, so, rv⟩
theorem jok_keys (h : H a = some (.frz o (.dK kvs))) (r : RpE K H (live ρ S) es kvs) : Jok K ρ S H (keysD es) (Itk a o kvs) := fun i ρ' S' H' f so => by
  have h' := f.frzs _ _ _ h
  have r' := f.rpE r
  refine ⟨fun d e => ?_, fun hl => ⟨h', by rw [← rpE_len r]; unfold keysD at hl; rw [List.length_map] at hl; exact hl⟩⟩
  unfold keysD at e
  rw [List.getElem?_map] at e
  cases q : es[i]? with
  | none => rw [q] at e; cases e
  | some en =>
    rw [q] at e
    cases e
    obtain ⟨v, hv, rv⟩ := rpE_atI i r' q
    have hi : i < kvs.length := (List.getElem?_eq_some_iff.mp hv).1
    refine ⟨⟨h', hi⟩, fun x H'' y => ?_⟩
    obtain ⟨rfl, k, u, e1, rfl⟩ := y
    rw [hv] at e1
    cases e1
    exact ⟨Fwd.refl, so, .str _⟩
end
section
variable {X : Cx} {E : XP} {tg e : Expr} {a : Den W} {apos cpos tpos : Pos}
theorem di_items {elts : List Expr} {kk : Nat} (h : PE X e (tE X.K E a)) (hbase : attributeBase e "items" X.env (eval e X.env) = eval e X.env := by rfl) (hline : (apos.endLine == cpos.line) = true := by rfl) :
    PI X (.Tuple elts kk tpos) (.Call (.Attribute e "items" apos) [] [] cpos) (tI X.K E (itI a)) := pi_mono (pi_items h hbase hline) fun σ H Q ⟨δ, ρ, S, st, so, p⟩ => tG_then st so p fun w S1 v ρ1 H1 f1 st1 so1 r1 p1 => by
  cases w with
  | lk es => obtain ⟨d, o, kvs, rfl, q, n, re⟩ := r1; exact ⟨d, o, kvs, rfl, q, p1 _ ρ1 H1 Fwd.refl so1 (jok_items q re)⟩
  | _ => exact p1.elim
theorem di_vals (h : PE X e (tE X.K E a)) (hbase : attributeBase e "values" X.env (eval e X.env) = eval e X.env := by rfl) (hline : (apos.endLine == cpos.line) = true := by rfl) :
    PI X tg (.Call (.Attribute e "values" apos) [] [] cpos) (tI X.K E (itV a)) := pi_mono (pi_values h hbase hline) fun σ H Q ⟨δ, ρ, S, st, so, p⟩ => tG_then st so p fun w S1 v ρ1 H1 f1 st1 so1 r1 p1 => by
  cases w with
  | lk es => obtain ⟨d, o, kvs, rfl, q, n, re⟩ := r1; exact ⟨d, o, kvs, rfl, q, p1 _ ρ1 H1 Fwd.refl so1 (jok_vals q re)⟩
  | _ => exact p1.elim
theorem di_keys (h : PE X e (tE X.K E a)) : PI X tg e (tI X.K E (itK a)) := pi_mono (pi_keys h) fun σ H Q ⟨δ, ρ, S, st, so, p⟩ => tG_then st so p fun w S1 v ρ1 H1 f1 st1 so1 r1 p1 => by
  cases w with
  | lk es => obtain ⟨d, o, kvs, rfl, q, n, re⟩ := r1; exact ⟨d, o, rfl, .inl ⟨kvs, q, p1 _ ρ1 H1 Fwd.refl so1 (jok_keys q re)⟩⟩
  | _ => exact p1.elim
theorem de_dict0 {pos : Pos} : PE X (.Dict [] [] pos) (tE X.K E cDict0) := pe_mono pe_dnewK fun σ H Q ⟨δ, ρ, S, st, so, p⟩ => fun d hd => p (.ref d) ρ _ (Fwd.laid so hd) (so.laid hd) (Rp.dct (.inl upd_same) (so.notNone hd) .nil)
theorem de_dict0M {pos : Pos} : PE X (.Dict [] [] pos) (tE X.K E cDict0M) := pe_mono pe_dnewK fun σ H Q ⟨δ, ρ, S, st, so, p⟩ => fun d hd => p (.ref d) (ρ ++ [d]) _ (Fwd.grown so hd _) (so.grown hd _ ⟨[], upd_same, .nil⟩) ⟨d, rfl, by rw [← so.len]; simp⟩
end
end Fro

namespace Fro
open PySem PySem.Spec L2

/-! ### what is never reached -/
def cNever : Den W := fun _ _ => .bad
theorem de_never {X : Cx} {E : XP} {e : Expr} : PE X e (tE X.K E cNever) := ⟨fun pins s σ H Q I ⟨δ, ρ, S, st, so, p⟩ => p.elim⟩

/-! ### a comprehension's turns, within another one -/
section
variable {K : PySem.W.Frag} {E : XP}
theorem comp_turns {g : TG} {dg : DenG} {ts vs : List Nat} {tt : Den Bool} {te : Den W} (hg : GOk K g dg ts) (ht : ∀ j ∈ ts, j ∈ vs) {kf : Sto → R W} {σ : L2.St} {Q : VK} {n : Nat} {D' : Addr} {ρ1 ρ4 : List Addr} {S1 S4 : Sto} {H1 H4 : Hp} {δ : Slots} {ds : List D} {J : It} {Ex} {Nx : Hp → Prop}
    (f4 : Fwd ρ1 S1 H1 ρ4 S4 H4) (ed4 : ρ4[n]? = some D') (so4 : Sok K ρ4 S4 H4) (st4 : RpSt K ρ4 S4 H4 δ σ) (j4 : Jok K ρ4 S4 H4 ds J)
    (p4 : Post K (RpW K) ρ1 S1 H1 ((compL dg tt te n ds (wipeD δ vs) S4).bind fun _ S2 => kf S2) Q Ex)
    (hend : ∀ (ρ' : List Addr) (S' : Sto) (H' : Hp), Fwd ρ1 S1 H1 ρ' S' H' → Fwd ρ4 S4 H4 ρ' S' H' → ρ'[n]? = some D' → Sok K ρ' S' H' → Post K (RpW K) ρ1 S1 H1 (kf S') Q Ex → Nx H') :
    ∃ W1 : Nat → Nat → Hp → Prop, (∃ m, W1 0 m H4) ∧ ∀ j k H, W1 j k H → (J.stop j H ∧ Nx H) ∨ (J.go j H ∧ ∃ Nx1 : Hp → Prop, (∀ H', Nx1 H' → ∃ k', k' < k ∧ W1 (j + 1) k' H') ∧ ∀ x H', J.yld j H x H' → g x (wipe σ vs) H' fun σ3 H5 => wipe σ3 vs = wipe σ vs ∧ (tT K XP0 tt) σ3 H5 fun b H6 =>
      if b = true then (tE K XP0 te) σ3 H6 fun y H7 => ∃ acc, H7 D' = some (.lst acc) ∧ acc.length < sizeLine ∧ Nx1 (upd H7 D' (.lst (acc ++ [y]))) else Nx1 H6) := by
  refine ⟨fun i m H' => i + m = ds.length ∧ ∃ (ρ' : List Addr) (S' : Sto), Fwd ρ1 S1 H1 ρ' S' H' ∧ Fwd ρ4 S4 H4 ρ' S' H' ∧ ρ'[n]? = some D' ∧ Sok K ρ' S' H' ∧ Post K (RpW K) ρ1 S1 H1 ((compL dg tt te n (ds.drop i) (wipeD δ vs) S').bind fun _ S2 => kf S2) Q Ex,
    ⟨ds.length, by omega, ρ4, S4, f4, Fwd.refl, ed4, so4, by rw [List.drop_zero]; exact p4⟩, fun i m H' hW => ?_⟩
  obtain ⟨em, ρ', S', f', fz, ed, so', p'⟩ := hW
  obtain ⟨jg, js⟩ := j4 i ρ' S' H' fz so'
  by_cases hl : i < ds.length
  · have edr : ds.drop i = ds[i] :: ds.drop (i + 1) := List.drop_eq_getElem_cons hl
    rw [edr] at p'
    obtain ⟨g1, g2⟩ := jg ds[i] (List.getElem?_eq_getElem hl)
    refine .inr ⟨g1, fun H2 => ∃ (ρ2 : List Addr) (S2 : Sto), Fwd ρ1 S1 H1 ρ2 S2 H2 ∧ Fwd ρ4 S4 H4 ρ2 S2 H2 ∧ ρ2[n]? = some D' ∧ Sok K ρ2 S2 H2 ∧ Post K (RpW K) ρ1 S1 H1 ((compL dg tt te n (ds.drop (i + 1)) (wipeD δ vs) S2).bind fun _ S2 => kf S2) Q Ex,
      fun H2 ⟨ρ2, S2, a1, a0, a2, a3, a4⟩ => ⟨m - 1, by omega, by omega, ρ2, S2, a1, a0, a2, a3, a4⟩, fun x H3 y => ?_⟩
    obtain ⟨fy, soy, ry⟩ := g2 x H3 y
    unfold compL at p'
    cases q : dg (.v ds[i]) (wipeD δ vs) S' with
    | none => simp only [q] at p'; exact p'.elim
    | some z =>
      obtain ⟨δ3, S3⟩ := z
      simp only [q] at p'
      have f3 : Fwd ρ1 S1 H1 ρ' S' H3 := f'.trans fy
      have f3z : Fwd ρ4 S4 H4 ρ' S' H3 := fz.trans fy
      refine hg ρ' S' H3 (wipeD δ vs) (wipe σ vs) (.v ds[i]) x _ δ3 S3 (wipe_rp vs (f3z.st st4)) soy ry q fun σ4 ρ5 H5 f5 so5 st5 l5 k5 => ?_
      refine ⟨wipe_same ht l5 k5, δ3, ρ5, S3, st5, so5, ?_⟩
      have e5 : ρ5[n]? = some D' := f5.at ed
      cases qt : tt δ3 S3 with
      | bad => rw [qt] at p'; exact p'.elim
      | exc c cs S5 => rw [qt] at p'; exact p'.elim
      | ok c S6 =>
        rw [qt] at p'
        intro b ρ6 H6 f6 so6 rb
        cases rb
        have e6 := f6.at e5
        cases c with
        | false =>
          rw [if_neg Bool.false_ne_true]
          exact ⟨ρ6, S6, (f3.trans f5).trans f6, (f3z.trans f5).trans f6, e6, so6, p'⟩
        | true =>
          rw [if_pos rfl]
          refine ⟨δ3, ρ6, S6, f6.st st5, so6, ?_⟩
          have p5 : Post K (RpW K) ρ1 S1 H1 (((te δ3 S6).noexc.bind fun w S3 => match w, S3[n]? with
            | .v e, some (.lst acc) => if acc.length < 1000000 then compL dg tt te n (ds.drop (i + 1)) (wipeD δ vs) (S3.set n (.lst (acc ++ [e]))) else .bad
            | _, _ => .bad).bind fun _ S2 => kf S2) Q Ex := p'
          cases qe : te δ3 S6 with
          | bad => rw [qe] at p5; exact p5.elim
          | exc c cs S6 => rw [qe] at p5; exact p5.elim
          | ok w S7 =>
            rw [qe] at p5
            intro y7 ρ7 H7 f7 so7 r7
            have e7 := f7.at e6
            cases w with
            | v e =>
              cases qn : S7[n]? with
              | none => simp only [R.noexc_ok, R.bind_ok, qn] at p5; exact p5.elim
              | some ob =>
                cases ob with
                | lst acc =>
                  simp only [R.noexc_ok, R.bind_ok, qn] at p5
                  obtain ⟨xs, ex, rl⟩ := so7.obs _ _ _ e7 qn
                  by_cases ha : acc.length < 1000000
                  · simp only [if_pos ha] at p5
                    refine ⟨xs, ex, by rw [← rl.length]; exact Nat.lt_trans ha (by decide), ?_⟩
                    have fc : Fwd ρ7 S7 H7 ρ7 (S7.set n (.lst (acc ++ [e]))) (upd H7 D' (.lst (xs ++ [y7]))) := Fwd.changed so7 e7 qn rfl
                    exact ⟨ρ7, _, ((f3.trans f5).trans (f6.trans f7)).trans fc, ((f3z.trans f5).trans (f6.trans f7)).trans fc, e7, so7.changed e7 qn rfl ⟨_, upd_same, (fc.rpL rl).append (.cons (fc.rp r7) .nil)⟩, p5⟩
                  · simp only [if_neg ha] at p5; exact p5.elim
                | _ => simp only [R.noexc_ok, R.bind_ok, qn] at p5; exact p5.elim
            | _ => exact p5.elim
  · refine .inl ⟨js (by omega), ?_⟩
    rw [List.drop_eq_nil_of_le (by omega)] at p'
    exact hend ρ' S' H' f' fz ed so' p'
end
/-! ### two fors -/
def comp2L (dg : DenG) (tt : Den Bool) (it1 : Den (List D)) (dg1 : DenG) (tt1 : Den Bool) (te : Den W) (vs1 : List Nat) (n : Nat) : List D → Slots → Sto → R Unit
  | [], _, S => .ok () S
  | d :: ds, δ, S => match dg (.v d) δ S with
    | none => .bad
    | some (δ1, S1) => (tt δ1 S1).noexc.bind fun c S2 => if c then (it1 δ1 S2).noexc.bind fun es S3 => (compL dg1 tt1 te n es (wipeD δ1 vs1) S3).bind fun _ S4 => comp2L dg tt it1 dg1 tt1 te vs1 n ds δ S4
      else comp2L dg tt it1 dg1 tt1 te vs1 n ds δ S2
def endComp (n : Nat) (S2 : Sto) : R W := if S2.length = n + 1 then (match S2[n]? with
    | some (.lst acc) => .ok (.v (.lst acc)) (S2.take n)
    | _ => .bad) else .bad
def cComp2 (it : Den (List D)) (dg : DenG) (tt : Den Bool) (it1 : Den (List D)) (dg1 : DenG) (tt1 : Den Bool) (te : Den W) (vs vs1 : List Nat) : Den W := fun δ S => (it δ S).bind fun ds S1 =>
  (comp2L dg tt it1 dg1 tt1 te vs1 S1.length ds (wipeD δ vs) (S1 ++ [.lst []])).bind fun _ S2 => endComp S1.length S2
theorem endComp_post {K : PySem.W.Frag} {ρ1 ρ2 : List Addr} {S1 S2 : Sto} {H1 H2 : Hp} {D' : Addr} {Q : VK} {Ex} (so1 : Sok K ρ1 S1 H1) (nD : H1 D' = none) (f : Fwd ρ1 S1 H1 ρ2 S2 H2) (so2 : Sok K ρ2 S2 H2) (e : ρ2[S1.length]? = some D') (p : Post K (RpW K) ρ1 S1 H1 (endComp S1.length S2) Q Ex) : Q (.ref D') H2 := by
  unfold endComp at p
  by_cases hl : S2.length = S1.length + 1
  · simp only [if_pos hl] at p
    cases q : S2[S1.length]? with
    | none => rw [q] at p; exact p.elim
    | some ob =>
      cases ob with
      | lst acc =>
        rw [q] at p
        obtain ⟨xs, ex, rl⟩ := so2.obs _ _ _ e q
        obtain ⟨more, em⟩ := f.ext
        have t := so2.take S1.length
        rw [em, take_pre so1.len, ← em] at t
        refine p (.ref D') ρ1 H2 (f.cut so1.len so2.len) t.1 (Rp.lst ex (fun l => so1.notIn nD ?_) (rl.weak t.2))
        obtain ⟨j, o, h1, _, _⟩ := l
        exact List.mem_of_getElem? h1
      | _ => rw [q] at p; exact p.elim
  · simp only [if_neg hl] at p; exact p.elim
section
variable {K : PySem.W.Frag} {E : XP}
theorem comp2_post {it it1 : Den (List D)} {g g1 : TG} {dg dg1 : DenG} {ts ts1 vs vs1 : List Nat} {tt tt1 : Den Bool} {te : Den W} (hg : GOk K g dg ts) (ht : ∀ j ∈ ts, j ∈ vs) (hg1 : GOk K g1 dg1 ts1) (ht1 : ∀ j ∈ ts1, j ∈ vs1) {σ : L2.St} {H : Hp} {Q : VK}
    (h : tE K E (cComp2 it dg tt it1 dg1 tt1 te vs vs1) σ H Q) : tLc2 (tI K E it) g (tT K XP0 tt) (tI K XP0 it1) g1 (tT K XP0 tt1) (tE K XP0 te) vs vs1 σ H Q := by
  obtain ⟨δ, ρ, S, st, so, p⟩ := h
  refine tG_then st so p fun ds S1 J ρ1 H1 f1 st1 so1 j1 p1 => fun D' nD => ?_
  have fg : Fwd ρ1 S1 H1 (ρ1 ++ [D']) (S1 ++ [.lst []]) (upd H1 D' (.lst [])) := Fwd.grown so1 nD _
  have sg : Sok K (ρ1 ++ [D']) (S1 ++ [.lst []]) (upd H1 D' (.lst [])) := so1.grown nD _ ⟨[], upd_same, .nil⟩
  refine ⟨fun i m H' => i + m = ds.length ∧ ∃ (ρ' : List Addr) (S' : Sto), Fwd ρ1 S1 H1 ρ' S' H' ∧ ρ'[S1.length]? = some D' ∧ Sok K ρ' S' H' ∧ Post K (RpW K) ρ1 S1 H1 ((comp2L dg tt it1 dg1 tt1 te vs1 S1.length (ds.drop i) (wipeD δ vs) S').bind fun _ S2 => endComp S1.length S2) Q (E σ),
    ⟨ds.length, by omega, _, _, fg, by rw [← so1.len]; simp, sg, by rw [List.drop_zero]; exact p1⟩, fun i m H' hW => ?_⟩
  obtain ⟨em, ρ', S', f', ed, so', p'⟩ := hW
  obtain ⟨jg, js⟩ := j1 i ρ' S' H' f' so'
  by_cases hl : i < ds.length
  · have edr : ds.drop i = ds[i] :: ds.drop (i + 1) := List.drop_eq_getElem_cons hl
    rw [edr] at p'
    obtain ⟨g1', g2⟩ := jg ds[i] (List.getElem?_eq_getElem hl)
    refine .inr ⟨g1', fun H2 => ∃ (ρ2 : List Addr) (S2 : Sto), Fwd ρ1 S1 H1 ρ2 S2 H2 ∧ ρ2[S1.length]? = some D' ∧ Sok K ρ2 S2 H2 ∧ Post K (RpW K) ρ1 S1 H1 ((comp2L dg tt it1 dg1 tt1 te vs1 S1.length (ds.drop (i + 1)) (wipeD δ vs) S2).bind fun _ S2 => endComp S1.length S2) Q (E σ),
      fun H2 ⟨ρ2, S2, a1, a2, a3, a4⟩ => ⟨m - 1, by omega, by omega, ρ2, S2, a1, a2, a3, a4⟩, fun x H3 y => ?_⟩
    obtain ⟨fy, soy, ry⟩ := g2 x H3 y
    unfold comp2L at p'
    cases q : dg (.v ds[i]) (wipeD δ vs) S' with
    | none => simp only [q] at p'; exact p'.elim
    | some z =>
      obtain ⟨δ3, S3⟩ := z
      simp only [q] at p'
      have f3 : Fwd ρ1 S1 H1 ρ' S' H3 := f'.trans fy
      refine hg ρ' S' H3 (wipeD δ vs) (wipe σ vs) (.v ds[i]) x _ δ3 S3 (wipe_rp vs (f3.st st1)) soy ry q fun σ4 ρ4 H4 f4 so4 st4 l4 k4 => ?_
      refine ⟨wipe_same ht l4 k4, δ3, ρ4, S3, st4, so4, ?_⟩
      have f14 : Fwd ρ1 S1 H1 ρ4 S3 H4 := f3.trans f4
      have e4 : ρ4[S1.length]? = some D' := f4.at ed
      cases qt : tt δ3 S3 with
      | bad => rw [qt] at p'; exact p'.elim
      | exc c cs S5 => rw [qt] at p'; exact p'.elim
      | ok c S5 =>
        rw [qt] at p'
        intro b ρ5 H5 f5 so5 rb
        cases rb
        have f15 := f14.trans f5
        have e5 := f5.at e4
        cases c with
        | false =>
          rw [if_neg Bool.false_ne_true]
          exact ⟨ρ5, S5, f15, e5, so5, p'⟩
        | true =>
          rw [if_pos rfl]
          refine ⟨δ3, ρ5, S5, f5.st st4, so5, ?_⟩
          have p5 : Post K (RpW K) ρ1 S1 H1 (((it1 δ3 S5).noexc.bind fun es S3 => (compL dg1 tt1 te S1.length es (wipeD δ3 vs1) S3).bind fun _ S4 => comp2L dg tt it1 dg1 tt1 te vs1 S1.length (ds.drop (i + 1)) (wipeD δ vs) S4).bind fun _ S2 => endComp S1.length S2) Q (E σ) := p'
          cases qi : it1 δ3 S5 with
          | bad => rw [qi] at p5; exact p5.elim
          | exc c cs S6 => rw [qi] at p5; exact p5.elim
          | ok es S6 =>
            rw [qi] at p5
            intro J1 ρ6 H6 f6 so6 j6
            have p6 : Post K (RpW K) ρ1 S1 H1 ((compL dg1 tt1 te S1.length es (wipeD δ3 vs1) S6).bind fun _ S4 => ((comp2L dg tt it1 dg1 tt1 te vs1 S1.length (ds.drop (i + 1)) (wipeD δ vs) S4).bind fun _ S2 => endComp S1.length S2)) Q (E σ) := by
              have e : ∀ r : R Unit, ((r.bind fun _ S4 => comp2L dg tt it1 dg1 tt1 te vs1 S1.length (ds.drop (i + 1)) (wipeD δ vs) S4).bind fun _ S2 => endComp S1.length S2) = r.bind fun _ S4 => ((comp2L dg tt it1 dg1 tt1 te vs1 S1.length (ds.drop (i + 1)) (wipeD δ vs) S4).bind fun _ S2 => endComp S1.length S2) := fun r => by cases r <;> rfl
              rw [← e]; exact p5
            exact comp_turns hg1 ht1 (f15.trans f6) (f6.at e5) so6 (f6.st (f5.st st4)) j6 p6 fun ρ7 S7 H7 f7 _ e7 so7 p7 => ⟨ρ7, S7, f7, e7, so7, p7⟩
  · refine .inl ⟨js (by omega), ?_⟩
    rw [List.drop_eq_nil_of_le (by omega)] at p'
    exact endComp_post so1 nD f' so' ed p'
end
section
variable {X : Cx} {E : XP}
theorem de_comp2 {elt tg iter tg1 iter1 : Expr} {ifs ifs1 : List Expr} {scope : Scope} {own : List (Str × Nat)} {pos : Pos} {it it1 : Den (List D)} {g g1 : TG} {dg dg1 : DenG} {ts ts1 vs1 : List Nat} {tt tt1 : Den Bool} {te : Den W} (hc : X.calm = true) (hN : X.N.Nodup) (hi : PI X tg iter (tI X.K E it)) (hgo : GOk X.K g dg ts) (hgo1 : GOk X.K g1 dg1 ts1) (ok : blkC X.N X.env.scope scope own = true)
    (hg : ∀ (s : Shared) (H : Hp) (C : Addr) (cl : List (Str × Addr)) (fp : List Addr), PG (X.blk s H scope (compEnvC scope cl C X.env) fp) tg g) (ht : ∀ (s : Shared) (H : Hp) (C : Addr) (cl : List (Str × Addr)) (fp : List Addr), PTs (X.blk s H scope (compEnvC scope cl C X.env) fp) ifs (tT X.K XP0 tt))
    (hi1 : ∀ (s : Shared) (H : Hp) (C : Addr) (cl : List (Str × Addr)) (fp : List Addr), PI (X.blk s H scope (compEnvC scope cl C X.env) fp) tg1 iter1 (tI X.K XP0 it1))
    (hg1 : ∀ (s : Shared) (H : Hp) (C : Addr) (cl : List (Str × Addr)) (fp : List Addr), PG (X.blk s H scope (compEnvC scope cl C X.env) fp) tg1 g1) (ht1 : ∀ (s : Shared) (H : Hp) (C : Addr) (cl : List (Str × Addr)) (fp : List Addr), PTs (X.blk s H scope (compEnvC scope cl C X.env) fp) ifs1 (tT X.K XP0 tt1))
    (he : ∀ (s : Shared) (H : Hp) (C : Addr) (cl : List (Str × Addr)) (fp : List Addr), PE (X.blk s H scope (compEnvC scope cl C X.env) fp) elt (tE X.K XP0 te)) (hs : ∀ x, foldedSetIterable iter X.env x = pure x := by intro _; rfl) (hs1 : ∀ env x, foldedSetIterable iter1 env x = pure x := by intro _ _; rfl) (hts : ∀ j ∈ ts, j ∈ own.map (·.2) := by decide) (hts1 : ∀ j ∈ ts1, j ∈ vs1 := by decide) (hv : ∀ i ∈ vs1, i ∈ own.map (·.2) := by decide) :
    PE X (.ListComp elt [⟨tg, iter, ifs, 0⟩, ⟨tg1, iter1, ifs1, 0⟩] scope pos) (tE X.K E (cComp2 it dg tt it1 dg1 tt1 te (own.map (·.2)) vs1)) :=
  pe_mono (pe_lc2 hc hN hi (blkOk_by ok) hv hg ht hi1 hg1 ht1 he hs hs1) fun σ H Q h => comp2_post hgo hts hgo1 hts1 h
end
end Fro

namespace Fro
open PySem PySem.Spec L2

/-! ### {k: v for ..} -/
def dputL (n : Nat) (k w : W) (S : Sto) : Option Sto := match k, w, S[n]? with
  | .v (.str t), .v e, some (.dct acc) => if acc.length < 1000000 then some (S.set n (.dct (putE acc t e))) else none
  | _, _, _ => none
def dcompL (dg : DenG) (tt : Den Bool) (tk tv : Den W) (n : Nat) : List D → Slots → Sto → R Unit
  | [], _, S => .ok () S
  | d :: ds, δ, S => match dg (.v d) δ S with
    | none => .bad
    | some (δ1, S1) => (tt δ1 S1).noexc.bind fun c S2 => if c then (tk δ1 S2).noexc.bind fun k S3 => (tv δ1 S3).noexc.bind fun w S4 => match dputL n k w S4 with
        | some S5 => dcompL dg tt tk tv n ds δ S5
        | none => .bad
      else dcompL dg tt tk tv n ds δ S2
def endDComp (n : Nat) (S2 : Sto) : R W := if S2.length = n + 1 then (match S2[n]? with
    | some (.dct acc) => .ok (.v (.dct acc)) (S2.take n)
    | _ => .bad) else .bad
def cDComp (it : Den (List D)) (dg : DenG) (tt : Den Bool) (tk tv : Den W) (vs : List Nat) : Den W := fun δ S => (it δ S).bind fun ds S1 =>
  (dcompL dg tt tk tv S1.length ds (wipeD δ vs) (S1 ++ [.dct []])).bind fun _ S2 => endDComp S1.length S2
section
variable {K : PySem.W.Frag} {E : XP}
theorem dput_ok {n : Nat} {k w : W} {S S' : Sto} {ρ : List Addr} {H : Hp} {D' : Addr} {y z : V} (so : Sok K ρ S H) (e : ρ[n]? = some D') (rk : RpW K ρ S H k y) (rv : RpW K ρ S H w z) (h : dputL n k w S = some S') :
    ∃ (kvs : List (Key × V)) (kk : Key), y = kV kk ∧ H D' = some (.dK kvs) ∧ kvs.length < sizeLine ∧ Fwd ρ S H ρ S' (upd H D' (.dK (putK kvs kk z))) ∧ Sok K ρ S' (upd H D' (.dK (putK kvs kk z))) := by
  unfold dputL at h
  split at h
  · rename_i t d acc q
    split at h
    · rename_i ha
      cases h
      obtain ⟨kvs, ex, re⟩ := so.obs _ _ _ e q
      cases rk
      have fc : Fwd ρ S H ρ (S.set n (.dct (putE acc t d))) (upd H D' (.dK (putK kvs (Sum.inr (sx t)) z))) := Fwd.changed so e q rfl
      exact ⟨kvs, Sum.inr (sx t), rfl, ex, by rw [← rpE_len re]; exact Nat.lt_trans ha (by decide), fc, so.changed e q rfl ⟨_, upd_same, rpE_put t (fc.rpE re) (fc.rp rv)⟩⟩
    · cases h
  · cases h
theorem dcomp_post {it : Den (List D)} {g : TG} {dg : DenG} {ts vs : List Nat} {tt : Den Bool} {tk tv : Den W} (hg : GOk K g dg ts) (ht : ∀ j ∈ ts, j ∈ vs) {σ : L2.St} {H : Hp} {Q : VK}
    (h : tE K E (cDComp it dg tt tk tv vs) σ H Q) : tDc (tI K E it) g (tT K XP0 tt) (tE K XP0 tk) (tE K XP0 tv) vs σ H Q := by
  obtain ⟨δ, ρ, S, st, so, p⟩ := h
  refine tG_then st so p fun ds S1 J ρ1 H1 f1 st1 so1 j1 p1 => fun D' nD => ?_
  have fg : Fwd ρ1 S1 H1 (ρ1 ++ [D']) (S1 ++ [.dct []]) (upd H1 D' (.dK [])) := Fwd.grown so1 nD _
  have sg : Sok K (ρ1 ++ [D']) (S1 ++ [.dct []]) (upd H1 D' (.dK [])) := so1.grown nD _ ⟨[], upd_same, .nil⟩
  refine ⟨fun i m H' => i + m = ds.length ∧ ∃ (ρ' : List Addr) (S' : Sto), Fwd ρ1 S1 H1 ρ' S' H' ∧ ρ'[S1.length]? = some D' ∧ Sok K ρ' S' H' ∧ Post K (RpW K) ρ1 S1 H1 ((dcompL dg tt tk tv S1.length (ds.drop i) (wipeD δ vs) S').bind fun _ S2 => endDComp S1.length S2) Q (E σ),
    ⟨ds.length, by omega, _, _, fg, by rw [← so1.len]; simp, sg, by rw [List.drop_zero]; exact p1⟩, fun i m H' hW => ?_⟩
  obtain ⟨em, ρ', S', f', ed, so', p'⟩ := hW
  obtain ⟨jg, js⟩ := j1 i ρ' S' H' f' so'
  by_cases hl : i < ds.length
  · have edr : ds.drop i = ds[i] :: ds.drop (i + 1) := List.drop_eq_getElem_cons hl
    rw [edr] at p'
    obtain ⟨g1, g2⟩ := jg ds[i] (List.getElem?_eq_getElem hl)
    refine .inr ⟨g1, fun H2 => ∃ (ρ2 : List Addr) (S2 : Sto), Fwd ρ1 S1 H1 ρ2 S2 H2 ∧ ρ2[S1.length]? = some D' ∧ Sok K ρ2 S2 H2 ∧ Post K (RpW K) ρ1 S1 H1 ((dcompL dg tt tk tv S1.length (ds.drop (i + 1)) (wipeD δ vs) S2).bind fun _ S2 => endDComp S1.length S2) Q (E σ),
      fun H2 ⟨ρ2, S2, a1, a2, a3, a4⟩ => ⟨m - 1, by omega, by omega, ρ2, S2, a1, a2, a3, a4⟩, fun x H3 y => ?_⟩
    obtain ⟨fy, soy, ry⟩ := g2 x H3 y
    unfold dcompL at p'
    cases q : dg (.v ds[i]) (wipeD δ vs) S' with
    | none => simp only [q] at p'; exact p'.elim
    | some z =>
      obtain ⟨δ3, S3⟩ := z
      simp only [q] at p'
      have f3 : Fwd ρ1 S1 H1 ρ' S' H3 := f'.trans fy
      refine hg ρ' S' H3 (wipeD δ vs) (wipe σ vs) (.v ds[i]) x _ δ3 S3 (wipe_rp vs (f3.st st1)) soy ry q fun σ4 ρ4 H4 f4 so4 st4 l4 k4 => ?_
      refine ⟨wipe_same ht l4 k4, δ3, ρ4, S3, st4, so4, ?_⟩
      have f14 : Fwd ρ1 S1 H1 ρ4 S3 H4 := f3.trans f4
      have e4 : ρ4[S1.length]? = some D' := f4.at ed
      cases qt : tt δ3 S3 with
      | bad => rw [qt] at p'; exact p'.elim
      | exc c cs S5 => rw [qt] at p'; exact p'.elim
      | ok c S5 =>
        rw [qt] at p'
        intro b ρ5 H5 f5 so5 rb
        cases rb
        have f15 := f14.trans f5
        have e5 := f5.at e4
        cases c with
        | false =>
          rw [if_neg Bool.false_ne_true]
          exact ⟨ρ5, S5, f15, e5, so5, p'⟩
        | true =>
          rw [if_pos rfl]
          refine ⟨δ3, ρ5, S5, f5.st st4, so5, ?_⟩
          have p5 : Post K (RpW K) ρ1 S1 H1 (((tk δ3 S5).noexc.bind fun k S3 => (tv δ3 S3).noexc.bind fun w S4 => match dputL S1.length k w S4 with
            | some S5 => dcompL dg tt tk tv S1.length (ds.drop (i + 1)) (wipeD δ vs) S5
            | none => .bad).bind fun _ S2 => endDComp S1.length S2) Q (E σ) := p'
          cases qk : tk δ3 S5 with
          | bad => rw [qk] at p5; exact p5.elim
          | exc c cs S6 => rw [qk] at p5; exact p5.elim
          | ok k S6 =>
            rw [qk] at p5
            intro y6 ρ6 H6 f6 so6 r6
            refine ⟨δ3, ρ6, S6, f6.st (f5.st st4), so6, ?_⟩
            have p6 : Post K (RpW K) ρ1 S1 H1 (((tv δ3 S6).noexc.bind fun w S4 => match dputL S1.length k w S4 with
              | some S5 => dcompL dg tt tk tv S1.length (ds.drop (i + 1)) (wipeD δ vs) S5
              | none => .bad).bind fun _ S2 => endDComp S1.length S2) Q (E σ) := p5
            cases qv : tv δ3 S6 with
            | bad => rw [qv] at p6; exact p6.elim
            | exc c cs S7 => rw [qv] at p6; exact p6.elim
            | ok w S7 =>
              rw [qv] at p6
              intro y7 ρ7 H7 f7 so7 r7
              have p7 : Post K (RpW K) ρ1 S1 H1 ((match dputL S1.length k w S7 with
                | some S5 => dcompL dg tt tk tv S1.length (ds.drop (i + 1)) (wipeD δ vs) S5
                | none => .bad).bind fun _ S2 => endDComp S1.length S2) Q (E σ) := p6
              cases qd : dputL S1.length k w S7 with
              | none => rw [qd] at p7; exact p7.elim
              | some S8 =>
                rw [qd] at p7
                have e7 := f7.at (f6.at e5)
                obtain ⟨kvs, kk, ek, eh, el, fc, sc⟩ := dput_ok so7 e7 (f7.rw r6) r7 qd
                exact ⟨kvs, kk, ek, eh, el, ρ7, S8, ((f15.trans f6).trans f7).trans fc, e7, sc, p7⟩
  · refine .inl ⟨js (by omega), ?_⟩
    rw [List.drop_eq_nil_of_le (by omega)] at p'
    have pe : Post K (RpW K) ρ1 S1 H1 (endDComp S1.length S') Q (E σ) := p'
    unfold endDComp at pe
    by_cases hl2 : S'.length = S1.length + 1
    · simp only [if_pos hl2] at pe
      cases q : S'[S1.length]? with
      | none => rw [q] at pe; exact pe.elim
      | some ob =>
        cases ob with
        | dct acc =>
          rw [q] at pe
          obtain ⟨xs, ex, rl⟩ := so'.obs _ _ _ ed q
          obtain ⟨more, em⟩ := f'.ext
          have t := so'.take S1.length
          rw [em, take_pre so1.len, ← em] at t
          refine pe (.ref D') ρ1 H' (f'.cut so1.len so'.len) t.1 (Rp.dct (.inl ex) (fun l => so1.notIn nD ?_) (rl.weak t.2))
          obtain ⟨j, o, h1, _, _⟩ := l
          exact List.mem_of_getElem? h1
        | _ => rw [q] at pe; exact pe.elim
    · simp only [if_neg hl2] at pe; exact pe.elim
end
section
variable {X : Cx} {E : XP}
theorem de_dcomp {kx vx tg iter : Expr} {ifs : List Expr} {scope : Scope} {own : List (Str × Nat)} {pos : Pos} {it : Den (List D)} {g : TG} {dg : DenG} {ts : List Nat} {tt : Den Bool} {tk tv : Den W} (hc : X.calm = true) (hN : X.N.Nodup) (hi : PI X tg iter (tI X.K E it)) (hgo : GOk X.K g dg ts) (ok : blkC X.N X.env.scope scope own = true)
    (hg : ∀ (s : Shared) (H : Hp) (C : Addr) (cl : List (Str × Addr)) (fp : List Addr), PG (X.blk s H scope (compEnvC scope cl C X.env) fp) tg g) (ht : ∀ (s : Shared) (H : Hp) (C : Addr) (cl : List (Str × Addr)) (fp : List Addr), PTs (X.blk s H scope (compEnvC scope cl C X.env) fp) ifs (tT X.K XP0 tt))
    (hk : ∀ (s : Shared) (H : Hp) (C : Addr) (cl : List (Str × Addr)) (fp : List Addr), PE (X.blk s H scope (compEnvC scope cl C X.env) fp) kx (tE X.K XP0 tk))
    (he : ∀ (s : Shared) (H : Hp) (C : Addr) (cl : List (Str × Addr)) (fp : List Addr), PE (X.blk s H scope (compEnvC scope cl C X.env) fp) vx (tE X.K XP0 tv)) (hs : ∀ x, foldedSetIterable iter X.env x = pure x := by intro _; rfl) (hts : ∀ j ∈ ts, j ∈ own.map (·.2) := by decide) :
    PE X (.DictComp kx vx [⟨tg, iter, ifs, 0⟩] scope pos) (tE X.K E (cDComp it dg tt tk tv (own.map (·.2)))) :=
  pe_mono (pe_dc hc hN hi (blkOk_by ok) hg ht hk he hs) fun σ H Q h => dcomp_post hgo hts h
end
end Fro

namespace Fro
open PySem PySem.Spec L2 PyProof.Rows

/-! ### name = {.. for ..} -/
section
variable {X : Cx} {E : XP}
theorem swD_true {kx vx : Expr} {gs : List Comprehension} {scope : Scope} {pos py : Pos} {y : Str} {l : Nat} {env : Env} (hk : env.scope.kind = .function) (hy : env.scope.names.lookup y = some .local) (hl : (py.line == pos.line) = true) (ha : (scope.names.any fun (n, k) => n == y && (k == .local || k == .cell)) = false) :
    swapsWith (.DictComp kx vx gs scope pos) (some (.Name y py)) l env = pure true := by
  have k1 : env.blockKind = .function := by unfold Env.blockKind; rw [hk]; rfl
  have k2 : env.kindOf y = some .local := hy
  unfold swapsWith
  simp only [k1, k2, ha, Expr.pos, hl]
  rfl
theorem ps_setDc {i : Nat} {y : Str} {py : Pos} {kx vx tg iter : Expr} {ifs : List Expr} {scope : Scope} {own : List (Str × Nat)} {pos spos : Pos} {wi : TI} {g : TG} {tt : TT} {tk tv : TE} (hc : X.calm = true) (hN : X.N.Nodup) (hy : X.N[i]? = some y) (hyl : X.env.scope.names.lookup y = some .local) (hsw : swapsWith (.DictComp kx vx [⟨tg, iter, ifs, 0⟩] scope pos) (some (.Name y py)) spos.line X.env = pure true) (hi : PI X tg iter wi) (ok : BlkOk X.N X.env.scope scope own)
    (hg : ∀ (s : Shared) (H : Hp) (C : Addr) (cl : List (Str × Addr)) (fp : List Addr), PG (X.blk s H scope (compEnvC scope cl C X.env) fp) tg g) (ht : ∀ (s : Shared) (H : Hp) (C : Addr) (cl : List (Str × Addr)) (fp : List Addr), PTs (X.blk s H scope (compEnvC scope cl C X.env) fp) ifs tt) (hk : ∀ (s : Shared) (H : Hp) (C : Addr) (cl : List (Str × Addr)) (fp : List Addr), PE (X.blk s H scope (compEnvC scope cl C X.env) fp) kx tk) (he : ∀ (s : Shared) (H : Hp) (C : Addr) (cl : List (Str × Addr)) (fp : List Addr), PE (X.blk s H scope (compEnvC scope cl C X.env) fp) vx tv) (hs : ∀ x, foldedSetIterable iter X.env x = pure x) :
    PS X (.Assign [.Name y py] (.DictComp kx vx [⟨tg, iter, ifs, 0⟩] scope pos) spos) (tAsg (tDc wi g tt tk tv (own.map (·.2))) (gName i)) := by
  refine ⟨fun pins s σ H D I h => ?_⟩
  rw [exec_Assign_Name_used _ _ _ _ hsw]
  refine wpAny_bind (wpAny_standAt (wpAny_bind ?_))
  show wpAny _ X.A (do let _ ← comprehension (.DictComp kx vx [⟨tg, iter, ifs, 0⟩] scope pos) scope X.env (firstIterPos [⟨tg, iter, ifs, 0⟩] pos) newDict false (eval iter X.env) (some (assign (.Name y py) X.env))) _ _ s
  have h' : tDc wi g tt tk tv (own.map (·.2)) σ H (fun x H1 => gName i x σ H1 D.nx) := h
  refine wpAny_bind (thn (dc_core (Qf := fun _ s' => SP X pins D .next s') hc hN I hi ok hg ht hk he hs h' fun L C s' m H' I' q hn f => ?_) fun _ s' hq => wpAny_pure (wpAny_pure hq))
  show wpAny _ _ (assign (.Name y py) X.env (.ref L)) _ _ _
  refine wpAny_assign_Name (store_ok2 (v := V.ref L) I' hN hy (.inl hyl) rfl (fun s2 I2 ⟨a, sb, ha⟩ => ?_) (.inr hyl))
  obtain ⟨g0, g1, g2, g3, g4, g5⟩ := f
  have haC : C ≠ a := by
    rcases ha with z | z
    · rw [z]; exact g1
    · exact fun e => g4 y a z e.symm
  exact ⟨m, hn.sameBut sb haC, fun h3 sb3 => ⟨_, H', I2.turned (t' := s2.toks) (fun b o hb e => (sb3.2 b hb).trans e) g0 g1 g3 g4 g5, q⟩⟩
theorem ds_setDComp (i : Nat) {y : Str} {py : Pos} {kx vx tg iter : Expr} {ifs : List Expr} {scope : Scope} {own : List (Str × Nat)} {pos spos : Pos} {it : Den (List D)} {g : TG} {dg : DenG} {ts : List Nat} {tt : Den Bool} {tk tv : Den W} (hc : X.calm = true) (hN : X.N.Nodup) (hi : PI X tg iter (tI X.K E it)) (hgo : GOk X.K g dg ts) (ok : blkC X.N X.env.scope scope own = true)
    (hg : ∀ (s : Shared) (H : Hp) (C : Addr) (cl : List (Str × Addr)) (fp : List Addr), PG (X.blk s H scope (compEnvC scope cl C X.env) fp) tg g) (ht : ∀ (s : Shared) (H : Hp) (C : Addr) (cl : List (Str × Addr)) (fp : List Addr), PTs (X.blk s H scope (compEnvC scope cl C X.env) fp) ifs (tT X.K XP0 tt)) (hk : ∀ (s : Shared) (H : Hp) (C : Addr) (cl : List (Str × Addr)) (fp : List Addr), PE (X.blk s H scope (compEnvC scope cl C X.env) fp) kx (tE X.K XP0 tk)) (he : ∀ (s : Shared) (H : Hp) (C : Addr) (cl : List (Str × Addr)) (fp : List Addr), PE (X.blk s H scope (compEnvC scope cl C X.env) fp) vx (tE X.K XP0 tv))
    (hs : ∀ x, foldedSetIterable iter X.env x = pure x := by intro _; rfl) (hts : ∀ j ∈ ts, j ∈ own.map (·.2) := by decide) (hy : X.N[i]? = some y := by rfl) (hyl : X.env.scope.names.lookup y = some .local := by rfl) (hsw : swapsWith (.DictComp kx vx [⟨tg, iter, ifs, 0⟩] scope pos) (some (.Name y py)) spos.line X.env = pure true := by exact swD_true rfl rfl rfl (by decide +kernel)) :
    PS X (.Assign [.Name y py] (.DictComp kx vx [⟨tg, iter, ifs, 0⟩] scope pos) spos) (tS X.K E (cAsg (cDComp it dg tt tk tv (own.map (·.2))) (gN i))) :=
  ps_mono (ps_setDc hc hN hy hyl hsw hi (blkOk_by ok) hg ht hk he hs) fun D' σ H ⟨δ, ρ, S, st, so, p⟩ => dcomp_post hgo hts (tG_thenS st so p fun w S1 v ρ1 H1 f1 st1 so1 r1 p1 => asg_post (gok_name i) st1 so1 r1 p1)
end

/-! ### calls of built-in classes -/
theorem CallR.or {X : Cx} {f : Value} {r r' : List V → Hp → VK → Prop} (h : CallR X f r) (h' : CallR X f r') : CallR X f fun xs H Q => r xs H Q ∨ r' xs H Q := fun pins s σ H xs us Q I rx q => q.elim (h pins s σ H xs us Q I rx) (h' pins s σ H xs us Q I rx)
def signs (t : Tx) : List D := t.map fun c => .str [c]
def gTuple : List D → Option D := fun ds => match ds with
  | [.lst xs] => some (.tup xs)
  | [.tup xs] => some (.tup xs)
  | _ => none
def gList : List D → Option D := fun ds => match ds with
  | [.lst xs] => some (.lst xs)
  | [.tup xs] => some (.lst xs)
  | [.str t] => if t.length ≤ 1000000 then some (.lst (signs t)) else none
  | _ => none
def txI (i : Int) : Tx := (Str.ofString (toString i)).cps.toList
theorem sx_txI (i : Int) : sx (txI i) = Str.ofString (toString i) := by
  unfold sx txI
  simp
def tTrue : Tx := [84, 114, 117, 101]
def tFalse : Tx := [70, 97, 108, 115, 101]
def gStr : List D → Option D := fun ds => match ds with
  | [.int i] => if i.natAbs < 18446744073709551616 then some (.str (txI i)) else none
  | [.bl b] => some (.str (if b then tTrue else tFalse))
  | [.str t] => some (.str t)
  | _ => none
def gIntT : List D → Option D := fun ds => match ds with
  | [.int i] => some (.int i)
  | [.bl b] => some (.int (if b then 1 else 0))
  | [.str t] => if t.length ≤ 640 then (PySem.intText? (sx t)).map .int else none
  | _ => none
section
variable {X : Cx} {K : PySem.W.Frag}
theorem rql1 {H : Hp} {M : Addr → Prop} {d : D} {xs : List V} (h : RqL K H M [d] xs) : ∃ v, xs = [v] ∧ Rq K H M d v := by
  cases h with
  | cons a b => cases b; exact ⟨_, rfl, a⟩
theorem gn_tuple : GN K (fun xs H Q => ∃ p ys, xs = [.ref p] ∧ ((SqL K H p ys ∧ ∀ l, H l = none → Q (.ref l) (upd H l (.tup ys))) ∨ (SqT K H p ys ∧ Q (.ref p) H))) gTuple := fun ρ S H ds z xs Q so rx q n => by
  unfold gTuple at q
  split at q
  · obtain ⟨v, rfl, r⟩ := rql1 rx
    cases q
    obtain ⟨a, ys, rfl, ha, ra⟩ := r.lstE
    exact ⟨a, ys, rfl, .inl ⟨SqL.of ha, nxt_tup so ra n⟩⟩
  · obtain ⟨v, rfl, r⟩ := rql1 rx
    cases q
    obtain ⟨a, ys, rfl, ha, ra⟩ := r.tup
    exact ⟨a, ys, rfl, .inr ⟨ha, nxt_here so (.tup ha ra) n⟩⟩
  · cases q
/-- list(text) -/
theorem call_list_text : X.calm = true → CallR X (.type "list") (fun xs H Q => ∃ t : Tx, xs = [.str (sx t)] ∧ t.length ≤ 1000000 ∧ ∀ l, H l = none → Q (.ref l) (upd H l (.lst (t.map fun c => V.str ⟨#[c]⟩)))) := fun hc => by
  intro pins s σ H xs us Q I r h
  obtain ⟨t, rfl, hl, q⟩ := h
  obtain ⟨u, rfl, tk, rfl⟩ := vals1 r
  have hz : (sx t).cps.size = t.length := by simp [sx]
  refine PySem.call_list_str (I.ok.hd hc) (sx t) tk (fun h' tk' acc c' kp e it => ?_) (by rw [hz]; exact lt_line hl)
  have hv : Vals (t.map fun c => V.str ⟨#[c]⟩) acc.toList := by
    have ha : acc.toList.length = t.length := by rw [Array.length_toList, it.1, hz]
    have key : ∀ (t : Tx) (l : List Value), l.length = t.length → (∀ (j : Nat) (v : Value), l[j]? = some v → ∃ c u, t[j]? = some c ∧ v = Value.str ⟨#[c]⟩ u) → Vals (t.map fun c => V.str ⟨#[c]⟩) l := by
      intro t
      induction t with
      | nil =>
        intro l hl _
        cases l with
        | nil => exact .nil
        | cons a b => cases hl
      | cons c t ih =>
        intro l hl hh
        cases l with
        | nil => cases hl
        | cons a b =>
          obtain ⟨c', u, e1, e2⟩ := hh 0 a rfl
          cases e1
          subst e2
          exact .cons ⟨u, rfl⟩ (ih b (by simpa using hl) fun j v hj => by simpa using hh (j + 1) v (by simpa using hj))
    refine key t acc.toList ha fun j v hj => ?_
    obtain ⟨c, u, e1, e2⟩ := it.2 j v (by simpa using hj)
    exact ⟨c, u, by simpa [sx] using e1, e2⟩
  exact ⟨.ref s.heap.objs.size, _, I.laid (t' := tk') kp (Nat.le_refl _) (show ObjOk X.prog X.w _ h' _ (.lst _) from ⟨by rw [List.length_map]; exact lt_line hl, acc.toList, c', hv, by simpa using e⟩), rfl, q _ (I.hok.fresh (Nat.le_refl _))⟩
def rListA (K : PySem.W.Frag) : List V → Hp → VK → Prop := fun xs H Q => (∃ p ys, xs = [.ref p] ∧ (SqL K H p ys ∨ SqT K H p ys) ∧ ∀ l, H l = none → Q (.ref l) (upd H l (.lst ys))) ∨ ∃ t : Tx, xs = [.str (sx t)] ∧ t.length ≤ 1000000 ∧ ∀ l, H l = none → Q (.ref l) (upd H l (.lst (t.map fun c => V.str ⟨#[c]⟩)))
theorem call_listA (hc : X.calm = true) : CallR X (.type "list") (rListA X.K) := call_list_of.or (call_list_text hc)
theorem rp_signs {H : Hp} {M : Addr → Prop} : ∀ t : Tx, RpL K H M (signs t) (t.map fun c => V.str ⟨#[c]⟩)
  | [] => .nil
  | c :: t => .cons (.str [c]) (rp_signs t)
theorem gn_list : GN K (rListA K) gList := fun ρ S H ds z xs Q so rx q n => by
  unfold gList at q
  split at q
  · obtain ⟨v, rfl, r⟩ := rql1 rx
    cases q
    obtain ⟨a, ys, rfl, ha, ra⟩ := r.lstE
    exact .inl ⟨a, ys, rfl, .inl (SqL.of ha), nxt_lst so ra n⟩
  · obtain ⟨v, rfl, r⟩ := rql1 rx
    cases q
    obtain ⟨a, ys, rfl, ha, ra⟩ := r.tup
    exact .inl ⟨a, ys, rfl, .inr ha, nxt_lst so ra n⟩
  · obtain ⟨v, rfl, r⟩ := rql1 rx
    split at q
    · rename_i hl
      cases q
      refine .inr ⟨_, by rw [r.str], hl, nxt_lst so (rp_signs _) n⟩
    · cases q
  · cases q
theorem call_str_bl : CallR X (.type "str") (fun xs H Q => ∃ b : Bool, xs = [.bl b] ∧ Q (.str (if b then "True" else "False")) H) := by
  intro pins s σ H xs us Q I r h
  obtain ⟨b, rfl, q⟩ := h
  obtain ⟨u, rfl, r1⟩ := vals1 r
  cases r1
  exact PySem.P.str_of_bool ⟨.str _, H, I.tok _, ⟨_, rfl⟩, q⟩
def rStrA : List V → Hp → VK → Prop := fun xs H Q => ((∃ i : Int, xs = [.int i] ∧ i.natAbs.log2 < 1920 ∧ Q (.str (toString i)) H) ∨ ∃ b : Bool, xs = [.bl b] ∧ Q (.str (if b then "True" else "False")) H) ∨ ∃ a, xs = [.str a] ∧ Q (.str a) H
theorem call_strA : CallR X (.type "str") rStrA := (call_str_int.or call_str_bl).or SkE.call_str_str
theorem gn_str : GN K rStrA gStr := fun ρ S H ds z xs Q so rx q n => by
  unfold gStr at q
  split at q
  · obtain ⟨v, rfl, r⟩ := rql1 rx
    rename_i i
    split at q
    · rename_i hl
      cases q
      refine .inl (.inl ⟨i, by rw [r.int], ?_, ?_⟩)
      · by_cases h0 : i.natAbs = 0
        · rw [h0]; decide
        · exact Nat.lt_of_lt_of_le ((Nat.log2_lt h0).mpr (show i.natAbs < 2 ^ 64 from hl)) (show 64 ≤ 1920 by decide)
      · have := nxt_here so (.str (txI i)) n
        rw [sx_txI] at this
        exact this
    · cases q
  · obtain ⟨v, rfl, r⟩ := rql1 rx
    rename_i b
    cases q
    refine .inl (.inr ⟨b, by rw [r.bl], ?_⟩)
    have := nxt_here so (.str (if b then tTrue else tFalse)) n
    cases b with
    | true => exact this
    | false => exact this
  · obtain ⟨v, rfl, r⟩ := rql1 rx
    cases q
    exact .inr ⟨_, by rw [r.str], nxt_here so (.str _) n⟩
  · cases q
def rIntA : List V → Hp → VK → Prop := fun xs H Q => ((∃ i, xs = [.int i] ∧ Q (.int i) H) ∨ ∃ k, xs = [.bl k] ∧ Q (.int (if k then 1 else 0)) H) ∨ ∃ a n, xs = [.str a] ∧ PySem.intText? a = some n ∧ a.length ≤ 640 ∧ Q (.int n) H
theorem call_intA : CallR X (.type "int") rIntA := CallR.or call_int1 call_int_str
theorem gn_intT : GN K rIntA gIntT := fun ρ S H ds z xs Q so rx q n => by
  unfold gIntT at q
  split at q
  · obtain ⟨v, rfl, r⟩ := rql1 rx
    cases q
    exact .inl (.inl ⟨_, by rw [r.int], nxt_here so (.int _) n⟩)
  · obtain ⟨v, rfl, r⟩ := rql1 rx
    cases q
    exact .inl (.inr ⟨_, by rw [r.bl], nxt_here so (.int _) n⟩)
  · obtain ⟨v, rfl, r⟩ := rql1 rx
    rename_i t
    split at q
    · rename_i hl
      cases qi : PySem.intText? (sx t) with
      | none => rw [qi] at q; cases q
      | some m =>
        rw [qi] at q
        cases q
        exact .inr ⟨_, m, by rw [r.str], qi, by rw [sx_length]; exact hl, nxt_here so (.int _) n⟩
    · cases q
  · cases q
end
/-! ### max of a list -/
def intL : List D → Option (List Int)
  | [] => some []
  | .int i :: r => (intL r).map (i :: ·)
  | _ => none
def maxI : Int → List Int → Int
  | m, [] => m
  | m, n :: r => maxI (if m < n then n else m) r
def minI : Int → List Int → Int
  | m, [] => m
  | m, n :: r => minI (if n < m then n else m) r
def gMaxL : List D → Option D := fun ds => match ds with
  | [.lst xs] => (match intL xs with
    | some (n :: ns) => some (.int (maxI n ns))
    | _ => none)
  | _ => none
theorem maxI_ge : ∀ (m : Int) (ns : List Int), m ≤ maxI m ns ∧ ∀ y ∈ ns, y ≤ maxI m ns
  | m, [] => ⟨Int.le_refl _, fun y h => by cases h⟩
  | m, n :: r => by
    have ih := maxI_ge (if m < n then n else m) r
    show m ≤ maxI (if m < n then n else m) r ∧ ∀ y ∈ n :: r, y ≤ maxI (if m < n then n else m) r
    have h1 : m ≤ (if m < n then n else m) := by split <;> omega
    have h2 : n ≤ (if m < n then n else m) := by split <;> omega
    refine ⟨Int.le_trans h1 ih.1, fun y hy => ?_⟩
    rcases List.mem_cons.mp hy with rfl | hy
    · exact Int.le_trans h2 ih.1
    · exact ih.2 y hy
theorem maxI_mem : ∀ (m : Int) (ns : List Int), maxI m ns ∈ m :: ns
  | m, [] => List.mem_cons_self
  | m, n :: r => by
    have ih := maxI_mem (if m < n then n else m) r
    show maxI (if m < n then n else m) r ∈ m :: n :: r
    rcases List.mem_cons.mp ih with h | h
    · rw [h]
      split
      · exact List.mem_cons_of_mem _ List.mem_cons_self
      · exact List.mem_cons_self
    · exact List.mem_cons_of_mem _ (List.mem_cons_of_mem _ h)
theorem intL_rp {K : PySem.W.Frag} {H : Hp} {M : Addr → Prop} : ∀ {ds : List D} {ns : List Int} {vs : List V}, intL ds = some ns → RpL K H M ds vs → vs = ns.map V.int
  | [], _, _, e, .nil => by cases e; rfl
  | .int i :: r, ns, _, e, .cons a b => by
    unfold intL at e
    cases q : intL r with
    | none => rw [q] at e; cases e
    | some ms =>
      rw [q] at e
      cases e
      cases a
      rw [intL_rp q b]
      rfl
  | .non :: _, _, _, e, _ => by cases e
  | .bl _ :: _, _, _, e, _ => by cases e
  | .str _ :: _, _, _, e, _ => by cases e
  | .tup _ :: _, _, _, e, _ => by cases e
  | .lst _ :: _, _, _, e, _ => by cases e
  | .dct _ :: _, _, _, e, _ => by cases e
  | .ty _ :: _, _, _, e, _ => by cases e
theorem gn_maxL {K : PySem.W.Frag} : GN K (rMax K) gMaxL := fun ρ S H ds z xs Q so rx q n => by
  unfold gMaxL at q
  split at q
  · rename_i ys
    obtain ⟨v, rfl, r⟩ := rql1 rx
    split at q
    · rename_i m ms qi
      cases q
      obtain ⟨a, us, rfl, ha, ra⟩ := r.lstE
      rw [intL_rp qi ra] at ha
      refine ⟨a, m :: ms, rfl, SqL.of ha, by simp, fun k hk hmax => ?_⟩
      have e : k = maxI m ms := by
        have h1 := hmax _ (maxI_mem m ms)
        have h2 := maxI_ge m ms
        have h3 : k ≤ maxI m ms := by
          rcases List.mem_cons.mp hk with rfl | hk
          · exact h2.1
          · exact h2.2 k hk
        omega
      rw [e]
      exact nxt_here so (.int _) n
    · cases q
  · cases q
/-! ### texts -/
def gStarts : Tx → D → Option D := fun t d => match d with
  | .str u => some (.bl (u.isPrefixOf t))
  | _ => none
theorem starts_eq (t u : Tx) : Txt.startswith (sx t) (sx u) = u.isPrefixOf t := by
  unfold Txt.startswith Builtin.Str.subAt
  rw [sx_length, sx_length]
  have e : ((sx t).cps.extract 0 (0 + u.length) == (sx u).cps) = (t.take u.length == u) := by
    have h1 : (sx t).cps.extract 0 (0 + u.length) = (t.take u.length).toArray := by
      simp [sx]
    rw [h1]
    show ((t.take u.length).toArray == u.toArray) = _
    by_cases h : t.take u.length = u
    · rw [h]; simp
    · rw [beq_eq_false_iff_ne.mpr h]
      exact beq_eq_false_iff_ne.mpr fun z => h (by simpa using congrArg Array.toList z)
  rw [e]
  by_cases h : u.isPrefixOf t = true
  · have hp := List.isPrefixOf_iff_prefix.mp h
    rw [h]
    have h1 := hp.length_le
    have h2 := List.prefix_iff_eq_take.mp hp
    rw [← h2]
    simp
    omega
  · have hf : u.isPrefixOf t = false := Bool.eq_false_iff.mpr h
    rw [hf]
    by_cases h2 : t.take u.length = u
    · exact absurd (List.isPrefixOf_iff_prefix.mpr (List.prefix_iff_eq_take.mpr h2.symm)) h
    · rw [beq_eq_false_iff_ne.mpr h2, Bool.and_false]
theorem gm_starts {K : PySem.W.Frag} : GM1 K (fun x xs H Q => ∃ a b, x = .str a ∧ xs = [.str b] ∧ Q (.bl (Txt.startswith a b)) H) gStarts := fun ρ S H t e z y Q so ry q n => by
  unfold gStarts at q
  split at q
  · cases q
    refine ⟨_, _, rfl, by rw [ry.str], ?_⟩
    rw [starts_eq]
    exact nxt_here so (.bl _) n
  · cases q
section
variable {X : Cx} {E : XP} {o e : Expr} {apos pos : Pos} {a b : Den W}
theorem de_starts (ha : PE X o (tE X.K E a)) (hb : PE X e (tE X.K E b)) (hs : starEach [e] X.env = [(false, eval e X.env)] := by rfl) (hbase : attributeBase o "startswith" X.env (eval o X.env) = eval o X.env := by rfl) (hline : (apos.endLine == pos.line) = true := by rfl) :
    PE X (.Call (.Attribute o "startswith" apos) [e] [] pos) (tE X.K E (cM1 gStarts a b)) := de_m1 F.slot_str_startswith F.type_str_startswith mt_startswith gm_starts ha hb hs hbase hline
end
/-- a part of a text -/
def apSlT (x : W) (lo hi : Option Int) (S : Sto) : R W := match x with
  | .v (.str t) => if t.length ≤ 1000000 then .ok (.v (.str (cutD t lo hi))) S else .bad
  | _ => .bad
def cSlT (a : Den W) (lo hi : Den (Option Int)) : Den W := fun δ S => (a δ S).bind fun x S1 => (lo δ S1).bind fun l S2 => (hi δ S2).bind fun u S3 => apSlT x l u S3
theorem de_slT {X : Cx} {E : XP} {e : Expr} {lo hi : Option Expr} {p2 pos : Pos} {a : Den W} {l u : Den (Option Int)} (ha : PE X e (tE X.K E a)) (hl : PO X lo (tO X.K E l)) (hu : PO X hi (tO X.K E u)) : PE X (.Subscript e (.Slice lo hi none p2) pos) (tE X.K E (cSlT a l u)) :=
  pe_mono (pe_slice sl_str ha hl hu) fun σ H Q ⟨δ, ρ, S, st, so, p⟩ => tG_then st so p fun w S1 x ρ1 H1 f1 st1 so1 r1 p1 => tG_then st1 so1 p1 fun l S2 l' ρ2 H2 f2 st2 so2 r2 p2 => tG_then st2 so2 p2 fun u S3 u' ρ3 H3 f3 st3 so3 r3 p3 => by
    cases r2
    cases r3
    have rx := f3.rw (f2.rw r1)
    unfold apSlT at p3
    split at p3
    · rename_i t
      split at p3
      · rename_i hl
        cases rx
        refine ⟨_, rfl, by rw [sx_length]; exact lt_line hl, p3 _ ρ3 H3 Fwd.refl so3 ?_⟩
        have e : cutS (sx t) l u = sx (cutD t l u) := by
          unfold cutS cutD
          rw [sx_length]
          simp [sx]
        rw [e]
        exact Rp.str _
      · exact p3.elim
    · exact p3.elim
end Fro

namespace Fro
open PySem PySem.Spec L2

/-! ### xs.index(y) -/
def idxD (d : D) : List D → Option Nat
  | [] => none
  | e :: r => if deq e d = true then some 0 else (idxD d r).map (· + 1)
def gIndex : D → D → Option D := fun d e => match d with
  | .lst ds => if (flatD e && ds.all flatD) = true then (idxD e ds).map fun j => .int j else none
  | _ => none
def isLst (x : W) (S : Sto) : Bool := match rd S x with
  | some (.lst _) => true
  | _ => false
def cIndex (a b : Den W) : Den W := fun δ S => (a δ S).bind fun x S1 => if isLst x S1 = true then (b δ S1).bind fun y S2 => ap2 gIndex x y S2 else .bad
theorem idxD_ok {K : PySem.W.Frag} {H : Hp} {M : Addr → Prop} {d : D} {y : V} (hy : Rq K H M d y) (fy : flatD d = true) : ∀ {ds : List D} {vs : List V} {j : Nat}, RpL K H M ds vs → ds.all flatD = true → idxD d ds = some j → ∃ z, vs[j]? = some z ∧ eqV z y = true ∧ ∀ (m : Nat) (z' : V), m < j → vs[m]? = some z' → eqV z' y = false
  | _, _, _, .nil, _, e => by cases e
  | e :: ds, v :: vs, j, .cons a b, h, q => by
    rw [List.all_cons, Bool.and_eq_true] at h
    have ev := eqV_deq (.of a) hy h.1 fy
    unfold idxD at q
    by_cases hd : deq e d = true
    · rw [if_pos hd] at q
      cases q
      exact ⟨v, rfl, by rw [ev, hd], fun m z' hm => by omega⟩
    · rw [if_neg hd] at q
      cases qi : idxD d ds with
      | none => rw [qi] at q; cases q
      | some k =>
        rw [qi] at q
        cases q
        obtain ⟨z, h1, h2, h3⟩ := idxD_ok hy fy b h.2 qi
        refine ⟨z, by simpa using h1, h2, fun m z' hm hz => ?_⟩
        cases m with
        | zero =>
          have : v = z' := by simpa using hz
          subst this
          rw [ev]
          exact Bool.eq_false_iff.mpr hd
        | succ m => exact h3 m z' (by have hm2 : m + 1 < k + 1 := hm; omega) (by simpa using hz)
theorem index_post {K : PySem.W.Frag} {ρ : List Addr} {S : Sto} {H : Hp} {x y : W} {v u : V} {Q : VK} {Ex} (so : Sok K ρ S H) (rx : RpW K ρ S H x v) (ry : RpW K ρ S H y u) (p : Post K (RpW K) ρ S H (ap2 gIndex x y S) Q Ex) : rIndex K v [u] H Q := by
  unfold ap2 at p
  cases q1 : rd S x with
  | none => simp only [q1] at p; exact p.elim
  | some d =>
    cases q2 : rd S y with
    | none => simp only [q1, q2] at p; exact p.elim
    | some e =>
      cases q3 : gIndex d e with
      | none => simp only [q1, q2, q3] at p; exact p.elim
      | some z =>
        simp only [q1, q2, q3] at p
        unfold gIndex at q3
        split at q3
        · rename_i ds
          split at q3
          · rename_i hf
            rw [Bool.and_eq_true] at hf
            cases qi : idxD e ds with
            | none => rw [qi] at q3; cases q3
            | some j =>
              rw [qi] at q3
              cases q3
              have ry' := rd_ok so ry q2
              obtain ⟨a, ys, rfl, ha, ra⟩ := (rd_ok so rx q1).lstE
              obtain ⟨zz, h1, h2, h3⟩ := idxD_ok ry' hf.1 ra hf.2 qi
              exact ⟨a, ys, u, j, zz, rfl, rfl, SqL.of ha, rq_flat ry' hf.1, rpL_flat ra hf.2, h1, h2, h3, p _ ρ H Fwd.refl so (.int _)⟩
          · cases q3
        · cases q3
section
variable {X : Cx} {E : XP} {o e : Expr} {apos cpos : Pos} {a b : Den W}
theorem de_index (ha : PE X o (tE X.K E a)) (hb : PE X e (tE X.K E b)) (hs : starEach [e] X.env = (false, eval e X.env) :: starEach [] X.env := by rfl)
    (hd : ∀ to t, PE X o to → PA X [e] t → PE X (.Call (.Attribute o "index" apos) [e] [] cpos) (tBM X.K "list" (rIndex X.K) to t) := by exact fun _ _ ho h => pe_bm PySem.F.plainAttrs_list PySem.F.slot_list_index PySem.F.type_list_index mt_index ho h) :
    PE X (.Call (.Attribute o "index" apos) [e] [] cpos) (tE X.K E (cIndex a b)) :=
  pe_mono (hd _ _ ha (pa_cons hb pa_nil hs)) fun σ H Q ⟨δ, ρ, S, st, so, p⟩ => tG_then st so p fun x S1 v ρ1 H1 f1 st1 so1 r1 p1 => by
    by_cases hl : isLst x S1 = true
    · rw [if_pos hl] at p1
      have ty : tyV X.K "list" v H1 := by
        unfold isLst at hl
        cases q : rd S1 x with
        | none => simp only [q] at hl; cases hl
        | some d =>
          cases d with
          | lst ds =>
            obtain ⟨c, ys, rfl, hc, _⟩ := (rd_ok so1 r1 q).lstE
            exact .inl ⟨rfl, ys, SqL.of hc⟩
          | _ => simp only [q] at hl; cases hl
      exact ⟨ty, tG_then st1 so1 p1 fun y S2 u ρ2 H2 f2 st2 so2 r2 p2 => index_post so2 (f2.rw r1) r2 p2⟩
    · rw [if_neg hl] at p1; exact p1.elim
end

/-! ### range(a, b, c), range(a, b) -/
def rangeC (c : Int) : Int → Nat → List D
  | _, 0 => []
  | lo, n + 1 => .int lo :: rangeC c (lo + c) n
theorem rangeC_length (c : Int) : ∀ (n : Nat) (lo : Int), (rangeC c lo n).length = n
  | 0, _ => rfl
  | n + 1, lo => by
    show (rangeC c (lo + c) n).length + 1 = n + 1
    rw [rangeC_length c n]
theorem rangeC_get (c : Int) : ∀ (n i : Nat) (lo : Int) (d : D), (rangeC c lo n)[i]? = some d → i < n ∧ d = .int (lo + i * c)
  | 0, i, lo, d, e => by simp [rangeC] at e
  | n + 1, 0, lo, d, e => by
    have : D.int lo = d := by simpa [rangeC] using e
    exact ⟨Nat.succ_pos _, by rw [← this]; simp⟩
  | n + 1, i + 1, lo, d, e => by
    obtain ⟨h1, h2⟩ := rangeC_get c n i (lo + c) d (by simpa [rangeC] using e)
    refine ⟨Nat.succ_lt_succ h1, ?_⟩
    rw [h2]
    congr 1
    have : ((i + 1 : Nat) : Int) * c = (i : Int) * c + c := by
      rw [show ((i + 1 : Nat) : Int) = (i : Int) + 1 from rfl, Int.add_mul, Int.one_mul]
    omega
theorem jok_rangeC {K : PySem.W.Frag} {ρ : List Addr} {S : Sto} {H : Hp} (lo c : Int) (n : Nat) : Jok K ρ S H (rangeC c lo n) (Itc lo c n) := fun i ρ' S' H' f so => by
  refine ⟨fun d e => ?_, fun hl => by rw [rangeC_length] at hl; exact hl⟩
  obtain ⟨h1, rfl⟩ := rangeC_get c n i lo d e
  refine ⟨h1, fun x H'' y => ?_⟩
  obtain ⟨rfl, rfl⟩ := y
  exact ⟨Fwd.refl, so, .int _⟩
def asR3 (ws : List W) (S : Sto) : R (List D) := match ws with
  | [.v (.int i), .v (.int j), .v (.int c)] => if 0 < c ∧ c < 1000000 ∧ -1000000 < i ∧ i < 1000000 ∧ -1000000 < j ∧ j < 1000000 then .ok (rangeC c i (Builtin.Range.rangeSize i j c).toNat) S else .bad
  | _ => .bad
def itR3 (a : Den (List W)) : Den (List D) := fun δ S => (a δ S).bind asR3
theorem size_pos {i j c : Int} (hc : 0 < c) : ((Builtin.Range.rangeSize i j c).toNat : Int) = Builtin.Range.rangeSize i j c := by
  have : 0 ≤ Builtin.Range.rangeSize i j c := by
    unfold Builtin.Range.rangeSize
    rw [if_pos hc]
    split
    · have := Int.ediv_nonneg (a := j - i - 1) (b := c) (by omega) (by omega)
      omega
    · exact Int.le_refl 0
  omega
theorem small_of {i j c : Int} (h : 0 < c ∧ c < 1000000 ∧ -1000000 < i ∧ i < 1000000 ∧ -1000000 < j ∧ j < 1000000) : Builtin.Range.small i j c = true := by
  have hs : 0 ≤ Builtin.Range.rangeSize i j c ∧ Builtin.Range.rangeSize i j c ≤ 2000001 := by
    unfold Builtin.Range.rangeSize
    rw [if_pos h.1]
    split
    · have h1 := Int.ediv_nonneg (a := j - i - 1) (b := c) (by omega) (by omega)
      have h2 := Int.ediv_le_self (a := j - i - 1) c (by omega)
      omega
    · omega
  unfold Builtin.Range.small
  generalize Builtin.Range.rangeSize i j c = n at hs
  simp only [Builtin.Range.rangeFitsLong, Bool.and_eq_true, Bool.or_eq_true, decide_eq_true_eq, beq_iff_eq, if_pos h.1]
  omega
theorem di_range3 {X : Cx} {E : XP} {tg e1 e2 e3 : Expr} {p pos : Pos} {a : Den (List W)} (hm : X.mg "range" = none) (h : PA X [e1, e2, e3] (tA X.K E a)) (hg : Gl X "range" := by rfl) (hs : starEach [e1, e2, e3] X.env = (false, eval e1 X.env) :: starEach [e2, e3] X.env := by rfl) (hpl : (backTo pos (starEach [e2, e3] X.env)).any (·.1) = false := by rfl) :
    PI X tg (.Call (.Name "range" p) [e1, e2, e3] [] pos) (tI X.K E (itR3 a)) := pi_mono (pi_range3 hg hm h hs hpl) fun σ H Q ⟨δ, ρ, S, st, so, p⟩ => tG_then st so p fun ws S1 vs ρ1 H1 f1 st1 so1 r1 p1 => by
  unfold asR3 at p1
  split at p1
  · rename_i i j c
    cases r1 with
    | cons ra rb => cases rb with
      | cons rb rc => cases rc with
        | cons rc rd =>
          cases rd
          cases ra
          cases rb
          cases rc
          split at p1
          · rename_i hc
            refine ⟨i, j, c, _, rfl, ⟨by omega, by omega, ?_, (size_pos hc.1).symm⟩, p1 _ ρ1 H1 Fwd.refl so1 (jok_rangeC i c _)⟩
            exact small_of hc
          · exact p1.elim
  · exact p1.elim

/-! ### a list or a tuple, walked -/
def asLT (w : W) (S : Sto) : R (List D) := match w with
  | .v (.lst ds) => .ok ds S
  | .v (.tup ds) => .ok ds S
  | _ => .bad
def itLT (a : Den W) : Den (List D) := fun δ S => (a δ S).bind asLT
theorem di_lt {X : Cx} {E : XP} {tg e : Expr} {a : Den W} (h : PE X e (tE X.K E a)) : PI X tg e (tI X.K E (itLT a)) := ⟨fun pins s σ H R I ⟨δ, ρ, S, st, so, p⟩ => by
  have q0 : tE X.K E a σ H fun x H1 => ∃ c, x = .ref c ∧ (((∃ xs, SqL X.K H1 c xs) ∧ R (Itl X.K c) H1) ∨ ((∃ xs, SqT X.K H1 c xs) ∧ R (Itt X.K c) H1)) := tG_then st so p fun w S1 v ρ1 H1 f1 st1 so1 r1 p1 => by
    unfold asLT at p1
    split at p1
    · cases r1 with
      | lst e n rl => exact ⟨_, rfl, .inl ⟨⟨_, SqL.of e⟩, p1 _ ρ1 H1 Fwd.refl so1 (jok_list e n rl)⟩⟩
    · cases r1 with
      | tup e rl => exact ⟨_, rfl, .inr ⟨⟨_, e⟩, p1 _ ρ1 H1 Fwd.refl so1 (jok_tup e rl)⟩⟩
    · exact p1.elim
  refine thn (h.run pins s σ H _ I q0) fun v s1 ⟨x, H1, I1, r1, c, ec, q⟩ => ?_
  subst ec
  cases r1
  have fp : ∀ b ∈ [s1.heap.objs.size], FpOk X pins H1 b := fun b hb => by
    have z : b = s1.heap.objs.size := by simpa using hb
    rw [z]
    exact I1.fpOk (Nat.le_refl _) (I1.hok.fresh (Nat.le_refl _))
  rcases q with ⟨⟨xs, hq⟩, q⟩ | ⟨⟨xs, hq⟩, q⟩
  · obtain ⟨its, rv, pl, hz⟩ := I1.list hq
    exact wpAny_pyIter_list pl.isList ⟨s1.heap.objs.size, [s1.heap.objs.size], _, _, H1, rfl, I1.kept (t' := s1.toks) fun b o z => Heap.get?_push_of_some _ z, turn_list c _, ⟨_, Heap.get?_push_size _ rfl, rfl, rfl⟩, fp, q⟩
  · obtain ⟨its, rv, pl, hz⟩ := I1.tuple hq
    exact wpAny_pyIter_tuple (show s1.heap.IsTuple c its.toArray from pl) ⟨s1.heap.objs.size, [s1.heap.objs.size], _, _, H1, rfl, I1.kept (t' := s1.toks) fun b o z => Heap.get?_push_of_some _ z, turn_tuple c _, ⟨_, Heap.get?_push_size _ rfl, rfl, rfl⟩, fp, q⟩⟩
end Fro

namespace Fro
open PySem PySem.Spec L2

/-! ### xs + ys, a new list that is changed later -/
def apCatM (x y : W) (S : Sto) : R W := match rd S x, rd S y with
  | some (.lst ds), some (.lst es) => if ds.length + es.length ≤ 1000000 then .ok (.r S.length) (S ++ [.lst (ds ++ es)]) else .bad
  | _, _ => .bad
def cCatM (a b : Den W) : Den W := fun δ S => (a δ S).bind fun x S1 => (b δ S1).bind fun y S2 => apCatM x y S2
theorem grown_post {K : PySem.W.Frag} {ρ : List Addr} {S : Sto} {H : Hp} {ds : List D} {xs : List V} {Q : VK} {Ex} (so : Sok K ρ S H) (r : RpL K H (live ρ S) ds xs) (p : Post K (RpW K) ρ S H (.ok (.r S.length) (S ++ [.lst ds])) Q Ex) (q : Addr) (nq : H q = none) : Q (.ref q) (upd H q (.lst xs)) := by
  have fg : Fwd ρ S H (ρ ++ [q]) (S ++ [.lst ds]) (upd H q (.lst xs)) := Fwd.grown so nq _
  exact p (.ref q) (ρ ++ [q]) _ fg (so.grown nq _ ⟨xs, upd_same, fg.rpL r⟩) ⟨q, rfl, by rw [← so.len]; simp⟩
theorem de_catM {X : Cx} {E : XP} {e e' : Expr} {pos : Pos} {a b : Den W} (ha : PE X e (tE X.K E a)) (hb : PE X e' (tE X.K E b)) : PE X (.BinOp e .Add e' pos) (tE X.K E (cCatM a b)) :=
  pe_mono (pe_op op_cat ha hb) fun σ H Q ⟨δ, ρ, S, st, so, p⟩ => tG_then st so p fun w S1 x ρ1 H1 f1 st1 so1 r1 p1 => tG_then st1 so1 p1 fun u S2 y ρ2 H2 f2 st2 so2 r2 p2 => by
    have rx := f2.rw r1
    unfold apCatM at p2
    split at p2
    · rename_i ds es q1 q2
      split at p2
      · rename_i hl
        obtain ⟨c, xs, rfl, hc, rc⟩ := (rd_ok so2 rx q1).lstE
        obtain ⟨d, ys, rfl, hd, rd'⟩ := (rd_ok so2 r2 q2).lstE
        exact ⟨c, d, xs, ys, rfl, rfl, hc, hd, by rw [← rc.length, ← rd'.length]; exact lt_line hl, fun q nq => grown_post so2 (rc.append rd') p2 q nq⟩
      · exact p2.elim
    · exact p2.elim
/-! ### list(x), a new list that is changed later -/
def apListM (ws : List W) (S : Sto) : R W := match ws with
  | [w] => (match rd S w with
    | some (.lst ds) => .ok (.r S.length) (S ++ [.lst ds])
    | some (.tup ds) => .ok (.r S.length) (S ++ [.lst ds])
    | _ => .bad)
  | _ => .bad
def cListM (a : Den (List W)) : Den W := fun δ S => (a δ S).bind fun ws S1 => apListM ws S1
theorem de_listM {X : Cx} {E : XP} {p pos : Pos} {e : Expr} {a : Den (List W)} (hm : X.mg "list" = none) (ha : PA X [e] (tA X.K E a)) (hgl : Gl X "list" := by rfl) (he : starEach [e] X.env = (false, eval e X.env) :: starEach [] X.env := by rfl) (hpl : (backTo pos (starEach [] X.env)).any (·.1) = false := by rfl) : PE X (.Call (.Name "list" p) [e] [] pos) (tE X.K E (cListM a)) :=
  pe_mono (pe_callTy call_list_of hgl hm (by decide +kernel) ha (by decide) (by decide) he hpl) fun σ H Q ⟨δ, ρ, S, st, so, p⟩ => tG_then st so p fun ws S1 xs ρ1 H1 f1 st1 so1 r1 p1 => by
    unfold apListM at p1
    split at p1
    · cases r1 with
      | cons r rr =>
        cases rr
        split at p1
        · rename_i ds q
          obtain ⟨c, ys, rfl, hc, rc⟩ := (rd_ok so1 r q).lstE
          exact ⟨c, ys, rfl, .inl (SqL.of hc), fun q nq => grown_post so1 rc p1 q nq⟩
        · rename_i ds q
          obtain ⟨c, ys, rfl, hc, rc⟩ := (rd_ok so1 r q).tup
          exact ⟨c, ys, rfl, .inr hc, fun q nq => grown_post so1 rc p1 q nq⟩
        · exact p1.elim
    · exact p1.elim
end Fro

namespace Fro
open PySem PySem.Spec L2 PyProof.Rows HT

/-! ### t[::-1], a tuple -/
theorem fm_congr {α β : Type} {f g : α → Option β} : ∀ {l : List α}, (∀ a ∈ l, f a = g a) → l.filterMap f = l.filterMap g
  | [], _ => rfl
  | a :: l, h => by
    rw [List.filterMap_cons, List.filterMap_cons, h a List.mem_cons_self, fm_congr fun b hb => h b (List.mem_cons_of_mem _ hb)]
section
variable {prog : Program} {w : World} {A : Around} {E : Value → Shared → Prop} {s : Shared}
theorem applied_rev {sl : Addr} {vl vu vs : Value} {n : Nat} {Q : Int × Int × Nat → Shared → Prop} (hs : s.heap.IsSliceOf sl vl vu vs) (pl : IsPart vl none) (pu : IsPart vu none) (ps : IsPart vs (some (-1))) (h : Q ((n : Int) - 1, -1, n) s) : wpAny (model prog w) A (Builtin.Slice.sliceApplied (.ref sl) (pure (n : Int))) Q E s := by
  obtain ⟨os, hos, hcs, hds⟩ := id hs
  unfold Builtin.Slice.sliceApplied Builtin.Slice.sliceFields
  refine wpAny_bind (wpAny_bind (wpAny_field hos hds (x := vl) rfl (wpAny_bind (wpAny_field hos hds (x := vu) rfl (wpAny_bind (wpAny_field hos hds (x := vs) rfl (wpAny_pure ?_)))))))
  refine wpAny_bind (slicePart_ ps ?_)
  show wpAny _ _ (if ((-1 : Int) == 0) = true then _ else _) _ _ s
  rw [if_neg (by decide)]
  refine wpAny_bind (slicePart_ pl (wpAny_bind (slicePart_ pu (wpAny_bind (wpAny_pure (wpAny_pure ?_))))))
  have e : Builtin.Slice.slicePlaces ((n : Int) - 1) (-1) (-1) = n := by
    unfold Builtin.Slice.slicePlaces
    rw [if_neg (by decide), show - -(1 : Int) = 1 from rfl, Int.ediv_one]
    split <;> omega
  show Q ((n : Int) - 1, -1, Builtin.Slice.slicePlaces ((n : Int) - 1) (-1) (-1)) s
  rw [e]
  exact h
theorem pick_rev (xs : Array Value) : ((List.range xs.size).filterMap fun (k : Nat) => xs[((xs.size : Int) - 1 + (k : Int) * (-1)).toNat]?) = xs.toList.reverse := by
  have h1 : ((List.range xs.size).filterMap fun (k : Nat) => xs[((xs.size : Int) - 1 + (k : Int) * (-1)).toNat]?) = (List.range xs.size).filterMap fun k => xs.toList.reverse[k]? := by
    refine fm_congr fun k hk => ?_
    have hk' := List.mem_range.mp hk
    rw [List.getElem?_reverse (by simpa using hk'), ← Array.getElem?_toList, Array.length_toList]
    congr 1
    omega
  rw [h1]
  have key : ∀ l : List Value, (List.range l.length).filterMap (fun k => l[k]?) = l := by
    intro l
    induction l with
    | nil => rfl
    | cons a l ih =>
      rw [List.length_cons, List.range_succ_eq_map, List.filterMap_cons]
      show a :: ((List.range l.length).map Nat.succ).filterMap _ = _
      rw [List.filterMap_map]
      congr 1
  have := key xs.toList.reverse
  rwa [List.length_reverse, Array.length_toList] at this
theorem item_rev {t sl : Addr} {items : Array Value} {vl vu vs : Value} {Q : Value → Shared → Prop} (ht : IsTup s.heap t items) (hs : s.heap.IsSliceOf sl vl vu vs) (pl : IsPart vl none) (pu : IsPart vu none) (ps : IsPart vs (some (-1)))
    (h : Q (.ref s.heap.objs.size) { s with heap := s.heap.push { cls := .type "tuple", data := .seq items.toList.reverse.toArray } }) (hsz : items.size ≤ sizeLine) : wpAny (model prog w) A (getItem (.ref t) (.ref sl)) Q E s := by
  have hz : sizeOk (.seq items.toList.reverse.toArray) := by
    show items.toList.reverse.toArray.size ≤ sizeLine
    rw [List.size_toArray, List.length_reverse, Array.length_toList]
    exact hsz
  obtain ⟨os, hos, hcs, hds⟩ := id hs
  have hTs : s.TypeIs (.ref sl) "slice" := ⟨os, hos, hcs⟩
  unfold getItem
  try with_reducible refine wpAny_holding ?_
  first | refine wpAny_bind (wpAny_pure ?_) | skip
  refine wpAny_bind (wpAny_sequenceKey ht.typeIs (by decide) (wpAny_bind (wpAny_callSpecial?_slot (name := Str.ofString "__getitem__") ht.typeIs PyProof.Rows.slot_tuple_getitem (wpAny_call_entry PyProof.Rows.slot_tuple_getitem ht.typeIs entry_tuple_getitem ?_ (args_tuple_getitem _ _)))))
  show wpAny _ _ (Builtin.Tuple.tupleItemsOf (.ref t) >>= _) _ _ s
  refine wpAny_bind (tupleItemsOf_ ht (wpAny_bind (wpAny_typeOf hTs ?_)))
  rw [if_pos (by decide)]
  refine wpAny_bind (applied_rev hs pl pu ps ?_)
  have hno : ¬ ((((items.size : Int) - 1) == 0 && (-1 : Int) == 1 && items.size == items.size) = true) := by
    rw [show ((-1 : Int) == 1) = false by decide, Bool.and_false, Bool.false_and]
    exact Bool.false_ne_true
  show wpAny _ _ (if (((items.size : Int) - 1) == 0 && (-1 : Int) == 1 && items.size == items.size) = true then _ else _) _ _ s
  rw [if_neg hno, pick_rev]
  first
    | exact wpAny_bind (m := Builtin.Tuple.tupleExact _) (wpAny_newObj_type (wpAny_pure ⟨_, rfl, wpAny_pure h⟩) hz)
    | exact wpAny_bind (m := Builtin.Tuple.tupleExact _) (wpAny_newObj_type (wpAny_bind (wpAny_pure (wpAny_pure ⟨_, rfl, wpAny_pure h⟩))) hz)
    | exact wpAny_bind (wpAny_bind (m := Builtin.Tuple.tupleExact _) (wpAny_newObj_type (wpAny_pure (wpAny_pure ⟨_, rfl, wpAny_pure h⟩)) hz))
    | exact wpAny_bind (wpAny_bind (m := Builtin.Tuple.tupleExact _) (wpAny_newObj_type (wpAny_pure ⟨_, rfl, wpAny_pure h⟩) hz))
end
def tRevT (K : PySem.W.Frag) (te : TE) : TE := fun σ H Q => te σ H fun x H1 => ∃ a xs, x = .ref a ∧ SqT K H1 a xs ∧ ∀ p, H1 p = none → Q (.ref p) (upd H1 p (.tup xs.reverse))
theorem pe_revT {X : Cx} {e : Expr} {te : TE} {k : Nat} {p1 p2 p3 pos : Pos} (he : PE X e te) : PE X (.Subscript e (.Slice none none (some (.UnaryOp .USub (.Constant (.int 1) k p1) p2)) p3) pos) (tRevT X.K te) := by
  refine ⟨fun pins s σ H Q I h => ?_⟩
  refine Subscript_ (thn (he.run pins s σ H _ I h) fun v s1 ⟨x, H1, I1, r1, a, xs, ex, hx, q⟩ => ?_)
  subst ex
  cases r1
  have hst : PO X (some (.UnaryOp .USub (.Constant (.int 1) k p1) p2)) (tPart (tUn (rU fun i => .int (-i)) (tC (.int 1)))) := po_some (pe_un un_neg pe_int)
  refine wpAny_Slice (thn (po_none.run pins s1 σ H1 (fun o H2 => o = none ∧ H2 = H1) I1 ⟨rfl, rfl⟩) fun vl s2 ⟨l, H2, I2, pl, el, e2⟩ => ?_)
  subst el e2
  refine thn (po_none.run pins s2 σ H2 (fun o H3 => o = none ∧ H3 = H2) I2 ⟨rfl, rfl⟩) fun vu s3 ⟨u, H3, I3, pu, eu, e3⟩ => ?_
  subst eu e3
  refine thn (hst.run pins s3 σ H3 (fun o H4 => o = some (-1) ∧ H4 = H3) I3 ⟨1, rfl, -1, rfl, rfl, rfl⟩) fun vs s4 ⟨o, H4, I4, ps, eo, e4⟩ => ?_
  subst eo e4
  have I5 : Inv X pins σ H4 { s4 with heap := s4.heap.push { cls := .type "slice", data := .fields #[vl, vu, vs] } } := I4.kept (t' := s4.toks) fun b ob z => Heap.get?_push_of_some _ z
  obtain ⟨its, r, ht, hz⟩ := I5.tuple hx
  have hlen : its.toArray.size = xs.length := by rw [List.size_toArray]; exact r.length.symm
  show wpAny (model X.prog X.w) X.A (subscriptTail e (.Slice none none (some (.UnaryOp .USub (.Constant (.int 1) k p1) p2)) p3) (.ref a) (.ref s4.heap.objs.size)) (EP X pins σ Q) X.xe { s4 with heap := s4.heap.push { cls := .type "slice", data := .fields #[vl, vu, vs] } }
  refine tail_any (ops := [.ref a, .ref s4.heap.objs.size]) ht.typeIs (PyProof.Rows.slot_tuple_getitem.lookup) ?_ (by with_unfolding_all rfl)
  refine item_rev ht (Heap.IsSliceOf.new _ vl vu vs) pl pu ps ?_ (by rw [hlen]; exact hz)
  refine ⟨.ref _, _, I5.laid (t' := s4.toks) (o := .tup xs.reverse) (fun b ob z => Heap.get?_push_of_some _ z) (Nat.le_refl _) ?_, rfl, q _ (I5.hok.fresh (Nat.le_refl _))⟩
  exact ⟨by rw [List.length_reverse]; exact hz, _, r.reverse, IsTup.new _ _⟩
def apRevT (x : W) (S : Sto) : R W := match rd S x with
  | some (.tup ds) => .ok (.v (.tup ds.reverse)) S
  | _ => .bad
def cRevT (a : Den W) : Den W := fun δ S => (a δ S).bind fun x S1 => apRevT x S1
theorem de_revT {X : Cx} {E : XP} {e : Expr} {k : Nat} {p1 p2 p3 pos : Pos} {a : Den W} (h : PE X e (tE X.K E a)) : PE X (.Subscript e (.Slice none none (some (.UnaryOp .USub (.Constant (.int 1) k p1) p2)) p3) pos) (tE X.K E (cRevT a)) :=
  pe_mono (pe_revT h) fun σ H Q ⟨δ, ρ, S, st, so, p⟩ => tG_then st so p fun w S1 v ρ1 H1 f1 st1 so1 r1 p1 => by
    unfold apRevT at p1
    split at p1
    · rename_i ds q
      obtain ⟨b, xs, rfl, hb, rb⟩ := (rd_ok so1 r1 q).tup
      exact ⟨b, xs, rfl, hb, nxt_tup so1 rb.reverse fun v H' f so' rp => p1 v ρ1 H' f so' rp⟩
    · exact p1.elim
end Fro

/-! Fro: repr of nested tuples and lists, text.count -/
namespace Fro
open PySem PySem.Spec L2 PyProof.Rows

/-! ### data as the library shows them -/
mutual
def toPy : D → Option PyData
  | .non => some .none
  | .bl b => some (.bool b)
  | .int i => some (.int i)
  | .str t => some (.str (sx t))
  | .tup ds => (toPyL ds).map .tuple
  | .lst ds => (toPyL ds).map .list
  | .dct _ => none
  | .ty _ => none
def toPyL : List D → Option (List PyData)
  | [] => some []
  | d :: ds => match toPy d, toPyL ds with
    | some p, some ps => some (p :: ps)
    | _, _ => none
end
mutual
theorem toPy_plain : ∀ (d : D) (p : PyData), toPy d = some p → p.hasDict = false
  | .non, _, h => by cases h; rfl
  | .bl _, _, h => by cases h; rfl
  | .int _, _, h => by cases h; rfl
  | .str _, _, h => by cases h; rfl
  | .tup ds, _, h => by
    cases q : toPyL ds with
    | none => rw [toPy, q] at h; cases h
    | some ps => rw [toPy, q] at h; cases h; exact toPyL_plain ds ps q
  | .lst ds, _, h => by
    cases q : toPyL ds with
    | none => rw [toPy, q] at h; cases h
    | some ps => rw [toPy, q] at h; cases h; exact toPyL_plain ds ps q
  | .dct _, _, h => by cases h
  | .ty _, _, h => by cases h
theorem toPyL_plain : ∀ (ds : List D) (ps : List PyData), toPyL ds = some ps → PyData.hasDictAll ps = false
  | [], _, h => by cases h; rfl
  | d :: ds, _, h => by
    unfold toPyL at h
    cases q1 : toPy d with
    | none => rw [q1] at h; cases h
    | some p =>
      cases q2 : toPyL ds with
      | none => rw [q1, q2] at h; cases h
      | some ps =>
        rw [q1, q2] at h
        cases h
        show (p.hasDict || PyData.hasDictAll ps) = false
        rw [toPy_plain d p q1, toPyL_plain ds ps q2]
        rfl
end
section
variable {X : Cx} {pins : List (Addr × Obj)} {σ : L2.St} {H : Hp} {s : Shared} {M : Addr → Prop}
mutual
theorem reads_of (I : Inv X pins σ H s) : ∀ (d : D) (p : PyData) (v : V) (u : Value), Rp X.K H M d v → RelV v u → toPy d = some p → ∃ as, Reads s.heap u p as
  | .non, _, _, _, r, rv, h => by cases r; cases h; cases rv; exact ⟨_, .none⟩
  | .bl b, _, _, _, r, rv, h => by cases r; cases h; cases rv; exact ⟨_, .bool b⟩
  | .int i, _, _, _, r, rv, h => by cases r; cases h; obtain ⟨t, rfl⟩ := rv; exact ⟨_, .int i t⟩
  | .str x, _, _, _, r, rv, h => by cases r; cases h; obtain ⟨t, rfl⟩ := rv; exact ⟨_, .str _ t⟩
  | .tup ds, _, _, _, r, rv, h => by
    cases r with
    | tup hT rl =>
      cases q : toPyL ds with
      | none => rw [toPy, q] at h; cases h
      | some ps =>
        rw [toPy, q] at h
        cases h
        cases rv
        obtain ⟨its, vv, ⟨o, e, hc, n, hd⟩, _⟩ := I.tuple hT
        obtain ⟨as, ra⟩ := readsL_of I ds ps _ _ rl vv q
        exact ⟨as, .tuple e hc hd (by simpa using ra)⟩
  | .lst ds, _, _, _, r, rv, h => by
    cases r with
    | lst hL _ rl =>
      cases q : toPyL ds with
      | none => rw [toPy, q] at h; cases h
      | some ps =>
        rw [toPy, q] at h
        cases h
        cases rv
        obtain ⟨its, vv, ⟨o, n, e, hc, _, hd⟩, _⟩ := I.list (SqL.of hL)
        obtain ⟨as, ra⟩ := readsL_of I ds ps _ _ rl vv q
        exact ⟨_, .list e hc hd (by simpa using ra)⟩
  | .dct _, _, _, _, _, _, h => by cases h
  | .ty _, _, _, _, _, _, h => by cases h
theorem readsL_of (I : Inv X pins σ H s) : ∀ (ds : List D) (ps : List PyData) (vs : List V) (us : List Value), RpL X.K H M ds vs → Vals vs us → toPyL ds = some ps → ∃ as, ReadsAll s.heap us ps as
  | [], _, _, _, r, rv, h => by cases r; cases h; cases rv; exact ⟨_, .nil⟩
  | d :: ds, _, _, _, r, rv, h => by
    cases r with
    | cons a b =>
      cases rv with
      | cons ra rb =>
        unfold toPyL at h
        cases q1 : toPy d with
        | none => rw [q1] at h; cases h
        | some p =>
          cases q2 : toPyL ds with
          | none => rw [q1, q2] at h; cases h
          | some ps =>
            rw [q1, q2] at h
            cases h
            obtain ⟨_, z1⟩ := reads_of I d p _ _ a ra q1
            obtain ⟨_, z2⟩ := readsL_of I ds ps _ _ b rb q2
            exact ⟨_, .cons z1 z2⟩
end
end
/-! ### repr -/
def txOf (x : Str) : Tx := x.cps.toList
theorem sx_txOf (x : Str) : sx (txOf x) = x := by
  obtain ⟨⟨l⟩⟩ := x
  rfl
def seqD : D → Bool
  | .tup _ => true
  | .lst _ => true
  | _ => false
def gRepr : List D → Option D
  | [d] => match toPy d with
    | some p => if seqD d = true ∧ p.showable = true ∧ p.depth ≤ 100 ∧ p.shown.length ≤ 1000000 then some (.str (txOf p.shown)) else none
    | none => none
  | _ => none
/-- what repr asks: the value is such data in the abstract heap -/
def rRepr (K : PySem.W.Frag) : List V → Hp → VK → Prop := fun xs H Q => ∃ (d : D) (p : PyData) (a : Addr) (M : Addr → Prop), xs = [.ref a] ∧ Rp K H M d (.ref a) ∧ toPy d = some p ∧ p.showable = true ∧ p.depth ≤ 100 ∧ p.shown.length ≤ 1000000 ∧ Q (.str p.shown) H
theorem cr_repr {X : Cx} {k : Nat} (hr : Room k X.A) : CallR X (.builtin "repr") (rRepr X.K) := by
  intro pins s σ H xs us Q I r h
  obtain ⟨d, p, a, M, rfl, rp, e, h1, h2, h3, q⟩ := h
  obtain ⟨u, rfl, ru⟩ := vals1 r
  cases ru
  obtain ⟨as, rd⟩ := reads_of I d p _ _ rp rfl e
  have un := hr.un
  exact repr_of_reads' rd h1 (PyData.noDict_hsm (toPy_plain d p e)) hr.g (by omega) (fun _ _ z => z) (fun h' u tk hk => ⟨.str p.shown, H, I.kept hk, ⟨u, rfl⟩, q⟩) (Nat.le_trans h3 (by rw [sizeLine_eq]; decide))
theorem gn_repr {K : PySem.W.Frag} : GN K (rRepr K) gRepr := fun ρ S H ds z xs Q so rx q n => by
  unfold gRepr at q
  split at q
  · rename_i d
    obtain ⟨v, rfl, r⟩ := rql1 rx
    split at q
    · rename_i p e
      split at q
      · rename_i hc
        obtain ⟨c1, c2, c3, c4⟩ := hc
        cases q
        have fin : ∀ (a : Addr) (M : Addr → Prop), Rp K H M d (.ref a) → rRepr K [.ref a] H Q := fun a M rp => ⟨d, p, a, M, rfl, rp, e, c2, c3, c4, by
          have := nxt_here so (.str (txOf p.shown)) n
          rw [sx_txOf] at this
          exact this⟩
        cases r with
        | of rp =>
          cases d with
          | tup ds => cases rp with
            | tup h1 h2 => exact fin _ _ (.tup h1 h2)
          | lst ds => cases rp with
            | lst h1 h2 h3 => exact fin _ _ (.lst h1 h2 h3)
          | _ => cases c1
        | lst h1 h2 => exact fin _ (fun _ => False) (.lst h1 (fun z => z) (h2.weak fun _ z => z.elim))
        | dct h1 h2 => cases e
      · cases q
    · cases q
  · cases q
/-! ### text.count -/
def gCount : Tx → D → Option D := fun t e => match e with
  | .str u => some (.int (Txt.count (sx t) (sx u)))
  | _ => none
theorem gm_count {K : PySem.W.Frag} : GM1 K (fun x xs H Q => ∃ a b, x = .str a ∧ xs = [.str b] ∧ Q (.int (Txt.count a b)) H) gCount := fun ρ S H t e z y Q so ry q n => by
  unfold gCount at q
  split at q
  · cases q
    exact ⟨_, _, rfl, by rw [ry.str], nxt_here so (.int _) n⟩
  · cases q
section
variable {X : Cx} {E : XP} {o e : Expr} {apos pos : Pos} {a b : Den W}
theorem de_count (ha : PE X o (tE X.K E a)) (hb : PE X e (tE X.K E b)) (hs : starEach [e] X.env = [(false, eval e X.env)] := by rfl) (hbase : attributeBase o "count" X.env (eval o X.env) = eval o X.env := by rfl) (hline : (apos.endLine == pos.line) = true := by rfl) :
    PE X (.Call (.Attribute o "count" apos) [e] [] pos) (tE X.K E (cM1 gCount a b)) := de_m1 F.slot_str_count F.type_str_count mt_count gm_count ha hb hs hbase hline
end
end Fro

set_option maxHeartbeats 1000000
/-! Fro, dicts: dict(TABLE), d.update(e), sorted(d). -/
namespace Fro
open PySem PySem.Spec L2 PyProof.Rows

/-! ### a table of the module as a dict of the heap -/
theorem kd_pairs {P : Program} {w : World} {K : PySem.W.Frag} {n : Nat} : ∀ {es : List DictEntry} {tbl : List (Tx × D)}, kdE n K es tbl = true → PySem.W.KeysLit w.params es →
    ∃ (kvs : List (Key × V)) (vs : List (Key × Value)), KV kvs vs ∧ Pairs (mixKind P w) es vs ∧ (∀ e ∈ es, ∃ k, (mixKind P w).is k e.key = true ∧ e.hash = (mixKind P w).hash k) ∧ kvs.map (·.1) = tbl.map (fun e => (Sum.inr (sx e.1) : Key)) ∧ ∀ H M, RpE K H M tbl kvs
  | [], [], _, _ => ⟨[], [], .nil, .nil, fun e h => by simp at h, rfl, fun _ _ => .nil⟩
  | [], _ :: _, h, _ => by simp [kdE] at h
  | _ :: _, [], h, _ => by simp [kdE] at h
  | e :: es, (t, d) :: r, h, hk => by
    unfold kdE at h
    simp only [Bool.and_eq_true] at h
    obtain ⟨⟨h1, h2⟩, h3⟩ := h
    obtain ⟨⟨x, tk, ek, eh⟩, hk2⟩ := hk
    obtain ⟨kvs, vs, a1, a2, a3, a4, a5⟩ := kd_pairs (P := P) h3 hk2
    rw [ek] at h1
    have ex : x = sx t := by simpa using h1
    subst ex
    obtain ⟨v, hv, _⟩ := kdV_ok (H := fun _ => none) (M := fun _ => False) n e.val d h2
    have his : (mixKind P w).is (Sum.inr (sx t)) e.key = true := by
      rw [ek]
      show Value.isStrOf (sx t) (.str (sx t) tk) = true
      simp [Value.isStrOf]
    refine ⟨(Sum.inr (sx t), v) :: kvs, (Sum.inr (sx t), e.val) :: vs, .cons ⟨rfl, hv⟩ a1, .cons his rfl a2, fun z hz => ?_, by rw [List.map_cons, List.map_cons, a4], fun H M => .cons ?_ (a5 H M)⟩
    · rcases List.mem_cons.mp hz with q | q
      · subst q; exact ⟨_, his, eh⟩
      · exact a3 z q
    · obtain ⟨v', hv', r'⟩ := kdV_ok (H := H) (M := M) n e.val d h2
      rw [hv.inj hv']; exact r'
theorem kv_keys : ∀ {kvs : List (Key × V)} {vs : List (Key × Value)}, KV kvs vs → kvs.map (·.1) = vs.map (·.1)
  | _, _, .nil => rfl
  | _, _, .cons h t => by rw [List.map_cons, List.map_cons, kv_keys t, h.1]
theorem inr_sx_nodup {l : List Tx} (h : l.Nodup) : (l.map fun t => (Sum.inr (sx t) : Key)).Nodup := by
  rw [List.nodup_iff_pairwise_ne] at h ⊢
  exact List.Pairwise.map _ (fun a b hab z => hab (sx_inj (Sum.inr.inj z))) h
theorem KD.dict {P : Program} {w : World} {K : PySem.W.Frag} {a : Addr} {tbl : List (Tx × D)} {h : Heap} (hk : KD K w a tbl) (kin : K.In h) (nd : (tbl.map (·.1)).Nodup) :
    (a == sysModules) = false ∧ ∃ (kvs : List (Key × V)) (vs : List (Key × Value)), KV kvs vs ∧ h.DictOf (mixKind P w) a vs ∧ kvs.length = tbl.length ∧ ∀ H M, RpE K H M tbl kvs := by
  obtain ⟨es, n, m, kd, he⟩ := hk.ex
  obtain ⟨kvs, vs, a1, a2, a3, a4, a5⟩ := kd_pairs (P := P) he kd.lit
  have hl : kvs.length = tbl.length := by
    have := congrArg List.length a4
    simpa using this
  refine ⟨kd.low, kvs, vs, a1, ⟨_, es, n, kin _ _ kd.at_, ⟨rfl, rfl, rfl⟩, rfl, fun e he' => a3 e (by simpa using he'), a2, ?_⟩, hl, a5⟩
  rw [← kv_keys a1, a4]
  have := inr_sx_nodup nd
  rwa [List.map_map] at this
def cKDictM (tbl : List (Tx × D)) : Den W := fun _ S => .ok (.r S.length) (S ++ [.dct tbl])
theorem de_kdictM {X : Cx} {E : XP} {x : Str} {d : Addr} {tbl : List (Tx × D)} {p q pos : Pos} (hk : KD X.K X.w d tbl) (hm : X.mg x = some (.ref d)) (hmd : X.mg "dict" = none) (nd : (tbl.map (·.1)).Nodup := by decide +kernel) (hl : tbl.length ≤ 1000 := by decide) (hg : Gl X x := by rfl) (hgd : Gl X "dict" := by rfl) (hd : (x == ("__debug__" : Str)) = false := by decide)
    (hs : starEach [.Name x q] X.env = (false, eval (.Name x q) X.env) :: starEach [] X.env := by rfl) : PE X (.Call (.Name "dict" p) [.Name x q] [] pos) (tE X.K E (cKDictM tbl)) := by
  have rule : CallR X (.type "dict") (fun xs H Q => xs = [.ref d] ∧ ∀ kvs p, (∀ H M, RpE X.K H M tbl kvs) → H p = none → Q (.ref p) (upd H p (.dK kvs))) := by
    intro pins s σ H xs us Q I r h
    obtain ⟨rfl, h⟩ := h
    obtain ⟨u, rfl, rx⟩ := vals1 r
    cases rx
    obtain ⟨low, kvs, vs, rel, dd, ll, re⟩ := hk.dict (P := X.prog) I.kIn nd
    have z : kvs.length ≤ sizeLine := by rw [ll]; exact le1000 hl
    refine kt_call_dict low dd (by rw [← rel.length]; exact z) fun h' d' hsb => ?_
    have hmm : (s.heap.objs.size == sysModules) = false := beq_eq_false_iff_ne.mpr (Nat.ne_of_gt I.big)
    exact ⟨.ref s.heap.objs.size, upd H s.heap.objs.size (.dK kvs), I.laid (t' := s.toks) (fun b u e => (hsb.2 b (Nat.ne_of_lt (Heap.lt_size e))).trans (Heap.get?_push_of_some _ e)) (Nat.le_refl _)
      (show ObjOk X.prog X.w _ _ _ (.dK kvs) from ⟨z, hmm, vs, rel, d'⟩), rfl, h kvs _ re (I.hok.fresh (Nat.le_refl _))⟩
  refine pe_mono (pe_callTy rule hgd hmd (by decide +kernel) (pa_cons (pe_glob (v := .ref d) hg hm rfl hd) pa_nil hs)) fun σ H Q ⟨δ, ρ, S, st, so, p⟩ => ?_
  refine ⟨rfl, fun kvs b re nb => ?_⟩
  have fg : Fwd ρ S H (ρ ++ [b]) (S ++ [.dct tbl]) (upd H b (.dK kvs)) := Fwd.grown so nb _
  exact p (.ref b) (ρ ++ [b]) _ fg (so.grown nb _ ⟨kvs, upd_same, re _ _⟩) ⟨b, rfl, by rw [← so.len]; simp⟩

/-! ### d.update(e) -/
def apUpd (i : Nat) (y : W) (S : Sto) : R W := match y, S[i]? with
  | .v (.dct more), some (.dct es) => if es.length + more.length ≤ 1000 then .ok (.v .non) (S.set i (.dct (mergeE es more))) else .bad
  | _, _ => .bad
def cUpd (a b : Den W) : Den W := fun δ S => (a δ S).bind fun x S1 => match x with
  | .r i => (match S1[i]? with
    | some (.dct _) => (b δ S1).bind fun y S2 => apUpd i y S2
    | _ => .bad)
  | _ => .bad
def rUpd : V → List V → Hp → VK → Prop := fun x vs H Q => ∃ l b kvs more, x = .ref l ∧ vs = [.ref b] ∧ l ≠ b ∧ H l = some (.dK kvs) ∧ Rd H b (.dK more) ∧ kvs.length + more.length ≤ 1000 ∧ Q .non (upd H l (.dK (mergeK kvs more)))
theorem mt_update {X : Cx} : MtR X "dict.update" rUpd := by
  intro pins s σ H x vs v us Q I rx rv h
  obtain ⟨l, b, kvs, more, rfl, rfl, ne, hl, hb, hz, q⟩ := h
  cases rx
  obtain ⟨u, rfl, ru⟩ := rv.one
  cases ru
  obtain ⟨_, lowl, vl, rl, dl⟩ := dk_of I.hok hl
  obtain ⟨_, lowb, vb, rb, db⟩ := dk_rd I.hok hb
  refine call_meetsIn PySem.F.slot_dict_update dl.typeIs PySem.F.entry_dict_update (PySem.F.args_dict_update_2 _ _) (meets_dict_update (mixKind X.prog X.w) l b ne lowb)
    ⟨vl, vb, dl, db, by rw [← rl.length, ← rb.length]; exact le1000 hz, fun h' hmm _ hs => ?_⟩
  have rm : KV (mergeK kvs more) (merged vl vb) := KV.merge rb rl
  have hlen : (mergeK kvs more).length ≤ sizeLine := by
    rw [rm.length]
    refine Nat.le_trans (merged_length_le vl vb) ?_
    rw [← rl.length, ← rb.length]
    exact le1000 hz
  have hd : ∃ o, h'.get? l = some o := by obtain ⟨o, _, _, e, _⟩ := hmm; exact ⟨o, e⟩
  exact ⟨.non, _, I.write (t' := s.toks) (x := l) (e := l) (o := .dK (mergeK kvs more)) (by rw [hl]; exact True.intro) (.inl rfl) (fun c o hc e => (hs.2 c hc).trans e) hd ⟨hlen, lowl, _, rm, hmm⟩, rfl, q⟩
section
variable {X : Cx} {E : XP} {o e : Expr} {apos cpos : Pos} {a b : Den W}
theorem de_update (ha : PE X o (tE X.K E a)) (hb : PE X e (tE X.K E b)) (hs : starEach [e] X.env = (false, eval e X.env) :: starEach [] X.env := by rfl)
    (hd : ∀ to t, PE X o to → PA X [e] t → PE X (.Call (.Attribute o "update" apos) [e] [] cpos) (tBM X.K "dict" rUpd to t) := by exact fun _ _ ho h => pe_bm PySem.F.plainAttrs_dict PySem.F.slot_dict_update PySem.F.type_dict_update mt_update ho h) :
    PE X (.Call (.Attribute o "update" apos) [e] [] cpos) (tE X.K E (cUpd a b)) :=
  pe_mono (hd _ _ ha (pa_cons hb pa_nil hs)) fun σ H Q ⟨δ, ρ, S, st, so, p⟩ => by
    refine tG_then st so p fun x S1 v ρ1 H1 f1 st1 so1 r1 p1 => ?_
    cases x with
    | v d => exact p1.elim
    | s ns => exact p1.elim
    | lk es => exact p1.elim
    | x c ds => exact p1.elim
    | r i =>
      obtain ⟨l, rfl, el⟩ := r1
      cases q : S1[i]? with
      | none => simp only [q] at p1; exact p1.elim
      | some ob =>
        cases ob with
        | lst ds => simp only [q] at p1; exact p1.elim
        | dead => simp only [q] at p1; exact p1.elim
        | dct es =>
          simp only [q] at p1
          obtain ⟨kvs, hl, _⟩ := so1.obs i l _ el q
          refine ⟨.inr (.inr (.inl ⟨rfl, .inl ⟨kvs, hl⟩⟩)), ?_⟩
          refine tG_then st1 so1 p1 fun y S2 u ρ2 H2 f2 st2 so2 r2 p2 => ?_
          have el2 := f2.at el
          unfold apUpd at p2
          split at p2
          · rename_i more es2 q2
            obtain ⟨kv2, hl2, re2⟩ := so2.obs i l _ el2 q2
            by_cases hz : es2.length + more.length ≤ 1000
            · rw [if_pos hz] at p2
              cases r2 with
              | dct hb nb rb =>
                rename_i bq mkv
                have ne : l ≠ bq := fun z => nb (z ▸ ⟨i, _, el2, q2, rfl⟩)
                refine ⟨l, bq, kv2, mkv, rfl, rfl, ne, hl2, hb, by rw [← rpE_len re2, ← rpE_len rb]; exact hz, ?_⟩
                have fc : Fwd ρ2 S2 H2 ρ2 (S2.set i (.dct (mergeE es2 more))) (upd H2 l (.dK (mergeK kv2 mkv))) := Fwd.changed so2 el2 q2 rfl
                exact p2 .non ρ2 _ fc (so2.changed el2 q2 rfl ⟨_, upd_same, rpE_merge (fc.rpE rb) (fc.rpE re2)⟩) .non
            · rw [if_neg hz] at p2; exact p2.elim
          · exact p2.elim
end
/-! ### sorted(d) -/
def insT (t : Tx) : List Tx → List Tx
  | [] => [t]
  | u :: r => if ltCps u t then u :: insT t r else t :: u :: r
def srtT : List Tx → List Tx
  | [] => []
  | t :: r => insT t (srtT r)
theorem insT_perm (t : Tx) : ∀ l : List Tx, (insT t l).Perm (t :: l)
  | [] => .refl _
  | u :: r => by
    unfold insT
    split
    · exact ((insT_perm t r).cons u).trans (.swap t u r)
    · exact .refl _
theorem srtT_perm : ∀ l : List Tx, (srtT l).Perm l
  | [] => .refl _
  | t :: r => (insT_perm t _).trans ((srtT_perm r).cons t)
theorem tx_lt_asymm {a b : Tx} (h : a < b) : ¬ b < a := fun g => List.lt_irrefl a (List.lt_trans h g)
theorem tx_lt_le {a b c : Tx} (h : a < b) (g : ¬ c < b) : a < c := Classical.byContradiction fun n => by
  by_cases q : c < a
  · exact g (List.lt_trans q h)
  · have : a = c := List.le_antisymm (show a ≤ c from q) (show c ≤ a from n)
    exact g (this ▸ h)
theorem insT_sorted (t : Tx) : ∀ {l : List Tx}, l.Pairwise (fun a b => ¬ b < a) → (insT t l).Pairwise (fun a b => ¬ b < a)
  | [], _ => by simp [insT]
  | u :: r, h => by
    unfold insT
    rw [ltCps_eq]
    obtain ⟨h1, h2⟩ := List.pairwise_cons.mp h
    by_cases q : u < t
    · rw [if_pos (by simpa using q)]
      refine List.pairwise_cons.mpr ⟨fun x hx => ?_, insT_sorted t h2⟩
      rcases List.mem_cons.mp ((insT_perm t r).mem_iff.mp hx) with e | e
      · rw [e]; exact tx_lt_asymm q
      · exact h1 x e
    · rw [if_neg (by simpa using q)]
      refine List.pairwise_cons.mpr ⟨fun x hx => ?_, h⟩
      rcases List.mem_cons.mp hx with e | e
      · rw [e]; exact q
      · intro z
        have h3 := h1 x e
        rcases List.le_total (l₁ := t) (l₂ := u) with g | g
        · exact absurd (tx_lt_le z (show ¬ u < t from g)) h3
        · have : t = u := List.le_antisymm (show t ≤ u from q) g
          rw [this] at z
          exact h3 z
theorem srtT_sorted : ∀ l : List Tx, (srtT l).Pairwise (fun a b => ¬ b < a)
  | [] => .nil
  | t :: r => insT_sorted t (srtT_sorted r)
theorem rising_pw : ∀ {x : Str} {r : List Str}, risingS x r = true → (x :: r).Pairwise (fun a b => ¬ b.cps.toList < a.cps.toList)
  | x, [], _ => by simp
  | x, y :: r, h => by
    unfold risingS at h
    simp only [Bool.and_eq_true, Bool.not_eq_true'] at h
    obtain ⟨h1, h2⟩ := h
    rw [ltCps_eq] at h1
    have h1' : ¬ y.cps.toList < x.cps.toList := by simpa using h1
    have ih := rising_pw h2
    refine List.pairwise_cons.mpr ⟨fun z hz => ?_, ih⟩
    rcases List.mem_cons.mp hz with e | e
    · rw [e]; exact h1'
    · intro g
      have h3 := (List.pairwise_cons.mp ih).1 z e
      exact h3 (tx_lt_le g h1')
theorem sortedS_pw {l : List Str} (h : sortedS l = true) : l.Pairwise (fun a b => ¬ b.cps.toList < a.cps.toList) := by
  cases l with
  | nil => exact .nil
  | cons x r => exact rising_pw h
theorem sorted_is {ts : List Tx} {ys : List Str} (hp : ys.Perm (ts.map sx)) (hs : sortedS ys = true) : ys = (srtT ts).map sx := by
  refine List.Perm.eq_of_pairwise (le := fun a b : Str => ¬ b.cps.toList < a.cps.toList) (fun a b ha hb h1 h2 => ?_) (sortedS_pw hs) ?_ (hp.trans ((srtT_perm ts).symm.map sx))
  · have e : a.cps.toList = b.cps.toList := List.le_antisymm h1 h2
    cases a; cases b
    congr 1
    exact Array.toList_inj.mp e
  · refine List.Pairwise.map _ (fun a b h => ?_) (srtT_sorted ts)
    simpa [sx] using h
def gSortD : List D → Option D := fun ds => match ds with
  | [.dct es] => if es.length < 64 then some (.lst ((srtT (es.map (·.1))).map D.str)) else none
  | _ => none
theorem rpE_keys {K : PySem.W.Frag} {H : Hp} {M : Addr → Prop} : ∀ {es : List (Tx × D)} {kvs : List (Key × V)}, RpE K H M es kvs → kvs.map (·.1) = (es.map fun e => sx e.1).map Sum.inr
  | _, _, .nil => rfl
  | _, _, .cons _ b => by
    simp only [List.map_cons]
    rw [rpE_keys b]
theorem rpL_strs {K : PySem.W.Frag} {H : Hp} {M : Addr → Prop} : ∀ l : List Tx, RpL K H M (l.map D.str) ((l.map sx).map V.str)
  | [] => .nil
  | t :: l => .cons (.str t) (rpL_strs l)
theorem gn_sortD {K : PySem.W.Frag} : GN K (fun xs H Q => ∃ (a : Addr) (kvs : List (Key × V)) (ks : List Str), xs = [.ref a] ∧ Rd H a (.dK kvs) ∧ kvs.map (·.1) = ks.map Sum.inr ∧ ks.length < 64 ∧ ∀ ys p, ys.Perm ks → sortedS ys = true → H p = none → Q (.ref p) (upd H p (.lst (ys.map V.str)))) gSortD := fun ρ S H ds z xs Q so rx q n => by
  unfold gSortD at q
  split at q
  · rename_i es
    obtain ⟨v, rfl, r⟩ := rql1 rx
    split at q
    · rename_i hl
      cases q
      obtain ⟨a, kvs, rfl, hd, re⟩ : ∃ a kvs, v = .ref a ∧ Rd H a (.dK kvs) ∧ RpE K H (live ρ S) es kvs := by
        cases r with
        | of h => cases h with | dct h1 _ h3 => exact ⟨_, _, rfl, h1, h3⟩
        | dct h1 h2 => exact ⟨_, _, rfl, h1, h2⟩
      refine ⟨a, kvs, es.map fun e => sx e.1, rfl, hd, rpE_keys re, by rw [List.length_map]; exact hl, fun ys p hp hs np => ?_⟩
      have e : ys = (srtT (es.map (·.1))).map sx := sorted_is (by rw [List.map_map]; exact hp) hs
      rw [e]
      exact nxt_lst so (rpL_strs _) n p np
    · cases q
  · cases q
/-! ### x in d, as a test -/
section
variable {X : Cx} {E : XP} {o e : Expr} {pos : Pos} {a b : Den W} {k : Nat}
theorem dt_din (hr : Room k X.A) (he : PE X e (tE X.K E b)) (ho : PE X o (tE X.K E a)) (hm : behindInMarks .In o = false := by rfl) : PT X (.Compare e [.In] [o] pos) (tT X.K E (cB (cDIn false b a))) :=
  pt_mono (pt_cmp (pc_din (hu1 hr) he ho) hm) fun σ H Q ⟨δ, ρ, S, st, so, p⟩ => by
    obtain ⟨δ, ρ, S, st, so, p⟩ : tE X.K E (cDIn false b a) σ H fun x H' => ∃ d, x = .bl d ∧ Q d H' := tG_then st so p fun w S1 v ρ1 H1 f1 st1 so1 r1 p1 => asB_post so1 r1 p1
    exact tG_then st so p fun y S1 u ρ1 H1 f1 st1 so1 r1 p1 => tG_then st1 so1 p1 fun x S2 v ρ2 H2 f2 st2 so2 r2 p2 => din_post false so2 (f2.rw r1) r2 p2
theorem dt_dnotin (hr : Room k X.A) (he : PE X e (tE X.K E b)) (ho : PE X o (tE X.K E a)) (hm : behindInMarks .NotIn o = false := by rfl) : PT X (.Compare e [.NotIn] [o] pos) (tT X.K E (cB (cDIn true b a))) :=
  pt_mono (pt_cmp (pc_dnotin (hu1 hr) he ho) hm) fun σ H Q ⟨δ, ρ, S, st, so, p⟩ => by
    obtain ⟨δ, ρ, S, st, so, p⟩ : tE X.K E (cDIn true b a) σ H fun x H' => ∃ d, x = .bl d ∧ Q d H' := tG_then st so p fun w S1 v ρ1 H1 f1 st1 so1 r1 p1 => asB_post so1 r1 p1
    exact tG_then st so p fun y S1 u ρ1 H1 f1 st1 so1 r1 p1 => tG_then st1 so1 p1 fun x S2 v ρ2 H2 f2 st2 so2 r2 p2 => din_post true so2 (f2.rw r1) r2 p2
end
end Fro

set_option maxHeartbeats 1000000
/-! Fro, dicts: list(d). -/
namespace Fro
open PySem PySem.Spec L2 PyProof.Rows

def rListR : List V → Hp → VK → Prop := fun xs H Q => ∃ p kvs, xs = [.ref p] ∧ Rd H p (.dK kvs) ∧ ∀ q, H q = none → Q (.ref q) (upd H q (.lst (kvs.map fun kv => kV kv.1)))
theorem call_list_dR {X : Cx} (hc : X.calm = true) : CallR X (.type "list") rListR := by
  intro pins s σ H xs us Q I r h
  obtain ⟨p, kvs, e, hk, q⟩ := h
  subst e
  obtain ⟨u, eu, rx⟩ := vals1 r
  subst eu
  obtain rfl : u = Value.ref p := rx
  obtain ⟨z, lo, vs, rk, hd⟩ := (show ObjOk X.prog X.w H s.heap p (.dK kvs) from hk.ok I.hok)
  obtain ⟨ep, hat⟩ := hd.dictAt
  have hl : kvs.length = vs.length := Paired.length rk
  refine PySem.W.kdl_call (PySem.W.kdl_dict (knd := mixKind X.prog X.w) (kvs := vs) (ep := ep) lo) (I.ok.hd hc) hat (by rw [← hl]; exact z) fun h' tk acc' c' hkeep hS hacc => ?_
  refine ⟨.ref s.heap.objs.size, upd H s.heap.objs.size (.lst (kvs.map fun kv => kV kv.1)), I.laid hkeep (Nat.le_refl _) (show ObjOk X.prog X.w _ _ _ (.lst (kvs.map fun kv => kV kv.1)) from ⟨by rw [List.length_map]; exact z, acc'.toList, c', ?_, by rw [Array.toArray_toList]; exact hS⟩), rfl, q _ (I.hok.fresh (Nat.le_refl _))⟩
  have el : acc'.toList.length = acc'.size := by simp
  refine vals_of_at (by rw [List.length_map, el, hacc.1, hl]) fun j x w h1 h2 => ?_
  obtain ⟨k, y, hky, hi⟩ := hacc.2 j w (by rw [← Array.getElem?_toList]; exact h2)
  have e1 : (kvs.map (·.1))[j]? = some k := by
    rw [KV.keys rk, List.getElem?_map, hky] <;> rfl
  have e2 : (kvs.map fun kv => kV kv.1)[j]? = some (kV k) := by
    have e3 : (kvs.map fun kv => kV kv.1) = (kvs.map (·.1)).map kV := by rw [List.map_map] <;> rfl
    rw [e3, List.getElem?_map, e1] <;> rfl
  rw [e2] at h1
  cases h1
  exact keyIs_rel hi
def gListD : List D → Option D := fun ds => match ds with
  | [.dct es] => some (.lst (es.map fun e => .str e.1))
  | _ => none
theorem rpE_list {K : PySem.W.Frag} {H : Hp} {M : Addr → Prop} : ∀ {es : List (Tx × D)} {kvs : List (Key × V)}, RpE K H M es kvs → RpL K H M (es.map fun e => .str e.1) (kvs.map fun kv => kV kv.1)
  | _, _, .nil => .nil
  | _, _, .cons a b => .cons (.str _) (rpE_list b)
theorem gn_listD {K : PySem.W.Frag} : GN K rListR gListD := fun ρ S H ds z xs Q so rx q n => by
  unfold gListD at q
  split at q
  · rename_i es
    obtain ⟨v, rfl, r⟩ := rql1 rx
    cases q
    obtain ⟨a, kvs, rfl, hd, re⟩ : ∃ a kvs, v = .ref a ∧ Rd H a (.dK kvs) ∧ RpE K H (live ρ S) es kvs := by
      cases r with
      | of h => cases h with | dct h1 _ h3 => exact ⟨_, _, rfl, h1, h3⟩
      | dct h1 h2 => exact ⟨_, _, rfl, h1, h2⟩
    exact ⟨a, kvs, rfl, hd, nxt_lst so (rpE_list re) n⟩
  · cases q
end Fro

/-! Fro, exceptions: isinstance(e, C), isinstance(e, (C, D)) of a caught one. -/
namespace Fro
open PySem PySem.Spec L2 PyProof.Rows

structure IsxC (K : PySem.W.Frag) (C : Addr) : Prop where
  hcl : (PySem.W.clsIn K C).isSome = true
  hga : PySem.W.findIn K (.ref C) "__getattribute__" = some (some (.builtin "BaseException.__getattribute__"))
  hgt : PySem.W.findIn K (.ref C) "__getattr__" = some none
  hsub : PySem.W.subIn K (.ref C) (.type "BaseException") = some true
  ha : PySem.W.findIn K (.ref C) "__class__" = some (some (.builtin "object.__class__"))
  hn : PySem.W.specialIn K (.builtin "object.__class__") "__get__" = some (some (.builtin "getset_descriptor.__get__"))
  htk : PySem.W.takesIn K (.builtin "object.__class__") = some true
  hm : PySem.W.mroIn K C (.type "object") = some true
/-- what isinstance says of the classes -/
def XIs (K : PySem.W.Frag) (h : Nat) (C' : Addr) : Prop := ∀ (k : Nat) (C : Addr), PySem.W.nsIn K mainGlobals (xname k) = some (some (.ref C)) → IsxC K C ∧ PySem.W.kitOne K (.ref C) (.ref C') = some (subx k h)
def isxB (K : PySem.W.Frag) (C : Addr) : Bool := (PySem.W.clsIn K C).isSome && (decide (PySem.W.findIn K (.ref C) "__getattribute__" = some (some (.builtin "BaseException.__getattribute__"))) && (decide (PySem.W.findIn K (.ref C) "__getattr__" = some none) &&
  (decide (PySem.W.subIn K (.ref C) (.type "BaseException") = some true) && (decide (PySem.W.findIn K (.ref C) "__class__" = some (some (.builtin "object.__class__"))) && (decide (PySem.W.specialIn K (.builtin "object.__class__") "__get__" = some (some (.builtin "getset_descriptor.__get__"))) &&
  (decide (PySem.W.takesIn K (.builtin "object.__class__") = some true) && decide (PySem.W.mroIn K C (.type "object") = some true)))))))
theorem isxB_ok {K : PySem.W.Frag} {C : Addr} (h : isxB K C = true) : IsxC K C := by
  unfold isxB at h
  simp only [Bool.and_eq_true, decide_eq_true_eq] at h
  obtain ⟨h1, h2, h3, h4, h5, h6, h7, h8⟩ := h
  exact ⟨h1, h2, h3, h4, h5, h6, h7, h8⟩
def xiB (K : PySem.W.Frag) (h : Nat) (C' : Addr) : Bool := (List.range 14).all fun k => match PySem.W.nsIn K mainGlobals (xname k) with
  | some (some (.ref C)) => isxB K C && decide (PySem.W.kitOne K (.ref C) (.ref C') = some (subx k h))
  | _ => true
theorem xi_mk {K : PySem.W.Frag} {h : Nat} {C' : Addr} (hn : noneB K = true) (hb : xiB K h C' = true) : XIs K h C' := fun k C e => by
  by_cases hk : 13 ≤ k
  · rw [xname_top k hk] at e
    unfold noneB at hn
    rw [e] at hn
    cases hn
  · have q := List.all_eq_true.mp hb k (List.mem_range.mpr (by omega))
    rw [e] at q
    obtain ⟨q1, q2⟩ := Bool.and_eq_true_iff.mp q
    exact ⟨isxB_ok q1, of_decide_eq_true q2⟩
def rIsx (K : PySem.W.Frag) : List V → Hp → VK → Prop := fun xs H Q => ∃ (a C d : Addr) (vfs : List (Str × V)) (y : V) (b : Bool), xs = [.ref a, y] ∧ H a = some (xob a C d) ∧ H d = some (.xd vfs) ∧ IsxC K C ∧
  ((∃ C', y = .ref C' ∧ PySem.W.kitOne K (.ref C) (.ref C') = some b) ∨ ∃ (p : Addr) (cs : List Addr), y = .ref p ∧ SqT K H p (cs.map V.ref) ∧ PySem.W.kitAny K (.ref C) (cs.map Value.ref) = some b) ∧ Q (.bl b) H
theorem vals_refs : ∀ {cs : List Addr} {us : List Value}, Vals (cs.map V.ref) us → us = cs.map Value.ref
  | [], _, .nil => rfl
  | c :: cs, _, .cons h r => by
    obtain rfl := (show _ = Value.ref c from h)
    rw [vals_refs r]; rfl
theorem call_isx {X : Cx} : CallR X (.builtin "isinstance") (rIsx X.K) := by
  intro pins s σ H xs us Q I r h
  obtain ⟨a, C, d, vfs, y, b, rfl, eb, ed, IC, hy, q⟩ := h
  cases r with
  | cons rx rr =>
    cases rr with
    | cons rt rr =>
      cases rr
      cases rx
      obtain ⟨oe, vs, ho, h1, h2, h3⟩ := xob_at I.hok eb
      have hx : ObjOk X.prog X.w H s.heap d (.xd vfs) := I.hok d _ ed
      obtain ⟨mA, hns, hr⟩ := hx
      obtain ⟨od, hod, hl⟩ := lookIn_ns hns
      have J : PySem.W.InstAt s.heap a oe C (some od) := ⟨ho, h1, by unfold PySem.W.notCls; rw [h3] <;> rfl, by rw [h2]; exact hod⟩
      have Z := PySem.W.kitx_exc (K := X.K) (x := a) (ox := oe) (od := some od) IC.hcl IC.hga IC.hgt IC.hsub IC.ha IC.hn IC.htk IC.hm
      rcases hy with ⟨C', rfl, e⟩ | ⟨p, cs, rfl, sq, e⟩
      · cases rt
        exact PySem.W.kia_one Z I.kIn J e (fun z => nomatch z) fun tk => ⟨.bl b, H, I.kept (t' := tk) fun _ _ z => z, rfl, q⟩
      · cases rt
        obtain ⟨its, r1, p1, _⟩ := I.tuple sq
        rw [vals_refs r1] at p1
        obtain ⟨⟨cls, dd, data, sl⟩, ht, hc, n, hd⟩ := id p1
        simp only at hc hd
        subst hc hd
        exact PySem.W.kia_tup Z I.kIn J ht e (fun z => nomatch z) fun tk => ⟨.bl b, H, I.kept (t' := tk) fun _ _ z => z, rfl, q⟩
def apIsx (hs : List Nat) (w : W) (S : Sto) : R W := match w with
  | .x c _ => .ok (.v (.bl (hs.any (subx c)))) S
  | _ => .bad
def cIsx (hs : List Nat) (a : Den W) : Den W := fun δ S => (a δ S).bind fun w S1 => apIsx hs w S1
theorem kitAny_of {K : PySem.W.Frag} {k : Nat} {C : Addr} (e : PySem.W.nsIn K mainGlobals (xname k) = some (some (.ref C))) : ∀ {cs : List Addr} {hs : List Nat}, cs.length = hs.length → (∀ (i : Nat) (C' : Addr) (h : Nat), cs[i]? = some C' → hs[i]? = some h → XIs K h C') → PySem.W.kitAny K (.ref C) (cs.map Value.ref) = some (hs.any (subx k))
  | [], [], _, _ => rfl
  | [], _ :: _, h, _ => by simp at h
  | _ :: _, [], h, _ => by simp at h
  | c :: cs, h :: hs, hl, hx => by
    have z := (hx 0 c h rfl rfl k C e).2
    have r := kitAny_of e (cs := cs) (hs := hs) (by simpa using hl) fun i C' h' h1 h2 => hx (i + 1) C' h' (by simpa using h1) (by simpa using h2)
    show (match PySem.W.kitOne K (.ref C) (.ref c) with | some true => some true | some false => PySem.W.kitAny K (.ref C) (cs.map Value.ref) | none => none) = some (subx k h || hs.any (subx k))
    rw [z]
    cases subx k h with
    | true => rfl
    | false => exact r
section
variable {X : Cx} {E : XP} {e : Expr} {a : Den W} {p p2 pos : Pos}
theorem de_isx1 {x : Str} {C' : Addr} {h : Nat} (xi : XIs X.K h C') (hx : X.mg x = some (.ref C')) (he : PE X e (tE X.K E a)) (hm : X.mg "isinstance" = none) (hgx : Gl X x := by rfl) (hg : Gl X "isinstance" := by rfl) (hd : (x == ("__debug__" : Str)) = false := by decide)
    (h1 : starEach [e, .Name x p2] X.env = (false, eval e X.env) :: starEach [.Name x p2] X.env := by rfl) (h2 : starEach [.Name x p2] X.env = (false, eval (.Name x p2) X.env) :: starEach [] X.env := by rfl) (hpl : (backTo pos (starEach [.Name x p2] X.env)).any (·.1) = false := by rfl) :
    PE X (.Call (.Name "isinstance" p) [e, .Name x p2] [] pos) (tE X.K E (cIsx [h] a)) :=
  pe_mono (pe_callB call_isx hg hm (by decide +kernel) (pa_cons he (pa_cons (pe_glob (v := .ref C') hgx hx rfl hd) pa_nil h2) h1) (by decide) (by decide) h1 hpl) fun σ H Q ⟨δ, ρ, S, st, so, q⟩ => by
    show tE X.K E a σ H _
    refine tG_then st so q fun w S1 v ρ1 H1 f1 st1 so1 r1 p1 => ?_
    show rIsx X.K [v, .ref C'] H1 Q
    cases w with
    | v d => exact p1.elim
    | r i => exact p1.elim
    | s ns => exact p1.elim
    | lk es => exact p1.elim
    | x c ds =>
      obtain ⟨b, C, d, rfl, eb, nb, xr⟩ := r1
      obtain ⟨vfs, ed, hv⟩ := xr.at_
      obtain ⟨IC, ek⟩ := xi c C xr.cls
      refine ⟨b, C, d, vfs, .ref C', _, rfl, eb, ed, IC, .inl ⟨C', rfl, ek⟩, ?_⟩
      have p1 : Post X.K (RpW X.K) ρ1 S1 H1 (.ok (.v (.bl ([h].any (subx c)))) S1) Q (E σ) := p1
      have e1 : [h].any (subx c) = subx c h := by simp
      rw [e1] at p1
      exact p1 _ ρ1 H1 Fwd.refl so1 (.bl _)
theorem de_isx2 {x y : Str} {Cx Cy : Addr} {hx hy : Nat} {p3 p4 : Pos} {ctx : Nat} (xi : XIs X.K hx Cx) (yi : XIs X.K hy Cy) (mx : X.mg x = some (.ref Cx)) (my : X.mg y = some (.ref Cy)) (he : PE X e (tE X.K E a)) (hm : X.mg "isinstance" = none) (hgx : Gl X x := by rfl) (hgy : Gl X y := by rfl) (hg : Gl X "isinstance" := by rfl)
    (hdx : (x == ("__debug__" : Str)) = false := by decide) (hdy : (y == ("__debug__" : Str)) = false := by decide)
    (h1 : starEach [e, .Tuple [.Name x p2, .Name y p3] ctx p4] X.env = (false, eval e X.env) :: starEach [.Tuple [.Name x p2, .Name y p3] ctx p4] X.env := by rfl) (h2 : starEach [.Tuple [.Name x p2, .Name y p3] ctx p4] X.env = (false, eval (.Tuple [.Name x p2, .Name y p3] ctx p4) X.env) :: starEach [] X.env := by rfl)
    (h3 : starEach [.Name x p2, .Name y p3] X.env = (false, eval (.Name x p2) X.env) :: starEach [.Name y p3] X.env := by rfl) (h4 : starEach [.Name y p3] X.env = (false, eval (.Name y p3) X.env) :: starEach [] X.env := by rfl) (hpl : (backTo pos (starEach [.Tuple [.Name x p2, .Name y p3] ctx p4] X.env)).any (·.1) = false := by rfl) :
    PE X (.Call (.Name "isinstance" p) [e, .Tuple [.Name x p2, .Name y p3] ctx p4] [] pos) (tE X.K E (cIsx [hx, hy] a)) :=
  pe_mono (pe_callB call_isx hg hm (by decide +kernel) (pa_cons he (pa_cons (pe_tup (pa_cons (pe_glob (v := .ref Cx) hgx mx rfl hdx) (pa_cons (pe_glob (v := .ref Cy) hgy my rfl hdy) pa_nil h4) h3)) pa_nil h2) h1) (by decide) (by decide) h1 hpl) fun σ H Q ⟨δ, ρ, S, st, so, q⟩ => by
    show tE X.K E a σ H _
    refine tG_then st so q fun w S1 v ρ1 H1 f1 st1 so1 r1 p1 => ?_
    show ([V.ref Cx, V.ref Cy] : List V).length ≤ sizeLine ∧ ∀ p, H1 p = none → rIsx X.K [v, .ref p] (upd H1 p (.tup [.ref Cx, .ref Cy])) Q
    refine ⟨by show 2 ≤ sizeLine; decide +kernel, fun p np => ?_⟩
    cases w with
    | v d => exact p1.elim
    | r i => exact p1.elim
    | s ns => exact p1.elim
    | lk es => exact p1.elim
    | x c ds =>
      obtain ⟨b, C, d, rfl, eb, nb, xr⟩ := r1
      obtain ⟨vfs, ed, hv⟩ := xr.at_
      obtain ⟨IC, _⟩ := xi c C xr.cls
      have fw : Fwd ρ1 S1 H1 ρ1 S1 (upd H1 p (.tup [.ref Cx, .ref Cy])) := Fwd.laid so1 np
      have nb1 : b ≠ p := fun z => by rw [z] at eb; rw [np] at eb; cases eb
      have nd1 : d ≠ p := fun z => by rw [z] at ed; rw [np] at ed; cases ed
      refine ⟨b, C, d, vfs, .ref p, _, rfl, by rw [upd_ne nb1]; exact eb, by rw [upd_ne nd1]; exact ed, IC, .inr ⟨p, [Cx, Cy], rfl, SqT.of upd_same, kitAny_of xr.cls (hs := [hx, hy]) rfl fun i C' h' e1 e2 => ?_⟩, ?_⟩
      · match i, e1, e2 with
        | 0, e1, e2 => cases e1; cases e2; exact xi
        | 1, e1, e2 => cases e1; cases e2; exact yi
      · exact p1 _ ρ1 _ fw (Sok.laid so1 np) (.bl _)
end
end Fro

/-! Fro: repr of any data, of a dict; tuples of integers in order -/
namespace Fro
open PySem PySem.Spec L2 PyProof.Rows

/-! ### flat data: no list within -/
mutual
def noL : D → Bool
  | .tup ds => noLL ds
  | .lst _ => false
  | .dct _ => false
  | .ty _ => false
  | .non => true
  | .bl _ => true
  | .int _ => true
  | .str _ => true
def noLL : List D → Bool
  | [] => true
  | d :: ds => noL d && noLL ds
end
section
variable {X : Cx} {pins : List (Addr × Obj)} {σ : L2.St} {H : Hp} {s : Shared} {M : Addr → Prop}
mutual
theorem readsF_of (I : Inv X pins σ H s) : ∀ (d : D) (p : PyData) (v : V) (u : Value), Rp X.K H M d v → RelV v u → toPy d = some p → noL d = true → Reads s.heap u p []
  | .non, _, _, _, r, rv, h, _ => by cases r; cases h; cases rv; exact .none
  | .bl b, _, _, _, r, rv, h, _ => by cases r; cases h; cases rv; exact .bool b
  | .int i, _, _, _, r, rv, h, _ => by cases r; cases h; obtain ⟨t, rfl⟩ := rv; exact .int i t
  | .str x, _, _, _, r, rv, h, _ => by cases r; cases h; obtain ⟨t, rfl⟩ := rv; exact .str _ t
  | .tup ds, _, _, _, r, rv, h, fl => by
    cases r with
    | tup hT rl =>
      cases q : toPyL ds with
      | none => rw [toPy, q] at h; cases h
      | some ps =>
        rw [toPy, q] at h
        cases h
        cases rv
        obtain ⟨its, vv, ⟨o, e, hc, n, hd⟩, _⟩ := I.tuple hT
        have ra := readsFL_of I ds ps _ _ rl vv q (by simpa [noL] using fl)
        exact .tuple e hc hd (by simpa using ra)
  | .lst _, _, _, _, _, _, _, fl => by simp [noL] at fl
  | .dct _, _, _, _, _, _, _, fl => by simp [noL] at fl
  | .ty _, _, _, _, _, _, _, fl => by simp [noL] at fl
theorem readsFL_of (I : Inv X pins σ H s) : ∀ (ds : List D) (ps : List PyData) (vs : List V) (us : List Value), RpL X.K H M ds vs → Vals vs us → toPyL ds = some ps → noLL ds = true → ReadsAll s.heap us ps []
  | [], _, _, _, r, rv, h, _ => by cases r; cases h; cases rv; exact .nil
  | d :: ds, _, _, _, r, rv, h, fl => by
    have fl' : noL d = true ∧ noLL ds = true := by simpa [noLL] using fl
    cases r with
    | cons a b =>
      cases rv with
      | cons ra rb =>
        unfold toPyL at h
        cases q1 : toPy d with
        | none => rw [q1] at h; cases h
        | some p =>
          cases q2 : toPyL ds with
          | none => rw [q1, q2] at h; cases h
          | some ps =>
            rw [q1, q2] at h
            cases h
            have z1 := readsF_of I d p _ _ a ra q1 fl'.1
            have z2 := readsFL_of I ds ps _ _ b rb q2 fl'.2
            exact .cons (as := []) (bs := []) z1 z2
end
/-! ### dicts of flat data -/
def toPyE : List (Tx × D) → Option (List (PyData × PyData))
  | [] => some []
  | (t, d) :: es => if noL d then (match toPy d, toPyE es with
    | some p, some ps => some ((.str (sx t), p) :: ps)
    | _, _ => none) else none
theorem readsE_of (I : Inv X pins σ H s) : ∀ {es : List (Tx × D)} {ps : List (PyData × PyData)} {kvs : List (Key × V)} {vs : List (Key × Value)} {ds : List DictEntry}, RpE X.K H M es kvs → KV kvs vs → Pairs (mixKind X.prog X.w) ds vs → toPyE es = some ps →
    ReadsAll s.heap (ds.map (·.key)) (ps.map (·.1)) [] ∧ ReadsAll s.heap (ds.map (·.val)) (ps.map (·.2)) []
  | [], _, _, _, _, r, kv, pr, h => by
    cases r; cases h; cases kv; cases pr
    exact ⟨.nil, .nil⟩
  | (t, d) :: es, _, _, _, _, r, kv, pr, h => by
    cases r with
    | cons a b =>
      cases kv with
      | cons k1 k2 =>
        cases pr with
        | cons p1 p2 p3 =>
          unfold toPyE at h
          split at h
          · rename_i fl
            cases q1 : toPy d with
            | none => rw [q1] at h; cases h
            | some p =>
              cases q2 : toPyE es with
              | none => rw [q1, q2] at h; cases h
              | some ps =>
                rw [q1, q2] at h
                cases h
                obtain ⟨r1, r2⟩ := readsE_of I b k2 p3 q2
                obtain ⟨e1, e2⟩ := k1
                have key := keyIs_shape p1
                rw [← e1] at key
                rcases key with ⟨i, u, z, _⟩ | ⟨x, u, z, zz⟩
                · cases z
                · cases z
                  refine ⟨?_, ?_⟩
                  · simp only [List.map_cons]
                    rw [zz]
                    exact .cons (as := []) (bs := []) (.str _ u) r1
                  · simp only [List.map_cons]
                    rw [p2]
                    exact .cons (as := []) (bs := []) (readsF_of I d p _ _ a e2 q1 fl) r2
          · cases h
end
/-! ### repr -/
def toPyA : D → Option PyData
  | .dct es => (toPyE es).map .dict
  | d => toPy d
def gReprA : List D → Option D
  | [d] => match toPyA d with
    | some p => if p.showable = true ∧ p.depth ≤ 100 ∧ p.shown.length ≤ 1000000 then some (.str (txOf p.shown)) else none
    | none => none
  | _ => none
def rReprA (K : PySem.W.Frag) : List V → Hp → VK → Prop := fun xs H Q => ∃ (d : D) (p : PyData) (v : V) (M : Addr → Prop), xs = [v] ∧ Rp K H M d v ∧ toPyA d = some p ∧ p.showable = true ∧ p.depth ≤ 100 ∧ p.shown.length ≤ 1000000 ∧ Q (.str p.shown) H
theorem cr_reprA {X : Cx} {k : Nat} (hr : Room k X.A) : CallR X (.builtin "repr") (rReprA X.K) := by
  intro pins s σ H xs us Q I r h
  obtain ⟨d, p, v, M, rfl, rp, e, h1, h2, h3, q⟩ := h
  obtain ⟨u, rfl, ru⟩ := vals1 r
  have un := hr.un
  have hz : p.shown.length ≤ sizeLine := Nat.le_trans h3 (by rw [sizeLine_eq]; decide)
  cases d with
  | non =>
    cases rp; cases e; cases ru
    exact PySem.P.repr_of_none ⟨.str "None", H, I.tok _, ⟨_, rfl⟩, q⟩
  | bl b =>
    cases rp; cases e; cases ru
    exact PySem.P.repr_of_bool ⟨.str (if b then "True" else "False"), H, I.tok _, ⟨_, rfl⟩, q⟩
  | int i =>
    cases rp; cases e; obtain ⟨t, rfl⟩ := ru
    exact PySem.P.repr_of_int (of_decide_eq_true h1) ⟨.str (toString i), H, I.tok _, ⟨_, rfl⟩, q⟩
  | str t =>
    cases rp; cases e; obtain ⟨t, rfl⟩ := ru
    exact PySem.P.repr_of_str ⟨.str _, H, I.tok _, ⟨_, rfl⟩, q⟩ hz
  | ty n => cases e
  | tup ds =>
    obtain ⟨as, rd⟩ := reads_of I (.tup ds) p _ _ rp ru e
    cases rp
    cases ru
    exact repr_of_reads' rd h1 (PyData.noDict_hsm (toPy_plain (.tup ds) p e)) hr.g (by omega) (fun _ _ z => z) (fun h' u tk hk => ⟨.str p.shown, H, I.kept hk, ⟨u, rfl⟩, q⟩) hz
  | lst ds =>
    obtain ⟨as, rd⟩ := reads_of I (.lst ds) p _ _ rp ru e
    cases rp
    cases ru
    exact repr_of_reads' rd h1 (PyData.noDict_hsm (toPy_plain (.lst ds) p e)) hr.g (by omega) (fun _ _ z => z) (fun h' u tk hk => ⟨.str p.shown, H, I.kept hk, ⟨u, rfl⟩, q⟩) hz
  | dct es =>
    cases rp with
    | dct hd _ re =>
      cases ru
      cases qe : toPyE es with
      | none => rw [toPyA, qe] at e; cases e
      | some ps =>
        rw [toPyA, qe] at e
        cases e
        obtain ⟨_, lo, vs, kv, o, en, ep, h4, h5, h6, _, h7, _⟩ := dk_rd I.hok hd
        obtain ⟨r1, r2⟩ := readsE_of I re kv h7 qe
        have rd := Reads.dict h4 h5.1 h6 r1 r2
        refine repr_of_reads' rd h1 (fun _ z => ?_) hr.g (by omega) (fun _ _ z => z) (fun h' u tk hk => ⟨.str _, H, I.kept hk, ⟨u, rfl⟩, q⟩) hz
        simp only [List.append_nil, List.mem_singleton] at z
        rw [← z] at lo
        simp at lo
theorem gn_reprA {K : PySem.W.Frag} : GN K (rReprA K) gReprA := fun ρ S H ds z xs Q so rx q n => by
  unfold gReprA at q
  split at q
  · rename_i d
    obtain ⟨v, rfl, r⟩ := rql1 rx
    split at q
    · rename_i p e
      split at q
      · rename_i hc
        obtain ⟨c2, c3, c4⟩ := hc
        cases q
        have fin : ∀ (v : V) (M : Addr → Prop), Rp K H M d v → rReprA K [v] H Q := fun v M rp => ⟨d, p, v, M, rfl, rp, e, c2, c3, c4, by
          have := nxt_here so (.str (txOf p.shown)) n
          rw [sx_txOf] at this
          exact this⟩
        cases r with
        | of rp => exact fin _ _ rp
        | lst h1 h2 => exact fin _ (fun _ => False) (.lst h1 (fun z => z) (h2.weak fun _ z => z.elim))
        | dct h1 h2 => exact fin _ (fun _ => False) (.dct h1 (fun z => z) (h2.weak fun _ z => z.elim))
      · cases q
    · cases q
  · cases q
/-! ### tuples of integers in order -/
def intsD : List D → Option (List Int)
  | [] => some []
  | .int i :: ds => (intsD ds).map (i :: ·)
  | _ => none
def lexI (ns ms : List Int) : Bool := Ob.lexAt (fun j => decide (ns.getD j 0 = ms.getD j 0)) (fun j => decide (ns.getD j 0 ≤ ms.getD j 0)) (decide (ns.length ≤ ms.length)) 0 (min ns.length ms.length)
def gLeT : D → D → Option D := fun d e => match d, e with
  | .tup ds, .tup es => match intsD ds, intsD es with
    | some ns, some ms => some (.bl (lexI ns ms))
    | _, _ => none
  | _, _ => none
theorem intsD_rp {K : PySem.W.Frag} {H : Hp} {M : Addr → Prop} : ∀ {ds : List D} {ns : List Int} {xs : List V}, intsD ds = some ns → RpL K H M ds xs → xs = ns.map V.int
  | [], _, _, h, r => by cases h; cases r; rfl
  | d :: ds, ns, _, h, r => by
    cases r with
    | cons a b =>
      cases d with
      | int i =>
        cases a
        unfold intsD at h
        cases q : intsD ds with
        | none => rw [q] at h; cases h
        | some ms =>
          rw [q] at h
          cases h
          rw [intsD_rp q b]
          rfl
      | _ => cases h
theorem g2_leT {K : PySem.W.Frag} : G2 K (rLeT K) gLeT := fun ρ S H d e z x y Q so rx ry q n => by
  unfold gLeT at q
  split at q
  · rename_i ds es
    split at q
    · rename_i ns ms e1 e2
      cases q
      obtain ⟨a, xs, rfl, ha, ra⟩ := rx.tup
      obtain ⟨b, ys, rfl, hb, rb⟩ := ry.tup
      rw [intsD_rp e1 ra] at ha
      rw [intsD_rp e2 rb] at hb
      exact ⟨a, b, ns, ms, rfl, rfl, ha, hb, nxt_here so (.bl _) n⟩
    · cases q
  · cases q
end Fro

/-! Fro: == of two texts -/
namespace Fro
open PySem PySem.Spec L2 PyProof.Rows
def gEqS : D → D → Option D := fun d e => match d, e with
  | .str t, .str u => some (.bl (decide (t = u)))
  | _, _ => none
theorem g2_eqS {K : PySem.W.Frag} : G2 K rEq gEqS := fun ρ S H d e z x y Q so rx ry q n => by
  unfold gEqS at q
  split at q
  · rename_i t u
    cases q
    rw [rx.str, ry.str]
    refine ⟨rfl, ?_⟩
    have e : decide (V.str (sx t) = V.str (sx u)) = decide (t = u) := by
      rw [decide_eq_decide]
      constructor
      · intro h
        have h1 : sx t = sx u := by injection h
        unfold sx at h1
        have h2 : t.toArray = u.toArray := by injection h1
        simpa using h2
      · intro h; rw [h]
    rw [e]
    exact nxt_here so (.bl _) n
  · cases q
end Fro

/-! Fro: list(zip(a, b)) over iterators of any kind, at the library's level. -/
namespace FroZ
open PySem PySem.Calls PyProof.Rows PySem.Spec
section
variable {prog : Program} {w : World} {A : Around} {E : Value → Shared → Prop} {s : Shared} {z TI TO T i1 i2 : Addr} {f : Bool} {oT : Obj} {fp1 fp2 : List Addr} {n1 n2 i : Nat} {P1 P2 : Nat → Value → Prop} {St1 St2 : Nat → Heap → Prop}

theorem item_held {Q : Value → Shared → Prop} (S : ZipSep2 z TI TO i1 i2 fp1 fp2) (D1 : Draws prog w A i1 fp1 n1 P1 St1) (D2 : Draws prog w A i2 fp2 n2 P2 St2)
    (hz : IsZipHeld s.heap z TI TO T f) (hT : s.heap.get? T = some oT) (hTI : IsTupOf2 s.heap TI (.ref i1) (.ref i2)) (st1 : St1 i s.heap) (st2 : St2 i s.heap) (hlt1 : i < n1) (hlt2 : i < n2)
    (hQ : ∀ x1 x2 h' tk, P1 i x1 → P2 i x2 → IsZipHeld h' z TI TO T true → St1 (i + 1) h' → St2 (i + 1) h' → IsTupOf2 h' s.heap.objs.size x1 x2 → h'.objs.size = s.heap.objs.size + 1 →
      (∀ c o, c ≠ z → c ≠ i1 → c ≠ i2 → s.heap.get? c = some o → h'.get? c = some o) → Q (.ref s.heap.objs.size) { s with heap := h', toks := tk }) :
    wpAny (model prog w) A (Builtin.«zip.__next__» ⟨[.ref z], []⟩) (fun fin s' => ∃ v, fin = .done (.ret v) ∧ Q v s') E s := by
  obtain ⟨hp, g, d, tk0, os⟩ := s
  show wpAny _ _ (field (.ref z) 2 >>= _) _ _ _
  refine wpAny_bind (wpAny_field hz rfl (x := .bool false) rfl ?_)
  show wpAny _ _ (field (.ref z) 3 >>= _) _ _ _
  refine wpAny_bind (wpAny_field hz rfl (x := .ref TI) rfl ?_)
  refine wpAny_bind (wpAny_seqItems hTI rfl ?_)
  show wpAny _ _ (Builtin.SmallTypes.ownedTupleIsFree (.ref z) >>= _) _ _ _
  refine wpAny_bind (wpAny_tupleHeld_zip hz hT fun g0 hz0 hs0 => ?_)
  replace hs0 : Heap.SameBut z hp g0 := hs0
  simp only [Bool.false_eq_true, if_false]
  refine wpAny_bind ?_
  rw [← Array.forIn_toList]
  simp only [List.forIn_cons, List.forIn_nil]
  refine wpAny_bind (wpAny_bind (wpAny_holding ?_))
  show wpAny _ _ (Builtin.SmallTypes.nextOf (.ref i1) >>= _) _ _ ⟨g0, g, d, tk0, os⟩
  refine wpAny_bind (D1.item i _ _ _ hlt1 (D1.over st1 hs0 S.zf1) fun x1 p1 tk1 hx1 sn1 hp1 => wpAny_pure ?_)
  replace hp1 : Heap.SameBut i1 g0 p1 := hp1
  refine wpAny_pure ?_
  refine wpAny_bind (wpAny_bind (wpAny_holding ?_))
  show wpAny _ _ (Builtin.SmallTypes.nextOf (.ref i2) >>= _) _ _ ⟨p1, g, d, tk1, os⟩
  refine wpAny_bind (D2.item i _ _ _ hlt2 (D2.over (D2.over st2 hs0 S.zf2) hp1 S.sep1_2) fun x2 p2 tk2 hx2 sn2 hp2 => wpAny_pure ?_)
  replace hp2 : Heap.SameBut i2 p1 p2 := hp2
  refine wpAny_pure (wpAny_pure ?_)
  show wpAny _ _ (newTuple [x1, x2] >>= _) _ _ ⟨p2, g, d, tk2, os⟩
  refine wpAny_bind (wpAny_newTuple ?_)
  have hsz : p2.objs.size = hp.objs.size := by rw [hp2.1, hp1.1, hs0.1]
  have hz3 : IsZipHeld p2 z TI TO T true := hp2.extBut _ _ S.zi2 (hp1.extBut _ _ S.zi1 hz0)
  have hk : ∀ c o, c ≠ z → c ≠ i1 → c ≠ i2 → hp.get? c = some o → p2.get? c = some o := fun c o c1 c2 c3 e => hp2.extBut _ _ c3 (hp1.extBut _ _ c2 (hs0.extBut _ _ c1 e))
  have hj1 : St1 (i + 1) p2 := D1.over sn1 hp2 S.sep2_1
  refine wpAny_pure ⟨_, rfl, ?_⟩
  show Q (.ref p2.objs.size) ⟨p2.push { cls := .type "tuple", data := .seq #[x1, x2] }, g, d, tk2, os⟩
  have hpr : IsTupOf2 (p2.push { cls := .type "tuple", data := .seq #[x1, x2] }) p2.objs.size x1 x2 := Heap.get?_push_size _ rfl
  have hz4 : (p2.push { cls := .type "tuple", data := .seq #[x1, x2] }).objs.size = p2.objs.size + 1 := Heap.size_push ..
  rw [hsz] at hpr hz4 ⊢
  exact hQ x1 x2 _ tk2 hx1 hx2 (Heap.get?_push_of_some _ hz3) (D1.frame _ _ _ hj1 fun b _ o e => Heap.get?_push_of_some _ e) (D2.frame _ _ _ sn2 fun b _ o e => Heap.get?_push_of_some _ e) hpr hz4 fun c o c1 c2 c3 e => Heap.get?_push_of_some _ (hk c o c1 c2 c3 e)

theorem end_held {Q : Fin → Shared → Prop} (S : ZipSep2 z TI TO i1 i2 fp1 fp2) (D1 : Draws prog w A i1 fp1 n1 P1 St1) (D2 : Draws prog w A i2 fp2 n2 P2 St2)
    (hz : IsZipHeld s.heap z TI TO T f) (hT : s.heap.get? T = some oT) (hTI : IsTupOf2 s.heap TI (.ref i1) (.ref i2)) (st1 : St1 i s.heap) (st2 : St2 i s.heap) (hle1 : i ≤ n1) (hle2 : i ≤ n2) (hend : i = n1 ∨ i = n2)
    (hE : ∀ h' tk e, (∀ c o, c ≠ z → c ≠ i1 → c ≠ i2 → s.heap.get? c = some o → h'.get? c = some o) → (∃ o, h'.get? e = some o ∧ o.cls = .type "StopIteration") → E (.ref e) { s with heap := h', toks := tk }) :
    wpAny (model prog w) A (Builtin.«zip.__next__» ⟨[.ref z], []⟩) Q E s := by
  obtain ⟨hp, g, d, tk0, os⟩ := s
  show wpAny _ _ (field (.ref z) 2 >>= _) _ _ _
  refine wpAny_bind (wpAny_field hz rfl (x := .bool false) rfl ?_)
  show wpAny _ _ (field (.ref z) 3 >>= _) _ _ _
  refine wpAny_bind (wpAny_field hz rfl (x := .ref TI) rfl ?_)
  refine wpAny_bind (wpAny_seqItems hTI rfl ?_)
  show wpAny _ _ (Builtin.SmallTypes.ownedTupleIsFree (.ref z) >>= _) _ _ _
  refine wpAny_bind (wpAny_tupleHeld_zip hz hT fun g0 hz0 hs0 => ?_)
  replace hs0 : Heap.SameBut z hp g0 := hs0
  simp only [Bool.false_eq_true, if_false]
  refine wpAny_bind ?_
  rw [← Array.forIn_toList]
  simp only [List.forIn_cons, List.forIn_nil]
  refine wpAny_bind (wpAny_bind (wpAny_holding ?_))
  show wpAny _ _ (Builtin.SmallTypes.nextOf (.ref i1) >>= _) _ _ ⟨g0, g, d, tk0, os⟩
  by_cases hlt1 : i < n1
  · refine wpAny_bind (D1.item i _ _ _ hlt1 (D1.over st1 hs0 S.zf1) fun x1 p1 tk1 hx1 sn1 hp1 => wpAny_pure ?_)
    replace hp1 : Heap.SameBut i1 g0 p1 := hp1
    refine wpAny_pure ?_
    have hi2 : i = n2 := by omega
    refine wpAny_bind (wpAny_bind (wpAny_holding ?_))
    show wpAny _ _ (Builtin.SmallTypes.nextOf (.ref i2) >>= _) _ _ ⟨p1, g, d, tk1, os⟩
    refine wpAny_bind (D2.done ⟨p1, g, d, tk1, os⟩ _ _ (by rw [← hi2]; exact D2.over (D2.over st2 hs0 S.zf2) hp1 S.sep1_2) fun q e hq he => ?_)
    replace hq : Heap.ExtBut i2 p1 q := hq
    exact hE q tk1 e (fun c o cz c1 c2 x => hq _ _ c2 (hp1.extBut _ _ c1 (hs0.extBut _ _ cz x))) he
  · have hi1 : i = n1 := by omega
    refine wpAny_bind (D1.done ⟨g0, g, d, tk0, os⟩ _ _ (by rw [← hi1]; exact D1.over st1 hs0 S.zf1) fun q e hq he => ?_)
    replace hq : Heap.ExtBut i1 g0 q := hq
    exact hE q tk0 e (fun c o cz c1 c2 x => hq _ _ c1 (hs0.extBut _ _ cz x)) he
theorem next_held {Q : Option Value → Shared → Prop} (S : ZipSep2 z TI TO i1 i2 fp1 fp2) (D1 : Draws prog w A.in1 i1 fp1 n1 P1 St1) (D2 : Draws prog w A.in1 i2 fp2 n2 P2 St2)
    (hz : IsZipHeld s.heap z TI TO T f) (hT : s.heap.get? T = some oT) (hTI : IsTupOf2 s.heap TI (.ref i1) (.ref i2)) (st1 : St1 i s.heap) (st2 : St2 i s.heap) (hlt1 : i < n1) (hlt2 : i < n2)
    (hQ : ∀ x1 x2 h' tk, P1 i x1 → P2 i x2 → IsZipHeld h' z TI TO T true → St1 (i + 1) h' → St2 (i + 1) h' → IsTupOf2 h' s.heap.objs.size x1 x2 → h'.objs.size = s.heap.objs.size + 1 →
      (∀ c o, c ≠ z → c ≠ i1 → c ≠ i2 → s.heap.get? c = some o → h'.get? c = some o) → Q (some (.ref s.heap.objs.size)) { s with heap := h', toks := tk }) :
    wpAny (model prog w) A (pyNext (.ref z)) Q E s := by
  have hTy : s.TypeIs (.ref z) "zip" := ⟨_, hz, rfl⟩
  unfold pyNext
  exact wpAny_bind (wpAny_attempt (wpAny_callSpecial?_slot (name := Str.ofString "__next__") hTy F.slot_zip_next
    (wpAny_call_entry F.slot_zip_next hTy F.entry_zip_next
      (item_held S D1 D2 hz hT hTI st1 st2 hlt1 hlt2 fun x1 x2 h' tk y1 y2 b1 d1 d2 b5 b6 b7 => wpAny_pure (hQ x1 x2 h' tk y1 y2 b1 d1 d2 b5 b6 b7)) (F.args_zip_next_1 _))))
theorem done_held {Q : Option Value → Shared → Prop} (S : ZipSep2 z TI TO i1 i2 fp1 fp2) (D1 : Draws prog w A.in1 i1 fp1 n1 P1 St1) (D2 : Draws prog w A.in1 i2 fp2 n2 P2 St2)
    (hz : IsZipHeld s.heap z TI TO T f) (hT : s.heap.get? T = some oT) (hTI : IsTupOf2 s.heap TI (.ref i1) (.ref i2)) (st1 : St1 i s.heap) (st2 : St2 i s.heap) (hle1 : i ≤ n1) (hle2 : i ≤ n2) (hend : i = n1 ∨ i = n2)
    (hQ : ∀ h' tk, (∀ c o, c ≠ z → c ≠ i1 → c ≠ i2 → s.heap.get? c = some o → h'.get? c = some o) → Q none { s with heap := h', toks := tk }) : wpAny (model prog w) A (pyNext (.ref z)) Q E s := by
  have hTy : s.TypeIs (.ref z) "zip" := ⟨_, hz, rfl⟩
  unfold pyNext
  refine wpAny_bind (wpAny_attempt (wpAny_callSpecial?_slot (name := Str.ofString "__next__") hTy F.slot_zip_next
    (wpAny_call_entry F.slot_zip_next hTy F.entry_zip_next (end_held S D1 D2 hz hT hTI st1 st2 hle1 hle2 hend fun h' tk e hk he => ?_) (F.args_zip_next_1 _))))
  obtain ⟨o, ho, hc⟩ := he
  refine wpAny_bind (wpAny_isInstance (T := "StopIteration") (b := true) ⟨o, ho, hc⟩ isSubtype_stop ?_)
  exact wpAny_pure (hQ _ _ hk)
/-! ### the walk of list(zip) -/
/-- the zip's own cells; the tuple that was handed out lies above S -/
def ZSt (z TI TO i1 i2 S : Addr) (h : Heap) : Prop := IsTupOf2 h TI (.ref i1) (.ref i2) ∧ ((IsZip h z TI TO .none ∧ ∃ a1 a2, IsTupOf2 h TO a1 a2) ∨ ∃ T f oT, IsZipHeld h z TI TO T f ∧ h.get? T = some oT ∧ S < T)
theorem ZSt.keep {S : Addr} {h h' : Heap} (x : ZSt z TI TO i1 i2 S h) (hl : z < S ∧ TI < S ∧ TO < S) (hk : ∀ b o, b ≠ S → h.get? b = some o → h'.get? b = some o) : ZSt z TI TO i1 i2 S h' := by
  obtain ⟨h1, h2⟩ := x
  refine ⟨hk _ _ (Nat.ne_of_lt hl.2.1) h1, ?_⟩
  rcases h2 with ⟨a, b, c, d⟩ | ⟨T, f, oT, a, b, c⟩
  · exact .inl ⟨hk _ _ (Nat.ne_of_lt hl.1) a, b, c, hk _ _ (Nat.ne_of_lt hl.2.2) d⟩
  · exact .inr ⟨T, f, oT, hk _ _ (Nat.ne_of_lt hl.1) a, hk _ _ (Nat.ne_of_gt c) b, c⟩
structure ZG (P1 P2 : Nat → Value → Prop) (lo : Addr) (h : Heap) (as : List Addr) : Prop where
  rise : as.Pairwise (· < ·)
  above : ∀ a ∈ as, lo < a
  pairs : ∀ (j : Nat) (a : Addr), as[j]? = some a → ∃ x y, P1 j x ∧ P2 j y ∧ h.get? a = some { cls := .type "tuple", data := .seq #[x, y] }
theorem ZG.there {P1 P2 : Nat → Value → Prop} {lo : Addr} {h : Heap} {as : List Addr} (g : ZG P1 P2 lo h as) {a : Addr} (ha : a ∈ as) : a < h.objs.size := by
  obtain ⟨j, hj⟩ := List.mem_iff_getElem?.mp ha
  obtain ⟨_, _, _, _, e⟩ := g.pairs j a hj
  exact Heap.lt_size e
theorem z_item {Sa : Addr} {Q : Option Value → Shared → Prop} (S : ZipSep2 z TI TO i1 i2 fp1 fp2) (D1 : Draws prog w A.in1 i1 fp1 n1 P1 St1) (D2 : Draws prog w A.in1 i2 fp2 n2 P2 St2) (hst : ZSt z TI TO i1 i2 Sa s.heap) (hS : Sa < s.heap.objs.size) (hl : z < Sa ∧ TI < Sa ∧ TO < Sa ∧ i1 < Sa ∧ i2 < Sa)
    (st1 : St1 i s.heap) (st2 : St2 i s.heap) (hlt1 : i < n1) (hlt2 : i < n2)
    (hQ : ∀ x1 x2 h' tk, P1 i x1 → P2 i x2 → ZSt z TI TO i1 i2 Sa h' → St1 (i + 1) h' → St2 (i + 1) h' → h'.get? s.heap.objs.size = some { cls := .type "tuple", data := .seq #[x1, x2] } → h'.objs.size = s.heap.objs.size + 1 →
      (∀ c o, c ≠ z → c ≠ TO → c ≠ i1 → c ≠ i2 → s.heap.get? c = some o → h'.get? c = some o) → Q (some (.ref s.heap.objs.size)) { s with heap := h', toks := tk }) :
    wpAny (model prog w) A (pyNext (.ref z)) Q E s := by
  obtain ⟨hTI, h2⟩ := hst
  rcases h2 with ⟨hz, a1, a2, hTO⟩ | ⟨T, f, oT, hz, hT, hTS⟩
  · exact wpAny_pyNext_zipD2_item S D1 D2 hz hTI hTO st1 st2 hlt1 hlt2 fun x1 x2 h' tk y1 y2 b1 b2 d1 d2 b5 b6 b7 => hQ x1 x2 h' tk y1 y2 ⟨b7 _ _ S.TIz S.TITO S.TIi1 S.TIi2 hTI, .inr ⟨_, false, _, b1, b5, hS⟩⟩ d1 d2 b5 b6 b7
  · refine next_held S D1 D2 hz hT hTI st1 st2 hlt1 hlt2 fun x1 x2 h' tk y1 y2 b1 d1 d2 b5 b6 b7 => hQ x1 x2 h' tk y1 y2 ⟨b7 _ _ S.TIz S.TIi1 S.TIi2 hTI, .inr ⟨T, true, oT, b1, b7 _ _ ?_ ?_ ?_ hT, hTS⟩⟩ d1 d2 b5 b6 fun c o c1 _ c3 c4 e => b7 c o c1 c3 c4 e
    · exact Nat.ne_of_gt (Nat.lt_trans hl.1 hTS)
    · exact Nat.ne_of_gt (Nat.lt_trans hl.2.2.2.1 hTS)
    · exact Nat.ne_of_gt (Nat.lt_trans hl.2.2.2.2 hTS)
theorem z_done {Sa : Addr} {Q : Option Value → Shared → Prop} (S : ZipSep2 z TI TO i1 i2 fp1 fp2) (D1 : Draws prog w A.in1 i1 fp1 n1 P1 St1) (D2 : Draws prog w A.in1 i2 fp2 n2 P2 St2) (hst : ZSt z TI TO i1 i2 Sa s.heap)
    (st1 : St1 i s.heap) (st2 : St2 i s.heap) (hle1 : i ≤ n1) (hle2 : i ≤ n2) (hend : i = n1 ∨ i = n2)
    (hQ : ∀ h' tk, (∀ c o, c ≠ z → c ≠ TO → c ≠ i1 → c ≠ i2 → s.heap.get? c = some o → h'.get? c = some o) → Q none { s with heap := h', toks := tk }) : wpAny (model prog w) A (pyNext (.ref z)) Q E s := by
  obtain ⟨hTI, h2⟩ := hst
  rcases h2 with ⟨hz, a1, a2, hTO⟩ | ⟨T, f, oT, hz, hT, hTS⟩
  · exact wpAny_pyNext_zipD2_end S D1 D2 hz hTI hTO st1 st2 hle1 hle2 hend hQ
  · exact done_held S D1 D2 hz hT hTI st1 st2 hle1 hle2 hend fun h' tk hk => hQ h' tk fun c o c1 _ c3 c4 e => hk c o c1 c3 c4 e
end
end FroZ

namespace FroZ
open PySem PySem.Calls PyProof.Rows PySem.Spec
section
variable {prog : Program} {w : World} {A : Around} {s : Shared} {R : Result → Shared → Prop} {z TI TO i1 i2 : Addr} {fp1 fp2 : List Addr} {n1 n2 : Nat} {P1 P2 : Nat → Value → Prop} {St1 St2 : Nat → Heap → Prop}
theorem z_loop {Sa : Addr} (S : ZipSep2 z TI TO i1 i2 fp1 fp2) (D1 : Draws prog w A.in1.in1 i1 fp1 n1 P1 St1) (D2 : Draws prog w A.in1.in1 i2 fp2 n2 P2 St2) (hl : z < Sa ∧ TI < Sa ∧ TO < Sa ∧ i1 < Sa ∧ i2 < Sa) (hf1 : ∀ b ∈ fp1, b < Sa) (hf2 : ∀ b ∈ fp2, b < Sa) (hn : min n1 n2 ≤ sizeLine) (res : Value) {h₁ : Heap}
    (hR : ∀ h' tk acc c as, (∀ b o, b ≠ Sa → b ≠ z → b ≠ TO → b ≠ i1 → b ≠ i2 → h₁.get? b = some o → h'.get? b = some o) → h'.get? Sa = some { cls := .type "list", dict := none, data := .seq acc c, slots := #[] } → as.length = min n1 n2 → ZG P1 P2 Sa h' as →
      acc.toList = as.map Value.ref → R (.ok (.ret res)) { s with heap := h', toks := tk }) :
    ∀ (k i : Nat) (h : Heap) (tk c : Nat) (acc : Array Value) (as : List Addr), min n1 n2 - i = k → i ≤ min n1 n2 → ZSt z TI TO i1 i2 Sa h → St1 i h → St2 i h → (∀ b o, b ≠ Sa → b ≠ z → b ≠ TO → b ≠ i1 → b ≠ i2 → h₁.get? b = some o → h.get? b = some o) →
      h.get? Sa = some { cls := .type "list", dict := none, data := .seq acc c, slots := #[] } → acc.toList = as.map Value.ref → as.length = i → ZG P1 P2 Sa h as →
      codeAny (model prog w) A (.builtin "list.extend.loop" ⟨[.ref Sa, .ref z, res], []⟩) R { s with heap := h, toks := tk } := by
  have nz : Sa ≠ z := Nat.ne_of_gt hl.1
  have nT : Sa ≠ TO := Nat.ne_of_gt hl.2.2.1
  have n1' : Sa ≠ i1 := Nat.ne_of_gt hl.2.2.2.1
  have n2' : Sa ≠ i2 := Nat.ne_of_gt hl.2.2.2.2
  have far : ∀ {b : Addr}, Sa < b → b ≠ z ∧ b ≠ TO ∧ b ≠ i1 ∧ b ≠ i2 := fun {b} hb => ⟨Nat.ne_of_gt (Nat.lt_trans hl.1 hb), Nat.ne_of_gt (Nat.lt_trans hl.2.2.1 hb), Nat.ne_of_gt (Nat.lt_trans hl.2.2.2.1 hb), Nat.ne_of_gt (Nat.lt_trans hl.2.2.2.2 hb)⟩
  intro k
  induction k with
  | zero =>
    intro i h tk c acc as hk hi hst st1 st2 hkeep hS hacc hal hG
    refine codeAny_builtin PySem.F.entry_extend_loop ?_
    rw [Around.under_plainId PySem.F.plain_extend_loop _]
    show wpAny _ A.in1 (pyNext (.ref z) >>= _) _ _ _
    refine wpAny_bind (z_done (s := { s with heap := h, toks := tk }) (A := A.in1) (i := i) S D1 D2 hst st1 st2 (by omega) (by omega) (by omega) fun h' tk' he => ?_)
    refine wpAny_pure (hR h' tk' acc c as (fun b o h1 h2 h3 h4 h5 e => he b o h2 h3 h4 h5 (hkeep b o h1 h2 h3 h4 h5 e)) (he Sa _ nz nT n1' n2' hS) (by omega) ⟨hG.rise, hG.above, fun j a hj => ?_⟩ hacc)
    obtain ⟨x, y, hx, hy, e3⟩ := hG.pairs j a hj
    obtain ⟨f1, f2, f3, f4⟩ := far (hG.above a (List.mem_of_getElem? hj))
    exact ⟨x, y, hx, hy, he a _ f1 f2 f3 f4 e3⟩
  | succ k ih =>
    intro i h tk c acc as hk hi hst st1 st2 hkeep hS hacc hal hG
    have hsz : acc.size = i := by rw [← Array.length_toList, hacc, List.length_map, hal]
    refine codeAny_builtin PySem.F.entry_extend_loop ?_
    rw [Around.under_plainId PySem.F.plain_extend_loop _]
    show wpAny _ A.in1 (pyNext (.ref z) >>= _) _ _ _
    refine wpAny_bind (z_item (s := { s with heap := h, toks := tk }) (A := A.in1) (i := i) (Sa := Sa) S D1 D2 hst (Heap.lt_size hS) hl st1 st2 (by omega) (by omega) fun x1 x2 h' tk' hx1 hx2 hst' sn1 sn2 ht hz hkp => ?_)
    dsimp only at ht hz hkp ⊢
    have hS' := hkp Sa _ nz nT n1' n2' hS
    have up : ∀ b o, b ≠ Sa → h'.get? b = some o → (h'.update Sa (Obj.mapSeq (·.push (Value.ref h.objs.size)))).get? b = some o := fun b o hb e => (Heap.get?_update_other _ _ (Ne.symm hb)).trans e
    have hSl : Sa < h.objs.size := Heap.lt_size hS
    show wpAny _ A.in1 (updateSeq Sa (·.push (Value.ref h.objs.size)) >>= _) _ _ _
    refine wpAny_bind ?_
    refine wpAny_updateSeq hS' rfl (wpAny_pure ⟨plainId_quiet PySem.F.plain_extend_loop _, ih (i + 1) _ tk' _ (acc.push (Value.ref h.objs.size)) (as ++ [h.objs.size]) (by omega) (by omega) (hst'.keep ⟨hl.1, hl.2.1, hl.2.2.1⟩ up)
      (D1.frame _ _ _ sn1 fun b hb o e => up b o (Nat.ne_of_lt (hf1 b hb)) e) (D2.frame _ _ _ sn2 fun b hb o e => up b o (Nat.ne_of_lt (hf2 b hb)) e)
      (fun b o h1 h2 h3 h4 h5 e => up b o h1 (hkp b o h2 h3 h4 h5 (hkeep b o h1 h2 h3 h4 h5 e))) (Heap.get?_update_self _ hS' rfl) (by rw [Array.toList_push, hacc, List.map_append]; rfl) (by rw [List.length_append, hal]; rfl) ⟨?_, ?_, ?_⟩⟩) (by rw [hsz]; omega) (by show (acc.push (Value.ref h.objs.size)).size ≤ sizeLine + 1; rw [Array.size_push, hsz]; omega)
    · refine List.pairwise_append.mpr ⟨hG.rise, List.pairwise_singleton _ _, fun a ha b hb => ?_⟩
      rw [List.mem_singleton.mp hb]
      exact hG.there ha
    · intro a ha
      rcases List.mem_append.mp ha with ha | ha
      · exact hG.above a ha
      · rw [List.mem_singleton.mp ha]; exact hSl
    · intro j b hj
      rcases Nat.lt_trichotomy j as.length with h1 | h1 | h1
      · rw [List.getElem?_append_left h1] at hj
        obtain ⟨x, y, hx, hy, e3⟩ := hG.pairs j b hj
        have hb := hG.above b (List.mem_of_getElem? hj)
        obtain ⟨f1, f2, f3, f4⟩ := far hb
        exact ⟨x, y, hx, hy, up b _ (Nat.ne_of_gt hb) (hkp b _ f1 f2 f3 f4 e3)⟩
      · subst h1
        have hb : h.objs.size = b := by simpa using hj
        subst hb
        exact ⟨x1, x2, by rw [hal]; exact hx1, by rw [hal]; exact hx2, up _ _ (Nat.ne_of_gt hSl) ht⟩
      · have hnone : (as ++ [h.objs.size])[j]? = none := List.getElem?_eq_none (by rw [List.length_append, List.length_singleton]; omega)
        rw [hnone] at hj; cases hj
end
theorem zip_no_len : typeLookup (.type "zip") "__len__" = pure none := am_miss_of_fast (by decide +kernel)
theorem zip_no_hint : typeLookup (.type "zip") "__length_hint__" = pure none := am_miss_of_fast (by decide +kernel)
section
variable {prog : Program} {w : World} {A : Around} {E : Value → Shared → Prop} {s : Shared} {z TI TO i1 i2 : Addr} {fp1 fp2 : List Addr} {n1 n2 : Nat} {P1 P2 : Nat → Value → Prop} {St1 St2 : Nat → Heap → Prop}
theorem z_hint (hT : s.TypeIs (.ref z) "zip") {Q : Bool → Shared → Prop} (h : Q true s) : wpAny (model prog w) A (Builtin.List.listLengthHint (.ref z)) Q E s := by
  unfold Builtin.List.listLengthHint
  refine wpAny_bind (wpAny_specialOf hT zip_no_len ?_)
  simp only []
  refine wpAny_ite_split (fun hab => absurd hab (by decide +kernel)) (fun _ => ?_)
  refine wpAny_ite_split (fun hab => absurd hab (by decide)) (fun _ => ?_)
  refine wpAny_bind (wpAny_specialOf hT zip_no_hint ?_)
  exact wpAny_pure h
theorem z_extend {Sa : Addr} {R : Result → Shared → Prop} (S : ZipSep2 z TI TO i1 i2 fp1 fp2) (D1 : Draws prog w A.in1.in1 i1 fp1 n1 P1 St1) (D2 : Draws prog w A.in1.in1 i2 fp2 n2 P2 St2) (hl : z < Sa ∧ TI < Sa ∧ TO < Sa ∧ i1 < Sa ∧ i2 < Sa) (hf1 : ∀ b ∈ fp1, b < Sa) (hf2 : ∀ b ∈ fp2, b < Sa) (hn : min n1 n2 ≤ sizeLine) (res : Value) (c₀ : Nat)
    (hTI : IsTupOf2 s.heap TI (.ref i1) (.ref i2)) (hz : IsZip s.heap z TI TO .none) (hTO : ∃ a1 a2, IsTupOf2 s.heap TO a1 a2) (st1 : St1 0 s.heap) (st2 : St2 0 s.heap) (hS : s.heap.get? Sa = some { cls := .type "list", data := .seq #[] c₀ })
    (hR : ∀ h' tk acc c as, (∀ b o, b ≠ Sa → b ≠ z → b ≠ TO → b ≠ i1 → b ≠ i2 → s.heap.get? b = some o → h'.get? b = some o) → h'.get? Sa = some { cls := .type "list", dict := none, data := .seq acc c, slots := #[] } → as.length = min n1 n2 → ZG P1 P2 Sa h' as →
      acc.toList = as.map Value.ref → R (.ok (.ret res)) { s with heap := h', toks := tk }) :
    wpAny (model prog w) A.in1 (Builtin.List.listExtendWith (.ref Sa) (.ref z) res)
      (fun fin s' => match fin with | .done f => R (.ok f) s' | .again c' => c'.quiet = true ∧ codeAny (model prog w) A c' R s') (fun e s' => R (.error e) s') s := by
  have key : ∀ (h : Heap) (c₁ tk : Nat), (∀ b o, b ≠ Sa → s.heap.get? b = some o → h.get? b = some o) →
      h.get? Sa = some { cls := .type "list", data := .seq #[] c₁ } → codeAny (model prog w) A (.builtin "list.extend.loop" ⟨[.ref Sa, .ref z, res], []⟩) R { s with heap := h, toks := tk } := by
    intro h c₁ tk hk hS₁
    refine z_loop (s := s) (h₁ := s.heap) S D1 D2 hl hf1 hf2 hn res hR (min n1 n2) 0 h tk c₁ #[] [] (Nat.sub_zero _) (Nat.zero_le _) (ZSt.keep ⟨hTI, .inl ⟨hz, hTO⟩⟩ ⟨hl.1, hl.2.1, hl.2.2.1⟩ hk)
      (D1.frame _ _ _ st1 fun b hb o e => hk b o (Nat.ne_of_lt (hf1 b hb)) e) (D2.frame _ _ _ st2 fun b hb o e => hk b o (Nat.ne_of_lt (hf2 b hb)) e) (fun b o hb _ _ _ _ e => hk b o hb e) hS₁ rfl rfl
      ⟨List.Pairwise.nil, (fun _ ha => nomatch ha), (fun j a hj => by simp at hj)⟩
  have hTy : s.TypeIs (.ref z) "zip" := ⟨_, hz, rfl⟩
  unfold Builtin.List.listExtendWith
  refine wpAny_bind (wpAny_typeOf (T := "zip") hTy ?_)
  have h1 : Builtin.List.listSameRef (.ref Sa) (.ref z) = false := by simp [Builtin.List.listSameRef, Nat.ne_of_gt hl.1]
  have h2 : (Value.type "zip" == Value.type "list") = false := by decide
  have h3 : (Value.type "zip" == Value.type "tuple") = false := by decide
  simp only [h1, h2, h3, Bool.or_false, Bool.false_eq_true, if_false]
  refine wpAny_bind (wpAny_pyIter_zip hz ?_)
  refine wpAny_bind (wpAny_holding (z_hint hTy ?_))
  refine wpAny_ite_split (fun _ => ?_) (fun _ => wpAny_pure ⟨plainId_quiet PySem.F.plain_extend_loop _, key _ c₀ _ (fun b o _ e => e) hS⟩)
  refine wpAny_bind (wpAny_rule ?_)
  refine wpAny_bind ?_
  show wpAny _ _ (updateSeq Sa (·.push .none) >>= fun _ => updateSeq Sa (·.pop)) _ _ _
  refine wpAny_bind (wpAny_updateSeq hS rfl ?_)
  have hS₂ := Heap.get?_update_self (Obj.mapSeq (·.push Value.none)) hS rfl
  refine wpAny_updateSeq (hz := by seq_fits) hS₂ rfl ?_
  have hS₃ := Heap.get?_update_self (Obj.mapSeq (·.pop)) hS₂ rfl
  refine wpAny_pure ⟨plainId_quiet PySem.F.plain_extend_loop _, key _ _ _ (fun b o hb e => ?_) hS₃⟩
  exact (Heap.get?_update_other _ _ (Ne.symm hb)).trans ((Heap.get?_update_other _ _ (Ne.symm hb)).trans e)
theorem z_init {Sa : Addr} {R : Result → Shared → Prop} (S : ZipSep2 z TI TO i1 i2 fp1 fp2) (D1 : Draws prog w A.in1.in1 i1 fp1 n1 P1 St1) (D2 : Draws prog w A.in1.in1 i2 fp2 n2 P2 St2) (hl : z < Sa ∧ TI < Sa ∧ TO < Sa ∧ i1 < Sa ∧ i2 < Sa) (hf1 : ∀ b ∈ fp1, b < Sa) (hf2 : ∀ b ∈ fp2, b < Sa) (hn : min n1 n2 ≤ sizeLine)
    (hTI : IsTupOf2 s.heap TI (.ref i1) (.ref i2)) (hz : IsZip s.heap z TI TO .none) (hTO : ∃ a1 a2, IsTupOf2 s.heap TO a1 a2) (st1 : St1 0 s.heap) (st2 : St2 0 s.heap) (hS : s.heap.get? Sa = some { cls := .type "list", data := .seq #[] })
    (hR : ∀ h' tk acc c as, (∀ b o, b ≠ Sa → b ≠ z → b ≠ TO → b ≠ i1 → b ≠ i2 → s.heap.get? b = some o → h'.get? b = some o) → h'.get? Sa = some { cls := .type "list", dict := none, data := .seq acc c, slots := #[] } → as.length = min n1 n2 → ZG P1 P2 Sa h' as →
      acc.toList = as.map Value.ref → R (.ok (.ret .none)) { s with heap := h', toks := tk }) :
    wpAny (model prog w) A.in1 (Builtin.«list.__init__» ⟨[.ref Sa, .ref z], []⟩)
      (fun fin s' => match fin with | .done f => R (.ok f) s' | .again c' => c'.quiet = true ∧ codeAny (model prog w) A c' R s') (fun e s' => R (.error e) s') s := by
  show wpAny _ _ (do let old ← Builtin.List.listItems (.ref Sa); Builtin.List.listUpdate (.ref Sa) (fun _ => #[]); letGo old.toList.reverse; Builtin.List.listExtendWith (.ref Sa) (.ref z) .none) _ _ s
  refine wpAny_bind ?_
  unfold Builtin.List.listItems
  refine wpAny_bind (wpAny_seqItems hS rfl (wpAny_pure ?_))
  show wpAny _ _ (updateSeq Sa (fun _ => #[]) >>= fun _ => letGo (#[] : Array Value).toList.reverse >>= fun _ => Builtin.List.listExtendWith (.ref Sa) (.ref z) .none) _ _ s
  refine wpAny_bind (wpAny_updateSeq hS rfl ?_)
  have hS₂ := Heap.get?_update_self (Obj.mapSeq (fun _ => (#[] : Array Value))) hS rfl
  have oth : ∀ b o, b ≠ Sa → s.heap.get? b = some o → (s.heap.update Sa (Obj.mapSeq (fun _ => (#[] : Array Value)))).get? b = some o :=
    fun b o hb e => (Heap.get?_update_other _ _ (Ne.symm hb)).trans e
  refine wpAny_bind (wpAny_letGo ?_)
  obtain ⟨a1, a2, hTO⟩ := hTO
  refine z_extend S D1 D2 hl hf1 hf2 hn .none _ (oth _ _ (Nat.ne_of_lt hl.2.1) hTI) (oth _ _ (Nat.ne_of_lt hl.1) hz) ⟨a1, a2, oth _ _ (Nat.ne_of_lt hl.2.2.1) hTO⟩ (D1.frame _ _ _ st1 fun b hb o e => oth b o (Nat.ne_of_lt (hf1 b hb)) e) (D2.frame _ _ _ st2 fun b hb o e => oth b o (Nat.ne_of_lt (hf2 b hb)) e) hS₂ (fun h' tk acc c as hk hS' hl' hG hacc => ?_)
  exact hR h' tk acc c as (fun b o hb h2 h3 h4 h5 e => hk b o hb h2 h3 h4 h5 (oth b o hb e)) hS' hl' hG hacc
/-- list(z), z a zip that nobody walked yet -/
theorem z_call {Q : Value → Shared → Prop} (S : ZipSep2 z TI TO i1 i2 fp1 fp2) (D1 : Draws prog w A.in1.in1.in1 i1 fp1 n1 P1 St1) (D2 : Draws prog w A.in1.in1.in1 i2 fp2 n2 P2 St2) (hf1 : ∀ b ∈ fp1, b < s.heap.objs.size) (hf2 : ∀ b ∈ fp2, b < s.heap.objs.size) (hn : min n1 n2 ≤ sizeLine)
    (hTI : IsTupOf2 s.heap TI (.ref i1) (.ref i2)) (hz : IsZip s.heap z TI TO .none) (hTO : ∃ a1 a2, IsTupOf2 s.heap TO a1 a2) (st1 : St1 0 s.heap) (st2 : St2 0 s.heap)
    (hQ : ∀ h' tk acc c as, (∀ b o, b ≠ z → b ≠ TO → b ≠ i1 → b ≠ i2 → s.heap.get? b = some o → h'.get? b = some o) → h'.get? s.heap.objs.size = some { cls := .type "list", dict := none, data := .seq acc c, slots := #[] } → as.length = min n1 n2 → ZG P1 P2 s.heap.objs.size h' as →
      acc.toList = as.map Value.ref → Q (.ref s.heap.objs.size) { s with heap := h', toks := tk }) :
    wpAny (model prog w) A (call (.type "list") [.ref z]) Q E s := by
  refine callType_codes (Q₁ := fun obj s₁ => obj = .ref s.heap.objs.size ∧ s₁ = { s with heap := s.heap.push { cls := .type "list", data := .seq #[] } }) PySem.F.called_list (PySem.F.typeCall_list_1 _) PySem.F.entry_list_init
    (code_list_new _ ⟨rfl, rfl⟩) fun obj s₁ h₁ => ?_
  obtain ⟨rfl, rfl⟩ := h₁
  have hS : (s.heap.push { cls := .type "list", data := .seq #[] }).get? s.heap.objs.size = some { cls := .type "list", data := .seq #[] } := Heap.get?_push_size _ rfl
  obtain ⟨a1, a2, hTO⟩ := hTO
  have l1 : i1 < s.heap.objs.size := hf1 _ S.mem1
  have l2 : i2 < s.heap.objs.size := hf2 _ S.mem2
  refine ⟨⟨_, hS, rfl⟩, PySem.F.args_list_init_2 _ _, z_init (A := A.in1) S D1 D2 ⟨Heap.lt_size hz, Heap.lt_size hTI, Heap.lt_size hTO, l1, l2⟩ hf1 hf2 hn (Heap.get?_push_of_some _ hTI) (Heap.get?_push_of_some _ hz) ⟨a1, a2, Heap.get?_push_of_some _ hTO⟩ (D1.frame _ _ _ st1 fun b _ o e => Heap.get?_push_of_some _ e) (D2.frame _ _ _ st2 fun b _ o e => Heap.get?_push_of_some _ e) hS (fun h' tk acc c as hk hS' hl hG hacc => ?_)⟩
  exact ⟨rfl, hQ h' tk acc c as (fun b o h2 h3 h4 h5 e => hk b o (Nat.ne_of_lt (Heap.lt_size e)) h2 h3 h4 h5 (Heap.get?_push_of_some _ e)) hS' hl hG hacc⟩
end
end FroZ

namespace FroZ
open PySem PySem.Calls PyProof.Rows PySem.Spec L2
abbrev zH1 (h : Heap) (l1 : Addr) : Heap := h.push { cls := .type "list_iterator", data := .fields #[.ref l1, .int 0 0] }
abbrev zH2 (h : Heap) (l1 l2 : Addr) : Heap := (zH1 h l1).push { cls := .type "tuple_iterator", data := .fields #[.ref l2, .int 0 0] }
abbrev zH3 (h : Heap) (l1 l2 : Addr) : Heap := (zH2 h l1 l2).push { cls := .type "tuple", data := .seq #[.ref h.objs.size, .ref (zH1 h l1).objs.size] }
abbrev zH4 (h : Heap) (l1 l2 : Addr) : Heap := (zH3 h l1 l2).push { cls := .type "tuple", data := .seq #[.none, .none] }
abbrev zH5 (h : Heap) (l1 l2 : Addr) : Heap := (zH4 h l1 l2).push { cls := .type "zip", data := .fields #[.none, .bool false, .bool false, .ref (zH2 h l1 l2).objs.size, .ref (zH3 h l1 l2).objs.size] }
theorem meets_zipLT (l1 l2 : Addr) (xs ys : Array Value) :
    Meets (Builtin.«zip.__new__» ⟨[.type "zip", .ref l1, .ref l2], []⟩) (fun _ R s => s.heap.IsList l1 xs ∧ s.heap.IsTuple l2 ys ∧
      R (.ok (.ret (.ref (zH4 s.heap l1 l2).objs.size))) { s with heap := zH5 s.heap l1 l2 }) :=
  .of_wp fun prog w A R s h => by
    obtain ⟨hp, g, d, tk, os⟩ := s; obtain ⟨hl1, hl2, h⟩ := h
    have hsub := sub_zip
    have hL1 : Heap.IsList (Shared.heap ⟨hp, g, d, tk, os⟩) l1 xs := hl1
    have hL2 : Heap.IsTuple (Shared.heap ⟨hp.push { cls := .type "list_iterator", data := .fields #[.ref l1, .int 0 0] }, g, d, tk, os⟩) l2 ys := Heap.IsTuple.push hl2 _
    wp_walk using wpAny_pyIter_list hL1, wpAny_pyIter_tuple hL2
    exact ⟨_, rfl, h⟩
section
variable {prog : Program} {w : World} {A : Around} {E : Value → Shared → Prop} {s : Shared}
theorem call_zipLT {l1 l2 : Addr} {xs ys : Array Value} {Q : Value → Shared → Prop} (hl1 : s.heap.IsList l1 xs) (hl2 : s.heap.IsTuple l2 ys)
    (h : ∀ h', IsZip h' (s.heap.objs.size + 4) (s.heap.objs.size + 2) (s.heap.objs.size + 3) .none → IsTupOf2 h' (s.heap.objs.size + 2) (.ref s.heap.objs.size) (.ref (s.heap.objs.size + 1)) →
      IsTupOf2 h' (s.heap.objs.size + 3) .none .none → h'.IsListIter s.heap.objs.size l1 0 → h'.IsTupleIter (s.heap.objs.size + 1) l2 0 → h'.objs.size = s.heap.objs.size + 5 →
      (∀ c o, s.heap.get? c = some o → h'.get? c = some o) → Q (.ref (s.heap.objs.size + 4)) { s with heap := h' }) :
    wpAny (model prog w) A (call (.type "zip") [.ref l1, .ref l2]) Q E s := by
  refine callType_new F.called_zip (by decide) (F.typeCall_zip_2 _ _) (F.newCall_zip_2 _ _) (fun obj => F.args_object_init_3 obj _ _) F.entry_zip_new
    (meets_zipLT l1 l2 xs ys) ⟨hl1, hl2, ?_⟩
  have z1 : (zH1 s.heap l1).objs.size = s.heap.objs.size + 1 := Heap.size_push ..
  have z2 : (zH2 s.heap l1 l2).objs.size = s.heap.objs.size + 2 := by rw [Heap.size_push, z1]
  have z3 : (zH3 s.heap l1 l2).objs.size = s.heap.objs.size + 3 := by rw [Heap.size_push, z2]
  have z4 : (zH4 s.heap l1 l2).objs.size = s.heap.objs.size + 4 := by rw [Heap.size_push, z3]
  have z5 : (zH5 s.heap l1 l2).objs.size = s.heap.objs.size + 5 := by rw [Heap.size_push, z4]
  have g5 : (zH5 s.heap l1 l2).get? (zH4 s.heap l1 l2).objs.size = some _ := Heap.get?_push_size _ rfl
  have g4 : (zH5 s.heap l1 l2).get? (zH3 s.heap l1 l2).objs.size = some _ := Heap.get?_push_of_some _ (Heap.get?_push_size _ rfl)
  have g3 : (zH5 s.heap l1 l2).get? (zH2 s.heap l1 l2).objs.size = some _ := Heap.get?_push_of_some _ (Heap.get?_push_of_some _ (Heap.get?_push_size _ rfl))
  have g2 : (zH5 s.heap l1 l2).get? (zH1 s.heap l1).objs.size = some _ := Heap.get?_push_of_some _ (Heap.get?_push_of_some _ (Heap.get?_push_of_some _ (Heap.get?_push_size _ rfl)))
  have g1 : (zH5 s.heap l1 l2).get? s.heap.objs.size = some _ := Heap.get?_push_of_some _ (Heap.get?_push_of_some _ (Heap.get?_push_of_some _ (Heap.get?_push_of_some _ (Heap.get?_push_size _ rfl))))
  show _ ∧ _
  rw [z2, z3, z4] at g5
  rw [z1, z2] at g3
  rw [z3] at g4
  rw [z1] at g2
  rw [z4]
  exact ⟨⟨_, g5, rfl⟩, h _ g5 g3 g4 ⟨_, g1, rfl, rfl⟩ ⟨_, g2, rfl, rfl⟩ z5 fun c o x =>
    Heap.get?_push_of_some _ (Heap.get?_push_of_some _ (Heap.get?_push_of_some _ (Heap.get?_push_of_some _ (Heap.get?_push_of_some _ x))))⟩
end
/-! ### the pairs tracked -/
def putZ : Hp → List Addr → List (V × V) → Hp
  | H, a :: as, p :: r => putZ (upd H a (.tup [p.1, p.2])) as r
  | H, _, _ => H
theorem putZ_off {b : Addr} : ∀ (as : List Addr) (r : List (V × V)) (H : Hp), b ∉ as → putZ H as r b = H b
  | [], _, _, _ => rfl
  | _ :: _, [], _, _ => rfl
  | a :: as, p :: r, H, h => by
    show putZ (upd H a (.tup [p.1, p.2])) as r b = H b
    rw [putZ_off as r _ (fun z => h (List.mem_cons_of_mem _ z)), upd_ne (fun z => h (by rw [z]; exact List.mem_cons_self))]
theorem putZ_at : ∀ (as : List Addr) (r : List (V × V)) (H : Hp), as.length = r.length → as.Nodup → Paired (fun (t : Addr) (p : V × V) => putZ H as r t = some (.tup [p.1, p.2])) as r
  | [], [], _, _, _ => .nil
  | [], _ :: _, _, h, _ => by cases h
  | _ :: _, [], _, h, _ => by cases h
  | a :: as, p :: r, H, h, hn => by
    have hn' := List.nodup_cons.mp hn
    have ih := putZ_at as r (upd H a (.tup [p.1, p.2])) (Nat.succ.inj h) hn'.2
    refine .cons ?_ ih
    show putZ (upd H a (.tup [p.1, p.2])) as r a = some (.tup [p.1, p.2])
    rw [putZ_off as r _ hn'.1, upd_same]
section
variable {X : Cx}
/-- from the state s0 ahead of the zip to the list's state -/
theorem zip_laid {pins : List (Addr × Obj)} {σ : L2.St} {H : Hp} {s : Shared} {h' : Heap} {tk : Nat} {xs ys : List V} {us vs : List Value} {acc : Array Value} {c p : Nat} {as : List Addr} (I : Inv X pins σ H s) (hp : s.heap.objs.size ≤ p) (rx : Vals xs us) (ry : Vals ys vs) (hz : min xs.length ys.length ≤ sizeLine)
    (hk : ∀ b o, s.heap.get? b = some o → h'.get? b = some o) (hS : h'.get? p = some { cls := .type "list", dict := none, data := .seq acc c, slots := #[] }) (hl : as.length = min xs.length ys.length) (hG : ZG (fun i v => us.toArray[i]? = some v) (fun i v => vs.toArray[i]? = some v) p h' as) (hacc : acc.toList = as.map Value.ref) :
    ∃ H' : Hp, (∀ b o, H b = some o → H' b = some o) ∧ H' p = some (.lst (as.map V.ref)) ∧ Paired (fun (t : Addr) (q : V × V) => H' t = some (.tup [q.1, q.2])) as (xs.zip ys) ∧ H p = none ∧ Inv X pins σ H' { s with heap := h', toks := tk } := by
  have hSn : p ∉ as := fun z => Nat.lt_irrefl _ (hG.above _ z)
  have nd : as.Nodup := List.Pairwise.imp (fun {a b} (h : a < b) => Nat.ne_of_lt h) hG.rise
  have new : ∀ t ∈ as, H t = none := fun t ht => I.hok.fresh (Nat.le_trans hp (Nat.le_of_lt (hG.above t ht)))
  have newS : H p = none := I.hok.fresh hp
  have atP := putZ_at as (xs.zip ys) (upd H p (.lst (as.map V.ref))) (by rw [List.length_zip]; exact hl) nd
  have off : ∀ b, b ∉ as → b ≠ p → putZ (upd H p (.lst (as.map V.ref))) as (xs.zip ys) b = H b := fun b h1 h2 => by rw [putZ_off as _ _ h1, upd_ne h2]
  have low : ∀ b o, s.heap.get? b = some o → b ∉ as ∧ b ≠ p := fun b o e => ⟨fun z => absurd (Heap.lt_size e) (Nat.not_lt.mpr (Nat.le_trans hp (Nat.le_of_lt (hG.above b z)))), fun z => absurd (Heap.lt_size e) (Nat.not_lt.mpr (by rw [z]; exact hp))⟩
  have kp : ∀ b u, H b = some u → (putZ (upd H p (.lst (as.map V.ref))) as (xs.zip ys)) b = some u := fun b u e => by
    rw [off b (fun z => by rw [new b z] at e; cases e) (fun z => by rw [z, newS] at e; cases e)]
    exact e
  have eS : putZ (upd H p (.lst (as.map V.ref))) as (xs.zip ys) p = some (.lst (as.map V.ref)) := by rw [putZ_off as _ _ hSn, upd_same]
  refine ⟨putZ (upd H p (.lst (as.map V.ref))) as (xs.zip ys), kp, eS, atP, newS, ?_⟩
  refine I.call' (ch := []) rfl ⟨fun b o q _ _ _ => hk b o q, fun b o q _ _ _ => ⟨o.slots, hk b o q⟩, fun b o q n _ => ?_, fun b o q _ => ⟨o, hk b o q⟩, fun b xs q => kp b _ q, fun b o u q => kp b _ q, fun b ps q => ⟨#[], by rw [kp b _ q]; simp⟩⟩ (fun b u q => ?_) I.bare fun b z => by simp at z
  · obtain ⟨z1, z2⟩ := low b o q
    rw [off b z1 z2]
    exact n
  · by_cases hb : b ∈ as
    · obtain ⟨j, pk, e1, e2, e3⟩ := LiI.paired_ix atP hb
      rw [e3] at q
      cases q
      obtain ⟨x, y, f1, f2, f3⟩ := hG.pairs j b e1
      rw [List.getElem?_zip_eq_some] at e2
      obtain ⟨v1, g1, r1⟩ := LiI.paired_get rx e2.1
      obtain ⟨v2, g2, r2⟩ := LiI.paired_get ry e2.2
      have f1' : us[j]? = some x := by simpa using f1
      have f2' : vs[j]? = some y := by simpa using f2
      rw [f1'] at g1
      rw [f2'] at g2
      cases g1
      cases g2
      exact ⟨by show 2 ≤ sizeLine; decide +kernel, [x, y], .cons r1 (.cons r2 .nil), ⟨_, f3, rfl, _, rfl⟩⟩
    · by_cases hb2 : b = p
      · rw [hb2] at q ⊢
        rw [eS] at q
        cases q
        refine ⟨by rw [List.length_map]; omega, acc.toList, c, by rw [hacc]; exact LiI.vals_refs as, ?_⟩
        rw [Array.toArray_toList]
        exact hS
      · rw [off b hb hb2] at q
        exact (I.hok b u q).stay (fun d v _ y => hk d v y) (fun d y => kp d _ y) fun d xs y => kp d _ y
def rZipLT (K : PySem.W.Frag) : List V → Hp → VK → Prop := fun args H Q => ∃ (l t : Addr) (xs ys : List V), args = [.ref l, .ref t] ∧ SqL K H l xs ∧ SqT K H t ys ∧
  ∀ (H' : Hp) (p : Addr) (ts : List Addr), (∀ b o, H b = some o → H' b = some o) → H p = none → H' p = some (.lst (ts.map V.ref)) → Paired (fun (t : Addr) (q : V × V) => H' t = some (.tup [q.1, q.2])) ts (xs.zip ys) → Q (.ref p) H'
def tListZip (K : PySem.W.Frag) (ta : TA) : TE := fun σ H Q => ta σ H fun args H1 => rZipLT K args H1 Q
/-- list(zip(a, b)), a a list, b a tuple -/
theorem pe_listZip {a b : Expr} {ta : TA} {p p2 cpos pos : Pos} (hc : X.calm = true) (ha : PA X [a, b] ta) (hg : Gl X "list") (hm : X.mg "list" = none) (hv : bootBuiltins "list" = some (.type "list")) (hgz : Gl X "zip") (hmz : X.mg "zip" = none)
    (hs : starEach [.Call (.Name "zip" p2) [a, b] [] cpos] X.env = (false, eval (.Call (.Name "zip" p2) [a, b] [] cpos) X.env) :: starEach [] X.env := by rfl) (hs2 : starEach [a, b] X.env = (false, eval a X.env) :: starEach [b] X.env := by rfl) (hpl : (backTo cpos (starEach [b] X.env)).any (·.1) = false := by rfl) :
    PE X (.Call (.Name "list" p) [.Call (.Name "zip" p2) [a, b] [] cpos] [] pos) (tListZip X.K ta) := by
  refine ⟨fun pins s σ H Q I hq => ?_⟩
  refine wpAny_Call_Name_kw (ld_blt I hg hm hv ?_)
  refine PyProof.Rows.callWith_type1 ?_ hs rfl
  rw [hs]
  show wpAny _ _ (spliced ((false, eval (.Call (.Name "zip" p2) [a, b] [] cpos) X.env) :: backTo pos (starEach [] X.env))) _ _ s
  refine Calls.spliced_cons ?_
  refine Call_ (ld_blt I hgz hmz PyProof.Rows.boot_zip (PyProof.Rows.callWith_type1 (thn (ha.run cpos pins s σ H _ I hq) fun us s1 ⟨vs, H1, I1, r1, q1⟩ => ?_) hs2 hpl))
  obtain ⟨l, t, xs, ys, ev, hl, ht, q⟩ := q1
  subst ev
  cases r1 with
  | cons ra rb =>
    cases rb with
    | cons rb rc =>
      cases rc
      cases ra
      cases rb
      obtain ⟨its, vx, ⟨ol, nl, e1, e2, _, e3⟩, zx⟩ := I1.list hl
      obtain ⟨its2, vy, ht2, zy⟩ := I1.tuple ht
      have hL : s1.heap.IsList l its.toArray := ⟨ol, e1, e2, nl, e3⟩
      have ltl : l < s1.heap.objs.size := Heap.lt_size e1
      have ltt : t < s1.heap.objs.size := by obtain ⟨o, e, _⟩ := ht2; exact Heap.lt_size e
      refine call_zipLT hL ht2 fun h2 hz hTI hTO it1 it2 hsz hk2 => ?_
      refine Calls.spliced_nil ?_
      have hd := I1.ok.hd hc
      have sx1 : its.toArray.size = xs.length := by rw [List.size_toArray]; exact vx.length.symm
      have sx2 : its2.toArray.size = ys.length := by rw [List.size_toArray]; exact vy.length.symm
      have ne : ∀ i j : Nat, i ≠ j → (s1.heap.objs.size + i : Nat) ≠ s1.heap.objs.size + j := fun i j h => by omega
      have lN : ∀ {b : Nat}, b < s1.heap.objs.size → ∀ i : Nat, b ≠ s1.heap.objs.size + i := fun {b} h i => by omega
      have nin : ∀ {x c e : Addr}, x ≠ c → x ≠ e → x ∉ [c, e] := fun {x c e} h1 h2 h => by
        rcases List.mem_cons.mp h with h | h
        · exact h1 h
        · exact h2 (List.mem_singleton.mp h)
      have two : ∀ {x c e : Addr}, x ∈ [c, e] → x = c ∨ x = e := fun {x c e} h => (List.mem_cons.mp h).imp id List.mem_singleton.mp
      have up : ∀ i : Nat, i < 5 → (s1.heap.objs.size + i : Nat) < h2.objs.size := fun i h => by rw [hsz]; omega
      have lo : ∀ {b : Nat}, b < s1.heap.objs.size → b < h2.objs.size := fun {b} h => by rw [hsz]; omega
      have hL3 : h2.IsList l its.toArray := ⟨ol, hk2 _ _ e1, e2, nl, e3⟩
      have hT3 : h2.IsTuple t its2.toArray := let ⟨o, e, r⟩ := ht2; ⟨o, hk2 _ _ e, r⟩
      refine z_call (s := { s1 with heap := h2 }) (z := s1.heap.objs.size + 4) (TI := s1.heap.objs.size + 2) (TO := s1.heap.objs.size + 3) (i1 := s1.heap.objs.size) (i2 := s1.heap.objs.size + 1) (fp1 := [s1.heap.objs.size, l]) (fp2 := [s1.heap.objs.size + 1, t])
        ⟨ne 2 4 (by decide), ne 3 4 (by decide), ne 2 3 (by decide), ne 2 0 (by decide), List.mem_cons_self, nin (ne 4 0 (by decide)) (Ne.symm (lN ltl 4)), nin (ne 3 0 (by decide)) (Ne.symm (lN ltl 3)), ne 2 1 (by decide), List.mem_cons_self, nin (ne 4 1 (by decide)) (Ne.symm (lN ltt 4)), nin (ne 3 1 (by decide)) (Ne.symm (lN ltt 3)), nin (ne 0 1 (by decide)) (Ne.symm (lN ltt 0)), nin (ne 1 0 (by decide)) (Ne.symm (lN ltl 1))⟩
        (Draws.list (A := X.A.in1.in1.in1) hd s1.heap.objs.size l (Nat.ne_of_lt ltl) its.toArray) (Draws.tuple (A := X.A.in1.in1.in1) hd (s1.heap.objs.size + 1) t (lN ltt 1) its2.toArray)
        (fun b hb => ?_) (fun b hb => ?_) (by rw [sx1]; exact Nat.le_trans (Nat.min_le_left _ _) zx) hTI hz ⟨_, _, hTO⟩ ⟨it1, hL3⟩ ⟨it2, hT3⟩ fun h3 tk acc c as hk3 hS hal hG hacc => ?_
      · rcases two hb with rfl | rfl
        · exact up 0 (by decide)
        · exact lo ltl
      · rcases two hb with rfl | rfl
        · exact up 1 (by decide)
        · exact lo ltt
      · have kk : ∀ b o, s1.heap.get? b = some o → h3.get? b = some o := fun b o e => by
          have lt := Heap.lt_size e
          exact hk3 b o (lN lt 4) (lN lt 3) (lN lt 0) (lN lt 1) (hk2 b o e)
        obtain ⟨H', k1, k2, k3, k4, J⟩ := zip_laid (tk := tk) (p := h2.objs.size) I1 (by rw [hsz]; exact Nat.le_add_right _ _) vx vy (Nat.le_trans (Nat.min_le_left _ _) zx) kk hS (by rw [← sx1, ← sx2]; exact hal) hG hacc
        exact ⟨.ref _, H', J, rfl, q H' _ as k1 k4 k2 k3⟩
end
end FroZ

/-! Fro: list(zip(a, b)) -/
namespace Fro
open PySem PySem.Spec L2 PyProof.Rows
def zipD (ds es : List D) : List D := (ds.zip es).map fun p => .tup [p.1, p.2]
def gListZip : List D → Option D := fun ds => match ds with
  | [.lst ds, .tup es] => some (.lst (zipD ds es))
  | _ => none
theorem Fwd.ofExt {ρ : List Addr} {S : Sto} {H H' : Hp} (h : ∀ b o, H b = some o → H' b = some o) : Fwd ρ S H ρ S H' where
  ext := ⟨[], by simp⟩
  keep := fun b u _ e => h b u e
  tups := fun b u e => h b _ e
  frzs := fun b u z e => h b _ e
  new := fun b l => .inl l
theorem zip_rp {K : PySem.W.Frag} {H : Hp} {M : Addr → Prop} : ∀ {ds es : List D} {xs ys : List V} {ts : List Addr}, RpL K H M ds xs → RpL K H M es ys → Paired (fun (t : Addr) (q : V × V) => H t = some (.tup [q.1, q.2])) ts (xs.zip ys) → RpL K H M (zipD ds es) (ts.map V.ref)
  | [], es, _, ys, ts, .nil, _, p => by
    rw [List.zip_nil_left] at p
    cases p
    exact .nil
  | d :: ds, [], x :: xs, _, ts, _, .nil, p => by
    rw [List.zip_nil_right] at p
    cases p
    exact .nil
  | d :: ds, e :: es, x :: xs, y :: ys, ts, .cons a b, .cons a2 b2, p => by
    rw [List.zip_cons_cons] at p
    cases p with
    | cons h t => exact .cons (.tup (SqT.of h) (.cons a (.cons a2 .nil))) (zip_rp b b2 t)
theorem rql2 {K : PySem.W.Frag} {H : Hp} {M : Addr → Prop} {d e : D} {xs : List V} (h : RqL K H M [d, e] xs) : ∃ v u, xs = [v, u] ∧ Rq K H M d v ∧ Rq K H M e u := by
  cases h with
  | cons a r =>
    cases r with
    | cons b r => cases r; exact ⟨_, _, rfl, a, b⟩
theorem gn_listZip {K : PySem.W.Frag} : GN K (FroZ.rZipLT K) gListZip := fun ρ S H ds z xs Q so rx q n => by
  unfold gListZip at q
  split at q
  · rename_i ds es
    obtain ⟨v1, v2, rfl, r1, r2⟩ := rql2 rx
    cases q
    obtain ⟨a, ys, rfl, ha, ra⟩ := r1.lstE
    obtain ⟨b, zs, rfl, hb, rb⟩ := r2.tup
    refine ⟨a, b, ys, zs, rfl, SqL.of ha, hb, fun H' p ts ext np hp pr => ?_⟩
    have fw : Fwd ρ S H ρ S H' := Fwd.ofExt ext
    have sk : Sok K ρ S H' := so.fwd fw fun a l => by
      rcases so.has l with ⟨xs, e⟩ | ⟨kvs, e⟩
      · rw [e]; exact ext _ _ e
      · rw [e]; exact ext _ _ e
    exact n (.ref p) H' fw sk (.lst hp (so.notNone np) (zip_rp (fw.rpL ra) (fw.rpL rb) pr))
  · cases q
section
variable {X : Cx} {E : XP} {a b : Expr} {ab : Den (List W)} {p p2 cpos pos : Pos}
theorem de_listzip (hm : X.mg "list" = none) (hmz : X.mg "zip" = none) (ha : PA X [a, b] (tA X.K E ab)) (hc : X.calm = true := by rfl) (hg : Gl X "list" := by rfl) (hgz : Gl X "zip" := by rfl)
    (hs : starEach [.Call (.Name "zip" p2) [a, b] [] cpos] X.env = (false, eval (.Call (.Name "zip" p2) [a, b] [] cpos) X.env) :: starEach [] X.env := by rfl) (hs2 : starEach [a, b] X.env = (false, eval a X.env) :: starEach [b] X.env := by rfl) (hpl : (backTo cpos (starEach [b] X.env)).any (·.1) = false := by rfl) :
    PE X (.Call (.Name "list" p) [.Call (.Name "zip" p2) [a, b] [] cpos] [] pos) (tE X.K E (cBlt gListZip ab)) :=
  pe_mono (FroZ.pe_listZip hc ha hg hm (by decide +kernel) hgz hmz hs hs2 hpl) fun σ H Q ⟨δ, ρ, S, st, so, q⟩ => tG_then st so q fun ws S1 vs ρ1 H1 f1 st1 so1 r1 p1 => apN_post gn_listZip so1 r1 p1
end
end Fro

/-! Fro: != of two texts -/
namespace Fro
open PySem PySem.Spec L2 PyProof.Rows
def gNeS : D → D → Option D := fun d e => match d, e with
  | .str t, .str u => some (.bl (!decide (t = u)))
  | _, _ => none
theorem g2_neS {K : PySem.W.Frag} : G2 K rNe gNeS := fun ρ S H d e z x y Q so rx ry q n => by
  unfold gNeS at q
  split at q
  · rename_i t u
    cases q
    rw [rx.str, ry.str]
    refine ⟨rfl, ?_⟩
    have e : decide (V.str (sx t) = V.str (sx u)) = decide (t = u) := by
      rw [decide_eq_decide]
      constructor
      · intro h
        have h1 : sx t = sx u := by injection h
        unfold sx at h1
        have h2 : t.toArray = u.toArray := by injection h1
        simpa using h2
      · intro h; rw [h]
    rw [e]
    exact nxt_here so (.bl _) n
  · cases q
end Fro

/-! Fro: repr in an except suite -/
namespace Fro
open PySem PySem.Spec L2 PyProof.Rows
theorem hu200 {k : Nat} {A : Around} (hr : Room k A) : A.units + 200 < cLine := by have := hr.un; omega
theorem cr_reprG {X : Cx} (hg : X.A.guards = some []) (hu : X.A.units + 200 < cLine) : CallR X (.builtin "repr") (rReprA X.K) := by
  intro pins s σ H xs us Q I r h
  obtain ⟨d, p, v, M, rfl, rp, e, h1, h2, h3, q⟩ := h
  obtain ⟨u, rfl, ru⟩ := vals1 r
  have hz : p.shown.length ≤ sizeLine := Nat.le_trans h3 (by rw [sizeLine_eq]; decide)
  cases d with
  | non =>
    cases rp; cases e; cases ru
    exact PySem.P.repr_of_none ⟨.str "None", H, I.tok _, ⟨_, rfl⟩, q⟩
  | bl b =>
    cases rp; cases e; cases ru
    exact PySem.P.repr_of_bool ⟨.str (if b then "True" else "False"), H, I.tok _, ⟨_, rfl⟩, q⟩
  | int i =>
    cases rp; cases e; obtain ⟨t, rfl⟩ := ru
    exact PySem.P.repr_of_int (of_decide_eq_true h1) ⟨.str (toString i), H, I.tok _, ⟨_, rfl⟩, q⟩
  | str t =>
    cases rp; cases e; obtain ⟨t, rfl⟩ := ru
    exact PySem.P.repr_of_str ⟨.str _, H, I.tok _, ⟨_, rfl⟩, q⟩ hz
  | ty n => cases e
  | tup ds =>
    obtain ⟨as, rd⟩ := reads_of I (.tup ds) p _ _ rp ru e
    cases rp
    cases ru
    exact repr_of_reads' rd h1 (PyData.noDict_hsm (toPy_plain (.tup ds) p e)) hg (by omega) (fun _ _ z => z) (fun h' u tk hk => ⟨.str p.shown, H, I.kept hk, ⟨u, rfl⟩, q⟩) hz
  | lst ds =>
    obtain ⟨as, rd⟩ := reads_of I (.lst ds) p _ _ rp ru e
    cases rp
    cases ru
    exact repr_of_reads' rd h1 (PyData.noDict_hsm (toPy_plain (.lst ds) p e)) hg (by omega) (fun _ _ z => z) (fun h' u tk hk => ⟨.str p.shown, H, I.kept hk, ⟨u, rfl⟩, q⟩) hz
  | dct es =>
    cases rp with
    | dct hd _ re =>
      cases ru
      cases qe : toPyE es with
      | none => rw [toPyA, qe] at e; cases e
      | some ps =>
        rw [toPyA, qe] at e
        cases e
        obtain ⟨_, lo, vs, kv, o, en, ep, h4, h5, h6, _, h7, _⟩ := dk_rd I.hok hd
        obtain ⟨r1, r2⟩ := readsE_of I re kv h7 qe
        have rd := Reads.dict h4 h5.1 h6 r1 r2
        refine repr_of_reads' rd h1 (fun _ z => ?_) hg (by omega) (fun _ _ z => z) (fun h' u tk hk => ⟨.str _, H, I.kept hk, ⟨u, rfl⟩, q⟩) hz
        simp only [List.append_nil, List.mem_singleton] at z
        rw [← z] at lo
        simp at lo
end Fro

/-! Fro: {**a, k: v}, at the library's level. -/
namespace FroS
open PySem PySem.Calls PyProof.Rows PySem.Spec
open Sem (wp)
section
variable {prog : Program} {w : World} {K : Type} [DecidableEq K] {knd : KeyKind prog w K} {A : Around} {E : Value → Shared → Prop} {s : Shared}
theorem dictPut_pairs {d : Addr} {kvs : List (K × Value)} {k : K} {key v : Value} {Q : Unit → Shared → Prop} (hkey : knd.is k key = true) (hm : s.heap.DictOf knd d kvs)
    (hQ : ∀ h', h'.DictOf knd d (stored kvs k v) → Heap.SameBut d s.heap h' → Q () { s with heap := h' })
    (hsz : kvs.length ≤ sizeLine := by size_fits) :
    wpAny (model prog w) A (dictPut d (knd.hash k) key v) Q E s := by
  obtain ⟨o, es, ep, ho, hc, hd, hk, hp, hn⟩ := hm
  have hes : es.size ≤ sizeLine := by have e1 := hp.length; have e2 : es.toList.length = es.size := by simp
                                      omega
  unfold dictPut
  refine wpAny_bind (wpAny_dictFind_of hkey ho hd hk ?_)
  have hidx : (es.findIdx? fun e => knd.is k e.key) = kvs.findIdx? fun kv => decide (kv.1 = k) := by
    rw [← hp.findIdx k]; obtain ⟨l⟩ := es; simp
  cases hi : es.findIdx? fun e => knd.is k e.key with
  | some i =>
    refine wpAny_updateDict ho hd (hQ _ ⟨_, _, ep, Heap.get?_update_self _ ho (Obj.isFreed_of_dict (Obj.data_mapDict hd _)),
      hc.mapDict _, Obj.data_mapDict hd _, hk.modify _ _, ?_, ?_⟩ (Heap.SameBut.update ..))
    · rw [stored, if_pos (any_of_findIdx_some (hidx ▸ hi))]
      have hl : (es.toList.findIdx? fun e => knd.is k e.key) = some i := by rw [← hi]; obtain ⟨l⟩ := es; simp
      have := hp.modify hn hl v
      obtain ⟨l⟩ := es
      simpa using this
    · rw [stored, if_pos (any_of_findIdx_some (hidx ▸ hi)), keys_map_store]; exact hn
  | none =>
    have hnot : k ∉ kvs.map (·.1) := not_mem_of_findIdx_none (hidx ▸ hi)
    have hany : ¬ (kvs.any fun kv => decide (kv.1 = k)) = true := by
      rw [List.any_eq_true]; rintro ⟨kv, hkv, he⟩
      exact hnot (List.mem_map.mpr ⟨kv, hkv, of_decide_eq_true he⟩)
    refine wpAny_updateDictKeys (hz := hes) ho hd (hQ _ ⟨_, _, ep + 1, Heap.get?_update_self _ ho (Obj.isFreed_of_dict (Obj.data_mapDictKeys hd _)),
      hc.mapDictKeys _, Obj.data_mapDictKeys hd _, hk.push hkey _, ?_, ?_⟩ (Heap.SameBut.update ..))
    · rw [stored, if_neg hany]
      have := hp.append hkey (knd.hash k) v
      obtain ⟨l⟩ := es
      simpa using this
    · rw [stored, if_neg hany, List.map_append, List.nodup_append]
      refine ⟨hn, by simp, ?_⟩
      intro a ha b hb
      simp only [List.map_cons, List.map_nil, List.mem_singleton] at hb
      subst hb
      exact fun e => hnot (e ▸ ha)
/-- no key is an address: texts and integers -/
def Plain (knd : KeyKind prog w K) : Prop := ∀ k v, knd.is k v = true → ∀ a, v ≠ .ref a
theorem mergeMapping_pairs {d o : Addr} {kvs more : List (K × Value)} {Q : Unit → Shared → Prop} (hpl : Plain knd) (hdo : d ≠ o) (hoS : (o == sysModules) = false)
    (hd : s.heap.DictOf knd d kvs) (ho : s.heap.DictOf knd o more)
    (hQ : ∀ h', h'.DictOf knd d (merged kvs more) → h'.DictOf knd o more → Heap.SameBut d s.heap h' → Q () { s with heap := h' })
    (hsz : kvs.length + more.length ≤ sizeLine := by size_fits) :
    wpAny (model prog w) A (mergeMapping d (.ref o) false) Q E s := by
  obtain ⟨od, esd, epd, hod, hcd, hdd, hkd, hpd, hnd⟩ := id hd
  obtain ⟨oo, eso, epo, hoo, hco, hdo', hko, hpo, hno⟩ := id ho
  have hlen : more.length = eso.size := by rw [← hpo.length]; simp
  have hTy : s.TypeIs (.ref o) "dict" := ho.typeIs
  unfold mergeMapping
  refine wpAny_bind (wpAny_isInstance (T := "dict") (b := true) hTy (by rw [isSubtype_type]; kernel_rfl) ?_)
  simp only [if_true]
  refine wpAny_bind (wpAny_specialOf hTy PySem.F.slot_dict_iter.lookup ?_)
  have e0 : (some (Value.builtin "dict.__iter__") == some (Value.builtin "dict.__iter__")) = true := by decide +kernel
  refine wpAny_bind (wpAny_pure ?_)
  simp only [e0, hoS, Bool.false_eq_true, if_false]
  refine wpAny_bind (wpAny_dictEntries hod hdd ?_)
  have loop : ∀ (Q : Unit → Shared → Prop), (∀ h', h'.DictOf knd d (merged kvs more) → h'.DictOf knd o more → Heap.SameBut d s.heap h' → Q () { s with heap := h' }) → wpAny (model prog w) A (do
      let l ← dictEntries o
      let epoch ← dictEpoch o
      forIn (List.range l.size) PUnit.unit fun i (_ : PUnit) => (do
          let l' ← dictEntries o
          match l'[i]? with
            | some e => do
              holding [e.key, e.val] (dictPut d e.hash e.key e.val)
              let ep' ← dictEpoch o
              if (ep' != epoch) = true then do
                  (unsupported "dict.changed-during-merge" : Sem PUnit)
                  pure (ForInStep.yield PUnit.unit)
                else pure (ForInStep.yield PUnit.unit)
            | _ => do
              (unsupported "dict.changed-during-merge" : Sem PUnit)
              pure (ForInStep.yield PUnit.unit) : Sem (ForInStep PUnit))
      pure ()) Q E s := fun Q hQ => by
    refine wpAny_bind (wpAny_dictEntries hoo hdo' ?_)
    refine wpAny_bind (wpAny_dictEpoch hoo hdo' ?_)
    refine wpAny_bind ?_
    rw [List.range_eq_range']
    refine wpAny_forIn_list _
      (fun rest _ s' => ∃ h' i, s' = { s with heap := h' } ∧ rest = List.range' i (eso.size - i) ∧ i ≤ eso.size ∧ h'.DictOf knd d (merged kvs (more.take i)) ∧ h'.get? o = some oo ∧ Heap.SameBut d s.heap h')
      _ ?_ ?_ _ _ ⟨s.heap, 0, rfl, by simp, Nat.zero_le _, by simpa [merged] using hd, hoo, Heap.SameBut.refl _ _⟩
    · rintro x rest b s' ⟨h', i, rfl, hr, hi, hd', hoo', hs'⟩
      have hlt : i < eso.size := by
        rcases Nat.lt_or_ge i eso.size with h | h
        · exact h
        · rw [Nat.sub_eq_zero_of_le h] at hr; simp at hr
      obtain ⟨rfl, hrest⟩ : x = i ∧ rest = List.range' (i + 1) (eso.size - (i + 1)) := by
        have e : eso.size - i = (eso.size - (i + 1)) + 1 := by omega
        rw [e, List.range'_succ] at hr
        injection hr with h1 h2
        exact ⟨h1, h2⟩
      refine wpAny_bind (wpAny_dictEntries hoo' hdo' ?_)
      rw [Array.getElem?_eq_getElem hlt]
      obtain ⟨kv, hkv⟩ : ∃ kv, more[x]? = some kv := ⟨more[x]'(by rw [hlen]; exact hlt), List.getElem?_eq_getElem _⟩
      obtain ⟨k, v⟩ := kv
      obtain ⟨hkey, hval⟩ := hpo.get? (e := eso[x]) (by simp [hlt]) hkv
      obtain ⟨k', hkey', hhash⟩ := hko eso[x] (Array.getElem_mem hlt)
      obtain rfl : k' = k := knd.inj _ _ _ hkey' hkey
      show wpAny _ _ (holding [eso[x].key, eso[x].val] (dictPut d eso[x].hash eso[x].key eso[x].val) >>= _) _ _ _
      rw [hhash, hval]
      have hmx : (merged kvs (more.take x)).length ≤ sizeLine := by
        have e1 := merged_length_le kvs (more.take x)
        have e2 : (more.take x).length ≤ more.length := by rw [List.length_take]; omega
        omega
      refine wpAny_bind (wpAny_holding (dictPut_pairs (hsz := hmx) hkey hd' fun h'' hd'' hs'' => ?_))
      have hoo'' : h''.get? o = some oo := (hs''.2 o (Ne.symm hdo)).trans hoo'
      refine wpAny_bind (wpAny_dictEpoch hoo'' hdo' ?_)
      rw [if_neg (by simp)]
      exact wpAny_pure ⟨h'', x + 1, rfl, hrest, hlt, by rw [merged_take_succ kvs more x (k', v) hkv]; exact hd'', hoo'', hs'.trans hs''⟩
    · rintro b s' ⟨h', i, rfl, hr, hi, hd', hoo', hs'⟩
      have hin : i = eso.size := by
        rcases Nat.lt_or_ge i eso.size with h | h
        · have e : eso.size - i = (eso.size - (i + 1)) + 1 := by omega
          rw [e, List.range'_succ] at hr; exact nomatch hr
        · exact Nat.le_antisymm hi h
      refine wpAny_pure (hQ h' ?_ ⟨oo, eso, epo, hoo', hco, hdo', hko, hpo, hno⟩ hs')
      rw [hin, ← hlen, List.take_length] at hd'; exact hd'
  refine wpAny_ite_split (fun _ => ?_) (fun _ => loop Q hQ)
  refine wpAny_bind (wpAny_dictEntries hoo hdo' ?_)
  refine wpAny_bind ?_
  rw [← Array.forIn_toList]
  refine wpAny_forIn_list _ (fun rest _ s' => s' = s ∧ ∀ e ∈ rest, e ∈ eso.toList) _ ?_ ?_ _ _ ⟨rfl, fun e he => he⟩
  · rintro x rest b s' ⟨rfl, hr⟩
    obtain ⟨k', hkey', _⟩ := hko x (by simpa using hr x List.mem_cons_self)
    have np := hpl k' x.key hkey'
    cases hx : x.key with
    | ref a => exact absurd hx (np a)
    | _ => simp only []; exact wpAny_pure ⟨rfl, fun e he => hr e (List.mem_cons_of_mem _ he)⟩
  · rintro b s' ⟨rfl, _⟩
    exact loop Q hQ
end
end FroS

set_option maxHeartbeats 1000000
/-! Fro: {**a, k: v}. -/
namespace FroS
open PySem PySem.Calls PyProof.Rows PySem.Spec
theorem star_shape (m k v : Sem Value) : dictDisplay [(none, m), (some k, v)] = (do
    let d ← alloc { cls := .type "dict", data := .dict #[] }
    let mv ← holding [.ref d] m
    (((holding [.ref d, mv] (mergeMapping d mv false)).onRaise fun x => do let _ ← holding [.ref d, mv, x] (runValue (.builtin "proto.let_go" {}))).tryCatch fun e => do
        if ← isInstance e (.type "AttributeError") then
          rule "dict.display.not-a-mapping"; raiseError "TypeError" s!"'{← typeNameOf mv}' object is not a mapping"
        throw e).onRaise fun x => do let _ ← holding [.ref d, x] (runValue (.builtin "proto.let_go" {}))
    let sub ← holding [.ref d] (subDict [(k, v)])
    (holding [.ref d, .ref sub] (mergeMapping d (.ref sub) false)).onRaise fun x => do let _ ← holding [.ref d, x] (runValue (.builtin "proto.let_go" {}))
    pure (.ref d)) := by
  unfold dictDisplay
  simp only [List.forIn_cons, List.forIn_nil, bind_assoc, pure_bind, List.isEmpty_nil, if_true, List.nil_append, List.isEmpty_cons, Bool.false_eq_true, if_false]
  have h17 : ∀ x : Sem Value × Sem Value, ([x].length == 17) = false := fun _ => rfl
  have hem : ∀ x : Sem Value × Sem Value, [x].isEmpty = false := fun _ => rfl
  simp only [h17, hem, Bool.false_eq_true, if_false, pure_bind, bind_assoc]
end FroS

namespace Fro
open PySem PySem.Spec L2 PyProof.Rows
theorem plain_mix {P : Program} {w : World} : FroS.Plain (mixKind P w) := fun k v h a => by
  rcases keyIs_shape h with ⟨i, t, rfl, rfl⟩ | ⟨x, t, rfl, rfl⟩ <;> exact fun z => nomatch z
/-- {**m, k: v}: the new dict D stands empty while m is made; then it holds m's pairs; then B, empty, while k and v are made -/
def tStar (tm tk tv : TE) : TE := fun σ H Q => ∀ D, H D = none → tm σ (upd H D (.dK [])) fun x H1 => H1 D = some (.dK []) ∧ ∃ o more, x = .ref o ∧ D ≠ o ∧ Rd H1 o (.dK more) ∧ more.length ≤ 900 ∧
  ∀ B, upd H1 D (.dK (mergeK [] more)) B = none → tPairs [(tk, tv)] σ (upd (upd H1 D (.dK (mergeK [] more))) B (.dK [])) fun ps H2 => H2 B = some (.dK []) ∧ D ≠ B ∧
    ∃ cur kvs : List (Key × V), H2 D = some (.dK cur) ∧ cur.length ≤ 900 ∧ ps = kvs.map (fun kv => (kV kv.1, kv.2)) ∧ kvs.length ≤ 15 ∧ Q (.ref D) (upd (upd H2 B (.dK (mergeK [] kvs))) D (.dK (mergeK cur (mergeK [] kvs))))
theorem pe_star {X : Cx} {pos : Pos} {m k v : Expr} {tm tk tv : TE} (hm : PE X m tm) (hp : PPs X pos [some k] [v] [(tk, tv)]) : PE X (.Dict [none, some k] [m, v] pos) (tStar tm tk tv) := by
  refine ⟨fun pins s σ H Q I q => ?_⟩
  have hshape : (evalEachOpt [none, some k] X.env).zip ((evalEach [m, v] X.env).map fun v => do let x ← v; standAt pos; pure x) = [(none, do let x ← eval m X.env; standAt pos; pure x), (some (eval k X.env), do let x ← eval v X.env; standAt pos; pure x)] := by
    simp [evalEachOpt, evalEach, evalOpt]
  rw [arm_eval_Dict, hshape, FroS.star_shape]
  have hn := I.hok.fresh (Nat.le_refl s.heap.objs.size)
  have I1 := I.laid (a := s.heap.objs.size) (o := .dK []) (h' := s.heap.push { cls := .type "dict", data := .dict #[] }) (t' := s.toks) (fun _ _ q => Heap.get?_push_of_some _ q) (Nat.le_refl _) (dk_empty s.heap I.big)
  refine wpAny_bind (wpAny_standAt (wpAny_bind (wpAny_alloc (wpAny_bind (wpAny_holding (wpAny_bind (thn (hm.run pins _ σ _ _ I1 (q _ hn)) fun u s1 ⟨x, H1, I2, rx, e1, o, more, ex, ne, rd, hl, q2⟩ => ?_)))))))
  subst ex
  cases rx
  obtain ⟨_, lowD, vd, rD, dD⟩ := dk_of I2.hok e1
  cases rD
  obtain ⟨_, lowo, vo, ro, dO⟩ := dk_rd I2.hok rd
  have h900 : vo.length ≤ 900 := by rw [← ro.length]; exact hl
  refine wpAny_bind (wpAny_standAt (wpAny_pure ?_))
  refine wpAny_bind (wpAny_onRaise (wpAny_tryCatch (wpAny_onRaise (wpAny_holding (FroS.mergeMapping_pairs (knd := mixKind X.prog X.w) plain_mix ne lowo dD dO (fun h' dD' dO' hs => ?_) (by rw [sizeLine_eq, List.length_nil]; omega))))))
  have rm : KV (mergeK [] more) (merged [] vo) := KV.merge ro .nil
  have hmm : (mergeK [] more).length ≤ 900 := by
    have h1 := length_mergeK more []
    rw [List.length_nil] at h1; omega
  have heD : ∃ q, h'.get? s.heap.objs.size = some q := let ⟨q, _, _, hq, _⟩ := dD'; ⟨q, hq⟩
  have I3 := d_write (t' := s1.toks) I2 (by rw [e1]; exact True.intro) hs heD (dk_new (H' := upd H1 s.heap.objs.size (.dK (mergeK [] more))) (by rw [sizeLine_eq]; omega) lowD rm dD')
  have hnB := I3.hok.fresh (Nat.le_refl h'.objs.size)
  have I4 := I3.laid (a := h'.objs.size) (o := .dK []) (h' := h'.push { cls := .type "dict", data := .dict #[] }) (t' := s1.toks) (fun _ _ q => Heap.get?_push_of_some _ q) (Nat.le_refl _) (dk_empty h' I3.big)
  refine wpAny_bind (wpAny_holding (wpAny_subDict (knd := mixKind X.prog X.w) (Nat.le_of_ble_eq_true rfl) (thn (hp.run pins _ σ _ _ I4 (q2 _ hnB)) fun ws s2 ⟨ps, H2, I5, rel, eB, neB, cur, kvs, eD, lc, eps, lk, q3⟩ => ?_)))
  subst eps
  obtain ⟨rs, c, rk⟩ := carries_of (P := X.prog) (w := X.w) rel
  obtain ⟨_, lowB, vB, rB, dB⟩ := dk_of I5.hok eB
  cases rB
  refine ⟨rs, c, dB, fun h2 dB' hsB => ?_⟩
  have rkm : KV (mergeK [] kvs) (merged [] rs) := KV.merge rk .nil
  have hkl : (mergeK [] kvs).length ≤ 15 := by
    have h1 := length_mergeK kvs []
    rw [List.length_nil] at h1; omega
  have heB : ∃ q, h2.get? h'.objs.size = some q := let ⟨q, _, _, hq, _⟩ := dB'; ⟨q, hq⟩
  have I6 := d_write (t' := s2.toks + ws.length) I5 (by rw [eB]; exact True.intro) hsB heB (dk_new (H' := upd H2 h'.objs.size (.dK (mergeK [] kvs))) (by rw [sizeLine_eq]; omega) lowB rkm dB')
  have eD' : upd H2 h'.objs.size (.dK (mergeK [] kvs)) s.heap.objs.size = some (.dK cur) := by rw [upd_ne neB]; exact eD
  obtain ⟨_, _, vD2, rD2, dD2⟩ := dk_of I6.hok eD'
  have l1 : vD2.length ≤ 900 := by rw [← rD2.length]; exact lc
  have l2 : (merged [] rs).length ≤ 15 := by rw [← rkm.length]; exact hkl
  refine wpAny_bind (wpAny_onRaise (wpAny_holding (FroS.mergeMapping_pairs (knd := mixKind X.prog X.w) plain_mix neB lowB dD2 dB' (fun h3 dD3 _ hs3 => ?_) (by rw [sizeLine_eq]; omega))))
  have rm3 : KV (mergeK cur (mergeK [] kvs)) (merged vD2 (merged [] rs)) := KV.merge rkm rD2
  have h3l : (mergeK cur (mergeK [] kvs)).length ≤ sizeLine := by
    have h1 := length_mergeK (mergeK [] kvs) cur
    rw [sizeLine_eq]; omega
  have heD3 : ∃ q, h3.get? s.heap.objs.size = some q := let ⟨q, _, _, hq, _⟩ := dD3; ⟨q, hq⟩
  refine wpAny_pure ⟨.ref s.heap.objs.size, _, ?_, rfl, q3⟩
  exact d_write (t' := s2.toks + ws.length) I6 (by rw [eD']; exact True.intro) hs3 heD3 (dk_new h3l lowD rm3 dD3)

def endStar (n : Nat) (fs : List (Tx × D)) (S2 : Sto) : R W := match S2[n]?, S2[n + 1]? with
  | some (.dct g), some (.dct []) => if fs.length ≤ 15 ∧ g.length ≤ 900 ∧ S2.length = n + 2 then .ok (.v (.dct (mergeE g (mergeE [] fs)))) (S2.take n) else .bad
  | _, _ => .bad
def midStar (k v : Den W) (δ : Slots) (n : Nat) (x : W) (S1 : Sto) : R W := match x, S1[n]? with
  | .v (.dct es), some (.dct []) => if es.length ≤ 900 ∧ S1.length = n + 1 then (pairsD [(k, v)] δ (S1.set n (.dct (mergeE [] es)) ++ [.dct []])).bind fun fs S2 => endStar n fs S2 else .bad
  | _, _ => .bad
/-- {**m, k: v} -/
def cStar (m k v : Den W) : Den W := fun δ S => (m δ (S ++ [.dct []])).bind fun x S1 => midStar k v δ S.length x S1
theorem take_set2 {S : Sto} {n : Nat} {a b : Ob} : ((S.set (n + 1) a).set n b).take n = S.take n := by
  apply List.ext_getElem?
  intro j
  by_cases hj : j < n
  · rw [List.getElem?_take_of_lt hj, List.getElem?_take_of_lt hj, List.getElem?_set_ne (by omega), List.getElem?_set_ne (by omega)]
  · rw [List.getElem?_eq_none (by rw [List.length_take]; omega), List.getElem?_eq_none (by rw [List.length_take]; omega)]
section
variable {K : PySem.W.Frag} {E : XP}
theorem star_post {m k v : Den W} {σ : L2.St} {H : Hp} {Q : VK} (h : tE K E (cStar m k v) σ H Q) : tStar (tE K E m) (tE K E k) (tE K E v) σ H Q := fun p np => by
  obtain ⟨δ, ρ, S, st, so, ps'⟩ := h
  have fg : Fwd ρ S H (ρ ++ [p]) (S ++ [.dct []]) (upd H p (.dK [])) := Fwd.grown so np _
  have sg : Sok K (ρ ++ [p]) (S ++ [.dct []]) (upd H p (.dK [])) := so.grown np _ ⟨[], upd_same, .nil⟩
  have ep : (ρ ++ [p])[S.length]? = some p := by rw [← so.len]; simp
  refine tG_thenB fg (fg.st st) sg ps' fun x S1 u ρ1 H1 f1 st1 so1 r1 p1 => ?_
  have e1 : ρ1[S.length]? = some p := f1.at ep
  unfold midStar at p1
  split at p1
  · rename_i es q
    split at p1
    · rename_i hc
      obtain ⟨xs, ex, rx⟩ := so1.obs _ _ _ e1 q
      cases rx
      cases r1 with
      | dct hb nb rb =>
      rename_i o more
      have ne : p ≠ o := fun z => nb (z ▸ ⟨_, _, e1, q, rfl⟩)
      refine ⟨ex, o, more, rfl, ne, hb, by rw [← rpE_len rb]; exact hc.1, fun B nB => ?_⟩
      have fc : Fwd ρ1 S1 H1 ρ1 (S1.set S.length (.dct (mergeE [] es))) (upd H1 p (.dK (mergeK [] more))) := Fwd.changed so1 e1 q rfl
      have rm : RpE K (upd H1 p (.dK (mergeK [] more))) (live ρ1 (S1.set S.length (.dct (mergeE [] es)))) (mergeE [] es) (mergeK [] more) := fc.rpE (rpE_merge rb .nil)
      have sc : Sok K ρ1 (S1.set S.length (.dct (mergeE [] es))) (upd H1 p (.dK (mergeK [] more))) := so1.changed e1 q rfl ⟨_, upd_same, rm⟩
      have fB : Fwd ρ1 (S1.set S.length (.dct (mergeE [] es))) (upd H1 p (.dK (mergeK [] more))) (ρ1 ++ [B]) (S1.set S.length (.dct (mergeE [] es)) ++ [.dct []]) (upd (upd H1 p (.dK (mergeK [] more))) B (.dK [])) := Fwd.grown sc nB _
      have sB : Sok K (ρ1 ++ [B]) (S1.set S.length (.dct (mergeE [] es)) ++ [.dct []]) (upd (upd H1 p (.dK (mergeK [] more))) B (.dK [])) := sc.grown nB _ ⟨[], upd_same, .nil⟩
      have l1 : ρ1.length = S.length + 1 := by rw [so1.len]; exact hc.2
      have neB : p ≠ B := fun z => by
        rw [← z, upd_same] at nB
        exact nomatch nB
      refine pairs_then (ps := [(k, v)]) (fg.trans (f1.trans (fc.trans fB))) (fB.st (fc.st st1)) sB p1 fun fs S2 kvs ρ2 H2 f2 so2 re p2 => ?_
      have eD2 : ρ2[S.length]? = some p := f2.at (fB.at (fc.at e1))
      have eB2 : ρ2[S.length + 1]? = some B := f2.at (by rw [← l1]; simp)
      unfold endStar at p2
      split at p2
      · rename_i g q1 q2
        split at p2
        · rename_i hc2
          obtain ⟨cur, hcur, rcur⟩ := so2.obs _ _ _ eD2 q1
          obtain ⟨zs, hB, rB⟩ := so2.obs _ _ _ eB2 q2
          cases rB
          refine ⟨hB, neB, cur, kvs, hcur, by rw [← rpE_len rcur]; exact hc2.2.1, rfl, by rw [← rpE_len re]; exact hc2.1, ?_⟩
          have fc1 : Fwd ρ2 S2 H2 ρ2 (S2.set (S.length + 1) (.dct (mergeE [] fs))) (upd H2 B (.dK (mergeK [] kvs))) := Fwd.changed so2 eB2 q2 rfl
          have rf := fc1.rpE (rpE_merge re .nil)
          have sc1 : Sok K ρ2 (S2.set (S.length + 1) (.dct (mergeE [] fs))) (upd H2 B (.dK (mergeK [] kvs))) := so2.changed eB2 q2 rfl ⟨_, upd_same, rf⟩
          have q1' : (S2.set (S.length + 1) (.dct (mergeE [] fs)))[S.length]? = some (.dct g) := by rw [List.getElem?_set_ne (by omega)]; exact q1
          have fc2 : Fwd ρ2 (S2.set (S.length + 1) (.dct (mergeE [] fs))) (upd H2 B (.dK (mergeK [] kvs))) ρ2 ((S2.set (S.length + 1) (.dct (mergeE [] fs))).set S.length (.dct (mergeE g (mergeE [] fs)))) (upd (upd H2 B (.dK (mergeK [] kvs))) p (.dK (mergeK cur (mergeK [] kvs)))) := Fwd.changed sc1 eD2 q1' rfl
          have rm2 := fc2.rpE (rpE_merge rf (fc1.rpE rcur))
          have sc2 : Sok K ρ2 ((S2.set (S.length + 1) (.dct (mergeE [] fs))).set S.length (.dct (mergeE g (mergeE [] fs)))) (upd (upd H2 B (.dK (mergeK [] kvs))) p (.dK (mergeK cur (mergeK [] kvs)))) := sc1.changed eD2 q1' rfl ⟨_, upd_same, rm2⟩
          have ff := fg.trans (f1.trans (fc.trans (fB.trans (f2.trans (fc1.trans fc2)))))
          obtain ⟨more', em⟩ := ff.ext
          have t := sc2.take S.length
          rw [em, take_pre so.len, ← em] at t
          have fcut := ff.cut so.len sc2.len
          rw [take_set2] at t fcut
          have np' : ¬ live ρ (S2.take S.length) p := fun l => so.notIn np (by
            obtain ⟨j, o, h1, _, _⟩ := l
            exact List.mem_of_getElem? h1)
          exact p2 (.ref p) ρ _ fcut t.1 (Rp.dct (.inl upd_same) np' (rm2.weak t.2))
        · exact p2.elim
      · exact p2.elim
    · exact p1.elim
  · exact p1.elim
end
theorem de_star {X : Cx} {E : XP} {pos : Pos} {m k v : Expr} {a b c : Den W} (hm : PE X m (tE X.K E a)) (hk : PE X k (tE X.K E b)) (hv : PE X v (tE X.K E c)) : PE X (.Dict [none, some k] [m, v] pos) (tE X.K E (cStar a b c)) :=
  pe_mono (pe_star hm (pps_cons hk hv pps_nil)) fun σ H Q z => star_post z
end Fro

set_option maxHeartbeats 1000000
/-! Fro: TABLE.get(k), TABLE.get(k, x); d.get(k). -/
namespace Fro
open PySem PySem.Spec L2 PyProof.Rows
section
variable {X : Cx} {d : Addr} {es : Array DictEntry} {n : Nat} {x : Str} {e f : Expr} {p apos cpos : Pos} {ty tx : TE}
def tKGet1 (K : PySem.W.Frag) (d : Addr) (ty : TE) : TE := fun σ H Q => ty σ H fun y H1 => ∃ (z : Str) (r : Option Value) (v0 : V), y = .str z ∧ PySem.W.nsIn K d z = some r ∧ RelV v0 (r.getD .none) ∧ Q v0 H1
def tKGet2 (K : PySem.W.Frag) (d : Addr) (ty tx : TE) : TE := fun σ H Q => ty σ H fun y H1 => tx σ H1 fun y2 H2 => ∃ (z : Str) (r : Option Value), y = .str z ∧ PySem.W.nsIn K d z = some r ∧ ((r = none ∧ Q y2 H2) ∨ ∃ (u0 : Value) (v0 : V), r = some u0 ∧ RelV v0 u0 ∧ Q v0 H2)
theorem pe_kget1 (D : KDict X.K X.w d es n) (ho : PE X (.Name x p) (fun σ H Q => Q (.ref d) H)) (he : PE X e ty) (m : M1 X (.Name x p) "get" apos e cpos) : PE X (.Call (.Attribute (.Name x p) "get" apos) [e] [] cpos) (tKGet1 X.K d ty) := by
  refine ⟨fun pins s σ H Q I h => ?_⟩
  refine wpAny_Call_method m.base m.few m.line PySem.F.plainAttrs_dict PySem.F.slot_dict_get PySem.F.type_dict_get (thn (ho.run pins s σ H (fun x H1 => x = .ref d ∧ H1 = H) I ⟨rfl, rfl⟩) fun u s1 ⟨x, H1, I1, rx, ex, eH⟩ => ?_)
  subst ex eH
  obtain rfl : u = Value.ref d := rx
  refine ⟨kd_type D I1, fun b q => by cases q; exact ⟨_, I1.kIn _ _ D.at_, rfl⟩, ?_⟩
  rw [m.trees]
  refine Calls.callWith_builtin rfl (Calls.evalArgs_plain (Calls.spliced_cons (thn (he.run pins s1 σ _ _ I1 h) fun iv s2 ⟨y, H2, I2, ry, z, r, v0, ey, en, rv, q2⟩ => Calls.spliced_nil ?_)))
  subst ey
  obtain ⟨t, rfl⟩ := ry
  refine call_meetsIn PySem.F.slot_dict_get (kd_type D I2) PySem.F.entry_dict_get (PySem.F.args_dict_get_2 _ _) (meets_dict_get (PySem.strKind X.prog X.w) d (PySem.strKind_is X.prog X.w z t) D.low) ⟨_, PySem.W.mapOf_K (prog := X.prog) I2.kIn D.at_ D.lit, ?_⟩
  rw [PySem.W.find_K D.at_ en]
  exact ⟨v0, H2, I2.tok _, rv, q2⟩
theorem pe_kget2 (D : KDict X.K X.w d es n) (ho : PE X (.Name x p) (fun σ H Q => Q (.ref d) H)) (he : PE X e ty) (hf : PE X f tx) (m : M2 X (.Name x p) "get" apos e f cpos) : PE X (.Call (.Attribute (.Name x p) "get" apos) [e, f] [] cpos) (tKGet2 X.K d ty tx) := by
  refine ⟨fun pins s σ H Q I h => ?_⟩
  refine wpAny_Call_method m.base m.few m.line PySem.F.plainAttrs_dict PySem.F.slot_dict_get PySem.F.type_dict_get (thn (ho.run pins s σ H (fun x H1 => x = .ref d ∧ H1 = H) I ⟨rfl, rfl⟩) fun u s1 ⟨x, H1, I1, rx, ex, eH⟩ => ?_)
  subst ex eH
  obtain rfl : u = Value.ref d := rx
  refine ⟨kd_type D I1, fun b q => by cases q; exact ⟨_, I1.kIn _ _ D.at_, rfl⟩, ?_⟩
  rw [m.trees]
  refine Calls.callWith_builtin rfl (Calls.evalArgs_plain (Calls.spliced_cons (thn (he.run pins s1 σ _ _ I1 h) fun iv s2 ⟨y, H2, I2, ry, q2⟩ =>
    Calls.spliced_cons (thn (hf.run pins s2 σ H2 _ I2 q2) fun fv s3 ⟨y2, H3, I3, rz, z, r, ey, en, q3⟩ => Calls.spliced_nil ?_))))
  subst ey
  obtain ⟨t, rfl⟩ := ry
  refine call_meetsIn PySem.F.slot_dict_get (kd_type D I3) PySem.F.entry_dict_get (PySem.F.args_dict_get_3 _ _ _) (meets_dict_get_default (PySem.strKind X.prog X.w) d (PySem.strKind_is X.prog X.w z t) D.low fv) ⟨_, PySem.W.mapOf_K (prog := X.prog) I3.kIn D.at_ D.lit, ?_⟩
  rw [PySem.W.find_K D.at_ en]
  rcases q3 with ⟨rfl, q3⟩ | ⟨u0, v0, rfl, rv, q3⟩
  · exact ⟨y2, H3, I3.tok _, rz, q3⟩
  · exact ⟨v0, H3, I3.tok _, rv, q3⟩
end
def apKGet1 (tbl : List (Tx × D)) (x : W) (S : Sto) : R W := match x with
  | .v (.str t) => (match lkT tbl t with
    | some d => .ok (.v d) S
    | none => .ok (.v .non) S)
  | _ => .bad
def cKGet1 (tbl : List (Tx × D)) (a : Den W) : Den W := fun δ S => (a δ S).bind fun x S1 => apKGet1 tbl x S1
def apKGet2 (tbl : List (Tx × D)) (x z : W) (S : Sto) : R W := match x with
  | .v (.str t) => (match lkT tbl t with
    | some d => .ok (.v d) S
    | none => .ok z S)
  | _ => .bad
def cKGet2 (tbl : List (Tx × D)) (a b : Den W) : Den W := fun δ S => (a δ S).bind fun x S1 => (b δ S1).bind fun z S2 => apKGet2 tbl x z S2
section
variable {X : Cx} {E : XP} {e f : Expr} {x : Str} {p apos cpos : Pos} {a b : Den W} {d : Addr} {tbl : List (Tx × D)}
theorem de_kget1 (hk : KD X.K X.w d tbl) (hm : X.mg x = some (.ref d)) (ha : PE X e (tE X.K E a)) (hg : Gl X x := by rfl) (hd : (x == ("__debug__" : Str)) = false := by decide) (m : M1 X (.Name x p) "get" apos e cpos := by exact ⟨rfl, rfl, rfl, rfl⟩) :
    PE X (.Call (.Attribute (.Name x p) "get" apos) [e] [] cpos) (tE X.K E (cKGet1 tbl a)) := by
  obtain ⟨es, n, mm, kd, he⟩ := hk.ex
  refine pe_mono (pe_kget1 kd (pe_glob hg hm (v := .ref d) rfl hd) ha m) fun σ H Q ⟨δ, ρ, S, st, so, p⟩ => tG_then st so p fun w S1 v ρ1 H1 f1 st1 so1 r1 p1 => ?_
  unfold apKGet1 at p1
  split at p1
  · rename_i t
    cases r1
    rcases hk.look t with ⟨q1, q2⟩ | ⟨dd, u, vv, q1, q2, q3, q4⟩
    · simp only [q1] at p1
      exact ⟨_, none, .non, rfl, q2, rfl, p1 _ ρ1 H1 Fwd.refl so1 .non⟩
    · simp only [q1] at p1
      exact ⟨_, some u, vv, rfl, q2, q3, p1 _ ρ1 H1 Fwd.refl so1 (q4 _ _)⟩
  · exact p1.elim
theorem de_kget2 (hk : KD X.K X.w d tbl) (hm : X.mg x = some (.ref d)) (ha : PE X e (tE X.K E a)) (hb : PE X f (tE X.K E b)) (hg : Gl X x := by rfl) (hd : (x == ("__debug__" : Str)) = false := by decide) (m : M2 X (.Name x p) "get" apos e f cpos := by exact ⟨rfl, rfl, rfl, rfl⟩) :
    PE X (.Call (.Attribute (.Name x p) "get" apos) [e, f] [] cpos) (tE X.K E (cKGet2 tbl a b)) := by
  obtain ⟨es, n, mm, kd, he⟩ := hk.ex
  refine pe_mono (pe_kget2 kd (pe_glob hg hm (v := .ref d) rfl hd) ha hb m) fun σ H Q ⟨δ, ρ, S, st, so, p⟩ => tG_then st so p fun w S1 v ρ1 H1 f1 st1 so1 r1 p1 => tG_then st1 so1 p1 fun w2 S2 v2 ρ2 H2 f2 st2 so2 r2 p2 => ?_
  have rx := f2.rw r1
  unfold apKGet2 at p2
  split at p2
  · rename_i t
    cases rx
    rcases hk.look t with ⟨q1, q2⟩ | ⟨dd, u, vv, q1, q2, q3, q4⟩
    · simp only [q1] at p2
      exact ⟨_, none, rfl, q2, .inl ⟨rfl, p2 _ ρ2 H2 Fwd.refl so2 r2⟩⟩
    · simp only [q1] at p2
      exact ⟨_, some u, rfl, q2, .inr ⟨u, vv, rfl, q3, p2 _ ρ2 H2 Fwd.refl so2 (q4 _ _)⟩⟩
  · exact p2.elim
end
end Fro

set_option maxHeartbeats 1000000
/-! Fro: x == (), whatever stands in x. -/
namespace Fro
open PySem PySem.Spec L2
def gEqT0 : D → D → Option D := fun d e => match d, e with
  | .tup ds, .tup [] => some (.bl ds.isEmpty)
  | _, _ => none
def rEqT0 (K : PySem.W.Frag) : R2 := fun x y H Q => ∃ a b xs, x = .ref a ∧ y = .ref b ∧ SqT K H a xs ∧ SqT K H b [] ∧ Q (.bl xs.isEmpty) H
theorem op_eqT0 {X : Cx} (hu : X.A.units < cLine) : OpR X (compareOp .Eq) (rEqT0 X.K) := by
  intro pins s σ H x y v u Q I rx ry h
  obtain ⟨a, b, xs, rfl, rfl, ha, hb, q⟩ := h
  cases (show v = Value.ref a from rx)
  cases (show u = Value.ref b from ry)
  obtain ⟨us, r1, p1, _⟩ := I.tuple ha
  obtain ⟨ws, r2, p2, _⟩ := I.tuple hb
  have hw : ws = [] := by cases r2; rfl
  subst hw
  have hl : xs.length = us.length := r1.length
  refine SeqAt.eq_tupleAt (e := fun _ => true) p1 p2 hu (fun j h1 h2 => absurd h2 (by simp)) ?_
  have e : ((List.range (min us.toArray.size (([] : List Value).toArray).size)).all (fun _ => true) && us.toArray.size == (([] : List Value).toArray).size) = xs.isEmpty := by
    cases xs with
    | nil => cases us with
      | nil => rfl
      | cons _ _ => simp at hl
    | cons x xs => cases us with
      | nil => simp at hl
      | cons _ _ => simp
  rw [e]
  exact ⟨.bl _, H, I, rfl, q⟩
theorem rq_tup {K : PySem.W.Frag} {H : Hp} {M : Addr → Prop} {ds : List D} {v : V} (h : Rq K H M (.tup ds) v) : ∃ a xs, v = .ref a ∧ SqT K H a xs ∧ RpL K H M ds xs := by
  cases h with
  | of h => cases h with
    | tup sq r => exact ⟨_, _, rfl, sq, r⟩
theorem g2_eqT0 {K : PySem.W.Frag} : G2 K (rEqT0 K) gEqT0 := fun ρ S H d e z x y Q so rx ry q n => by
  unfold gEqT0 at q
  split at q
  · rename_i ds
    cases q
    obtain ⟨a, xs, rfl, sa, la⟩ := rq_tup rx
    obtain ⟨b, ys, rfl, sb, lb⟩ := rq_tup ry
    cases lb
    refine ⟨a, b, xs, rfl, rfl, sa, sb, ?_⟩
    have e : xs.isEmpty = ds.isEmpty := by cases la <;> rfl
    rw [e]
    exact nxt_here so (.bl _) n
  · cases q
end Fro


namespace Fro
open PySem PySem.Spec L2
/-! ### constants -/
def k_BARRED : D := (.tup [(.str [97, 108, 108]), (.str [102, 117, 110]), (.str [105, 110]), (.str [108, 101, 116]), (.str [116, 114, 117, 101]), (.str [102, 97, 108, 115, 101])])
def k_MOST_SIGNS : D := (.int 8)
def k_LETTERS : D := (.str [97, 98, 99, 100, 101, 102, 103, 104, 105, 106, 107, 108, 109, 110, 111, 112, 113, 114, 115, 116, 117, 118, 119, 120, 121, 122])
def tbl_LENGTHS : List (Tx × D) := [([110, 97, 109, 101], (.int 2)), ([102, 117, 110], (.int 3)), ([97, 112, 112], (.int 3)), ([108, 101, 116], (.int 4)), ([105, 110, 116], (.int 2)), ([98, 111, 111, 108], (.int 2)), ([117, 110, 105, 116], (.int 1)), ([112, 97, 105, 114], (.int 3))]
def tbl_SPOTS : List (Tx × D) := [([102, 117, 110], (.tup [(.int 2)])), ([97, 112, 112], (.tup [(.int 1), (.int 2)])), ([108, 101, 116], (.tup [(.int 2), (.int 3)])), ([112, 97, 105, 114], (.tup [(.int 1), (.int 2)]))]
/-! ### denotations -/
def b__law_well : DenS :=
    (cSeq (cAsg (cIf (cB (op2 gLt (cVar 1) (cLen (cCons (cVar 0) cNil)))) (cIx (cVar 0) (cVar 1)) (op2 gMul (cC (.int 7919)) (cVar 1))) (gN 2))
    (cRet (cLstM (cCons (cVar 2) (cCons (op2 gMod (cBlt gInt (cCons (cVar 2) cNil)) (cC (.int 2147483629))) (cCons (cC (.int 0)) cNil))))))
def f__law_well : FDen := fdef 3 b__law_well
def b_is_name : DenS :=
    (cSeq (cIfS (cOr (cNot (cB (cBlt gIsi (cCons (cVar 0) (cCons (cC (.ty .str)) cNil))))) (cB (op2 gIn (cVar 0) (cC k_BARRED))))
    (cRet (cC (.bl false)))
    cNx)
    (cRet (cAndV (cChain gLe gLe (cC (.int 1)) (cLen (cCons (cVar 0) cNil)) (cC k_MOST_SIGNS)) (cBlt gAll (cCons (cComp (itS (cVar 0)) (gN 1) cYes (op2 gIn (cVar 1) (cC k_LETTERS)) [1]) cNil)))))
def f_is_name : FDen := fdef 2 b_is_name
def b_is_whole : DenS :=
    (cRet (cAndV (cBlt gIsi (cCons (cVar 0) (cCons (cC (.ty .int)) cNil))) (cNotV (cBlt gIsi (cCons (cVar 0) (cCons (cC (.ty .bl)) cNil))))))
def f_is_whole : FDen := fdef 1 b_is_whole
def b_has_form : DenS :=
    (cSeq (cIfS (cOr (cNot (cB (cBlt gIsi (cCons (cVar 0) (cCons (cC (.ty .tup)) cNil))))) (cOr (cB (op2 gEqT0 (cVar 0) (cTup cNil))) (cNot (cB (cBlt gIsi (cCons (cIx (cVar 0) (cC (.int 0))) (cCons (cC (.ty .str)) cNil)))))))
    (cRet (cC (.bl false)))
    cNx)
    (cSeq (cIfS (cB (op2 gNe (cKGet1 tbl_LENGTHS (cIx (cVar 0) (cC (.int 0)))) (cLen (cCons (cVar 0) cNil))))
    (cRet (cC (.bl false)))
    cNx)
    (cSeq (cIfS (cB (op2 gIn (cIx (cVar 0) (cC (.int 0))) (cTup (cCons (cC (.str [110, 97, 109, 101])) (cCons (cC (.str [102, 117, 110])) (cCons (cC (.str [108, 101, 116])) cNil))))))
    (cRet (cCall 1 f_is_name (cCons (cIx (cVar 0) (cC (.int 1))) cNil) []))
    cNx)
    (cSeq (cIfS (cB (op2 gEq (cIx (cVar 0) (cC (.int 0))) (cC (.str [105, 110, 116]))))
    (cRet (cCall 1 f_is_whole (cCons (cIx (cVar 0) (cC (.int 1))) cNil) []))
    cNx)
    (cRet (cOrV (op2 gNe (cIx (cVar 0) (cC (.int 0))) (cC (.str [98, 111, 111, 108]))) (cBlt gIsi (cCons (cIx (cVar 0) (cC (.int 1))) (cCons (cC (.ty .bl)) cNil)))))))))
def f_has_form : FDen := fdef 1 b_has_form
def l1_want_bare (f : FDen) : DenS :=
    (cExpr (cCall 2 f (cCons (cIx (cVar 0) (cVar 2)) (cCons (op2 gAdd (cVar 1) (cTup (cCons (cVar 2) cNil))) cNil)) []))
def b_want_bare (f : FDen) : DenS :=
    (cSeq (cIfS (cNot (cB (cCall 1 f_has_form (cCons (cVar 0) cNil) [])))
    (cRaise 10 (cCons (cVar 1) cNil))
    cNx)
    (cFor (itT (cKGet2 tbl_SPOTS (cIx (cVar 0) (cC (.int 0))) (cTup cNil))) (gN 2) (l1_want_bare f)))
def f_want_bare : Nat → FDen
  | 0 => fun _ _ => .bad
  | n + 1 => fdef 3 (b_want_bare (f_want_bare n))
def l1_letter : DenS :=
    (cSeq (cAsg (op2 gAdd (cIx (cC k_LETTERS) (op2 gMod (cBlt gInt (cCons (op2 gSub (cVar 2) (cC (.int 1))) cNil)) (cC (.int 26)))) (cVar 1)) (gN 1))
    (cAsg (op2 gDiv (op2 gSub (cVar 2) (cC (.int 1))) (cC (.int 26))) (gN 2)))
def b_letter : DenS :=
    (cSeq (cAsg (cIx (cC k_LETTERS) (op2 gMod (cBlt gInt (cCons (cVar 0) cNil)) (cC (.int 26)))) (gN 1))
    (cSeq (cAsg (op2 gDiv (cVar 0) (cC (.int 26))) (gN 2))
    (cSeq (cWhile 100000 (cB (op2 gGt (cVar 2) (cC (.int 0)))) l1_letter)
    (cRet (cVar 1)))))
def f_letter : FDen := fdef 3 b_letter
def l1_first_letters : DenS :=
    (cAsg (op2 gAdd (cVar 1) (cC (.int 1))) (gN 1))
def b_first_letters : DenS :=
    (cSeq (cAsg (cC (.int 0)) (gN 1))
    (cSeq (cWhile 100000 (cOr (cB (op2 gIn (cCall 1 f_letter (cCons (cVar 1) cNil) []) (cVar 0))) (cB (op2 gIn (cCall 1 f_letter (cCons (cVar 1) cNil) []) (cC k_BARRED)))) l1_first_letters)
    (cRet (cCall 1 f_letter (cCons (cVar 1) cNil) []))))
def f_first_letters : FDen := fdef 2 b_first_letters
def b_relettered (f : FDen) : DenS :=
    (cSeq (cIfS (cB (op2 gEq (cIx (cVar 0) (cC (.int 0))) (cC (.str [110, 97, 109, 101]))))
    (cRet (cTup (cCons (cC (.str [110, 97, 109, 101])) (cCons (cDGet2 (cVar 1) (cIx (cVar 0) (cC (.int 1))) (cIx (cVar 0) (cC (.int 1)))) cNil))))
    cNx)
    (cSeq (cIfS (cB (op2 gEq (cIx (cVar 0) (cC (.int 0))) (cC (.str [102, 117, 110]))))
    (cSeq (cAsg (cCall 1 f_first_letters (cCons (cVar 2) cNil) []) (gN 3))
    (cRet (cTup (cCons (cC (.str [102, 117, 110])) (cCons (cVar 3) (cCons (cCall 3 f (cCons (cIx (cVar 0) (cC (.int 2))) (cCons (cStar (cVar 1) (cIx (cVar 0) (cC (.int 1))) (cVar 3)) (cCons (op2 gAdd (cVar 2) (cLst (cCons (cVar 3) cNil))) cNil))) []) cNil))))))
    cNx)
    (cSeq (cIfS (cB (op2 gEq (cIx (cVar 0) (cC (.int 0))) (cC (.str [108, 101, 116]))))
    (cSeq (cPar [3, 4] (cCons (cCall 1 f_first_letters (cCons (cVar 2) cNil) []) (cCons (cCall 3 f (cCons (cIx (cVar 0) (cC (.int 2))) (cCons (cVar 1) (cCons (cVar 2) cNil))) []) cNil)))
    (cRet (cTup (cCons (cC (.str [108, 101, 116])) (cCons (cVar 3) (cCons (cVar 4) (cCons (cCall 3 f (cCons (cIx (cVar 0) (cC (.int 3))) (cCons (cStar (cVar 1) (cIx (cVar 0) (cC (.int 1))) (cVar 3)) (cCons (op2 gAdd (cVar 2) (cLst (cCons (cVar 3) cNil))) cNil))) []) cNil)))))))
    cNx)
    (cSeq (cIfS (cB (op2 gIn (cIx (cVar 0) (cC (.int 0))) (cTup (cCons (cC (.str [97, 112, 112])) (cCons (cC (.str [112, 97, 105, 114])) cNil)))))
    (cRet (cTup (cCons (cIx (cVar 0) (cC (.int 0))) (cCons (cCall 3 f (cCons (cIx (cVar 0) (cC (.int 1))) (cCons (cVar 1) (cCons (cVar 2) cNil))) []) (cCons (cCall 3 f (cCons (cIx (cVar 0) (cC (.int 2))) (cCons (cVar 1) (cCons (cVar 2) cNil))) []) cNil)))))
    cNx)
    (cRet (cVar 0))))))
def f_relettered : Nat → FDen
  | 0 => fun _ _ => .bad
  | n + 1 => fdef 5 (b_relettered (f_relettered n))
def l1_free_names (f : FDen) : DenS :=
    (cSeq (cAsg (cCall 1 f (cCons (cIx (cVar 0) (cVar 2)) cNil) []) (gN 3))
    (cSeq (cIfS (cOr (cB (op2 gEq (cIx (cVar 0) (cC (.int 0))) (cC (.str [102, 117, 110])))) (cAnd (cB (op2 gEq (cIx (cVar 0) (cC (.int 0))) (cC (.str [108, 101, 116])))) (cB (op2 gEq (cVar 2) (cC (.int 3))))))
    (cAsg (cComp (itL (cVar 3)) (gN 4) (cB (op2 gNe (cVar 4) (cIx (cVar 0) (cC (.int 1))))) (cVar 4) [4]) (gN 3))
    cNx)
    (cExpr (cExtend (cVar 1) (cComp (itL (cVar 3)) (gN 4) (cB (op2 gNotIn (cVar 4) (cVar 1))) (cVar 4) [4])))))
def b_free_names (f : FDen) : DenS :=
    (cSeq (cIfS (cB (op2 gEq (cIx (cVar 0) (cC (.int 0))) (cC (.str [110, 97, 109, 101]))))
    (cRet (cLst (cCons (cIx (cVar 0) (cC (.int 1))) cNil)))
    cNx)
    (cSeq (cAsg (cLstM cNil) (gN 1))
    (cSeq (cFor (itT (cKGet2 tbl_SPOTS (cIx (cVar 0) (cC (.int 0))) (cTup cNil))) (gN 2) (l1_free_names f))
    (cRet (cVar 1)))))
def f_free_names : Nat → FDen
  | 0 => fun _ _ => .bad
  | n + 1 => fdef 5 (b_free_names (f_free_names n))
def b_plain_bare : DenS :=
    (cRet (cCall 3 (f_relettered 60) (cCons (cVar 0) (cCons cDict0 (cCons (cCall 1 (f_free_names 60) (cCons (cVar 0) cNil) []) cNil))) []))
def f_plain_bare : FDen := fdef 1 b_plain_bare
def b_exchanged (f0 f1 : FDen) : DenS :=
    (cSeq (cIfS (cB (op2 gEq (cIx (cVar 0) (cC (.int 0))) (cC (.str [110, 97, 109, 101]))))
    (cRet (cIf (cB (op2 gEq (cIx (cVar 0) (cC (.int 1))) (cVar 1))) (cVar 2) (cVar 0)))
    cNx)
    (cSeq (cIfS (cB (op2 gIn (cIx (cVar 0) (cC (.int 0))) (cTup (cCons (cC (.str [97, 112, 112])) (cCons (cC (.str [112, 97, 105, 114])) cNil)))))
    (cRet (cTup (cCons (cIx (cVar 0) (cC (.int 0))) (cCons (cCall 4 f0 (cCons (cIx (cVar 0) (cC (.int 1))) (cCons (cVar 1) (cCons (cVar 2) (cCons (cVar 3) cNil)))) []) (cCons (cCall 4 f0 (cCons (cIx (cVar 0) (cC (.int 2))) (cCons (cVar 1) (cCons (cVar 2) (cCons (cVar 3) cNil)))) []) cNil)))))
    cNx)
    (cSeq (cIfS (cB (op2 gNotIn (cIx (cVar 0) (cC (.int 0))) (cTup (cCons (cC (.str [102, 117, 110])) (cCons (cC (.str [108, 101, 116])) cNil)))))
    (cRet (cVar 0))
    cNx)
    (cSeq (cAsg (cIx (cVar 0) (cNeg (cC (.int 1)))) (gN 4))
    (cSeq (cAsg (cIx (cVar 0) (cC (.int 1))) (gN 5))
    (cSeq (cIfS (cAnd (cB (op2 gNe (cVar 5) (cVar 1))) (cB (op2 gIn (cVar 1) (cCall 1 (f_free_names 60) (cCons (cVar 4) cNil) []))))
    (cSeq (cIfS (cB (op2 gIn (cVar 5) (cVar 3)))
    (cAsg (cCall 3 f1 (cCons (cVar 5) (cCons (cVar 4) (cCons (op2 gAdd (cVar 3) (cLst (cCons (cVar 1) cNil))) cNil))) []) (gT 2 (gsCons (gN 5) (gsCons (gN 4) gsNil))))
    cNx)
    (cAsg (cCall 4 f0 (cCons (cVar 4) (cCons (cVar 1) (cCons (cVar 2) (cCons (cVar 3) cNil)))) []) (gN 4)))
    cNx)
    (cSeq (cIfS (cB (op2 gEq (cIx (cVar 0) (cC (.int 0))) (cC (.str [102, 117, 110]))))
    (cRet (cTup (cCons (cC (.str [102, 117, 110])) (cCons (cVar 5) (cCons (cVar 4) cNil)))))
    cNx)
    (cRet (cTup (cCons (cC (.str [108, 101, 116])) (cCons (cVar 5) (cCons (cCall 4 f0 (cCons (cIx (cVar 0) (cC (.int 2))) (cCons (cVar 1) (cCons (cVar 2) (cCons (cVar 3) cNil)))) []) (cCons (cVar 4) cNil)))))))))))))
def l1_away_from (f0 f1 : FDen) : DenS :=
    (cAsg (op2 gAdd (cVar 3) (cC (.str [113]))) (gN 3))
def b_away_from (f0 f1 : FDen) : DenS :=
    (cSeq (cPar [3, 4] (cCons (cC (.str [113])) (cCons (cCall 1 (f_free_names 60) (cCons (cVar 1) cNil) []) cNil)))
    (cSeq (cWhile 100000 (cOr (cB (op2 gIn (cVar 3) (cVar 4))) (cB (op2 gIn (cVar 3) (cVar 2)))) (l1_away_from f0 f1))
    (cRet (cTup (cCons (cVar 3) (cCons (cCall 4 f0 (cCons (cVar 1) (cCons (cVar 0) (cCons (cTup (cCons (cC (.str [110, 97, 109, 101])) (cCons (cVar 3) cNil))) (cCons (cLst (cCons (cVar 3) cNil)) cNil)))) []) cNil))))))
mutual
def f_exchanged : Nat → FDen
  | 0 => fun _ _ => .bad
  | n + 1 => fdef 6 (b_exchanged (f_exchanged n) (f_away_from n))
def f_away_from : Nat → FDen
  | 0 => fun _ _ => .bad
  | n + 1 => fdef 5 (b_away_from (f_exchanged n) (f_away_from n))
end
def b_filled : DenS :=
    (cRet (cCall 4 (f_exchanged 105) (cCons (cVar 0) (cCons (cVar 1) (cCons (cVar 2) (cCons (cCall 1 (f_free_names 60) (cCons (cVar 2) cNil) []) cNil)))) []))
def f_filled : FDen := fdef 3 b_filled
def b_without_lets (f : FDen) : DenS :=
    (cSeq (cIfS (cB (op2 gEq (cIx (cVar 0) (cC (.int 0))) (cC (.str [108, 101, 116]))))
    (cRet (cCall 3 f_filled (cCons (cCall 1 f (cCons (cIx (cVar 0) (cC (.int 3))) cNil) []) (cCons (cIx (cVar 0) (cC (.int 1))) (cCons (cCall 1 f (cCons (cIx (cVar 0) (cC (.int 2))) cNil) []) cNil))) []))
    cNx)
    (cSeq (cIfS (cB (op2 gEq (cIx (cVar 0) (cC (.int 0))) (cC (.str [102, 117, 110]))))
    (cRet (cTup (cCons (cC (.str [102, 117, 110])) (cCons (cIx (cVar 0) (cC (.int 1))) (cCons (cCall 1 f (cCons (cIx (cVar 0) (cC (.int 2))) cNil) []) cNil)))))
    cNx)
    (cSeq (cIfS (cB (op2 gIn (cIx (cVar 0) (cC (.int 0))) (cTup (cCons (cC (.str [97, 112, 112])) (cCons (cC (.str [112, 97, 105, 114])) cNil)))))
    (cRet (cTup (cCons (cIx (cVar 0) (cC (.int 0))) (cCons (cCall 1 f (cCons (cIx (cVar 0) (cC (.int 1))) cNil) []) (cCons (cCall 1 f (cCons (cIx (cVar 0) (cC (.int 2))) cNil) []) cNil)))))
    cNx)
    (cRet (cVar 0)))))
def f_without_lets : Nat → FDen
  | 0 => fun _ _ => .bad
  | n + 1 => fdef 1 (b_without_lets (f_without_lets n))
def b_put_in : DenS :=
    (cSeq (cExpr (cCall 2 (f_want_bare 60) (cCons (cVar 0) cNil) [.v (.tup [])]))
    (cRet (cCall 1 f_plain_bare (cCons (cCall 1 (f_without_lets 60) (cCons (cVar 0) cNil) []) cNil) [])))
def f_put_in : FDen := fdef 1 b_put_in
def b__law_draw : DenS :=
    (cSeq (cIfS (cB (op2 gGe (cIx (cVar 0) (cC (.int 0))) (op2 gPow (cC (.int 10)) (cC (.int 18)))))
    (cSeq (cAsg (op2 gMod (cBlt gInt (cCons (cIx (cVar 0) (cC (.int 0))) cNil)) (cVar 1)) (gN 2))
    (cSeq (cAsg (op2 gDiv (cIx (cVar 0) (cC (.int 0))) (cVar 1)) (gSubD (cVar 0) (cC (.int 0))))
    (cRet (cVar 2))))
    cNx)
    (cSeq (cAsg (op2 gAdd (cIx (cVar 0) (cC (.int 2))) (cC (.int 1))) (gSubD (cVar 0) (cC (.int 2))))
    (cSeq (cAsg (op2 gMod (cBlt gInt (cCons (op2 gMul (op2 gAdd (op2 gAdd (cIx (cVar 0) (cC (.int 1))) (op2 gMul (cC (.int 7919)) (cIx (cVar 0) (cC (.int 2))))) (cC (.int 1))) (cC (.int 48271))) cNil)) (cC (.int 2147483647))) (gN 3))
    (cSeq (cAsg (op2 gMod (cBlt gInt (cCons (op2 gMul (cVar 3) (op2 gAdd (op2 gDiv (cVar 3) (cC (.int 1009))) (cC (.int 69621)))) cNil)) (cC (.int 2147483629))) (gN 3))
    (cRet (op2 gMod (cBlt gInt (cCons (op2 gDiv (op2 gMod (cBlt gInt (cCons (op2 gMul (cVar 3) (op2 gAdd (op2 gDiv (cVar 3) (cC (.int 2003))) (cC (.int 40692)))) cNil)) (cC (.int 2147483587))) (cC (.int 5))) cNil)) (cVar 1)))))))
def f__law_draw : FDen := fdef 4 b__law_draw
def b__law_one : DenS :=
    (cRet (cIx (cVar 1) (cCall 2 f__law_draw (cCons (cVar 0) (cCons (cLen (cCons (cVar 1) cNil)) cNil)) [])))
def f__law_one : FDen := fdef 2 b__law_one
def l1__law_raw (f : FDen) : DenS :=
    (cAsg (cTup (cCons (cC (.str [97, 112, 112])) (cCons (cVar 8) (cCons (cCall 3 f (cCons (cVar 0) (cCons (cVar 1) (cCons (op2 gSub (cVar 2) (cC (.int 1))) cNil))) []) cNil)))) (gN 8))
def b__law_raw (f : FDen) : DenS :=
    (cSeq (cAsg (cCall 2 f__law_draw (cCons (cVar 0) (cCons (cIf (cB (op2 gGt (cVar 2) (cC (.int 0)))) (cC (.int 12)) (cC (.int 4))) cNil)) []) (gN 3))
    (cSeq (cAsg (cLst (cCons (cC (.str [102, 115, 116])) (cCons (cC (.str [115, 110, 100])) (cCons (cC (.str [110, 105, 108])) (cCons (cC (.str [99, 111, 110, 115])) (cCons (cC (.str [102, 111, 108, 100])) (cCons (cC (.str [112, 105, 99, 107])) (cCons (cC (.str [105, 116, 101, 114])) (cCons (cC (.str [97, 100, 100])) (cCons (cC (.str [108, 101, 115, 115])) (cCons (cC (.str [117])) cNil))))))))))) (gN 4))
    (cSeq (cIfS (cB (op2 gLt (cVar 3) (cC (.int 4))))
    (cSeq (cAsg (cLst (cCons (cTup (cCons (cC (.str [105, 110, 116])) (cCons (op2 gSub (cCall 2 f__law_draw (cCons (cVar 0) (cCons (cC (.int 5)) cNil)) []) (cC (.int 1))) cNil))) (cCons (cTup (cCons (cC (.str [98, 111, 111, 108])) (cCons (op2 gEq (cCall 2 f__law_draw (cCons (cVar 0) (cCons (cC (.int 2)) cNil)) []) (cC (.int 0))) cNil))) (cCons (cTup (cCons (cC (.str [117, 110, 105, 116])) cNil)) (cCons (cTup (cCons (cC (.str [110, 97, 109, 101])) (cCons (cC (.str [110, 105, 108])) cNil))) cNil))))) (gN 5))
    (cSeq (cAsg (op2 gAdd (cVar 5) (op2 gMul (cLst (cCons (cTup (cCons (cC (.str [110, 97, 109, 101])) (cCons (cCall 2 f__law_one (cCons (cVar 0) (cCons (op2 gAdd (op2 gAdd (op2 gAdd (cVar 4) (cVar 1)) (cVar 1)) (cVar 1)) cNil)) []) cNil))) cNil)) (cC (.int 4)))) (gN 5))
    (cRet (cCall 2 f__law_one (cCons (cVar 0) (cCons (cVar 5) cNil)) []))))
    cNx)
    (cSeq (cAsg (cCall 2 f__law_one (cCons (cVar 0) (cCons (cLst (cCons (cC (.str [120])) (cCons (cC (.str [121])) (cCons (cC (.str [122])) (cCons (cC (.str [97])) (cCons (cC (.str [98])) (cCons (cC (.str [97, 100, 100])) (cCons (cC (.str [113])) (cCons (cC (.str [102, 115, 116])) (cCons (cC (.str [110, 105, 108])) (cCons (cC (.str [99, 111, 110, 115])) (cCons (cC (.str [105, 116, 101, 114])) cNil)))))))))))) cNil)) []) (gN 6))
    (cSeq (cIfS (cOr (cB (op2 gEq (cVar 3) (cC (.int 4)))) (cB (op2 gEq (cVar 3) (cC (.int 5)))))
    (cRet (cTup (cCons (cC (.str [102, 117, 110])) (cCons (cVar 6) (cCons (cCall 3 f (cCons (cVar 0) (cCons (op2 gAdd (cVar 1) (cLst (cCons (cVar 6) cNil))) (cCons (op2 gSub (cVar 2) (cC (.int 1))) cNil))) []) cNil)))))
    cNx)
    (cSeq (cIfS (cB (op2 gEq (cVar 3) (cC (.int 6))))
    (cRet (cTup (cCons (cC (.str [108, 101, 116])) (cCons (cVar 6) (cCons (cCall 3 f (cCons (cVar 0) (cCons (cVar 1) (cCons (op2 gSub (cVar 2) (cC (.int 1))) cNil))) []) (cCons (cCall 3 f (cCons (cVar 0) (cCons (op2 gAdd (cVar 1) (cLst (cCons (cVar 6) cNil))) (cCons (op2 gSub (cVar 2) (cC (.int 1))) cNil))) []) cNil))))))
    cNx)
    (cSeq (cIfS (cB (op2 gEq (cVar 3) (cC (.int 7))))
    (cRet (cTup (cCons (cC (.str [112, 97, 105, 114])) (cCons (cCall 3 f (cCons (cVar 0) (cCons (cVar 1) (cCons (op2 gSub (cVar 2) (cC (.int 1))) cNil))) []) (cCons (cCall 3 f (cCons (cVar 0) (cCons (cVar 1) (cCons (op2 gSub (cVar 2) (cC (.int 1))) cNil))) []) cNil)))))
    cNx)
    (cSeq (cIfS (cB (op2 gLt (cVar 3) (cC (.int 10))))
    (cRet (cTup (cCons (cC (.str [97, 112, 112])) (cCons (cCall 3 f (cCons (cVar 0) (cCons (cVar 1) (cCons (op2 gSub (cVar 2) (cC (.int 1))) cNil))) []) (cCons (cCall 3 f (cCons (cVar 0) (cCons (cVar 1) (cCons (op2 gSub (cVar 2) (cC (.int 1))) cNil))) []) cNil)))))
    cNx)
    (cSeq (cAsg (cCall 2 f__law_one (cCons (cVar 0) (cCons (cLst (cCons (cC (.str [102, 115, 116])) (cCons (cC (.str [115, 110, 100])) (cCons (cC (.str [99, 111, 110, 115])) (cCons (cC (.str [102, 111, 108, 100])) (cCons (cC (.str [112, 105, 99, 107])) (cCons (cC (.str [105, 116, 101, 114])) (cCons (cC (.str [97, 100, 100])) (cCons (cC (.str [108, 101, 115, 115])) cNil))))))))) cNil)) []) (gN 7))
    (cSeq (cAsg (cTup (cCons (cC (.str [110, 97, 109, 101])) (cCons (cVar 7) cNil))) (gN 8))
    (cSeq (cFor (itR0 (cCons (cDGet2 (cDict [((cC (.str [102, 115, 116])), (cC (.int 1))), ((cC (.str [115, 110, 100])), (cC (.int 1))), ((cC (.str [99, 111, 110, 115])), (cC (.int 2))), ((cC (.str [97, 100, 100])), (cC (.int 2))), ((cC (.str [108, 101, 115, 115])), (cC (.int 2)))]) (cVar 7) (cC (.int 3))) cNil)) (gN 9) (l1__law_raw f))
    (cRet (cVar 8)))))))))))))
def f__law_raw : Nat → FDen
  | 0 => fun _ _ => .bad
  | n + 1 => fdef 10 (b__law_raw (f__law_raw n))
def b__law_in (f : FDen) : DenS :=
    (cSeq (cAsg (cIx (cVar 0) (cC (.int 0))) (gN 2))
    (cSeq (cIfS (cB (op2 gEq (cVar 2) (cC (.str [110, 97, 109, 101]))))
    (cRet (cIf (cB (op2 gIn (cIx (cVar 0) (cC (.int 1))) (cVar 1))) (cTup (cCons (cC (.str [98])) (cCons (cIndex (cRev (cVar 1)) (cIx (cVar 0) (cC (.int 1)))) cNil))) (cVar 0)))
    cNx)
    (cSeq (cIfS (cB (op2 gEq (cVar 2) (cC (.str [102, 117, 110]))))
    (cRet (cTup (cCons (cC (.str [102, 117, 110])) (cCons (cCall 2 f (cCons (cIx (cVar 0) (cC (.int 2))) (cCons (op2 gAdd (cVar 1) (cLst (cCons (cIx (cVar 0) (cC (.int 1))) cNil))) cNil)) []) cNil))))
    cNx)
    (cSeq (cIfS (cB (op2 gEq (cVar 2) (cC (.str [108, 101, 116]))))
    (cRet (cTup (cCons (cC (.str [108, 101, 116])) (cCons (cCall 2 f (cCons (cIx (cVar 0) (cC (.int 2))) (cCons (cVar 1) cNil)) []) (cCons (cCall 2 f (cCons (cIx (cVar 0) (cC (.int 3))) (cCons (op2 gAdd (cVar 1) (cLst (cCons (cIx (cVar 0) (cC (.int 1))) cNil))) cNil)) []) cNil)))))
    cNx)
    (cSeq (cIfS (cB (op2 gIn (cVar 2) (cTup (cCons (cC (.str [97, 112, 112])) (cCons (cC (.str [112, 97, 105, 114])) cNil)))))
    (cRet (cTup (cCons (cVar 2) (cCons (cCall 2 f (cCons (cIx (cVar 0) (cC (.int 1))) (cCons (cVar 1) cNil)) []) (cCons (cCall 2 f (cCons (cIx (cVar 0) (cC (.int 2))) (cCons (cVar 1) cNil)) []) cNil)))))
    cNx)
    (cRet (cVar 0)))))))
def f__law_in : Nat → FDen
  | 0 => fun _ _ => .bad
  | n + 1 => fdef 3 (b__law_in (f__law_in n))
def b__law_lifted (f : FDen) : DenS :=
    (cSeq (cAsg (cIx (cVar 0) (cC (.int 0))) (gN 3))
    (cSeq (cIfS (cB (op2 gEq (cVar 3) (cC (.str [98]))))
    (cRet (cIf (cB (op2 gGe (cIx (cVar 0) (cC (.int 1))) (cVar 2))) (cTup (cCons (cC (.str [98])) (cCons (op2 gAdd (cIx (cVar 0) (cC (.int 1))) (cVar 1)) cNil))) (cVar 0)))
    cNx)
    (cSeq (cIfS (cB (op2 gEq (cVar 3) (cC (.str [102, 117, 110]))))
    (cRet (cTup (cCons (cC (.str [102, 117, 110])) (cCons (cCall 3 f (cCons (cIx (cVar 0) (cC (.int 1))) (cCons (cVar 1) (cCons (op2 gAdd (cVar 2) (cC (.int 1))) cNil))) []) cNil))))
    cNx)
    (cSeq (cIfS (cB (op2 gEq (cVar 3) (cC (.str [108, 101, 116]))))
    (cRet (cTup (cCons (cC (.str [108, 101, 116])) (cCons (cCall 3 f (cCons (cIx (cVar 0) (cC (.int 1))) (cCons (cVar 1) (cCons (cVar 2) cNil))) []) (cCons (cCall 3 f (cCons (cIx (cVar 0) (cC (.int 2))) (cCons (cVar 1) (cCons (op2 gAdd (cVar 2) (cC (.int 1))) cNil))) []) cNil)))))
    cNx)
    (cSeq (cIfS (cB (op2 gIn (cVar 3) (cTup (cCons (cC (.str [97, 112, 112])) (cCons (cC (.str [112, 97, 105, 114])) cNil)))))
    (cRet (cTup (cCons (cVar 3) (cCons (cCall 3 f (cCons (cIx (cVar 0) (cC (.int 1))) (cCons (cVar 1) (cCons (cVar 2) cNil))) []) (cCons (cCall 3 f (cCons (cIx (cVar 0) (cC (.int 2))) (cCons (cVar 1) (cCons (cVar 2) cNil))) []) cNil)))))
    cNx)
    (cRet (cVar 0)))))))
def f__law_lifted : Nat → FDen
  | 0 => fun _ _ => .bad
  | n + 1 => fdef 4 (b__law_lifted (f__law_lifted n))
def b__law_put (f : FDen) : DenS :=
    (cSeq (cAsg (cIx (cVar 0) (cC (.int 0))) (gN 3))
    (cSeq (cIfS (cB (op2 gEq (cVar 3) (cC (.str [98]))))
    (cSeq (cIfS (cB (op2 gEq (cIx (cVar 0) (cC (.int 1))) (cVar 2)))
    (cRet (cCall 3 (f__law_lifted 60) (cCons (cVar 1) (cCons (cVar 2) (cCons (cC (.int 0)) cNil))) []))
    cNx)
    (cRet (cIf (cB (op2 gGt (cIx (cVar 0) (cC (.int 1))) (cVar 2))) (cTup (cCons (cC (.str [98])) (cCons (op2 gSub (cIx (cVar 0) (cC (.int 1))) (cC (.int 1))) cNil))) (cVar 0))))
    cNx)
    (cSeq (cIfS (cB (op2 gEq (cVar 3) (cC (.str [102, 117, 110]))))
    (cRet (cTup (cCons (cC (.str [102, 117, 110])) (cCons (cCall 3 f (cCons (cIx (cVar 0) (cC (.int 1))) (cCons (cVar 1) (cCons (op2 gAdd (cVar 2) (cC (.int 1))) cNil))) []) cNil))))
    cNx)
    (cSeq (cIfS (cB (op2 gEq (cVar 3) (cC (.str [108, 101, 116]))))
    (cRet (cTup (cCons (cC (.str [108, 101, 116])) (cCons (cCall 3 f (cCons (cIx (cVar 0) (cC (.int 1))) (cCons (cVar 1) (cCons (cVar 2) cNil))) []) (cCons (cCall 3 f (cCons (cIx (cVar 0) (cC (.int 2))) (cCons (cVar 1) (cCons (op2 gAdd (cVar 2) (cC (.int 1))) cNil))) []) cNil)))))
    cNx)
    (cSeq (cIfS (cB (op2 gIn (cVar 3) (cTup (cCons (cC (.str [97, 112, 112])) (cCons (cC (.str [112, 97, 105, 114])) cNil)))))
    (cRet (cTup (cCons (cVar 3) (cCons (cCall 3 f (cCons (cIx (cVar 0) (cC (.int 1))) (cCons (cVar 1) (cCons (cVar 2) cNil))) []) (cCons (cCall 3 f (cCons (cIx (cVar 0) (cC (.int 2))) (cCons (cVar 1) (cCons (cVar 2) cNil))) []) cNil)))))
    cNx)
    (cRet (cVar 0)))))))
def f__law_put : Nat → FDen
  | 0 => fun _ _ => .bad
  | n + 1 => fdef 4 (b__law_put (f__law_put n))
def b__law_without (f : FDen) : DenS :=
    (cSeq (cAsg (cIx (cVar 0) (cC (.int 0))) (gN 1))
    (cSeq (cIfS (cB (op2 gEq (cVar 1) (cC (.str [108, 101, 116]))))
    (cRet (cCall 3 (f__law_put 60) (cCons (cCall 1 f (cCons (cIx (cVar 0) (cC (.int 2))) cNil) []) (cCons (cCall 1 f (cCons (cIx (cVar 0) (cC (.int 1))) cNil) []) (cCons (cC (.int 0)) cNil))) []))
    cNx)
    (cSeq (cIfS (cB (op2 gEq (cVar 1) (cC (.str [102, 117, 110]))))
    (cRet (cTup (cCons (cC (.str [102, 117, 110])) (cCons (cCall 1 f (cCons (cIx (cVar 0) (cC (.int 1))) cNil) []) cNil))))
    cNx)
    (cSeq (cIfS (cB (op2 gIn (cVar 1) (cTup (cCons (cC (.str [97, 112, 112])) (cCons (cC (.str [112, 97, 105, 114])) cNil)))))
    (cRet (cTup (cCons (cVar 1) (cCons (cCall 1 f (cCons (cIx (cVar 0) (cC (.int 1))) cNil) []) (cCons (cCall 1 f (cCons (cIx (cVar 0) (cC (.int 2))) cNil) []) cNil)))))
    cNx)
    (cRet (cVar 0))))))
def f__law_without : Nat → FDen
  | 0 => fun _ _ => .bad
  | n + 1 => fdef 2 (b__law_without (f__law_without n))
def b__law_out (f : FDen) : DenS :=
    (cSeq (cAsg (cIx (cVar 0) (cC (.int 0))) (gN 3))
    (cSeq (cIfS (cB (op2 gEq (cVar 3) (cC (.str [98]))))
    (cRet (cTup (cCons (cC (.str [110, 97, 109, 101])) (cCons (cIx (cVar 2) (op2 gSub (op2 gSub (cLen (cCons (cVar 2) cNil)) (cC (.int 1))) (cIx (cVar 0) (cC (.int 1))))) cNil))))
    cNx)
    (cSeq (cIfS (cB (op2 gIn (cVar 3) (cTup (cCons (cC (.str [97, 112, 112])) (cCons (cC (.str [112, 97, 105, 114])) cNil)))))
    (cRet (cTup (cCons (cVar 3) (cCons (cCall 3 f (cCons (cIx (cVar 0) (cC (.int 1))) (cCons (cVar 1) (cCons (cVar 2) cNil))) []) (cCons (cCall 3 f (cCons (cIx (cVar 0) (cC (.int 2))) (cCons (cVar 1) (cCons (cVar 2) cNil))) []) cNil)))))
    cNx)
    (cSeq (cIfS (cB (op2 gNotIn (cVar 3) (cTup (cCons (cC (.str [102, 117, 110])) (cCons (cC (.str [108, 101, 116])) cNil)))))
    (cRet (cVar 0))
    cNx)
    (cSeq (cAsg (cC (.str [97, 98, 99, 100, 101, 102, 103, 104, 105, 106, 107, 108, 109, 110, 111, 112, 113, 114, 115, 116, 117, 118, 119, 120, 121, 122])) (gN 4))
    (cSeq (cAsg (op2 gAdd (op2 gAdd (cComp (itS (cVar 4)) (gN 6) cYes (cVar 6) [6]) (cComp (itS (cVar 4)) (gN 6) cYes (op2 gAdd (cC (.str [97])) (cVar 6)) [6])) (cComp (itS (cVar 4)) (gN 6) cYes (op2 gAdd (cC (.str [98])) (cVar 6)) [6])) (gN 5))
    (cSeq (cAsg (cComp (itL (cVar 5)) (gN 7) (cAnd (cB (op2 gNotIn (cVar 7) (cVar 1))) (cB (op2 gNotIn (cVar 7) (cVar 2)))) (cVar 7) [7]) (gN 5))
    (cSeq (cIfS (cB (op2 gEq (cVar 3) (cC (.str [102, 117, 110]))))
    (cRet (cTup (cCons (cC (.str [102, 117, 110])) (cCons (cIx (cVar 5) (cC (.int 0))) (cCons (cCall 3 f (cCons (cIx (cVar 0) (cC (.int 1))) (cCons (cVar 1) (cCons (op2 gAdd (cVar 2) (cLst (cCons (cIx (cVar 5) (cC (.int 0))) cNil))) cNil))) []) cNil)))))
    cNx)
    (cRet (cTup (cCons (cC (.str [108, 101, 116])) (cCons (cIx (cVar 5) (cC (.int 0))) (cCons (cCall 3 f (cCons (cIx (cVar 0) (cC (.int 1))) (cCons (cVar 1) (cCons (cVar 2) cNil))) []) (cCons (cCall 3 f (cCons (cIx (cVar 0) (cC (.int 2))) (cCons (cVar 1) (cCons (op2 gAdd (cVar 2) (cLst (cCons (cIx (cVar 5) (cC (.int 0))) cNil))) cNil))) []) cNil))))))))))))))
def f__law_out : Nat → FDen
  | 0 => fun _ _ => .bad
  | n + 1 => fdef 8 (b__law_out (f__law_out n))
def l1__law_frees_of (f : FDen) : DenS :=
    (cExpr (cExtend (cVar 1) (cComp (itL (cCall 1 f (cCons (cVar 2) cNil) [])) (gN 3) (cB (op2 gNotIn (cVar 3) (cVar 1))) (cVar 3) [3])))
def b__law_frees_of (f : FDen) : DenS :=
    (cSeq (cIfS (cB (op2 gEq (cIx (cVar 0) (cC (.int 0))) (cC (.str [110, 97, 109, 101]))))
    (cRet (cLst (cCons (cIx (cVar 0) (cC (.int 1))) cNil)))
    cNx)
    (cSeq (cAsg (cLstM cNil) (gN 1))
    (cSeq (cFor (itT (cIf (cB (op2 gIn (cIx (cVar 0) (cC (.int 0))) (cTup (cCons (cC (.str [102, 117, 110])) (cCons (cC (.str [108, 101, 116])) (cCons (cC (.str [97, 112, 112])) (cCons (cC (.str [112, 97, 105, 114])) cNil))))))) (cSl (cVar 0) (cPart (cC (.int 1))) cNoPart) (cTup cNil))) (gN 2) (l1__law_frees_of f))
    (cRet (cVar 1)))))
def f__law_frees_of : Nat → FDen
  | 0 => fun _ _ => .bad
  | n + 1 => fdef 4 (b__law_frees_of (f__law_frees_of n))
def b__law_named_so : DenS :=
    (cRet (cCall 3 (f__law_out 60) (cCons (cVar 0) (cCons (cCall 1 (f__law_frees_of 60) (cCons (cVar 0) cNil) []) (cCons (cLst cNil) cNil))) []))
def f__law_named_so : FDen := fdef 1 b__law_named_so
def b__law_odd : DenS :=
    (cSeq (cAsg (cTup (cCons (cC (.str [117, 110, 105, 116])) cNil)) (gN 1))
    (cSeq (cAsg (cLst (cCons (cC .non) (cCons (cC (.int 3)) (cCons (cC (.str [120])) (cCons (cTup cNil) (cCons (cTup (cCons (cC (.str [110, 97, 109, 101])) cNil)) (cCons (cTup (cCons (cC (.str [110, 97, 109, 101])) (cCons (cC (.str [97, 108, 108])) cNil))) (cCons (cTup (cCons (cC (.str [110, 97, 109, 101])) (cCons (cC (.str [88, 49])) cNil))) (cCons (cTup (cCons (cC (.str [105, 110, 116])) (cCons (cC (.bl false)) cNil))) (cCons (cTup (cCons (cC (.str [105, 110, 116])) (cCons (cC (.str [49])) cNil))) (cCons (cTup (cCons (cC (.str [98, 111, 111, 108])) (cCons (cC (.int 0)) cNil))) cNil))))))))))) (gN 2))
    (cSeq (cAsg (op2 gAdd (cVar 2) (cLst (cCons (cTup (cCons (cC (.str [117, 110, 105, 116])) (cCons (cC (.int 1)) cNil))) (cCons (cTup (cCons (cC (.str [102, 117, 110])) (cCons (cC (.str [120])) cNil))) (cCons (cTup (cCons (cC (.str [102, 117, 110])) (cCons (cC (.str [120])) (cCons (cC .non) (cCons (cVar 1) cNil))))) (cCons (cTup (cCons (cC (.str [108, 101, 116])) (cCons (cC (.str [120])) (cCons (cC .non) (cCons (cVar 1) (cCons (cVar 1) cNil)))))) (cCons (cTup (cCons (cC (.str [108, 101, 116])) (cCons (cC (.str [120])) (cCons (cVar 1) cNil)))) (cCons (cLst (cCons (cVar 1) cNil)) cNil)))))))) (gN 2))
    (cRet (cCall 2 f__law_one (cCons (cVar 0) (cCons (op2 gAdd (cVar 2) (cLst (cCons (cTup (cCons (cC (.str [102, 114, 111, 122, 101, 110])) (cCons (cC (.str [120])) cNil))) (cCons (cTup (cCons (cC (.str [97, 116])) (cCons (cVar 1) (cCons (cVar 1) cNil)))) (cCons (cTup (cCons (cC (.str [112, 97, 105, 114])) (cCons (cVar 1) cNil))) (cCons (cTup (cCons (cC (.str [97, 112, 112])) (cCons (cVar 1) (cCons (cVar 1) (cCons (cVar 1) cNil))))) (cCons (cTup (cCons (cC (.str [102, 117, 110])) (cCons (cC (.str [105, 110])) (cCons (cVar 1) cNil)))) (cCons cDict0 cNil)))))))) cNil)) [])))))
def f__law_odd : FDen := fdef 3 b__law_odd
def l1__law_count (f : FDen) : DenS :=
    (cAsg (op2 gAdd (cVar 1) (cCall 1 f (cCons (cVar 2) cNil) [])) (gN 1))
def b__law_count (f : FDen) : DenS :=
    (cSeq (cAsg (cC (.int 1)) (gN 1))
    (cSeq (cFor (itT (cIf (cB (op2 gIn (cIx (cVar 0) (cC (.int 0))) (cTup (cCons (cC (.str [102, 117, 110])) (cCons (cC (.str [108, 101, 116])) (cCons (cC (.str [97, 112, 112])) (cCons (cC (.str [112, 97, 105, 114])) cNil))))))) (cSl (cVar 0) (cPart (cC (.int 1))) cNoPart) (cTup cNil))) (gN 2) (l1__law_count f))
    (cRet (cVar 1))))
def f__law_count : Nat → FDen
  | 0 => fun _ _ => .bad
  | n + 1 => fdef 3 (b__law_count (f__law_count n))
def b__law_said : DenS :=
    (cTry (cRet (cCall 1 f_put_in (cCons (cVar 0) cNil) []))
    [(10, some 1, (cRet (cTup (cCons (cC (.str [110, 111, 110, 101])) (cCons (cXat "place" (cVar 1)) cNil)))))])
def f__law_said : FDen := fdef 2 b__law_said
def b__law_right : DenS :=
    (cSeq (cAsg (cCall 3 (f__law_raw 7) (cCons (cVar 0) (cCons (cLst cNil) (cCons (op2 gAdd (cC (.int 1)) (cCall 2 f__law_draw (cCons (cVar 0) (cCons (cC (.int 4)) cNil)) [])) cNil))) []) (gN 1))
    (cSeq (cAsg (cCall 2 (f__law_in 60) (cCons (cVar 1) (cCons (cLst cNil) cNil)) []) (gN 2))
    (cSeq (cIfS (cB (op2 gGt (cCall 1 (f__law_count 60) (cCons (cVar 2) cNil) []) (cC (.int 50))))
    (cRet (cC (.bl true)))
    cNx)
    (cSeq (cAsg (cCall 1 (f__law_without 60) (cCons (cVar 2) cNil) []) (gN 3))
    (cSeq (cIfS (cB (op2 gGt (cCall 1 (f__law_count 60) (cCons (cVar 3) cNil) []) (cC (.int 1000))))
    (cRet (cC (.bl true)))
    cNx)
    (cSeq (cAsg (cCall 1 f__law_named_so (cCons (cVar 3) cNil) []) (gN 4))
    (cSeq (cIfS (cOr (cB (op2 gNe (cCall 1 f_put_in (cCons (cVar 1) cNil) []) (cVar 4))) (cOr (cB (op2 gNe (cCall 1 f_put_in (cCons (cCall 1 f__law_named_so (cCons (cVar 2) cNil) []) cNil) []) (cVar 4))) (cB (op2 gNe (cCall 1 f_put_in (cCons (cVar 4) cNil) []) (cVar 4)))))
    (cRet (cC (.bl false)))
    cNx)
    (cSeq (cAsg (cCall 2 f__law_one (cCons (cVar 0) (cCons (cLst (cCons (cC (.str [120])) (cCons (cC (.str [121])) (cCons (cC (.str [97, 100, 100])) cNil)))) cNil)) []) (gN 5))
    (cSeq (cIfS (cB (op2 gNe (cCall 1 f_put_in (cCons (cTup (cCons (cC (.str [108, 101, 116])) (cCons (cVar 5) (cCons (cVar 1) (cCons (cTup (cCons (cC (.str [117, 110, 105, 116])) cNil)) cNil))))) cNil) []) (cTup (cCons (cC (.str [117, 110, 105, 116])) cNil))))
    (cRet (cC (.bl false)))
    cNx)
    (cSeq (cIfS (cB (op2 gNe (cCall 1 f_put_in (cCons (cTup (cCons (cC (.str [108, 101, 116])) (cCons (cVar 5) (cCons (cVar 1) (cCons (cTup (cCons (cC (.str [112, 97, 105, 114])) (cCons (cTup (cCons (cC (.str [110, 97, 109, 101])) (cCons (cVar 5) cNil))) (cCons (cTup (cCons (cC (.str [105, 110, 116])) (cCons (cC (.int 1)) cNil))) cNil)))) cNil))))) cNil) []) (cTup (cCons (cC (.str [112, 97, 105, 114])) (cCons (cVar 4) (cCons (cTup (cCons (cC (.str [105, 110, 116])) (cCons (cC (.int 1)) cNil))) cNil))))))
    (cRet (cC (.bl false)))
    cNx)
    (cSeq (cAsg (cCall 1 f__law_odd (cCons (cVar 0) cNil) []) (gN 6))
    (cSeq (cAsg (cLstM (cCons (cTup (cCons (cVar 6) (cCons (cTup cNil) cNil))) (cCons (cTup (cCons (cTup (cCons (cC (.str [112, 97, 105, 114])) (cCons (cVar 1) (cCons (cVar 6) cNil)))) (cCons (cTup (cCons (cC (.int 2)) cNil)) cNil))) (cCons (cTup (cCons (cTup (cCons (cC (.str [102, 117, 110])) (cCons (cVar 5) (cCons (cVar 6) cNil)))) (cCons (cTup (cCons (cC (.int 2)) cNil)) cNil))) (cCons (cTup (cCons (cTup (cCons (cC (.str [108, 101, 116])) (cCons (cVar 5) (cCons (cVar 6) (cCons (cVar 6) cNil))))) (cCons (cTup (cCons (cC (.int 2)) cNil)) cNil))) cNil))))) (gN 7))
    (cSeq (cAsg (cCatM (cVar 7) (cLst (cCons (cTup (cCons (cTup (cCons (cC (.str [108, 101, 116])) (cCons (cVar 5) (cCons (cVar 1) (cCons (cVar 6) cNil))))) (cCons (cTup (cCons (cC (.int 3)) cNil)) cNil))) (cCons (cTup (cCons (cTup (cCons (cC (.str [97, 112, 112])) (cCons (cVar 6) (cCons (cVar 1) cNil)))) (cCons (cTup (cCons (cC (.int 1)) cNil)) cNil))) cNil)))) (gN 7))
    (cSeq (cExpr (cAppend (cVar 7) (cTup (cCons (cTup (cCons (cC (.str [97, 112, 112])) (cCons (cVar 1) (cCons (cTup (cCons (cC (.str [112, 97, 105, 114])) (cCons (cVar 6) (cCons (cVar 6) cNil)))) cNil)))) (cCons (cTup (cCons (cC (.int 2)) (cCons (cC (.int 1)) cNil))) cNil)))))
    (cSeq (cAsg (cCall 2 f__law_one (cCons (cVar 0) (cCons (cVar 7) cNil)) []) (gT 2 (gsCons (gN 8) (gsCons (gN 9) gsNil))))
    (cRet (op2 gEq (cCall 1 f__law_said (cCons (cVar 8) cNil) []) (cTup (cCons (cC (.str [110, 111, 110, 101])) (cCons (cVar 9) cNil))))))))))))))))))))
def f__law_right : FDen := fdef 10 b__law_right
def l2_law : DenS :=
    (cIfS (cNot (cB (cCall 1 f__law_right (cCons (cVar 2) cNil) [])))
    (cRet (cC (.bl false)))
    cNx)
def l1_law : DenS :=
    (cSeq (cAsg (cCallM 2 f__law_well (cCons (cVar 0) (cCons (cVar 1) cNil)) []) (gN 2))
    (cFor (itR0 (cCons (cC (.int 10)) cNil)) (gN 3) l2_law))
def b_law : DenS :=
    (cSeq (cFor (itR0 (cCons (cBlt gMax2 (cCons (cC (.int 1)) (cCons (cBlt gMin2 (cCons (cC (.int 4)) (cCons (cLen (cCons (cVar 0) cNil)) cNil))) cNil))) cNil)) (gN 1) l1_law)
    (cSeq (cAsg (cTup (cCons (cTup (cCons (cC (.str [110, 97, 109, 101])) (cCons (cC (.str [120])) cNil))) (cCons (cTup (cCons (cC (.str [110, 97, 109, 101])) (cCons (cC (.str [121])) cNil))) cNil))) (gT 2 (gsCons (gN 4) (gsCons (gN 5) gsNil))))
    (cRet (op2 gEq (cCall 1 f_put_in (cCons (cTup (cCons (cC (.str [108, 101, 116])) (cCons (cC (.str [120])) (cCons (cVar 5) (cCons (cTup (cCons (cC (.str [102, 117, 110])) (cCons (cC (.str [121])) (cCons (cTup (cCons (cC (.str [112, 97, 105, 114])) (cCons (cVar 4) (cCons (cVar 5) cNil)))) cNil)))) cNil))))) cNil) []) (cTup (cCons (cC (.str [102, 117, 110])) (cCons (cC (.str [97])) (cCons (cTup (cCons (cC (.str [112, 97, 105, 114])) (cCons (cVar 5) (cCons (cTup (cCons (cC (.str [110, 97, 109, 101])) (cCons (cC (.str [97])) cNil))) cNil)))) cNil))))))))
def f_law : FDen := fdef 6 b_law
end Fro

namespace Fro
open PySem PySem.Spec L2
/-! ### the text -/
def topS (i : Nat) : Stmt := PySem.Challenge.pw_frostkinds_k52_whole_lets_put_in.main.body.getD i (.Pass ⟨0, 0, 0, 0⟩)
abbrev s__law_well : Stmt := topS 27
theorem sc__law_well : FnScope ["_law_script", "_law_k", "_law_cell"] ["_law_script", "_law_k"] (defScope s__law_well) := ⟨rfl, rfl, rfl, by decide +kernel, rfl, by decide +kernel, by decide +kernel⟩
abbrev s_is_name : Stmt := topS 7
theorem sc_is_name : FnScope ["value", "sign"] ["value"] (defScope s_is_name) := ⟨rfl, rfl, rfl, by decide +kernel, rfl, by decide +kernel, by decide +kernel⟩
abbrev s_is_whole : Stmt := topS 13
theorem sc_is_whole : FnScope ["thing"] ["thing"] (defScope s_is_whole) := ⟨rfl, rfl, rfl, by decide +kernel, rfl, by decide +kernel, by decide +kernel⟩
abbrev s_has_form : Stmt := topS 14
theorem sc_has_form : FnScope ["thing"] ["thing"] (defScope s_has_form) := ⟨rfl, rfl, rfl, by decide +kernel, rfl, by decide +kernel, by decide +kernel⟩
abbrev s_want_bare : Stmt := topS 15
theorem sc_want_bare : FnScope ["thing", "place", "spot"] ["thing", "place"] (defScope s_want_bare) := ⟨rfl, rfl, rfl, by decide +kernel, rfl, by decide +kernel, by decide +kernel⟩
abbrev s_letter : Stmt := topS 8
theorem sc_letter : FnScope ["number", "found", "rest"] ["number"] (defScope s_letter) := ⟨rfl, rfl, rfl, by decide +kernel, rfl, by decide +kernel, by decide +kernel⟩
abbrev s_first_letters : Stmt := topS 9
theorem sc_first_letters : FnScope ["taken", "number"] ["taken"] (defScope s_first_letters) := ⟨rfl, rfl, rfl, by decide +kernel, rfl, by decide +kernel, by decide +kernel⟩
abbrev s_relettered : Stmt := topS 17
theorem sc_relettered : FnScope ["term", "changes", "taken", "name", "bound"] ["term", "changes", "taken"] (defScope s_relettered) := ⟨rfl, rfl, rfl, by decide +kernel, rfl, by decide +kernel, by decide +kernel⟩
abbrev s_free_names : Stmt := topS 16
theorem sc_free_names : FnScope ["term", "found", "spot", "inside", "name"] ["term"] (defScope s_free_names) := ⟨rfl, rfl, rfl, by decide +kernel, rfl, by decide +kernel, by decide +kernel⟩
abbrev s_plain_bare : Stmt := topS 18
theorem sc_plain_bare : FnScope ["term"] ["term"] (defScope s_plain_bare) := ⟨rfl, rfl, rfl, by decide +kernel, rfl, by decide +kernel, by decide +kernel⟩
abbrev s_exchanged : Stmt := topS 20
theorem sc_exchanged : FnScope ["term", "name", "other", "frees", "inner", "bound"] ["term", "name", "other", "frees"] (defScope s_exchanged) := ⟨rfl, rfl, rfl, by decide +kernel, rfl, by decide +kernel, by decide +kernel⟩
abbrev s_away_from : Stmt := topS 19
theorem sc_away_from : FnScope ["name", "body", "frees", "other", "known"] ["name", "body", "frees"] (defScope s_away_from) := ⟨rfl, rfl, rfl, by decide +kernel, rfl, by decide +kernel, by decide +kernel⟩
abbrev s_filled : Stmt := topS 21
theorem sc_filled : FnScope ["body", "name", "other"] ["body", "name", "other"] (defScope s_filled) := ⟨rfl, rfl, rfl, by decide +kernel, rfl, by decide +kernel, by decide +kernel⟩
abbrev s_without_lets : Stmt := topS 22
theorem sc_without_lets : FnScope ["term"] ["term"] (defScope s_without_lets) := ⟨rfl, rfl, rfl, by decide +kernel, rfl, by decide +kernel, by decide +kernel⟩
abbrev s_put_in : Stmt := topS 23
theorem sc_put_in : FnScope ["term"] ["term"] (defScope s_put_in) := ⟨rfl, rfl, rfl, by decide +kernel, rfl, by decide +kernel, by decide +kernel⟩
abbrev s__law_draw : Stmt := topS 25
theorem sc__law_draw : FnScope ["_law_well_here", "_law_many", "_law_found", "_law_mixed"] ["_law_well_here", "_law_many"] (defScope s__law_draw) := ⟨rfl, rfl, rfl, by decide +kernel, rfl, by decide +kernel, by decide +kernel⟩
abbrev s__law_one : Stmt := topS 26
theorem sc__law_one : FnScope ["_law_well_here", "_law_some"] ["_law_well_here", "_law_some"] (defScope s__law_one) := ⟨rfl, rfl, rfl, by decide +kernel, rfl, by decide +kernel, by decide +kernel⟩
abbrev s__law_raw : Stmt := topS 35
theorem sc__law_raw : FnScope ["_law_well_here", "_law_names", "_law_deep", "_law_way", "_law_known_so", "_law_some", "_law_name", "_law_word", "_law_term", "_law_turn"] ["_law_well_here", "_law_names", "_law_deep"] (defScope s__law_raw) := ⟨rfl, rfl, rfl, by decide +kernel, rfl, by decide +kernel, by decide +kernel⟩
abbrev s__law_in : Stmt := topS 29
theorem sc__law_in : FnScope ["_law_term", "_law_around", "_law_word"] ["_law_term", "_law_around"] (defScope s__law_in) := ⟨rfl, rfl, rfl, by decide +kernel, rfl, by decide +kernel, by decide +kernel⟩
abbrev s__law_lifted : Stmt := topS 33
theorem sc__law_lifted : FnScope ["_law_term", "_law_by", "_law_least", "_law_word"] ["_law_term", "_law_by", "_law_least"] (defScope s__law_lifted) := ⟨rfl, rfl, rfl, by decide +kernel, rfl, by decide +kernel, by decide +kernel⟩
abbrev s__law_put : Stmt := topS 34
theorem sc__law_put : FnScope ["_law_term", "_law_other", "_law_depth", "_law_word"] ["_law_term", "_law_other", "_law_depth"] (defScope s__law_put) := ⟨rfl, rfl, rfl, by decide +kernel, rfl, by decide +kernel, by decide +kernel⟩
abbrev s__law_without : Stmt := topS 36
theorem sc__law_without : FnScope ["_law_term", "_law_word"] ["_law_term"] (defScope s__law_without) := ⟨rfl, rfl, rfl, by decide +kernel, rfl, by decide +kernel, by decide +kernel⟩
abbrev s__law_out : Stmt := topS 31
theorem sc__law_out : FnScope ["_law_term", "_law_taken", "_law_around", "_law_word", "_law_signs", "_law_some", "_law_sign", "_law_name"] ["_law_term", "_law_taken", "_law_around"] (defScope s__law_out) := ⟨rfl, rfl, rfl, by decide +kernel, rfl, by decide +kernel, by decide +kernel⟩
abbrev s__law_frees_of : Stmt := topS 30
theorem sc__law_frees_of : FnScope ["_law_term", "_law_found", "_law_one_here", "_law_name"] ["_law_term"] (defScope s__law_frees_of) := ⟨rfl, rfl, rfl, by decide +kernel, rfl, by decide +kernel, by decide +kernel⟩
abbrev s__law_named_so : Stmt := topS 32
theorem sc__law_named_so : FnScope ["_law_term"] ["_law_term"] (defScope s__law_named_so) := ⟨rfl, rfl, rfl, by decide +kernel, rfl, by decide +kernel, by decide +kernel⟩
abbrev s__law_odd : Stmt := topS 39
theorem sc__law_odd : FnScope ["_law_well_here", "_law_x", "_law_some"] ["_law_well_here"] (defScope s__law_odd) := ⟨rfl, rfl, rfl, by decide +kernel, rfl, by decide +kernel, by decide +kernel⟩
abbrev s__law_count : Stmt := topS 37
theorem sc__law_count : FnScope ["_law_term", "_law_found", "_law_one_here"] ["_law_term"] (defScope s__law_count) := ⟨rfl, rfl, rfl, by decide +kernel, rfl, by decide +kernel, by decide +kernel⟩
abbrev s__law_said : Stmt := topS 38
theorem sc__law_said : FnScope ["_law_term", "e"] ["_law_term"] (defScope s__law_said) := ⟨rfl, rfl, rfl, by decide +kernel, rfl, by decide +kernel, by decide +kernel⟩
abbrev s__law_right : Stmt := topS 40
theorem sc__law_right : FnScope ["_law_well_here", "_law_term", "_law_inner", "_law_later", "_law_due", "_law_lead", "_law_odd_here", "_law_rows", "_law_made", "_law_spot"] ["_law_well_here"] (defScope s__law_right) := ⟨rfl, rfl, rfl, by decide +kernel, rfl, by decide +kernel, by decide +kernel⟩
abbrev s_law : Stmt := topS 41
theorem sc_law : FnScope ["_law_script", "_law_k", "_law_well_here", "_law_turn", "_law_x", "_law_y"] ["_law_script"] (defScope s_law) := ⟨rfl, rfl, rfl, by decide +kernel, rfl, by decide +kernel, by decide +kernel⟩
/-- what the top has written -/
abbrev i_KindError : Stmt := clsStm (topS 1)
abbrev i_NoBare : Stmt := clsStm (topS 2)
structure Top (P : Program) (w : World) (K : PySem.W.Frag) (mg : Str → Option Value) where
  xr : XReads K
  C_KindError : Addr
  m_KindError : mg "KindError" = some (.ref C_KindError)
  n_KindError : PySem.W.nsIn K mainGlobals "KindError" = some (some (.ref C_KindError))
  C_NoBare : Addr
  m_NoBare : mg "NoBare" = some (.ref C_NoBare)
  n_NoBare : PySem.W.nsIn K mainGlobals "NoBare" = some (some (.ref C_NoBare))
  xm_NoBare : XM K 10 (.ref C_NoBare)
  sup : mg "super" = none
  op : PySem.W.nsIn K cStatics "thirdparty.any" = some none
  f_KindError : Addr
  cc_KindError : Addr
  cd_KindError : Addr
  S_KindError : SupFn P K f_KindError C_KindError (nfI i_KindError "KindError.__init__" cc_KindError cd_KindError)
  fb_KindError : fnB K f_KindError = true
  f_NoBare : Addr
  cc_NoBare : Addr
  cd_NoBare : Addr
  S_NoBare : SupFn P K f_NoBare C_NoBare (nfI i_NoBare "NoBare.__init__" cc_NoBare cd_NoBare)
  fb_NoBare : fnB K f_NoBare = true
  ke_NoBare : KeC K C_KindError C_NoBare
  iC_NoBare : PySem.W.findIn K (.ref C_NoBare) "__init__" = some (some (.ref f_NoBare))
  ra_NoBare : raB K C_NoBare f_KindError (xflds 10) = true
  z_all : mg "all" = none
  z_bool : mg "bool" = none
  z_int : mg "int" = none
  z_isinstance : mg "isinstance" = none
  z_len : mg "len" = none
  z_max : mg "max" = none
  z_min : mg "min" = none
  z_range : mg "range" = none
  z_str : mg "str" = none
  z_tuple : mg "tuple" = none
  u_BARRED : Value
  m_BARRED : mg "BARRED" = some u_BARRED
  c_BARRED : kdV 8 K u_BARRED k_BARRED = true
  u_MOST_SIGNS : Value
  m_MOST_SIGNS : mg "MOST_SIGNS" = some u_MOST_SIGNS
  c_MOST_SIGNS : kdV 8 K u_MOST_SIGNS k_MOST_SIGNS = true
  u_LETTERS : Value
  m_LETTERS : mg "LETTERS" = some u_LETTERS
  c_LETTERS : kdV 8 K u_LETTERS k_LETTERS = true
  t_LENGTHS : Addr
  m_LENGTHS : mg "LENGTHS" = some (.ref t_LENGTHS)
  kd_LENGTHS : KD K w t_LENGTHS tbl_LENGTHS
  t_SPOTS : Addr
  m_SPOTS : mg "SPOTS" = some (.ref t_SPOTS)
  kd_SPOTS : KD K w t_SPOTS tbl_SPOTS
  a__law_well : Addr
  d__law_well : FuncData
  v__law_well : List V
  F__law_well : FunD K "_law_well" "_law_well" (defArgs s__law_well) (defBody s__law_well) (defScope s__law_well) v__law_well [] a__law_well d__law_well
  m__law_well : mg "_law_well" = some (.ref a__law_well)
  b__law_well : Binds K d__law_well ["_law_script", "_law_k"] []
  a_is_name : Addr
  d_is_name : FuncData
  v_is_name : List V
  F_is_name : FunD K "is_name" "is_name" (defArgs s_is_name) (defBody s_is_name) (defScope s_is_name) v_is_name [] a_is_name d_is_name
  m_is_name : mg "is_name" = some (.ref a_is_name)
  b_is_name : Binds K d_is_name ["value"] []
  a_is_whole : Addr
  d_is_whole : FuncData
  v_is_whole : List V
  F_is_whole : FunD K "is_whole" "is_whole" (defArgs s_is_whole) (defBody s_is_whole) (defScope s_is_whole) v_is_whole [] a_is_whole d_is_whole
  m_is_whole : mg "is_whole" = some (.ref a_is_whole)
  b_is_whole : Binds K d_is_whole ["thing"] []
  a_has_form : Addr
  d_has_form : FuncData
  v_has_form : List V
  F_has_form : FunD K "has_form" "has_form" (defArgs s_has_form) (defBody s_has_form) (defScope s_has_form) v_has_form [] a_has_form d_has_form
  m_has_form : mg "has_form" = some (.ref a_has_form)
  b_has_form : Binds K d_has_form ["thing"] []
  a_want_bare : Addr
  d_want_bare : FuncData
  v_want_bare : List V
  F_want_bare : FunD K "want_bare" "want_bare" (defArgs s_want_bare) (defBody s_want_bare) (defScope s_want_bare) v_want_bare [] a_want_bare d_want_bare
  m_want_bare : mg "want_bare" = some (.ref a_want_bare)
  b_want_bare : Binds K d_want_bare ["thing", "place"] []
  e1_want_bare : List Value
  y1_want_bare : List V
  bd1_want_bare : Binds K d_want_bare ["thing", "place"] e1_want_bare
  vd1_want_bare : Vals y1_want_bare e1_want_bare
  wd1_want_bare : ∀ ρ S H, RpWs K ρ S H [.v (.tup [])] y1_want_bare
  a_letter : Addr
  d_letter : FuncData
  v_letter : List V
  F_letter : FunD K "letter" "letter" (defArgs s_letter) (defBody s_letter) (defScope s_letter) v_letter [] a_letter d_letter
  m_letter : mg "letter" = some (.ref a_letter)
  b_letter : Binds K d_letter ["number"] []
  a_first_letters : Addr
  d_first_letters : FuncData
  v_first_letters : List V
  F_first_letters : FunD K "first_letters" "first_letters" (defArgs s_first_letters) (defBody s_first_letters) (defScope s_first_letters) v_first_letters [] a_first_letters d_first_letters
  m_first_letters : mg "first_letters" = some (.ref a_first_letters)
  b_first_letters : Binds K d_first_letters ["taken"] []
  a_relettered : Addr
  d_relettered : FuncData
  v_relettered : List V
  F_relettered : FunD K "relettered" "relettered" (defArgs s_relettered) (defBody s_relettered) (defScope s_relettered) v_relettered [] a_relettered d_relettered
  m_relettered : mg "relettered" = some (.ref a_relettered)
  b_relettered : Binds K d_relettered ["term", "changes", "taken"] []
  a_free_names : Addr
  d_free_names : FuncData
  v_free_names : List V
  F_free_names : FunD K "free_names" "free_names" (defArgs s_free_names) (defBody s_free_names) (defScope s_free_names) v_free_names [] a_free_names d_free_names
  m_free_names : mg "free_names" = some (.ref a_free_names)
  b_free_names : Binds K d_free_names ["term"] []
  a_plain_bare : Addr
  d_plain_bare : FuncData
  v_plain_bare : List V
  F_plain_bare : FunD K "plain_bare" "plain_bare" (defArgs s_plain_bare) (defBody s_plain_bare) (defScope s_plain_bare) v_plain_bare [] a_plain_bare d_plain_bare
  m_plain_bare : mg "plain_bare" = some (.ref a_plain_bare)
  b_plain_bare : Binds K d_plain_bare ["term"] []
  a_exchanged : Addr
  d_exchanged : FuncData
  v_exchanged : List V
  F_exchanged : FunD K "exchanged" "exchanged" (defArgs s_exchanged) (defBody s_exchanged) (defScope s_exchanged) v_exchanged [] a_exchanged d_exchanged
  m_exchanged : mg "exchanged" = some (.ref a_exchanged)
  b_exchanged : Binds K d_exchanged ["term", "name", "other", "frees"] []
  a_away_from : Addr
  d_away_from : FuncData
  v_away_from : List V
  F_away_from : FunD K "away_from" "away_from" (defArgs s_away_from) (defBody s_away_from) (defScope s_away_from) v_away_from [] a_away_from d_away_from
  m_away_from : mg "away_from" = some (.ref a_away_from)
  b_away_from : Binds K d_away_from ["name", "body", "frees"] []
  a_filled : Addr
  d_filled : FuncData
  v_filled : List V
  F_filled : FunD K "filled" "filled" (defArgs s_filled) (defBody s_filled) (defScope s_filled) v_filled [] a_filled d_filled
  m_filled : mg "filled" = some (.ref a_filled)
  b_filled : Binds K d_filled ["body", "name", "other"] []
  a_without_lets : Addr
  d_without_lets : FuncData
  v_without_lets : List V
  F_without_lets : FunD K "without_lets" "without_lets" (defArgs s_without_lets) (defBody s_without_lets) (defScope s_without_lets) v_without_lets [] a_without_lets d_without_lets
  m_without_lets : mg "without_lets" = some (.ref a_without_lets)
  b_without_lets : Binds K d_without_lets ["term"] []
  a_put_in : Addr
  d_put_in : FuncData
  v_put_in : List V
  F_put_in : FunD K "put_in" "put_in" (defArgs s_put_in) (defBody s_put_in) (defScope s_put_in) v_put_in [] a_put_in d_put_in
  m_put_in : mg "put_in" = some (.ref a_put_in)
  b_put_in : Binds K d_put_in ["term"] []
  a__law_draw : Addr
  d__law_draw : FuncData
  v__law_draw : List V
  F__law_draw : FunD K "_law_draw" "_law_draw" (defArgs s__law_draw) (defBody s__law_draw) (defScope s__law_draw) v__law_draw [] a__law_draw d__law_draw
  m__law_draw : mg "_law_draw" = some (.ref a__law_draw)
  b__law_draw : Binds K d__law_draw ["_law_well_here", "_law_many"] []
  a__law_one : Addr
  d__law_one : FuncData
  v__law_one : List V
  F__law_one : FunD K "_law_one" "_law_one" (defArgs s__law_one) (defBody s__law_one) (defScope s__law_one) v__law_one [] a__law_one d__law_one
  m__law_one : mg "_law_one" = some (.ref a__law_one)
  b__law_one : Binds K d__law_one ["_law_well_here", "_law_some"] []
  a__law_raw : Addr
  d__law_raw : FuncData
  v__law_raw : List V
  F__law_raw : FunD K "_law_raw" "_law_raw" (defArgs s__law_raw) (defBody s__law_raw) (defScope s__law_raw) v__law_raw [] a__law_raw d__law_raw
  m__law_raw : mg "_law_raw" = some (.ref a__law_raw)
  b__law_raw : Binds K d__law_raw ["_law_well_here", "_law_names", "_law_deep"] []
  a__law_in : Addr
  d__law_in : FuncData
  v__law_in : List V
  F__law_in : FunD K "_law_in" "_law_in" (defArgs s__law_in) (defBody s__law_in) (defScope s__law_in) v__law_in [] a__law_in d__law_in
  m__law_in : mg "_law_in" = some (.ref a__law_in)
  b__law_in : Binds K d__law_in ["_law_term", "_law_around"] []
  a__law_lifted : Addr
  d__law_lifted : FuncData
  v__law_lifted : List V
  F__law_lifted : FunD K "_law_lifted" "_law_lifted" (defArgs s__law_lifted) (defBody s__law_lifted) (defScope s__law_lifted) v__law_lifted [] a__law_lifted d__law_lifted
  m__law_lifted : mg "_law_lifted" = some (.ref a__law_lifted)
  b__law_lifted : Binds K d__law_lifted ["_law_term", "_law_by", "_law_least"] []
  a__law_put : Addr
  d__law_put : FuncData
  v__law_put : List V
  F__law_put : FunD K "_law_put" "_law_put" (defArgs s__law_put) (defBody s__law_put) (defScope s__law_put) v__law_put [] a__law_put d__law_put
  m__law_put : mg "_law_put" = some (.ref a__law_put)
  b__law_put : Binds K d__law_put ["_law_term", "_law_other", "_law_depth"] []
  a__law_without : Addr
  d__law_without : FuncData
  v__law_without : List V
  F__law_without : FunD K "_law_without" "_law_without" (defArgs s__law_without) (defBody s__law_without) (defScope s__law_without) v__law_without [] a__law_without d__law_without
  m__law_without : mg "_law_without" = some (.ref a__law_without)
  b__law_without : Binds K d__law_without ["_law_term"] []
  a__law_out : Addr
  d__law_out : FuncData
  v__law_out : List V
  F__law_out : FunD K "_law_out" "_law_out" (defArgs s__law_out) (defBody s__law_out) (defScope s__law_out) v__law_out [] a__law_out d__law_out
  m__law_out : mg "_law_out" = some (.ref a__law_out)
  b__law_out : Binds K d__law_out ["_law_term", "_law_taken", "_law_around"] []
  a__law_frees_of : Addr
  d__law_frees_of : FuncData
  v__law_frees_of : List V
  F__law_frees_of : FunD K "_law_frees_of" "_law_frees_of" (defArgs s__law_frees_of) (defBody s__law_frees_of) (defScope s__law_frees_of) v__law_frees_of [] a__law_frees_of d__law_frees_of
  m__law_frees_of : mg "_law_frees_of" = some (.ref a__law_frees_of)
  b__law_frees_of : Binds K d__law_frees_of ["_law_term"] []
  a__law_named_so : Addr
  d__law_named_so : FuncData
  v__law_named_so : List V
  F__law_named_so : FunD K "_law_named_so" "_law_named_so" (defArgs s__law_named_so) (defBody s__law_named_so) (defScope s__law_named_so) v__law_named_so [] a__law_named_so d__law_named_so
  m__law_named_so : mg "_law_named_so" = some (.ref a__law_named_so)
  b__law_named_so : Binds K d__law_named_so ["_law_term"] []
  a__law_odd : Addr
  d__law_odd : FuncData
  v__law_odd : List V
  F__law_odd : FunD K "_law_odd" "_law_odd" (defArgs s__law_odd) (defBody s__law_odd) (defScope s__law_odd) v__law_odd [] a__law_odd d__law_odd
  m__law_odd : mg "_law_odd" = some (.ref a__law_odd)
  b__law_odd : Binds K d__law_odd ["_law_well_here"] []
  a__law_count : Addr
  d__law_count : FuncData
  v__law_count : List V
  F__law_count : FunD K "_law_count" "_law_count" (defArgs s__law_count) (defBody s__law_count) (defScope s__law_count) v__law_count [] a__law_count d__law_count
  m__law_count : mg "_law_count" = some (.ref a__law_count)
  b__law_count : Binds K d__law_count ["_law_term"] []
  a__law_said : Addr
  d__law_said : FuncData
  v__law_said : List V
  F__law_said : FunD K "_law_said" "_law_said" (defArgs s__law_said) (defBody s__law_said) (defScope s__law_said) v__law_said [] a__law_said d__law_said
  m__law_said : mg "_law_said" = some (.ref a__law_said)
  b__law_said : Binds K d__law_said ["_law_term"] []
  a__law_right : Addr
  d__law_right : FuncData
  v__law_right : List V
  F__law_right : FunD K "_law_right" "_law_right" (defArgs s__law_right) (defBody s__law_right) (defScope s__law_right) v__law_right [] a__law_right d__law_right
  m__law_right : mg "_law_right" = some (.ref a__law_right)
  b__law_right : Binds K d__law_right ["_law_well_here"] []
  a_law : Addr
  d_law : FuncData
  v_law : List V
  F_law : FunD K "law" "law" (defArgs s_law) (defBody s_law) (defScope s_law) v_law [] a_law d_law
section
variable {P : Program} {w : World} {K : PySem.W.Frag} {mg : Str → Option Value} {base : Heap}
open NdefX
theorem ke_ok (T : Top P w K mg) : ∃ fd, Binds K fd ["self"] [] ∧ L2.FnOk P w K mg base CX0 1 T.f_KindError fd ["self"] (spKe K T.C_KindError) := ke_init T.S_KindError (nscope_by (sc := defScope i_KindError) (by decide +kernel)) (fun _ _ _ us h => match us, h with | [_], _ => rfl) rfl (fun _ => rfl) T.sup T.op
theorem xc_NoBare (T : Top P w K mg) : XCls P w K mg base 10 T.C_NoBare T.f_NoBare := by
  obtain ⟨fd0, b0, F0⟩ := ke_ok (base := base) T
  exact ⟨T.m_NoBare, T.n_NoBare, T.ke_NoBare.ox, T.iC_NoBare, fnB_ty T.fb_NoBare, x_init1 T.S_NoBare (nscope_by (sc := defScope i_NoBare) (by decide +kernel)) (fun _ _ _ us h => match us, h with | [_, _], _ => rfl) rfl (fun _ => rfl) T.sup T.op T.ke_NoBare (raB_self T.ra_NoBare) (raB_up T.ra_NoBare) (fnB_ty T.fb_KindError) (fnB_fn T.fb_KindError) b0 F0 (raB_no T.ra_NoBare (by decide +kernel))⟩
end
end Fro

namespace Fro
open PySem PySem.Spec L2
section
variable {P : Program} {w : World} {K : PySem.W.Frag} {mg : Str → Option Value} {base : Heap}
theorem o__law_well (T : Top P w K mg) : FnOk P w K mg base (CX P w) 1 T.a__law_well T.d__law_well ["_law_script", "_law_k"] (spF K 2 f__law_well) := fn_denD T.F__law_well sc__law_well fun cdv A outer s H E hr tk po =>
    (dss_cons (ds_set 2 sc__law_well.nd (de_if (dt_cmp op_lt g2_lt (de_var 1) (de_len T.z_len (da_cons (de_var 0) da_nil))) (de_ix (de_var 0) (de_var 1)) (de_bin op_mulA g2_mul de_int (de_var 1))))
    (dss_one (ds_ret (de_lstM (da_cons (de_var 2) (da_cons (de_bin op_mod g2_mod (de_bty call_int1 gn_int T.z_int (by decide +kernel) (da_cons (de_var 2) da_nil)) de_int) (da_cons de_int da_nil)))))))
end
section
variable {P : Program} {w : World} {K : PySem.W.Frag} {mg : Str → Option Value} {base : Heap}
theorem o_is_name (T : Top P w K mg) : FnOk P w K mg base (CX P w) 1 T.a_is_name T.d_is_name ["value"] (spF K 1 f_is_name) := fn_denD T.F_is_name sc_is_name fun cdv A outer s H E hr tk po =>
    (dss_cons (ds_if (dw_or (dt_not (dt_val (de_blt call_isi gn_isi T.z_isinstance (by decide +kernel) (da_cons (de_var 0) (da_cons (de_type .str T.z_str (by decide +kernel)) da_nil))))) (dw_or1 (dt_cmp op_inA g2_in (de_var 0) (de_const 8 T.m_BARRED T.c_BARRED)))).pt
    (dss_one (ds_ret de_bl))
    dss_nil)
    (dss_one (ds_ret (de_and (de_chain op_le op_le g2_le g2_le de_int (de_len T.z_len (da_cons (de_var 0) da_nil)) (de_const 8 T.m_MOST_SIGNS T.c_MOST_SIGNS)) (de_one (de_blt (cr_all rfl) gn_all T.z_all (by decide +kernel) (da_cons (de_comp (own := [("sign", 1)]) rfl sc_is_name.nd (di_str (de_var 0)) (gok_name 1) (blk_by (N := ["value", "sign"]) (sc := defScope s_is_name) (by decide +kernel)) (fun _ _ _ _ _ => (pg_name (i := 1) sc_is_name.nd rfl (by first | exact Or.inl rfl | exact Or.inr rfl))) (fun _ _ _ _ _ => dts_nil) (fun _ _ _ _ _ => (de_cmp op_inA g2_in (de_var 1) (de_const 8 T.m_LETTERS T.c_LETTERS)))) da_nil)))))))
end
section
variable {P : Program} {w : World} {K : PySem.W.Frag} {mg : Str → Option Value} {base : Heap}
theorem o_is_whole (T : Top P w K mg) : FnOk P w K mg base (CX P w) 1 T.a_is_whole T.d_is_whole ["thing"] (spF K 1 f_is_whole) := fn_denD T.F_is_whole sc_is_whole fun cdv A outer s H E hr tk po =>
    (dss_one (ds_ret (de_and (de_blt call_isi gn_isi T.z_isinstance (by decide +kernel) (da_cons (de_var 0) (da_cons (de_type .int T.z_int (by decide +kernel)) da_nil))) (de_one (de_not (de_blt call_isi gn_isi T.z_isinstance (by decide +kernel) (da_cons (de_var 0) (da_cons (de_type .bl T.z_bool (by decide +kernel)) da_nil))))))))
end
section
variable {P : Program} {w : World} {K : PySem.W.Frag} {mg : Str → Option Value} {base : Heap}
theorem o_has_form (T : Top P w K mg) : FnOk P w K mg base (CX P w) 2 T.a_has_form T.d_has_form ["thing"] (spF K 1 f_has_form) := fn_denD T.F_has_form sc_has_form fun cdv A outer s H E hr tk po =>
    (dss_cons (ds_if (dw_or (dt_not (dt_val (de_blt call_isi gn_isi T.z_isinstance (by decide +kernel) (da_cons (de_var 0) (da_cons (de_type .tup T.z_tuple (by decide +kernel)) da_nil))))) (dw_or (dt_cmp (op_eqT0 (Nat.lt_of_succ_lt (hu1 hr))) g2_eqT0 (de_var 0) (de_tup da_nil)) (dw_or1 (dt_not (dt_val (de_blt call_isi gn_isi T.z_isinstance (by decide +kernel) (da_cons (de_ix (de_var 0) de_int) (da_cons (de_type .str T.z_str (by decide +kernel)) da_nil)))))))).pt
    (dss_one (ds_ret de_bl))
    dss_nil)
    (dss_cons (ds_if (dt_cmp (op_neM hr) g2_ne (de_kget1 T.kd_LENGTHS T.m_LENGTHS (de_ix (de_var 0) de_int)) (de_len T.z_len (da_cons (de_var 0) da_nil)))
    (dss_one (ds_ret de_bl))
    dss_nil)
    (dss_cons (ds_if (dt_cmp op_inA g2_in (de_ix (de_var 0) de_int) (de_tup (da_cons (de_str [110, 97, 109, 101]) (da_cons (de_str [102, 117, 110]) (da_cons (de_str [108, 101, 116]) da_nil)))))
    (dss_one (ds_ret (de_callX (o_is_name T) (hr.mono (by omega)) tk T.m_is_name T.F_is_name.kp T.b_is_name .nil (fun _ _ _ => .nil) (da_cons (de_ix (de_var 0) de_int) da_nil))))
    dss_nil)
    (dss_cons (ds_if (dt_cmp (op_eqM hr) g2_eq (de_ix (de_var 0) de_int) (de_str [105, 110, 116]))
    (dss_one (ds_ret (de_callX (o_is_whole T) (hr.mono (by omega)) tk T.m_is_whole T.F_is_whole.kp T.b_is_whole .nil (fun _ _ _ => .nil) (da_cons (de_ix (de_var 0) de_int) da_nil))))
    dss_nil)
    (dss_one (ds_ret (de_or (de_cmp (op_neM hr) g2_ne (de_ix (de_var 0) de_int) (de_str [98, 111, 111, 108])) (de_one (de_blt call_isi gn_isi T.z_isinstance (by decide +kernel) (da_cons (de_ix (de_var 0) de_int) (da_cons (de_type .bl T.z_bool (by decide +kernel)) da_nil)))))))))))
end
end Fro

namespace Fro
open PySem PySem.Spec L2
section
variable {P : Program} {w : World} {K : PySem.W.Frag} {mg : Str → Option Value} {base : Heap}
theorem o_want_bare (T : Top P w K mg) : ∀ m : Nat, FnOk P w K mg base (CX P w) (m + 3) T.a_want_bare T.d_want_bare ["thing", "place"] (spF K 2 (f_want_bare m))
  | 0 => fn_zero rfl
  | m + 1 => by
    have ih := o_want_bare T m
    have ok : FnOk P w K mg base (CX P w) (m + 3 + 1) T.a_want_bare T.d_want_bare ["thing", "place"] (spF K 2 (fdef 3 (b_want_bare (f_want_bare m)))) := fn_denD T.F_want_bare sc_want_bare fun cdv A outer s H E hr tk po =>
    (dss_cons (ds_if (dt_not (dt_val (de_callX (o_has_form T) (hr.mono (by omega)) tk T.m_has_form T.F_has_form.kp T.b_has_form .nil (fun _ _ _ => .nil) (da_cons (de_var 0) da_nil))))
    (dss_one (ds_raise (xc_NoBare T) (hr.mono (by omega)) tk rfl (da_cons (de_var 1) da_nil)))
    dss_nil)
    (dss_one (ds_for po rfl (di_tup (de_kget2 T.kd_SPOTS T.m_SPOTS (de_ix (de_var 0) de_int) (de_tup da_nil))) (pg_name (i := 2) sc_want_bare.nd rfl (by first | exact Or.inl rfl | exact Or.inr rfl)) (gok_name 2)
    (dss_one (ds_expr (de_callX ih hr tk T.m_want_bare T.F_want_bare.kp T.b_want_bare .nil (fun _ _ _ => .nil) (da_cons (de_ix (de_var 0) (de_var 2)) (da_cons (de_bin op_addA g2_add (de_var 1) (de_tup (da_cons (de_var 2) da_nil))) da_nil))))))))
    exact ok.mono (by omega)
end
section
variable {P : Program} {w : World} {K : PySem.W.Frag} {mg : Str → Option Value} {base : Heap}
theorem o_letter (T : Top P w K mg) : FnOk P w K mg base (CX P w) 1 T.a_letter T.d_letter ["number"] (spF K 1 f_letter) := fn_denD T.F_letter sc_letter fun cdv A outer s H E hr tk po =>
    (dss_cons (ds_set 1 sc_letter.nd (de_ix (de_const 8 T.m_LETTERS T.c_LETTERS) (de_bin op_mod g2_mod (de_bty call_int1 gn_int T.z_int (by decide +kernel) (da_cons (de_var 0) da_nil)) de_int)))
    (dss_cons (ds_set 2 sc_letter.nd (de_bin op_fdiv g2_div (de_var 0) de_int))
    (dss_cons (ds_while 100000 po (dt_cmp op_gt g2_gt (de_var 2) de_int)
    (dss_cons (ds_set 1 sc_letter.nd (de_bin op_addA g2_add (de_ix (de_const 8 T.m_LETTERS T.c_LETTERS) (de_bin op_mod g2_mod (de_bty call_int1 gn_int T.z_int (by decide +kernel) (da_cons (de_bin op_sub g2_sub (de_var 2) de_int) da_nil)) de_int)) (de_var 1)))
    (dss_one (ds_set 2 sc_letter.nd (de_bin op_fdiv g2_div (de_bin op_sub g2_sub (de_var 2) de_int) de_int)))))
    (dss_one (ds_ret (de_var 1))))))
end
section
variable {P : Program} {w : World} {K : PySem.W.Frag} {mg : Str → Option Value} {base : Heap}
theorem o_first_letters (T : Top P w K mg) : FnOk P w K mg base (CX P w) 2 T.a_first_letters T.d_first_letters ["taken"] (spF K 1 f_first_letters) := fn_denD T.F_first_letters sc_first_letters fun cdv A outer s H E hr tk po =>
    (dss_cons (ds_set 1 sc_first_letters.nd de_int)
    (dss_cons (ds_while 100000 po (dw_or (dt_cmp op_inA g2_in (de_callX (o_letter T) (hr.mono (by omega)) tk T.m_letter T.F_letter.kp T.b_letter .nil (fun _ _ _ => .nil) (da_cons (de_var 1) da_nil)) (de_var 0)) (dw_or1 (dt_cmp op_inA g2_in (de_callX (o_letter T) (hr.mono (by omega)) tk T.m_letter T.F_letter.kp T.b_letter .nil (fun _ _ _ => .nil) (da_cons (de_var 1) da_nil)) (de_const 8 T.m_BARRED T.c_BARRED)))).pt
    (dss_one (ds_set 1 sc_first_letters.nd (de_bin op_addA g2_add (de_var 1) de_int))))
    (dss_one (ds_ret (de_callX (o_letter T) (hr.mono (by omega)) tk T.m_letter T.F_letter.kp T.b_letter .nil (fun _ _ _ => .nil) (da_cons (de_var 1) da_nil))))))
end
section
variable {P : Program} {w : World} {K : PySem.W.Frag} {mg : Str → Option Value} {base : Heap}
theorem o_relettered (T : Top P w K mg) : ∀ m : Nat, FnOk P w K mg base (CX P w) (m + 2) T.a_relettered T.d_relettered ["term", "changes", "taken"] (spF K 3 (f_relettered m))
  | 0 => fn_zero rfl
  | m + 1 => by
    have ih := o_relettered T m
    have ok : FnOk P w K mg base (CX P w) (m + 2 + 1) T.a_relettered T.d_relettered ["term", "changes", "taken"] (spF K 3 (fdef 5 (b_relettered (f_relettered m)))) := fn_denD T.F_relettered sc_relettered fun cdv A outer s H E hr tk po =>
    (dss_cons (ds_if (dt_cmp (op_eqM hr) g2_eq (de_ix (de_var 0) de_int) (de_str [110, 97, 109, 101]))
    (dss_one (ds_ret (de_tup (da_cons (de_str [110, 97, 109, 101]) (da_cons (de_dget2 hr (de_var 1) (de_ix (de_var 0) de_int) (de_ix (de_var 0) de_int)) da_nil)))))
    dss_nil)
    (dss_cons (ds_if (dt_cmp (op_eqM hr) g2_eq (de_ix (de_var 0) de_int) (de_str [102, 117, 110]))
    (dss_cons (ds_set 3 sc_relettered.nd (de_callX (o_first_letters T) (hr.mono (by omega)) tk T.m_first_letters T.F_first_letters.kp T.b_first_letters .nil (fun _ _ _ => .nil) (da_cons (de_var 2) da_nil)))
    (dss_one (ds_ret (de_tup (da_cons (de_str [102, 117, 110]) (da_cons (de_var 3) (da_cons (de_callX ih hr tk T.m_relettered T.F_relettered.kp T.b_relettered .nil (fun _ _ _ => .nil) (da_cons (de_ix (de_var 0) de_int) (da_cons (de_star (de_var 1) (de_ix (de_var 0) de_int) (de_var 3)) (da_cons (de_bin op_addA g2_add (de_var 2) (de_lst (da_cons (de_var 3) da_nil))) da_nil)))) da_nil)))))))
    dss_nil)
    (dss_cons (ds_if (dt_cmp (op_eqM hr) g2_eq (de_ix (de_var 0) de_int) (de_str [108, 101, 116]))
    (dss_cons (ds_par 3 4 sc_relettered.nd (da_cons (de_callX (o_first_letters T) (hr.mono (by omega)) tk T.m_first_letters T.F_first_letters.kp T.b_first_letters .nil (fun _ _ _ => .nil) (da_cons (de_var 2) da_nil)) (da_cons (de_callX ih hr tk T.m_relettered T.F_relettered.kp T.b_relettered .nil (fun _ _ _ => .nil) (da_cons (de_ix (de_var 0) de_int) (da_cons (de_var 1) (da_cons (de_var 2) da_nil)))) da_nil)))
    (dss_one (ds_ret (de_tup (da_cons (de_str [108, 101, 116]) (da_cons (de_var 3) (da_cons (de_var 4) (da_cons (de_callX ih hr tk T.m_relettered T.F_relettered.kp T.b_relettered .nil (fun _ _ _ => .nil) (da_cons (de_ix (de_var 0) de_int) (da_cons (de_star (de_var 1) (de_ix (de_var 0) de_int) (de_var 3)) (da_cons (de_bin op_addA g2_add (de_var 2) (de_lst (da_cons (de_var 3) da_nil))) da_nil)))) da_nil))))))))
    dss_nil)
    (dss_cons (ds_if (dt_cmp op_inA g2_in (de_ix (de_var 0) de_int) (de_tup (da_cons (de_str [97, 112, 112]) (da_cons (de_str [112, 97, 105, 114]) da_nil))))
    (dss_one (ds_ret (de_tup (da_cons (de_ix (de_var 0) de_int) (da_cons (de_callX ih hr tk T.m_relettered T.F_relettered.kp T.b_relettered .nil (fun _ _ _ => .nil) (da_cons (de_ix (de_var 0) de_int) (da_cons (de_var 1) (da_cons (de_var 2) da_nil)))) (da_cons (de_callX ih hr tk T.m_relettered T.F_relettered.kp T.b_relettered .nil (fun _ _ _ => .nil) (da_cons (de_ix (de_var 0) de_int) (da_cons (de_var 1) (da_cons (de_var 2) da_nil)))) da_nil))))))
    dss_nil)
    (dss_one (ds_ret (de_var 0)))))))
    exact ok.mono (by omega)
end
end Fro

namespace Fro
open PySem PySem.Spec L2
section
variable {P : Program} {w : World} {K : PySem.W.Frag} {mg : Str → Option Value} {base : Heap}
theorem o_free_names (T : Top P w K mg) : ∀ m : Nat, FnOk P w K mg base (CX P w) (m + 0) T.a_free_names T.d_free_names ["term"] (spF K 1 (f_free_names m))
  | 0 => fn_zero rfl
  | m + 1 => by
    have ih := o_free_names T m
    have ok : FnOk P w K mg base (CX P w) (m + 0 + 1) T.a_free_names T.d_free_names ["term"] (spF K 1 (fdef 5 (b_free_names (f_free_names m)))) := fn_denD T.F_free_names sc_free_names fun cdv A outer s H E hr tk po =>
    (dss_cons (ds_if (dt_cmp (op_eqM hr) g2_eq (de_ix (de_var 0) de_int) (de_str [110, 97, 109, 101]))
    (dss_one (ds_ret (de_lst (da_cons (de_ix (de_var 0) de_int) da_nil))))
    dss_nil)
    (dss_cons (ds_set 1 sc_free_names.nd (de_lstM da_nil))
    (dss_cons (ds_for po rfl (di_tup (de_kget2 T.kd_SPOTS T.m_SPOTS (de_ix (de_var 0) de_int) (de_tup da_nil))) (pg_name (i := 2) sc_free_names.nd rfl (by first | exact Or.inl rfl | exact Or.inr rfl)) (gok_name 2)
    (dss_cons (ds_set 3 sc_free_names.nd (de_callX ih hr tk T.m_free_names T.F_free_names.kp T.b_free_names .nil (fun _ _ _ => .nil) (da_cons (de_ix (de_var 0) (de_var 2)) da_nil)))
    (dss_cons (ds_if (dw_or (dt_cmp (op_eqM hr) g2_eq (de_ix (de_var 0) de_int) (de_str [102, 117, 110])) (dw_or1 (dw_and (dt_cmp (op_eqM hr) g2_eq (de_ix (de_var 0) de_int) (de_str [108, 101, 116])) (dw_and1 (dt_cmp (op_eqM hr) g2_eq (de_var 2) de_int))).pt)).pt
    (dss_one (ds_setComp 3 (own := [("name", 4)]) rfl sc_free_names.nd (di_list (de_var 3)) (gok_name 4) (blk_by (N := ["term", "found", "spot", "inside", "name"]) (sc := defScope s_free_names) (by decide +kernel)) (fun _ _ _ _ _ => (pg_name (i := 4) sc_free_names.nd rfl (by first | exact Or.inl rfl | exact Or.inr rfl))) (fun _ _ _ _ _ => (dts_one (dt_cmp (op_neM hr) g2_ne (de_var 4) (de_ix (de_var 0) de_int)))) (fun _ _ _ _ _ => (de_var 4))))
    dss_nil)
    (dss_one (ds_expr (de_extend (de_var 1) (de_comp (own := [("name", 4)]) rfl sc_free_names.nd (di_list (de_var 3)) (gok_name 4) (blk_by (N := ["term", "found", "spot", "inside", "name"]) (sc := defScope s_free_names) (by decide +kernel)) (fun _ _ _ _ _ => (pg_name (i := 4) sc_free_names.nd rfl (by first | exact Or.inl rfl | exact Or.inr rfl))) (fun _ _ _ _ _ => (dts_one (dt_cmp op_notInA g2_notIn (de_var 4) (de_var 1)))) (fun _ _ _ _ _ => (de_var 4)))))))))
    (dss_one (ds_ret (de_var 1))))))
    exact ok.mono (by omega)
end
section
variable {P : Program} {w : World} {K : PySem.W.Frag} {mg : Str → Option Value} {base : Heap}
theorem o_plain_bare (T : Top P w K mg) : FnOk P w K mg base (CX P w) 63 T.a_plain_bare T.d_plain_bare ["term"] (spF K 1 f_plain_bare) := fn_denD T.F_plain_bare sc_plain_bare fun cdv A outer s H E hr tk po =>
    (dss_one (ds_ret (de_callX (o_relettered T 60) (hr.mono (by omega)) tk T.m_relettered T.F_relettered.kp T.b_relettered .nil (fun _ _ _ => .nil) (da_cons (de_var 0) (da_cons de_dict0 (da_cons (de_callX (o_free_names T 60) (hr.mono (by omega)) tk T.m_free_names T.F_free_names.kp T.b_free_names .nil (fun _ _ _ => .nil) (da_cons (de_var 0) da_nil)) da_nil))))))
end
section
variable {P : Program} {w : World} {K : PySem.W.Frag} {mg : Str → Option Value} {base : Heap}
theorem oo_exchanged (T : Top P w K mg) : ∀ m : Nat, FnOk P w K mg base (CX P w) (m + 60) T.a_exchanged T.d_exchanged ["term", "name", "other", "frees"] (spF K 4 (f_exchanged m)) ∧ FnOk P w K mg base (CX P w) (m + 60) T.a_away_from T.d_away_from ["name", "body", "frees"] (spF K 3 (f_away_from m))
  | 0 => ⟨fn_zero rfl, fn_zero rfl⟩
  | m + 1 => by
    have ih := oo_exchanged T m
    have ok_exchanged : FnOk P w K mg base (CX P w) (m + 60 + 1) T.a_exchanged T.d_exchanged ["term", "name", "other", "frees"] (spF K 4 (fdef 6 (b_exchanged (f_exchanged m) (f_away_from m)))) := fn_denD T.F_exchanged sc_exchanged fun cdv A outer s H E hr tk po =>
    (dss_cons (ds_if (dt_cmp (op_eqM hr) g2_eq (de_ix (de_var 0) de_int) (de_str [110, 97, 109, 101]))
    (dss_one (ds_ret (de_if (dt_cmp (op_eqM hr) g2_eq (de_ix (de_var 0) de_int) (de_var 1)) (de_var 2) (de_var 0))))
    dss_nil)
    (dss_cons (ds_if (dt_cmp op_inA g2_in (de_ix (de_var 0) de_int) (de_tup (da_cons (de_str [97, 112, 112]) (da_cons (de_str [112, 97, 105, 114]) da_nil))))
    (dss_one (ds_ret (de_tup (da_cons (de_ix (de_var 0) de_int) (da_cons (de_callX ih.1 hr tk T.m_exchanged T.F_exchanged.kp T.b_exchanged .nil (fun _ _ _ => .nil) (da_cons (de_ix (de_var 0) de_int) (da_cons (de_var 1) (da_cons (de_var 2) (da_cons (de_var 3) da_nil))))) (da_cons (de_callX ih.1 hr tk T.m_exchanged T.F_exchanged.kp T.b_exchanged .nil (fun _ _ _ => .nil) (da_cons (de_ix (de_var 0) de_int) (da_cons (de_var 1) (da_cons (de_var 2) (da_cons (de_var 3) da_nil))))) da_nil))))))
    dss_nil)
    (dss_cons (ds_if (dt_cmp op_notInA g2_notIn (de_ix (de_var 0) de_int) (de_tup (da_cons (de_str [102, 117, 110]) (da_cons (de_str [108, 101, 116]) da_nil))))
    (dss_one (ds_ret (de_var 0)))
    dss_nil)
    (dss_cons (ds_set 4 sc_exchanged.nd (de_ix (de_var 0) (de_neg de_int)))
    (dss_cons (ds_set 5 sc_exchanged.nd (de_ix (de_var 0) de_int))
    (dss_cons (ds_if (dw_and (dt_cmp (op_neM hr) g2_ne (de_var 5) (de_var 1)) (dw_and1 (dt_cmp op_inA g2_in (de_var 1) (de_callX (o_free_names T 60) (hr.mono (by omega)) tk T.m_free_names T.F_free_names.kp T.b_free_names .nil (fun _ _ _ => .nil) (da_cons (de_var 4) da_nil))))).pt
    (dss_cons (ds_if (dt_cmp op_inA g2_in (de_var 5) (de_var 3))
    (dss_one (ds_asg (de_callX ih.2 hr tk T.m_away_from T.F_away_from.kp T.b_away_from .nil (fun _ _ _ => .nil) (da_cons (de_var 5) (da_cons (de_var 4) (da_cons (de_bin op_addA g2_add (de_var 3) (de_lst (da_cons (de_var 1) da_nil))) da_nil)))) (pg_tup rfl (pgs_cons (pg_name (i := 5) sc_exchanged.nd rfl (by first | exact Or.inl rfl | exact Or.inr rfl)) (pgs_cons (pg_name (i := 4) sc_exchanged.nd rfl (by first | exact Or.inl rfl | exact Or.inr rfl)) pgs_nil))) (gok_tup (gsok_cons (gok_name 5) (gsok_cons (gok_name 4) gsok_nil)))))
    dss_nil)
    (dss_one (ds_set 4 sc_exchanged.nd (de_callX ih.1 hr tk T.m_exchanged T.F_exchanged.kp T.b_exchanged .nil (fun _ _ _ => .nil) (da_cons (de_var 4) (da_cons (de_var 1) (da_cons (de_var 2) (da_cons (de_var 3) da_nil))))))))
    dss_nil)
    (dss_cons (ds_if (dt_cmp (op_eqM hr) g2_eq (de_ix (de_var 0) de_int) (de_str [102, 117, 110]))
    (dss_one (ds_ret (de_tup (da_cons (de_str [102, 117, 110]) (da_cons (de_var 5) (da_cons (de_var 4) da_nil))))))
    dss_nil)
    (dss_one (ds_ret (de_tup (da_cons (de_str [108, 101, 116]) (da_cons (de_var 5) (da_cons (de_callX ih.1 hr tk T.m_exchanged T.F_exchanged.kp T.b_exchanged .nil (fun _ _ _ => .nil) (da_cons (de_ix (de_var 0) de_int) (da_cons (de_var 1) (da_cons (de_var 2) (da_cons (de_var 3) da_nil))))) (da_cons (de_var 4) da_nil))))))))))))))
    have ok_away_from : FnOk P w K mg base (CX P w) (m + 60 + 1) T.a_away_from T.d_away_from ["name", "body", "frees"] (spF K 3 (fdef 5 (b_away_from (f_exchanged m) (f_away_from m)))) := fn_denD T.F_away_from sc_away_from fun cdv A outer s H E hr tk po =>
    (dss_cons (ds_par 3 4 sc_away_from.nd (da_cons (de_str [113]) (da_cons (de_callX (o_free_names T 60) (hr.mono (by omega)) tk T.m_free_names T.F_free_names.kp T.b_free_names .nil (fun _ _ _ => .nil) (da_cons (de_var 1) da_nil)) da_nil)))
    (dss_cons (ds_while 100000 po (dw_or (dt_cmp op_inA g2_in (de_var 3) (de_var 4)) (dw_or1 (dt_cmp op_inA g2_in (de_var 3) (de_var 2)))).pt
    (dss_one (ds_set 3 sc_away_from.nd (de_bin op_addA g2_add (de_var 3) (de_str [113])))))
    (dss_one (ds_ret (de_tup (da_cons (de_var 3) (da_cons (de_callX ih.1 hr tk T.m_exchanged T.F_exchanged.kp T.b_exchanged .nil (fun _ _ _ => .nil) (da_cons (de_var 1) (da_cons (de_var 0) (da_cons (de_tup (da_cons (de_str [110, 97, 109, 101]) (da_cons (de_var 3) da_nil))) (da_cons (de_lst (da_cons (de_var 3) da_nil)) da_nil))))) da_nil)))))))
    exact ⟨ok_exchanged.mono (by omega), ok_away_from.mono (by omega)⟩
theorem o_exchanged (T : Top P w K mg) (m : Nat) : FnOk P w K mg base (CX P w) (m + 60) T.a_exchanged T.d_exchanged ["term", "name", "other", "frees"] (spF K 4 (f_exchanged m)) := (oo_exchanged T m).1
theorem o_away_from (T : Top P w K mg) (m : Nat) : FnOk P w K mg base (CX P w) (m + 60) T.a_away_from T.d_away_from ["name", "body", "frees"] (spF K 3 (f_away_from m)) := (oo_exchanged T m).2
end
section
variable {P : Program} {w : World} {K : PySem.W.Frag} {mg : Str → Option Value} {base : Heap}
theorem o_filled (T : Top P w K mg) : FnOk P w K mg base (CX P w) 166 T.a_filled T.d_filled ["body", "name", "other"] (spF K 3 f_filled) := fn_denD T.F_filled sc_filled fun cdv A outer s H E hr tk po =>
    (dss_one (ds_ret (de_callX (o_exchanged T 105) (hr.mono (by omega)) tk T.m_exchanged T.F_exchanged.kp T.b_exchanged .nil (fun _ _ _ => .nil) (da_cons (de_var 0) (da_cons (de_var 1) (da_cons (de_var 2) (da_cons (de_callX (o_free_names T 60) (hr.mono (by omega)) tk T.m_free_names T.F_free_names.kp T.b_free_names .nil (fun _ _ _ => .nil) (da_cons (de_var 2) da_nil)) da_nil)))))))
end
end Fro

namespace Fro
open PySem PySem.Spec L2
section
variable {P : Program} {w : World} {K : PySem.W.Frag} {mg : Str → Option Value} {base : Heap}
theorem o_without_lets (T : Top P w K mg) : ∀ m : Nat, FnOk P w K mg base (CX P w) (m + 166) T.a_without_lets T.d_without_lets ["term"] (spF K 1 (f_without_lets m))
  | 0 => fn_zero rfl
  | m + 1 => by
    have ih := o_without_lets T m
    have ok : FnOk P w K mg base (CX P w) (m + 166 + 1) T.a_without_lets T.d_without_lets ["term"] (spF K 1 (fdef 1 (b_without_lets (f_without_lets m)))) := fn_denD T.F_without_lets sc_without_lets fun cdv A outer s H E hr tk po =>
    (dss_cons (ds_if (dt_cmp (op_eqM hr) g2_eq (de_ix (de_var 0) de_int) (de_str [108, 101, 116]))
    (dss_one (ds_ret (de_callX (o_filled T) (hr.mono (by omega)) tk T.m_filled T.F_filled.kp T.b_filled .nil (fun _ _ _ => .nil) (da_cons (de_callX ih hr tk T.m_without_lets T.F_without_lets.kp T.b_without_lets .nil (fun _ _ _ => .nil) (da_cons (de_ix (de_var 0) de_int) da_nil)) (da_cons (de_ix (de_var 0) de_int) (da_cons (de_callX ih hr tk T.m_without_lets T.F_without_lets.kp T.b_without_lets .nil (fun _ _ _ => .nil) (da_cons (de_ix (de_var 0) de_int) da_nil)) da_nil))))))
    dss_nil)
    (dss_cons (ds_if (dt_cmp (op_eqM hr) g2_eq (de_ix (de_var 0) de_int) (de_str [102, 117, 110]))
    (dss_one (ds_ret (de_tup (da_cons (de_str [102, 117, 110]) (da_cons (de_ix (de_var 0) de_int) (da_cons (de_callX ih hr tk T.m_without_lets T.F_without_lets.kp T.b_without_lets .nil (fun _ _ _ => .nil) (da_cons (de_ix (de_var 0) de_int) da_nil)) da_nil))))))
    dss_nil)
    (dss_cons (ds_if (dt_cmp op_inA g2_in (de_ix (de_var 0) de_int) (de_tup (da_cons (de_str [97, 112, 112]) (da_cons (de_str [112, 97, 105, 114]) da_nil))))
    (dss_one (ds_ret (de_tup (da_cons (de_ix (de_var 0) de_int) (da_cons (de_callX ih hr tk T.m_without_lets T.F_without_lets.kp T.b_without_lets .nil (fun _ _ _ => .nil) (da_cons (de_ix (de_var 0) de_int) da_nil)) (da_cons (de_callX ih hr tk T.m_without_lets T.F_without_lets.kp T.b_without_lets .nil (fun _ _ _ => .nil) (da_cons (de_ix (de_var 0) de_int) da_nil)) da_nil))))))
    dss_nil)
    (dss_one (ds_ret (de_var 0))))))
    exact ok.mono (by omega)
end
section
variable {P : Program} {w : World} {K : PySem.W.Frag} {mg : Str → Option Value} {base : Heap}
theorem o_put_in (T : Top P w K mg) : FnOk P w K mg base (CX P w) 227 T.a_put_in T.d_put_in ["term"] (spF K 1 f_put_in) := fn_denD T.F_put_in sc_put_in fun cdv A outer s H E hr tk po =>
    (dss_cons (ds_expr (de_callX (o_want_bare T 60) (hr.mono (by omega)) tk T.m_want_bare T.F_want_bare.kp T.bd1_want_bare T.vd1_want_bare T.wd1_want_bare (da_cons (de_var 0) da_nil)))
    (dss_one (ds_ret (de_callX (o_plain_bare T) (hr.mono (by omega)) tk T.m_plain_bare T.F_plain_bare.kp T.b_plain_bare .nil (fun _ _ _ => .nil) (da_cons (de_callX (o_without_lets T 60) (hr.mono (by omega)) tk T.m_without_lets T.F_without_lets.kp T.b_without_lets .nil (fun _ _ _ => .nil) (da_cons (de_var 0) da_nil)) da_nil)))))
end
section
variable {P : Program} {w : World} {K : PySem.W.Frag} {mg : Str → Option Value} {base : Heap}
theorem o__law_draw (T : Top P w K mg) : FnOk P w K mg base (CX P w) 1 T.a__law_draw T.d__law_draw ["_law_well_here", "_law_many"] (spF K 2 f__law_draw) := fn_denD T.F__law_draw sc__law_draw fun cdv A outer s H E hr tk po =>
    (dss_cons (ds_if (dt_cmp op_ge g2_ge (de_ix (de_var 0) de_int) (de_bin op_pow g2_pow de_int de_int))
    (dss_cons (ds_set 2 sc__law_draw.nd (de_bin op_mod g2_mod (de_bty call_int1 gn_int T.z_int (by decide +kernel) (da_cons (de_ix (de_var 0) de_int) da_nil)) (de_var 1)))
    (dss_cons (ds_asg (de_bin op_fdiv g2_div (de_ix (de_var 0) de_int) (de_var 1)) (pg_sub (de_var 0) de_int set_list) gok_sub)
    (dss_one (ds_ret (de_var 2)))))
    dss_nil)
    (dss_cons (ds_asg (de_bin op_addA g2_add (de_ix (de_var 0) de_int) de_int) (pg_sub (de_var 0) de_int set_list) gok_sub)
    (dss_cons (ds_set 3 sc__law_draw.nd (de_bin op_mod g2_mod (de_bty call_int1 gn_int T.z_int (by decide +kernel) (da_cons (de_bin op_mulA g2_mul (de_bin op_addA g2_add (de_bin op_addA g2_add (de_ix (de_var 0) de_int) (de_bin op_mulA g2_mul de_int (de_ix (de_var 0) de_int))) de_int) de_int) da_nil)) de_int))
    (dss_cons (ds_set 3 sc__law_draw.nd (de_bin op_mod g2_mod (de_bty call_int1 gn_int T.z_int (by decide +kernel) (da_cons (de_bin op_mulA g2_mul (de_var 3) (de_bin op_addA g2_add (de_bin op_fdiv g2_div (de_var 3) de_int) de_int)) da_nil)) de_int))
    (dss_one (ds_ret (de_bin op_mod g2_mod (de_bty call_int1 gn_int T.z_int (by decide +kernel) (da_cons (de_bin op_fdiv g2_div (de_bin op_mod g2_mod (de_bty call_int1 gn_int T.z_int (by decide +kernel) (da_cons (de_bin op_mulA g2_mul (de_var 3) (de_bin op_addA g2_add (de_bin op_fdiv g2_div (de_var 3) de_int) de_int)) da_nil)) de_int) de_int) da_nil)) (de_var 1))))))))
end
section
variable {P : Program} {w : World} {K : PySem.W.Frag} {mg : Str → Option Value} {base : Heap}
theorem o__law_one (T : Top P w K mg) : FnOk P w K mg base (CX P w) 2 T.a__law_one T.d__law_one ["_law_well_here", "_law_some"] (spF K 2 f__law_one) := fn_denD T.F__law_one sc__law_one fun cdv A outer s H E hr tk po =>
    (dss_one (ds_ret (de_ix (de_var 1) (de_callX (o__law_draw T) (hr.mono (by omega)) tk T.m__law_draw T.F__law_draw.kp T.b__law_draw .nil (fun _ _ _ => .nil) (da_cons (de_var 0) (da_cons (de_len T.z_len (da_cons (de_var 1) da_nil)) da_nil))))))
end
end Fro

namespace Fro
open PySem PySem.Spec L2
section
variable {P : Program} {w : World} {K : PySem.W.Frag} {mg : Str → Option Value} {base : Heap}
theorem o__law_raw (T : Top P w K mg) : ∀ m : Nat, FnOk P w K mg base (CX P w) (m + 2) T.a__law_raw T.d__law_raw ["_law_well_here", "_law_names", "_law_deep"] (spF K 3 (f__law_raw m))
  | 0 => fn_zero rfl
  | m + 1 => by
    have ih := o__law_raw T m
    have ok : FnOk P w K mg base (CX P w) (m + 2 + 1) T.a__law_raw T.d__law_raw ["_law_well_here", "_law_names", "_law_deep"] (spF K 3 (fdef 10 (b__law_raw (f__law_raw m)))) := fn_denD T.F__law_raw sc__law_raw fun cdv A outer s H E hr tk po =>
    (dss_cons (ds_set 3 sc__law_raw.nd (de_callX (o__law_draw T) (hr.mono (by omega)) tk T.m__law_draw T.F__law_draw.kp T.b__law_draw .nil (fun _ _ _ => .nil) (da_cons (de_var 0) (da_cons (de_if (dt_cmp op_gt g2_gt (de_var 2) de_int) de_int de_int) da_nil))))
    (dss_cons (ds_set 4 sc__law_raw.nd (de_lst (da_cons (de_str [102, 115, 116]) (da_cons (de_str [115, 110, 100]) (da_cons (de_str [110, 105, 108]) (da_cons (de_str [99, 111, 110, 115]) (da_cons (de_str [102, 111, 108, 100]) (da_cons (de_str [112, 105, 99, 107]) (da_cons (de_str [105, 116, 101, 114]) (da_cons (de_str [97, 100, 100]) (da_cons (de_str [108, 101, 115, 115]) (da_cons (de_str [117]) da_nil))))))))))))
    (dss_cons (ds_if (dt_cmp op_lt g2_lt (de_var 3) de_int)
    (dss_cons (ds_set 5 sc__law_raw.nd (de_lst (da_cons (de_tup (da_cons (de_str [105, 110, 116]) (da_cons (de_bin op_sub g2_sub (de_callX (o__law_draw T) (hr.mono (by omega)) tk T.m__law_draw T.F__law_draw.kp T.b__law_draw .nil (fun _ _ _ => .nil) (da_cons (de_var 0) (da_cons de_int da_nil))) de_int) da_nil))) (da_cons (de_tup (da_cons (de_str [98, 111, 111, 108]) (da_cons (de_cmp (op_eqM hr) g2_eq (de_callX (o__law_draw T) (hr.mono (by omega)) tk T.m__law_draw T.F__law_draw.kp T.b__law_draw .nil (fun _ _ _ => .nil) (da_cons (de_var 0) (da_cons de_int da_nil))) de_int) da_nil))) (da_cons (de_tup (da_cons (de_str [117, 110, 105, 116]) da_nil)) (da_cons (de_tup (da_cons (de_str [110, 97, 109, 101]) (da_cons (de_str [110, 105, 108]) da_nil))) da_nil))))))
    (dss_cons (ds_set 5 sc__law_raw.nd (de_bin op_addA g2_add (de_var 5) (de_bin op_mulA g2_mul (de_lst (da_cons (de_tup (da_cons (de_str [110, 97, 109, 101]) (da_cons (de_callX (o__law_one T) (hr.mono (by omega)) tk T.m__law_one T.F__law_one.kp T.b__law_one .nil (fun _ _ _ => .nil) (da_cons (de_var 0) (da_cons (de_bin op_addA g2_add (de_bin op_addA g2_add (de_bin op_addA g2_add (de_var 4) (de_var 1)) (de_var 1)) (de_var 1)) da_nil))) da_nil))) da_nil)) de_int)))
    (dss_one (ds_ret (de_callX (o__law_one T) (hr.mono (by omega)) tk T.m__law_one T.F__law_one.kp T.b__law_one .nil (fun _ _ _ => .nil) (da_cons (de_var 0) (da_cons (de_var 5) da_nil)))))))
    dss_nil)
    (dss_cons (ds_set 6 sc__law_raw.nd (de_callX (o__law_one T) (hr.mono (by omega)) tk T.m__law_one T.F__law_one.kp T.b__law_one .nil (fun _ _ _ => .nil) (da_cons (de_var 0) (da_cons (de_lst (da_cons (de_str [120]) (da_cons (de_str [121]) (da_cons (de_str [122]) (da_cons (de_str [97]) (da_cons (de_str [98]) (da_cons (de_str [97, 100, 100]) (da_cons (de_str [113]) (da_cons (de_str [102, 115, 116]) (da_cons (de_str [110, 105, 108]) (da_cons (de_str [99, 111, 110, 115]) (da_cons (de_str [105, 116, 101, 114]) da_nil)))))))))))) da_nil))))
    (dss_cons (ds_if (dw_or (dt_cmp (op_eqM hr) g2_eq (de_var 3) de_int) (dw_or1 (dt_cmp (op_eqM hr) g2_eq (de_var 3) de_int))).pt
    (dss_one (ds_ret (de_tup (da_cons (de_str [102, 117, 110]) (da_cons (de_var 6) (da_cons (de_callX ih hr tk T.m__law_raw T.F__law_raw.kp T.b__law_raw .nil (fun _ _ _ => .nil) (da_cons (de_var 0) (da_cons (de_bin op_addA g2_add (de_var 1) (de_lst (da_cons (de_var 6) da_nil))) (da_cons (de_bin op_sub g2_sub (de_var 2) de_int) da_nil)))) da_nil))))))
    dss_nil)
    (dss_cons (ds_if (dt_cmp (op_eqM hr) g2_eq (de_var 3) de_int)
    (dss_one (ds_ret (de_tup (da_cons (de_str [108, 101, 116]) (da_cons (de_var 6) (da_cons (de_callX ih hr tk T.m__law_raw T.F__law_raw.kp T.b__law_raw .nil (fun _ _ _ => .nil) (da_cons (de_var 0) (da_cons (de_var 1) (da_cons (de_bin op_sub g2_sub (de_var 2) de_int) da_nil)))) (da_cons (de_callX ih hr tk T.m__law_raw T.F__law_raw.kp T.b__law_raw .nil (fun _ _ _ => .nil) (da_cons (de_var 0) (da_cons (de_bin op_addA g2_add (de_var 1) (de_lst (da_cons (de_var 6) da_nil))) (da_cons (de_bin op_sub g2_sub (de_var 2) de_int) da_nil)))) da_nil)))))))
    dss_nil)
    (dss_cons (ds_if (dt_cmp (op_eqM hr) g2_eq (de_var 3) de_int)
    (dss_one (ds_ret (de_tup (da_cons (de_str [112, 97, 105, 114]) (da_cons (de_callX ih hr tk T.m__law_raw T.F__law_raw.kp T.b__law_raw .nil (fun _ _ _ => .nil) (da_cons (de_var 0) (da_cons (de_var 1) (da_cons (de_bin op_sub g2_sub (de_var 2) de_int) da_nil)))) (da_cons (de_callX ih hr tk T.m__law_raw T.F__law_raw.kp T.b__law_raw .nil (fun _ _ _ => .nil) (da_cons (de_var 0) (da_cons (de_var 1) (da_cons (de_bin op_sub g2_sub (de_var 2) de_int) da_nil)))) da_nil))))))
    dss_nil)
    (dss_cons (ds_if (dt_cmp op_lt g2_lt (de_var 3) de_int)
    (dss_one (ds_ret (de_tup (da_cons (de_str [97, 112, 112]) (da_cons (de_callX ih hr tk T.m__law_raw T.F__law_raw.kp T.b__law_raw .nil (fun _ _ _ => .nil) (da_cons (de_var 0) (da_cons (de_var 1) (da_cons (de_bin op_sub g2_sub (de_var 2) de_int) da_nil)))) (da_cons (de_callX ih hr tk T.m__law_raw T.F__law_raw.kp T.b__law_raw .nil (fun _ _ _ => .nil) (da_cons (de_var 0) (da_cons (de_var 1) (da_cons (de_bin op_sub g2_sub (de_var 2) de_int) da_nil)))) da_nil))))))
    dss_nil)
    (dss_cons (ds_set 7 sc__law_raw.nd (de_callX (o__law_one T) (hr.mono (by omega)) tk T.m__law_one T.F__law_one.kp T.b__law_one .nil (fun _ _ _ => .nil) (da_cons (de_var 0) (da_cons (de_lst (da_cons (de_str [102, 115, 116]) (da_cons (de_str [115, 110, 100]) (da_cons (de_str [99, 111, 110, 115]) (da_cons (de_str [102, 111, 108, 100]) (da_cons (de_str [112, 105, 99, 107]) (da_cons (de_str [105, 116, 101, 114]) (da_cons (de_str [97, 100, 100]) (da_cons (de_str [108, 101, 115, 115]) da_nil))))))))) da_nil))))
    (dss_cons (ds_set 8 sc__law_raw.nd (de_tup (da_cons (de_str [110, 97, 109, 101]) (da_cons (de_var 7) da_nil))))
    (dss_cons (ds_for po rfl (di_range T.z_range (da_cons (de_dget2 hr (de_dict (dd_cons (de_str [102, 115, 116]) de_int (dd_cons (de_str [115, 110, 100]) de_int (dd_cons (de_str [99, 111, 110, 115]) de_int (dd_cons (de_str [97, 100, 100]) de_int (dd_cons (de_str [108, 101, 115, 115]) de_int dd_nil)))))) (de_var 7) de_int) da_nil)) (pg_name (i := 9) sc__law_raw.nd rfl (by first | exact Or.inl rfl | exact Or.inr rfl)) (gok_name 9)
    (dss_one (ds_set 8 sc__law_raw.nd (de_tup (da_cons (de_str [97, 112, 112]) (da_cons (de_var 8) (da_cons (de_callX ih hr tk T.m__law_raw T.F__law_raw.kp T.b__law_raw .nil (fun _ _ _ => .nil) (da_cons (de_var 0) (da_cons (de_var 1) (da_cons (de_bin op_sub g2_sub (de_var 2) de_int) da_nil)))) da_nil)))))))
    (dss_one (ds_ret (de_var 8))))))))))))))
    exact ok.mono (by omega)
end
section
variable {P : Program} {w : World} {K : PySem.W.Frag} {mg : Str → Option Value} {base : Heap}
theorem o__law_in (T : Top P w K mg) : ∀ m : Nat, FnOk P w K mg base (CX P w) (m + 0) T.a__law_in T.d__law_in ["_law_term", "_law_around"] (spF K 2 (f__law_in m))
  | 0 => fn_zero rfl
  | m + 1 => by
    have ih := o__law_in T m
    have ok : FnOk P w K mg base (CX P w) (m + 0 + 1) T.a__law_in T.d__law_in ["_law_term", "_law_around"] (spF K 2 (fdef 3 (b__law_in (f__law_in m)))) := fn_denD T.F__law_in sc__law_in fun cdv A outer s H E hr tk po =>
    (dss_cons (ds_set 2 sc__law_in.nd (de_ix (de_var 0) de_int))
    (dss_cons (ds_if (dt_cmp (op_eqM hr) g2_eq (de_var 2) (de_str [110, 97, 109, 101]))
    (dss_one (ds_ret (de_if (dt_cmp op_inA g2_in (de_ix (de_var 0) de_int) (de_var 1)) (de_tup (da_cons (de_str [98]) (da_cons (de_index (de_rev (de_var 1)) (de_ix (de_var 0) de_int)) da_nil))) (de_var 0))))
    dss_nil)
    (dss_cons (ds_if (dt_cmp (op_eqM hr) g2_eq (de_var 2) (de_str [102, 117, 110]))
    (dss_one (ds_ret (de_tup (da_cons (de_str [102, 117, 110]) (da_cons (de_callX ih hr tk T.m__law_in T.F__law_in.kp T.b__law_in .nil (fun _ _ _ => .nil) (da_cons (de_ix (de_var 0) de_int) (da_cons (de_bin op_addA g2_add (de_var 1) (de_lst (da_cons (de_ix (de_var 0) de_int) da_nil))) da_nil))) da_nil)))))
    dss_nil)
    (dss_cons (ds_if (dt_cmp (op_eqM hr) g2_eq (de_var 2) (de_str [108, 101, 116]))
    (dss_one (ds_ret (de_tup (da_cons (de_str [108, 101, 116]) (da_cons (de_callX ih hr tk T.m__law_in T.F__law_in.kp T.b__law_in .nil (fun _ _ _ => .nil) (da_cons (de_ix (de_var 0) de_int) (da_cons (de_var 1) da_nil))) (da_cons (de_callX ih hr tk T.m__law_in T.F__law_in.kp T.b__law_in .nil (fun _ _ _ => .nil) (da_cons (de_ix (de_var 0) de_int) (da_cons (de_bin op_addA g2_add (de_var 1) (de_lst (da_cons (de_ix (de_var 0) de_int) da_nil))) da_nil))) da_nil))))))
    dss_nil)
    (dss_cons (ds_if (dt_cmp op_inA g2_in (de_var 2) (de_tup (da_cons (de_str [97, 112, 112]) (da_cons (de_str [112, 97, 105, 114]) da_nil))))
    (dss_one (ds_ret (de_tup (da_cons (de_var 2) (da_cons (de_callX ih hr tk T.m__law_in T.F__law_in.kp T.b__law_in .nil (fun _ _ _ => .nil) (da_cons (de_ix (de_var 0) de_int) (da_cons (de_var 1) da_nil))) (da_cons (de_callX ih hr tk T.m__law_in T.F__law_in.kp T.b__law_in .nil (fun _ _ _ => .nil) (da_cons (de_ix (de_var 0) de_int) (da_cons (de_var 1) da_nil))) da_nil))))))
    dss_nil)
    (dss_one (ds_ret (de_var 0))))))))
    exact ok.mono (by omega)
end
section
variable {P : Program} {w : World} {K : PySem.W.Frag} {mg : Str → Option Value} {base : Heap}
theorem o__law_lifted (T : Top P w K mg) : ∀ m : Nat, FnOk P w K mg base (CX P w) (m + 0) T.a__law_lifted T.d__law_lifted ["_law_term", "_law_by", "_law_least"] (spF K 3 (f__law_lifted m))
  | 0 => fn_zero rfl
  | m + 1 => by
    have ih := o__law_lifted T m
    have ok : FnOk P w K mg base (CX P w) (m + 0 + 1) T.a__law_lifted T.d__law_lifted ["_law_term", "_law_by", "_law_least"] (spF K 3 (fdef 4 (b__law_lifted (f__law_lifted m)))) := fn_denD T.F__law_lifted sc__law_lifted fun cdv A outer s H E hr tk po =>
    (dss_cons (ds_set 3 sc__law_lifted.nd (de_ix (de_var 0) de_int))
    (dss_cons (ds_if (dt_cmp (op_eqM hr) g2_eq (de_var 3) (de_str [98]))
    (dss_one (ds_ret (de_if (dt_cmp op_ge g2_ge (de_ix (de_var 0) de_int) (de_var 2)) (de_tup (da_cons (de_str [98]) (da_cons (de_bin op_addA g2_add (de_ix (de_var 0) de_int) (de_var 1)) da_nil))) (de_var 0))))
    dss_nil)
    (dss_cons (ds_if (dt_cmp (op_eqM hr) g2_eq (de_var 3) (de_str [102, 117, 110]))
    (dss_one (ds_ret (de_tup (da_cons (de_str [102, 117, 110]) (da_cons (de_callX ih hr tk T.m__law_lifted T.F__law_lifted.kp T.b__law_lifted .nil (fun _ _ _ => .nil) (da_cons (de_ix (de_var 0) de_int) (da_cons (de_var 1) (da_cons (de_bin op_addA g2_add (de_var 2) de_int) da_nil)))) da_nil)))))
    dss_nil)
    (dss_cons (ds_if (dt_cmp (op_eqM hr) g2_eq (de_var 3) (de_str [108, 101, 116]))
    (dss_one (ds_ret (de_tup (da_cons (de_str [108, 101, 116]) (da_cons (de_callX ih hr tk T.m__law_lifted T.F__law_lifted.kp T.b__law_lifted .nil (fun _ _ _ => .nil) (da_cons (de_ix (de_var 0) de_int) (da_cons (de_var 1) (da_cons (de_var 2) da_nil)))) (da_cons (de_callX ih hr tk T.m__law_lifted T.F__law_lifted.kp T.b__law_lifted .nil (fun _ _ _ => .nil) (da_cons (de_ix (de_var 0) de_int) (da_cons (de_var 1) (da_cons (de_bin op_addA g2_add (de_var 2) de_int) da_nil)))) da_nil))))))
    dss_nil)
    (dss_cons (ds_if (dt_cmp op_inA g2_in (de_var 3) (de_tup (da_cons (de_str [97, 112, 112]) (da_cons (de_str [112, 97, 105, 114]) da_nil))))
    (dss_one (ds_ret (de_tup (da_cons (de_var 3) (da_cons (de_callX ih hr tk T.m__law_lifted T.F__law_lifted.kp T.b__law_lifted .nil (fun _ _ _ => .nil) (da_cons (de_ix (de_var 0) de_int) (da_cons (de_var 1) (da_cons (de_var 2) da_nil)))) (da_cons (de_callX ih hr tk T.m__law_lifted T.F__law_lifted.kp T.b__law_lifted .nil (fun _ _ _ => .nil) (da_cons (de_ix (de_var 0) de_int) (da_cons (de_var 1) (da_cons (de_var 2) da_nil)))) da_nil))))))
    dss_nil)
    (dss_one (ds_ret (de_var 0))))))))
    exact ok.mono (by omega)
end
section
variable {P : Program} {w : World} {K : PySem.W.Frag} {mg : Str → Option Value} {base : Heap}
theorem o__law_put (T : Top P w K mg) : ∀ m : Nat, FnOk P w K mg base (CX P w) (m + 60) T.a__law_put T.d__law_put ["_law_term", "_law_other", "_law_depth"] (spF K 3 (f__law_put m))
  | 0 => fn_zero rfl
  | m + 1 => by
    have ih := o__law_put T m
    have ok : FnOk P w K mg base (CX P w) (m + 60 + 1) T.a__law_put T.d__law_put ["_law_term", "_law_other", "_law_depth"] (spF K 3 (fdef 4 (b__law_put (f__law_put m)))) := fn_denD T.F__law_put sc__law_put fun cdv A outer s H E hr tk po =>
    (dss_cons (ds_set 3 sc__law_put.nd (de_ix (de_var 0) de_int))
    (dss_cons (ds_if (dt_cmp (op_eqM hr) g2_eq (de_var 3) (de_str [98]))
    (dss_cons (ds_if (dt_cmp (op_eqM hr) g2_eq (de_ix (de_var 0) de_int) (de_var 2))
    (dss_one (ds_ret (de_callX (o__law_lifted T 60) (hr.mono (by omega)) tk T.m__law_lifted T.F__law_lifted.kp T.b__law_lifted .nil (fun _ _ _ => .nil) (da_cons (de_var 1) (da_cons (de_var 2) (da_cons de_int da_nil))))))
    dss_nil)
    (dss_one (ds_ret (de_if (dt_cmp op_gt g2_gt (de_ix (de_var 0) de_int) (de_var 2)) (de_tup (da_cons (de_str [98]) (da_cons (de_bin op_sub g2_sub (de_ix (de_var 0) de_int) de_int) da_nil))) (de_var 0)))))
    dss_nil)
    (dss_cons (ds_if (dt_cmp (op_eqM hr) g2_eq (de_var 3) (de_str [102, 117, 110]))
    (dss_one (ds_ret (de_tup (da_cons (de_str [102, 117, 110]) (da_cons (de_callX ih hr tk T.m__law_put T.F__law_put.kp T.b__law_put .nil (fun _ _ _ => .nil) (da_cons (de_ix (de_var 0) de_int) (da_cons (de_var 1) (da_cons (de_bin op_addA g2_add (de_var 2) de_int) da_nil)))) da_nil)))))
    dss_nil)
    (dss_cons (ds_if (dt_cmp (op_eqM hr) g2_eq (de_var 3) (de_str [108, 101, 116]))
    (dss_one (ds_ret (de_tup (da_cons (de_str [108, 101, 116]) (da_cons (de_callX ih hr tk T.m__law_put T.F__law_put.kp T.b__law_put .nil (fun _ _ _ => .nil) (da_cons (de_ix (de_var 0) de_int) (da_cons (de_var 1) (da_cons (de_var 2) da_nil)))) (da_cons (de_callX ih hr tk T.m__law_put T.F__law_put.kp T.b__law_put .nil (fun _ _ _ => .nil) (da_cons (de_ix (de_var 0) de_int) (da_cons (de_var 1) (da_cons (de_bin op_addA g2_add (de_var 2) de_int) da_nil)))) da_nil))))))
    dss_nil)
    (dss_cons (ds_if (dt_cmp op_inA g2_in (de_var 3) (de_tup (da_cons (de_str [97, 112, 112]) (da_cons (de_str [112, 97, 105, 114]) da_nil))))
    (dss_one (ds_ret (de_tup (da_cons (de_var 3) (da_cons (de_callX ih hr tk T.m__law_put T.F__law_put.kp T.b__law_put .nil (fun _ _ _ => .nil) (da_cons (de_ix (de_var 0) de_int) (da_cons (de_var 1) (da_cons (de_var 2) da_nil)))) (da_cons (de_callX ih hr tk T.m__law_put T.F__law_put.kp T.b__law_put .nil (fun _ _ _ => .nil) (da_cons (de_ix (de_var 0) de_int) (da_cons (de_var 1) (da_cons (de_var 2) da_nil)))) da_nil))))))
    dss_nil)
    (dss_one (ds_ret (de_var 0))))))))
    exact ok.mono (by omega)
end
end Fro

namespace Fro
open PySem PySem.Spec L2
section
variable {P : Program} {w : World} {K : PySem.W.Frag} {mg : Str → Option Value} {base : Heap}
theorem o__law_without (T : Top P w K mg) : ∀ m : Nat, FnOk P w K mg base (CX P w) (m + 120) T.a__law_without T.d__law_without ["_law_term"] (spF K 1 (f__law_without m))
  | 0 => fn_zero rfl
  | m + 1 => by
    have ih := o__law_without T m
    have ok : FnOk P w K mg base (CX P w) (m + 120 + 1) T.a__law_without T.d__law_without ["_law_term"] (spF K 1 (fdef 2 (b__law_without (f__law_without m)))) := fn_denD T.F__law_without sc__law_without fun cdv A outer s H E hr tk po =>
    (dss_cons (ds_set 1 sc__law_without.nd (de_ix (de_var 0) de_int))
    (dss_cons (ds_if (dt_cmp (op_eqM hr) g2_eq (de_var 1) (de_str [108, 101, 116]))
    (dss_one (ds_ret (de_callX (o__law_put T 60) (hr.mono (by omega)) tk T.m__law_put T.F__law_put.kp T.b__law_put .nil (fun _ _ _ => .nil) (da_cons (de_callX ih hr tk T.m__law_without T.F__law_without.kp T.b__law_without .nil (fun _ _ _ => .nil) (da_cons (de_ix (de_var 0) de_int) da_nil)) (da_cons (de_callX ih hr tk T.m__law_without T.F__law_without.kp T.b__law_without .nil (fun _ _ _ => .nil) (da_cons (de_ix (de_var 0) de_int) da_nil)) (da_cons de_int da_nil))))))
    dss_nil)
    (dss_cons (ds_if (dt_cmp (op_eqM hr) g2_eq (de_var 1) (de_str [102, 117, 110]))
    (dss_one (ds_ret (de_tup (da_cons (de_str [102, 117, 110]) (da_cons (de_callX ih hr tk T.m__law_without T.F__law_without.kp T.b__law_without .nil (fun _ _ _ => .nil) (da_cons (de_ix (de_var 0) de_int) da_nil)) da_nil)))))
    dss_nil)
    (dss_cons (ds_if (dt_cmp op_inA g2_in (de_var 1) (de_tup (da_cons (de_str [97, 112, 112]) (da_cons (de_str [112, 97, 105, 114]) da_nil))))
    (dss_one (ds_ret (de_tup (da_cons (de_var 1) (da_cons (de_callX ih hr tk T.m__law_without T.F__law_without.kp T.b__law_without .nil (fun _ _ _ => .nil) (da_cons (de_ix (de_var 0) de_int) da_nil)) (da_cons (de_callX ih hr tk T.m__law_without T.F__law_without.kp T.b__law_without .nil (fun _ _ _ => .nil) (da_cons (de_ix (de_var 0) de_int) da_nil)) da_nil))))))
    dss_nil)
    (dss_one (ds_ret (de_var 0)))))))
    exact ok.mono (by omega)
end
section
variable {P : Program} {w : World} {K : PySem.W.Frag} {mg : Str → Option Value} {base : Heap}
theorem o__law_out (T : Top P w K mg) : ∀ m : Nat, FnOk P w K mg base (CX P w) (m + 0) T.a__law_out T.d__law_out ["_law_term", "_law_taken", "_law_around"] (spF K 3 (f__law_out m))
  | 0 => fn_zero rfl
  | m + 1 => by
    have ih := o__law_out T m
    have ok : FnOk P w K mg base (CX P w) (m + 0 + 1) T.a__law_out T.d__law_out ["_law_term", "_law_taken", "_law_around"] (spF K 3 (fdef 8 (b__law_out (f__law_out m)))) := fn_denD T.F__law_out sc__law_out fun cdv A outer s H E hr tk po =>
    (dss_cons (ds_set 3 sc__law_out.nd (de_ix (de_var 0) de_int))
    (dss_cons (ds_if (dt_cmp (op_eqM hr) g2_eq (de_var 3) (de_str [98]))
    (dss_one (ds_ret (de_tup (da_cons (de_str [110, 97, 109, 101]) (da_cons (de_ix (de_var 2) (de_bin op_sub g2_sub (de_bin op_sub g2_sub (de_len T.z_len (da_cons (de_var 2) da_nil)) de_int) (de_ix (de_var 0) de_int))) da_nil)))))
    dss_nil)
    (dss_cons (ds_if (dt_cmp op_inA g2_in (de_var 3) (de_tup (da_cons (de_str [97, 112, 112]) (da_cons (de_str [112, 97, 105, 114]) da_nil))))
    (dss_one (ds_ret (de_tup (da_cons (de_var 3) (da_cons (de_callX ih hr tk T.m__law_out T.F__law_out.kp T.b__law_out .nil (fun _ _ _ => .nil) (da_cons (de_ix (de_var 0) de_int) (da_cons (de_var 1) (da_cons (de_var 2) da_nil)))) (da_cons (de_callX ih hr tk T.m__law_out T.F__law_out.kp T.b__law_out .nil (fun _ _ _ => .nil) (da_cons (de_ix (de_var 0) de_int) (da_cons (de_var 1) (da_cons (de_var 2) da_nil)))) da_nil))))))
    dss_nil)
    (dss_cons (ds_if (dt_cmp op_notInA g2_notIn (de_var 3) (de_tup (da_cons (de_str [102, 117, 110]) (da_cons (de_str [108, 101, 116]) da_nil))))
    (dss_one (ds_ret (de_var 0)))
    dss_nil)
    (dss_cons (ds_set 4 sc__law_out.nd (de_str [97, 98, 99, 100, 101, 102, 103, 104, 105, 106, 107, 108, 109, 110, 111, 112, 113, 114, 115, 116, 117, 118, 119, 120, 121, 122]))
    (dss_cons (ds_set 5 sc__law_out.nd (de_bin op_addA g2_add (de_bin op_addA g2_add (de_comp (own := [("_law_sign", 6)]) rfl sc__law_out.nd (di_str (de_var 4)) (gok_name 6) (blk_by (N := ["_law_term", "_law_taken", "_law_around", "_law_word", "_law_signs", "_law_some", "_law_sign", "_law_name"]) (sc := defScope s__law_out) (by decide +kernel)) (fun _ _ _ _ _ => (pg_name (i := 6) sc__law_out.nd rfl (by first | exact Or.inl rfl | exact Or.inr rfl))) (fun _ _ _ _ _ => dts_nil) (fun _ _ _ _ _ => (de_var 6))) (de_comp (own := [("_law_sign", 6)]) rfl sc__law_out.nd (di_str (de_var 4)) (gok_name 6) (blk_by (N := ["_law_term", "_law_taken", "_law_around", "_law_word", "_law_signs", "_law_some", "_law_sign", "_law_name"]) (sc := defScope s__law_out) (by decide +kernel)) (fun _ _ _ _ _ => (pg_name (i := 6) sc__law_out.nd rfl (by first | exact Or.inl rfl | exact Or.inr rfl))) (fun _ _ _ _ _ => dts_nil) (fun _ _ _ _ _ => (de_bin op_addA g2_add (de_str [97]) (de_var 6))))) (de_comp (own := [("_law_sign", 6)]) rfl sc__law_out.nd (di_str (de_var 4)) (gok_name 6) (blk_by (N := ["_law_term", "_law_taken", "_law_around", "_law_word", "_law_signs", "_law_some", "_law_sign", "_law_name"]) (sc := defScope s__law_out) (by decide +kernel)) (fun _ _ _ _ _ => (pg_name (i := 6) sc__law_out.nd rfl (by first | exact Or.inl rfl | exact Or.inr rfl))) (fun _ _ _ _ _ => dts_nil) (fun _ _ _ _ _ => (de_bin op_addA g2_add (de_str [98]) (de_var 6))))))
    (dss_cons (ds_setComp 5 (own := [("_law_name", 7)]) rfl sc__law_out.nd (di_list (de_var 5)) (gok_name 7) (blk_by (N := ["_law_term", "_law_taken", "_law_around", "_law_word", "_law_signs", "_law_some", "_law_sign", "_law_name"]) (sc := defScope s__law_out) (by decide +kernel)) (fun _ _ _ _ _ => (pg_name (i := 7) sc__law_out.nd rfl (by first | exact Or.inl rfl | exact Or.inr rfl))) (fun _ _ _ _ _ => (dts_one (dw_and (dt_cmp op_notInA g2_notIn (de_var 7) (de_var 1)) (dw_and1 (dt_cmp op_notInA g2_notIn (de_var 7) (de_var 2)))).pt)) (fun _ _ _ _ _ => (de_var 7)))
    (dss_cons (ds_if (dt_cmp (op_eqM hr) g2_eq (de_var 3) (de_str [102, 117, 110]))
    (dss_one (ds_ret (de_tup (da_cons (de_str [102, 117, 110]) (da_cons (de_ix (de_var 5) de_int) (da_cons (de_callX ih hr tk T.m__law_out T.F__law_out.kp T.b__law_out .nil (fun _ _ _ => .nil) (da_cons (de_ix (de_var 0) de_int) (da_cons (de_var 1) (da_cons (de_bin op_addA g2_add (de_var 2) (de_lst (da_cons (de_ix (de_var 5) de_int) da_nil))) da_nil)))) da_nil))))))
    dss_nil)
    (dss_one (ds_ret (de_tup (da_cons (de_str [108, 101, 116]) (da_cons (de_ix (de_var 5) de_int) (da_cons (de_callX ih hr tk T.m__law_out T.F__law_out.kp T.b__law_out .nil (fun _ _ _ => .nil) (da_cons (de_ix (de_var 0) de_int) (da_cons (de_var 1) (da_cons (de_var 2) da_nil)))) (da_cons (de_callX ih hr tk T.m__law_out T.F__law_out.kp T.b__law_out .nil (fun _ _ _ => .nil) (da_cons (de_ix (de_var 0) de_int) (da_cons (de_var 1) (da_cons (de_bin op_addA g2_add (de_var 2) (de_lst (da_cons (de_ix (de_var 5) de_int) da_nil))) da_nil)))) da_nil)))))))))))))))
    exact ok.mono (by omega)
end
section
variable {P : Program} {w : World} {K : PySem.W.Frag} {mg : Str → Option Value} {base : Heap}
theorem o__law_frees_of (T : Top P w K mg) : ∀ m : Nat, FnOk P w K mg base (CX P w) (m + 0) T.a__law_frees_of T.d__law_frees_of ["_law_term"] (spF K 1 (f__law_frees_of m))
  | 0 => fn_zero rfl
  | m + 1 => by
    have ih := o__law_frees_of T m
    have ok : FnOk P w K mg base (CX P w) (m + 0 + 1) T.a__law_frees_of T.d__law_frees_of ["_law_term"] (spF K 1 (fdef 4 (b__law_frees_of (f__law_frees_of m)))) := fn_denD T.F__law_frees_of sc__law_frees_of fun cdv A outer s H E hr tk po =>
    (dss_cons (ds_if (dt_cmp (op_eqM hr) g2_eq (de_ix (de_var 0) de_int) (de_str [110, 97, 109, 101]))
    (dss_one (ds_ret (de_lst (da_cons (de_ix (de_var 0) de_int) da_nil))))
    dss_nil)
    (dss_cons (ds_set 1 sc__law_frees_of.nd (de_lstM da_nil))
    (dss_cons (ds_for po rfl (di_tup (de_if (dt_cmp op_inA g2_in (de_ix (de_var 0) de_int) (de_tup (da_cons (de_str [102, 117, 110]) (da_cons (de_str [108, 101, 116]) (da_cons (de_str [97, 112, 112]) (da_cons (de_str [112, 97, 105, 114]) da_nil)))))) (de_sl (de_var 0) (dp_some de_int) dp_none) (de_tup da_nil))) (pg_name (i := 2) sc__law_frees_of.nd rfl (by first | exact Or.inl rfl | exact Or.inr rfl)) (gok_name 2)
    (dss_one (ds_expr (de_extend (de_var 1) (de_comp (own := [("_law_name", 3)]) rfl sc__law_frees_of.nd (di_list (de_callX ih hr tk T.m__law_frees_of T.F__law_frees_of.kp T.b__law_frees_of .nil (fun _ _ _ => .nil) (da_cons (de_var 2) da_nil))) (gok_name 3) (blk_by (N := ["_law_term", "_law_found", "_law_one_here", "_law_name"]) (sc := defScope s__law_frees_of) (by decide +kernel)) (fun _ _ _ _ _ => (pg_name (i := 3) sc__law_frees_of.nd rfl (by first | exact Or.inl rfl | exact Or.inr rfl))) (fun _ _ _ _ _ => (dts_one (dt_cmp op_notInA g2_notIn (de_var 3) (de_var 1)))) (fun _ _ _ _ _ => (de_var 3)))))))
    (dss_one (ds_ret (de_var 1))))))
    exact ok.mono (by omega)
end
section
variable {P : Program} {w : World} {K : PySem.W.Frag} {mg : Str → Option Value} {base : Heap}
theorem o__law_named_so (T : Top P w K mg) : FnOk P w K mg base (CX P w) 61 T.a__law_named_so T.d__law_named_so ["_law_term"] (spF K 1 f__law_named_so) := fn_denD T.F__law_named_so sc__law_named_so fun cdv A outer s H E hr tk po =>
    (dss_one (ds_ret (de_callX (o__law_out T 60) (hr.mono (by omega)) tk T.m__law_out T.F__law_out.kp T.b__law_out .nil (fun _ _ _ => .nil) (da_cons (de_var 0) (da_cons (de_callX (o__law_frees_of T 60) (hr.mono (by omega)) tk T.m__law_frees_of T.F__law_frees_of.kp T.b__law_frees_of .nil (fun _ _ _ => .nil) (da_cons (de_var 0) da_nil)) (da_cons (de_lst da_nil) da_nil))))))
end
end Fro

namespace Fro
open PySem PySem.Spec L2
section
variable {P : Program} {w : World} {K : PySem.W.Frag} {mg : Str → Option Value} {base : Heap}
theorem o__law_odd (T : Top P w K mg) : FnOk P w K mg base (CX P w) 3 T.a__law_odd T.d__law_odd ["_law_well_here"] (spF K 1 f__law_odd) := fn_denD T.F__law_odd sc__law_odd fun cdv A outer s H E hr tk po =>
    (dss_cons (ds_set 1 sc__law_odd.nd (de_tup (da_cons (de_str [117, 110, 105, 116]) da_nil)))
    (dss_cons (ds_set 2 sc__law_odd.nd (de_lst (da_cons de_non (da_cons de_int (da_cons (de_str [120]) (da_cons (de_tup da_nil) (da_cons (de_tup (da_cons (de_str [110, 97, 109, 101]) da_nil)) (da_cons (de_tup (da_cons (de_str [110, 97, 109, 101]) (da_cons (de_str [97, 108, 108]) da_nil))) (da_cons (de_tup (da_cons (de_str [110, 97, 109, 101]) (da_cons (de_str [88, 49]) da_nil))) (da_cons (de_tup (da_cons (de_str [105, 110, 116]) (da_cons de_bl da_nil))) (da_cons (de_tup (da_cons (de_str [105, 110, 116]) (da_cons (de_str [49]) da_nil))) (da_cons (de_tup (da_cons (de_str [98, 111, 111, 108]) (da_cons de_int da_nil))) da_nil))))))))))))
    (dss_cons (ds_set 2 sc__law_odd.nd (de_bin op_addA g2_add (de_var 2) (de_lst (da_cons (de_tup (da_cons (de_str [117, 110, 105, 116]) (da_cons de_int da_nil))) (da_cons (de_tup (da_cons (de_str [102, 117, 110]) (da_cons (de_str [120]) da_nil))) (da_cons (de_tup (da_cons (de_str [102, 117, 110]) (da_cons (de_str [120]) (da_cons de_non (da_cons (de_var 1) da_nil))))) (da_cons (de_tup (da_cons (de_str [108, 101, 116]) (da_cons (de_str [120]) (da_cons de_non (da_cons (de_var 1) (da_cons (de_var 1) da_nil)))))) (da_cons (de_tup (da_cons (de_str [108, 101, 116]) (da_cons (de_str [120]) (da_cons (de_var 1) da_nil)))) (da_cons (de_lst (da_cons (de_var 1) da_nil)) da_nil)))))))))
    (dss_one (ds_ret (de_callX (o__law_one T) (hr.mono (by omega)) tk T.m__law_one T.F__law_one.kp T.b__law_one .nil (fun _ _ _ => .nil) (da_cons (de_var 0) (da_cons (de_bin op_addA g2_add (de_var 2) (de_lst (da_cons (de_tup (da_cons (de_str [102, 114, 111, 122, 101, 110]) (da_cons (de_str [120]) da_nil))) (da_cons (de_tup (da_cons (de_str [97, 116]) (da_cons (de_var 1) (da_cons (de_var 1) da_nil)))) (da_cons (de_tup (da_cons (de_str [112, 97, 105, 114]) (da_cons (de_var 1) da_nil))) (da_cons (de_tup (da_cons (de_str [97, 112, 112]) (da_cons (de_var 1) (da_cons (de_var 1) (da_cons (de_var 1) da_nil))))) (da_cons (de_tup (da_cons (de_str [102, 117, 110]) (da_cons (de_str [105, 110]) (da_cons (de_var 1) da_nil)))) (da_cons de_dict0 da_nil)))))))) da_nil))))))))
end
section
variable {P : Program} {w : World} {K : PySem.W.Frag} {mg : Str → Option Value} {base : Heap}
theorem o__law_count (T : Top P w K mg) : ∀ m : Nat, FnOk P w K mg base (CX P w) (m + 0) T.a__law_count T.d__law_count ["_law_term"] (spF K 1 (f__law_count m))
  | 0 => fn_zero rfl
  | m + 1 => by
    have ih := o__law_count T m
    have ok : FnOk P w K mg base (CX P w) (m + 0 + 1) T.a__law_count T.d__law_count ["_law_term"] (spF K 1 (fdef 3 (b__law_count (f__law_count m)))) := fn_denD T.F__law_count sc__law_count fun cdv A outer s H E hr tk po =>
    (dss_cons (ds_set 1 sc__law_count.nd de_int)
    (dss_cons (ds_for po rfl (di_tup (de_if (dt_cmp op_inA g2_in (de_ix (de_var 0) de_int) (de_tup (da_cons (de_str [102, 117, 110]) (da_cons (de_str [108, 101, 116]) (da_cons (de_str [97, 112, 112]) (da_cons (de_str [112, 97, 105, 114]) da_nil)))))) (de_sl (de_var 0) (dp_some de_int) dp_none) (de_tup da_nil))) (pg_name (i := 2) sc__law_count.nd rfl (by first | exact Or.inl rfl | exact Or.inr rfl)) (gok_name 2)
    (dss_one (ds_set 1 sc__law_count.nd (de_bin op_addA g2_add (de_var 1) (de_callX ih hr tk T.m__law_count T.F__law_count.kp T.b__law_count .nil (fun _ _ _ => .nil) (da_cons (de_var 2) da_nil))))))
    (dss_one (ds_ret (de_var 1)))))
    exact ok.mono (by omega)
end
section
variable {P : Program} {w : World} {K : PySem.W.Frag} {mg : Str → Option Value} {base : Heap}
theorem o__law_said (T : Top P w K mg) : FnOk P w K mg base (CX P w) 228 T.a__law_said T.d__law_said ["_law_term"] (spF K 1 f__law_said) := fn_denD T.F__law_said sc__law_said fun cdv A outer s H E hr tk po =>
    (dss_one (ds_try tk (fun _ _ _ tk po => (dss_one (ds_ret (de_callX (o_put_in T) (hr.mono (by omega)) tk T.m_put_in T.F_put_in.kp T.b_put_in .nil (fun _ _ _ => .nil) (da_cons (de_var 0) da_nil)))))
    (HdD.as_ 1 T.xm_NoBare T.m_NoBare sc__law_said.nd (fun _ _ => (dss_one (ds_ret (de_tup (da_cons (de_str [110, 111, 110, 101]) (da_cons (de_xat T.xr (de_var 1)) da_nil)))))) HdD.nil)))
end
section
variable {P : Program} {w : World} {K : PySem.W.Frag} {mg : Str → Option Value} {base : Heap}
theorem o__law_right (T : Top P w K mg) : FnOk P w K mg base (CX P w) 229 T.a__law_right T.d__law_right ["_law_well_here"] (spF K 1 f__law_right) := fn_denD T.F__law_right sc__law_right fun cdv A outer s H E hr tk po =>
    (dss_cons (ds_set 1 sc__law_right.nd (de_callX (o__law_raw T 7) (hr.mono (by omega)) tk T.m__law_raw T.F__law_raw.kp T.b__law_raw .nil (fun _ _ _ => .nil) (da_cons (de_var 0) (da_cons (de_lst da_nil) (da_cons (de_bin op_addA g2_add de_int (de_callX (o__law_draw T) (hr.mono (by omega)) tk T.m__law_draw T.F__law_draw.kp T.b__law_draw .nil (fun _ _ _ => .nil) (da_cons (de_var 0) (da_cons de_int da_nil)))) da_nil)))))
    (dss_cons (ds_set 2 sc__law_right.nd (de_callX (o__law_in T 60) (hr.mono (by omega)) tk T.m__law_in T.F__law_in.kp T.b__law_in .nil (fun _ _ _ => .nil) (da_cons (de_var 1) (da_cons (de_lst da_nil) da_nil))))
    (dss_cons (ds_if (dt_cmp op_gt g2_gt (de_callX (o__law_count T 60) (hr.mono (by omega)) tk T.m__law_count T.F__law_count.kp T.b__law_count .nil (fun _ _ _ => .nil) (da_cons (de_var 2) da_nil)) de_int)
    (dss_one (ds_ret de_bl))
    dss_nil)
    (dss_cons (ds_set 3 sc__law_right.nd (de_callX (o__law_without T 60) (hr.mono (by omega)) tk T.m__law_without T.F__law_without.kp T.b__law_without .nil (fun _ _ _ => .nil) (da_cons (de_var 2) da_nil)))
    (dss_cons (ds_if (dt_cmp op_gt g2_gt (de_callX (o__law_count T 60) (hr.mono (by omega)) tk T.m__law_count T.F__law_count.kp T.b__law_count .nil (fun _ _ _ => .nil) (da_cons (de_var 3) da_nil)) de_int)
    (dss_one (ds_ret de_bl))
    dss_nil)
    (dss_cons (ds_set 4 sc__law_right.nd (de_callX (o__law_named_so T) (hr.mono (by omega)) tk T.m__law_named_so T.F__law_named_so.kp T.b__law_named_so .nil (fun _ _ _ => .nil) (da_cons (de_var 3) da_nil)))
    (dss_cons (ds_if (dw_or (dt_cmp (op_neM hr) g2_ne (de_callX (o_put_in T) (hr.mono (by omega)) tk T.m_put_in T.F_put_in.kp T.b_put_in .nil (fun _ _ _ => .nil) (da_cons (de_var 1) da_nil)) (de_var 4)) (dw_or (dt_cmp (op_neM hr) g2_ne (de_callX (o_put_in T) (hr.mono (by omega)) tk T.m_put_in T.F_put_in.kp T.b_put_in .nil (fun _ _ _ => .nil) (da_cons (de_callX (o__law_named_so T) (hr.mono (by omega)) tk T.m__law_named_so T.F__law_named_so.kp T.b__law_named_so .nil (fun _ _ _ => .nil) (da_cons (de_var 2) da_nil)) da_nil)) (de_var 4)) (dw_or1 (dt_cmp (op_neM hr) g2_ne (de_callX (o_put_in T) (hr.mono (by omega)) tk T.m_put_in T.F_put_in.kp T.b_put_in .nil (fun _ _ _ => .nil) (da_cons (de_var 4) da_nil)) (de_var 4))))).pt
    (dss_one (ds_ret de_bl))
    dss_nil)
    (dss_cons (ds_set 5 sc__law_right.nd (de_callX (o__law_one T) (hr.mono (by omega)) tk T.m__law_one T.F__law_one.kp T.b__law_one .nil (fun _ _ _ => .nil) (da_cons (de_var 0) (da_cons (de_lst (da_cons (de_str [120]) (da_cons (de_str [121]) (da_cons (de_str [97, 100, 100]) da_nil)))) da_nil))))
    (dss_cons (ds_if (dt_cmp (op_neM hr) g2_ne (de_callX (o_put_in T) (hr.mono (by omega)) tk T.m_put_in T.F_put_in.kp T.b_put_in .nil (fun _ _ _ => .nil) (da_cons (de_tup (da_cons (de_str [108, 101, 116]) (da_cons (de_var 5) (da_cons (de_var 1) (da_cons (de_tup (da_cons (de_str [117, 110, 105, 116]) da_nil)) da_nil))))) da_nil)) (de_tup (da_cons (de_str [117, 110, 105, 116]) da_nil)))
    (dss_one (ds_ret de_bl))
    dss_nil)
    (dss_cons (ds_if (dt_cmp (op_neM hr) g2_ne (de_callX (o_put_in T) (hr.mono (by omega)) tk T.m_put_in T.F_put_in.kp T.b_put_in .nil (fun _ _ _ => .nil) (da_cons (de_tup (da_cons (de_str [108, 101, 116]) (da_cons (de_var 5) (da_cons (de_var 1) (da_cons (de_tup (da_cons (de_str [112, 97, 105, 114]) (da_cons (de_tup (da_cons (de_str [110, 97, 109, 101]) (da_cons (de_var 5) da_nil))) (da_cons (de_tup (da_cons (de_str [105, 110, 116]) (da_cons de_int da_nil))) da_nil)))) da_nil))))) da_nil)) (de_tup (da_cons (de_str [112, 97, 105, 114]) (da_cons (de_var 4) (da_cons (de_tup (da_cons (de_str [105, 110, 116]) (da_cons de_int da_nil))) da_nil)))))
    (dss_one (ds_ret de_bl))
    dss_nil)
    (dss_cons (ds_set 6 sc__law_right.nd (de_callX (o__law_odd T) (hr.mono (by omega)) tk T.m__law_odd T.F__law_odd.kp T.b__law_odd .nil (fun _ _ _ => .nil) (da_cons (de_var 0) da_nil)))
    (dss_cons (ds_set 7 sc__law_right.nd (de_lstM (da_cons (de_tup (da_cons (de_var 6) (da_cons (de_tup da_nil) da_nil))) (da_cons (de_tup (da_cons (de_tup (da_cons (de_str [112, 97, 105, 114]) (da_cons (de_var 1) (da_cons (de_var 6) da_nil)))) (da_cons (de_tup (da_cons de_int da_nil)) da_nil))) (da_cons (de_tup (da_cons (de_tup (da_cons (de_str [102, 117, 110]) (da_cons (de_var 5) (da_cons (de_var 6) da_nil)))) (da_cons (de_tup (da_cons de_int da_nil)) da_nil))) (da_cons (de_tup (da_cons (de_tup (da_cons (de_str [108, 101, 116]) (da_cons (de_var 5) (da_cons (de_var 6) (da_cons (de_var 6) da_nil))))) (da_cons (de_tup (da_cons de_int da_nil)) da_nil))) da_nil))))))
    (dss_cons (ds_set 7 sc__law_right.nd (de_catM (de_var 7) (de_lst (da_cons (de_tup (da_cons (de_tup (da_cons (de_str [108, 101, 116]) (da_cons (de_var 5) (da_cons (de_var 1) (da_cons (de_var 6) da_nil))))) (da_cons (de_tup (da_cons de_int da_nil)) da_nil))) (da_cons (de_tup (da_cons (de_tup (da_cons (de_str [97, 112, 112]) (da_cons (de_var 6) (da_cons (de_var 1) da_nil)))) (da_cons (de_tup (da_cons de_int da_nil)) da_nil))) da_nil)))))
    (dss_cons (ds_expr (de_append (de_var 7) (de_tup (da_cons (de_tup (da_cons (de_str [97, 112, 112]) (da_cons (de_var 1) (da_cons (de_tup (da_cons (de_str [112, 97, 105, 114]) (da_cons (de_var 6) (da_cons (de_var 6) da_nil)))) da_nil)))) (da_cons (de_tup (da_cons de_int (da_cons de_int da_nil))) da_nil)))))
    (dss_cons (ds_asg (de_callX (o__law_one T) (hr.mono (by omega)) tk T.m__law_one T.F__law_one.kp T.b__law_one .nil (fun _ _ _ => .nil) (da_cons (de_var 0) (da_cons (de_var 7) da_nil))) (pg_tup rfl (pgs_cons (pg_name (i := 8) sc__law_right.nd rfl (by first | exact Or.inl rfl | exact Or.inr rfl)) (pgs_cons (pg_name (i := 9) sc__law_right.nd rfl (by first | exact Or.inl rfl | exact Or.inr rfl)) pgs_nil))) (gok_tup (gsok_cons (gok_name 8) (gsok_cons (gok_name 9) gsok_nil))))
    (dss_one (ds_ret (de_cmp (op_eqM hr) g2_eq (de_callX (o__law_said T) (hr.mono (by omega)) tk T.m__law_said T.F__law_said.kp T.b__law_said .nil (fun _ _ _ => .nil) (da_cons (de_var 8) da_nil)) (de_tup (da_cons (de_str [110, 111, 110, 101]) (da_cons (de_var 9) da_nil)))))))))))))))))))))
end
end Fro

namespace Fro
open PySem PySem.Spec L2
section
variable {P : Program} {w : World} {K : PySem.W.Frag} {mg : Str → Option Value} {base : Heap}
theorem o_law (T : Top P w K mg) : FnOk P w K mg base (CX P w) 230 T.a_law T.d_law ["_law_script"] (spF K 1 f_law) := fn_denD T.F_law sc_law fun cdv A outer s H E hr tk po =>
    (dss_cons (ds_for po rfl (di_range T.z_range (da_cons (de_blt (call_max2 rfl) gn_max2 T.z_max (by decide +kernel) (da_cons de_int (da_cons (de_blt (call_min2 rfl) gn_min2 T.z_min (by decide +kernel) (da_cons de_int (da_cons (de_len T.z_len (da_cons (de_var 0) da_nil)) da_nil))) da_nil))) da_nil)) (pg_name (i := 1) sc_law.nd rfl (by first | exact Or.inl rfl | exact Or.inr rfl)) (gok_name 1)
    (dss_cons (ds_set 2 sc_law.nd (de_callMX (o__law_well T) (hr.mono (by omega)) tk T.m__law_well T.F__law_well.kp T.b__law_well .nil (fun _ _ _ => .nil) (da_cons (de_var 0) (da_cons (de_var 1) da_nil))))
    (dss_one (ds_for po rfl (di_range T.z_range (da_cons de_int da_nil)) (pg_name (i := 3) sc_law.nd rfl (by first | exact Or.inl rfl | exact Or.inr rfl)) (gok_name 3)
    (dss_one (ds_if (dt_not (dt_val (de_callX (o__law_right T) (hr.mono (by omega)) tk T.m__law_right T.F__law_right.kp T.b__law_right .nil (fun _ _ _ => .nil) (da_cons (de_var 2) da_nil))))
    (dss_one (ds_ret de_bl))
    dss_nil))))))
    (dss_cons (ds_asg (de_tup (da_cons (de_tup (da_cons (de_str [110, 97, 109, 101]) (da_cons (de_str [120]) da_nil))) (da_cons (de_tup (da_cons (de_str [110, 97, 109, 101]) (da_cons (de_str [121]) da_nil))) da_nil))) (pg_tup rfl (pgs_cons (pg_name (i := 4) sc_law.nd rfl (by first | exact Or.inl rfl | exact Or.inr rfl)) (pgs_cons (pg_name (i := 5) sc_law.nd rfl (by first | exact Or.inl rfl | exact Or.inr rfl)) pgs_nil))) (gok_tup (gsok_cons (gok_name 4) (gsok_cons (gok_name 5) gsok_nil))))
    (dss_one (ds_ret (de_cmp (op_eqM hr) g2_eq (de_callX (o_put_in T) (hr.mono (by omega)) tk T.m_put_in T.F_put_in.kp T.b_put_in .nil (fun _ _ _ => .nil) (da_cons (de_tup (da_cons (de_str [108, 101, 116]) (da_cons (de_str [120]) (da_cons (de_var 5) (da_cons (de_tup (da_cons (de_str [102, 117, 110]) (da_cons (de_str [121]) (da_cons (de_tup (da_cons (de_str [112, 97, 105, 114]) (da_cons (de_var 4) (da_cons (de_var 5) da_nil)))) da_nil)))) da_nil))))) da_nil)) (de_tup (da_cons (de_str [102, 117, 110]) (da_cons (de_str [97]) (da_cons (de_tup (da_cons (de_str [112, 97, 105, 114]) (da_cons (de_var 5) (da_cons (de_tup (da_cons (de_str [110, 97, 109, 101]) (da_cons (de_str [97]) da_nil))) da_nil)))) da_nil)))))))))
end
end Fro

namespace Fro
open PySem PySem.Spec L2
theorem all_mk {l : PySem.W.OpenLaw} {w : World} {K : PySem.W.Frag} {h : Heap} {mg : Str → Option Value} {fa : Addr} (X : K.In h) (G : h.Ns mainGlobals mg) (hfa : mg "law" = some (.ref fa))
    {u_BARRED : Value}
    {u_MOST_SIGNS : Value}
    {u_LETTERS : Value}
    {t_LENGTHS : Addr} {es_LENGTHS : Array DictEntry} {n_LENGTHS : Nat}
    {t_SPOTS : Addr} {es_SPOTS : Array DictEntry} {n_SPOTS : Nat}
    {C_KindError : Addr}
    {C_NoBare : Addr}
    {f_KindError cc_KindError cd_KindError : Addr} {xoc_KindError xdo_KindError xpm_KindError xct_KindError : Value} {xod_KindError : Option Addr} {xsl_KindError : Array (Option Value)}
    {f_NoBare cc_NoBare cd_NoBare : Addr} {xoc_NoBare xdo_NoBare xpm_NoBare xct_NoBare : Value} {xod_NoBare : Option Addr} {xsl_NoBare : Array (Option Value)}
    {nm_NoBare xq_NoBare : Str} {xN_NoBare : Addr} {bs_NoBare : List Value} {sn_NoBare : List Str} {sub_NoBare : List Value} {ab_NoBare : Bool} {col_NoBare : Option Bool} {dd_NoBare : Option Addr} {k0_NoBare k1_NoBare k2_NoBare k3_NoBare k5_NoBare : Option Value}
    {ad__law_well : Addr} {od__law_well an__law_well : Option Addr} {sl__law_well : Array (Option Value)} {oc__law_well kV__law_well dc__law_well pm__law_well cd__law_well ct__law_well : Value}
    {ad_is_name : Addr} {od_is_name an_is_name : Option Addr} {sl_is_name : Array (Option Value)} {oc_is_name kV_is_name dc_is_name pm_is_name cd_is_name ct_is_name : Value}
    {ad_is_whole : Addr} {od_is_whole an_is_whole : Option Addr} {sl_is_whole : Array (Option Value)} {oc_is_whole kV_is_whole dc_is_whole pm_is_whole cd_is_whole ct_is_whole : Value}
    {ad_has_form : Addr} {od_has_form an_has_form : Option Addr} {sl_has_form : Array (Option Value)} {oc_has_form kV_has_form dc_has_form pm_has_form cd_has_form ct_has_form : Value}
    {ad_want_bare : Addr} {od_want_bare an_want_bare : Option Addr} {sl_want_bare : Array (Option Value)} {oc_want_bare kV_want_bare dc_want_bare pm_want_bare cd_want_bare ct_want_bare : Value}
    {T_want_bare : Addr} {tn_want_bare : Nat} {tc_want_bare : Value} {td_want_bare : Option Addr} {tl_want_bare : Array (Option Value)} {dv0_want_bare : Value}
    {ad_letter : Addr} {od_letter an_letter : Option Addr} {sl_letter : Array (Option Value)} {oc_letter kV_letter dc_letter pm_letter cd_letter ct_letter : Value}
    {ad_first_letters : Addr} {od_first_letters an_first_letters : Option Addr} {sl_first_letters : Array (Option Value)} {oc_first_letters kV_first_letters dc_first_letters pm_first_letters cd_first_letters ct_first_letters : Value}
    {ad_relettered : Addr} {od_relettered an_relettered : Option Addr} {sl_relettered : Array (Option Value)} {oc_relettered kV_relettered dc_relettered pm_relettered cd_relettered ct_relettered : Value}
    {ad_free_names : Addr} {od_free_names an_free_names : Option Addr} {sl_free_names : Array (Option Value)} {oc_free_names kV_free_names dc_free_names pm_free_names cd_free_names ct_free_names : Value}
    {ad_plain_bare : Addr} {od_plain_bare an_plain_bare : Option Addr} {sl_plain_bare : Array (Option Value)} {oc_plain_bare kV_plain_bare dc_plain_bare pm_plain_bare cd_plain_bare ct_plain_bare : Value}
    {ad_exchanged : Addr} {od_exchanged an_exchanged : Option Addr} {sl_exchanged : Array (Option Value)} {oc_exchanged kV_exchanged dc_exchanged pm_exchanged cd_exchanged ct_exchanged : Value}
    {ad_away_from : Addr} {od_away_from an_away_from : Option Addr} {sl_away_from : Array (Option Value)} {oc_away_from kV_away_from dc_away_from pm_away_from cd_away_from ct_away_from : Value}
    {ad_filled : Addr} {od_filled an_filled : Option Addr} {sl_filled : Array (Option Value)} {oc_filled kV_filled dc_filled pm_filled cd_filled ct_filled : Value}
    {ad_without_lets : Addr} {od_without_lets an_without_lets : Option Addr} {sl_without_lets : Array (Option Value)} {oc_without_lets kV_without_lets dc_without_lets pm_without_lets cd_without_lets ct_without_lets : Value}
    {ad_put_in : Addr} {od_put_in an_put_in : Option Addr} {sl_put_in : Array (Option Value)} {oc_put_in kV_put_in dc_put_in pm_put_in cd_put_in ct_put_in : Value}
    {ad__law_draw : Addr} {od__law_draw an__law_draw : Option Addr} {sl__law_draw : Array (Option Value)} {oc__law_draw kV__law_draw dc__law_draw pm__law_draw cd__law_draw ct__law_draw : Value}
    {ad__law_one : Addr} {od__law_one an__law_one : Option Addr} {sl__law_one : Array (Option Value)} {oc__law_one kV__law_one dc__law_one pm__law_one cd__law_one ct__law_one : Value}
    {ad__law_raw : Addr} {od__law_raw an__law_raw : Option Addr} {sl__law_raw : Array (Option Value)} {oc__law_raw kV__law_raw dc__law_raw pm__law_raw cd__law_raw ct__law_raw : Value}
    {ad__law_in : Addr} {od__law_in an__law_in : Option Addr} {sl__law_in : Array (Option Value)} {oc__law_in kV__law_in dc__law_in pm__law_in cd__law_in ct__law_in : Value}
    {ad__law_lifted : Addr} {od__law_lifted an__law_lifted : Option Addr} {sl__law_lifted : Array (Option Value)} {oc__law_lifted kV__law_lifted dc__law_lifted pm__law_lifted cd__law_lifted ct__law_lifted : Value}
    {ad__law_put : Addr} {od__law_put an__law_put : Option Addr} {sl__law_put : Array (Option Value)} {oc__law_put kV__law_put dc__law_put pm__law_put cd__law_put ct__law_put : Value}
    {ad__law_without : Addr} {od__law_without an__law_without : Option Addr} {sl__law_without : Array (Option Value)} {oc__law_without kV__law_without dc__law_without pm__law_without cd__law_without ct__law_without : Value}
    {ad__law_out : Addr} {od__law_out an__law_out : Option Addr} {sl__law_out : Array (Option Value)} {oc__law_out kV__law_out dc__law_out pm__law_out cd__law_out ct__law_out : Value}
    {ad__law_frees_of : Addr} {od__law_frees_of an__law_frees_of : Option Addr} {sl__law_frees_of : Array (Option Value)} {oc__law_frees_of kV__law_frees_of dc__law_frees_of pm__law_frees_of cd__law_frees_of ct__law_frees_of : Value}
    {ad__law_named_so : Addr} {od__law_named_so an__law_named_so : Option Addr} {sl__law_named_so : Array (Option Value)} {oc__law_named_so kV__law_named_so dc__law_named_so pm__law_named_so cd__law_named_so ct__law_named_so : Value}
    {ad__law_odd : Addr} {od__law_odd an__law_odd : Option Addr} {sl__law_odd : Array (Option Value)} {oc__law_odd kV__law_odd dc__law_odd pm__law_odd cd__law_odd ct__law_odd : Value}
    {ad__law_count : Addr} {od__law_count an__law_count : Option Addr} {sl__law_count : Array (Option Value)} {oc__law_count kV__law_count dc__law_count pm__law_count cd__law_count ct__law_count : Value}
    {ad__law_said : Addr} {od__law_said an__law_said : Option Addr} {sl__law_said : Array (Option Value)} {oc__law_said kV__law_said dc__law_said pm__law_said cd__law_said ct__law_said : Value}
    {ad__law_right : Addr} {od__law_right an__law_right : Option Addr} {sl__law_right : Array (Option Value)} {oc__law_right kV__law_right dc__law_right pm__law_right cd__law_right ct__law_right : Value}
    {ad_law : Addr} {od_law an_law : Option Addr} {sl_law : Array (Option Value)} {oc_law kV_law dc_law pm_law cd_law ct_law : Value}
    (z_all : PySem.W.nsIn K mainGlobals "all" = some none)
    (z_bool : PySem.W.nsIn K mainGlobals "bool" = some none)
    (z_int : PySem.W.nsIn K mainGlobals "int" = some none)
    (z_isinstance : PySem.W.nsIn K mainGlobals "isinstance" = some none)
    (z_len : PySem.W.nsIn K mainGlobals "len" = some none)
    (z_max : PySem.W.nsIn K mainGlobals "max" = some none)
    (z_min : PySem.W.nsIn K mainGlobals "min" = some none)
    (z_range : PySem.W.nsIn K mainGlobals "range" = some none)
    (z_str : PySem.W.nsIn K mainGlobals "str" = some none)
    (z_tuple : PySem.W.nsIn K mainGlobals "tuple" = some none)
    (a_BARRED : PySem.W.nsIn K mainGlobals "BARRED" = some (some u_BARRED))
    (c_BARRED : kdV 8 K u_BARRED k_BARRED = true)
    (a_MOST_SIGNS : PySem.W.nsIn K mainGlobals "MOST_SIGNS" = some (some u_MOST_SIGNS))
    (c_MOST_SIGNS : kdV 8 K u_MOST_SIGNS k_MOST_SIGNS = true)
    (a_LETTERS : PySem.W.nsIn K mainGlobals "LETTERS" = some (some u_LETTERS))
    (c_LETTERS : kdV 8 K u_LETTERS k_LETTERS = true)
    (a_LENGTHS : PySem.W.nsIn K mainGlobals "LENGTHS" = some (some (.ref t_LENGTHS)))
    (l_LENGTHS : K.lookup t_LENGTHS = some ⟨.type "dict", none, .dict es_LENGTHS n_LENGTHS, #[]⟩)
    (y_LENGTHS : PySem.W.KeysLit w.params es_LENGTHS.toList)
    (o_LENGTHS : (t_LENGTHS == sysModules) = false)
    (e_LENGTHS : kdE 16 K es_LENGTHS.toList tbl_LENGTHS = true)
    (a_SPOTS : PySem.W.nsIn K mainGlobals "SPOTS" = some (some (.ref t_SPOTS)))
    (l_SPOTS : K.lookup t_SPOTS = some ⟨.type "dict", none, .dict es_SPOTS n_SPOTS, #[]⟩)
    (y_SPOTS : PySem.W.KeysLit w.params es_SPOTS.toList)
    (o_SPOTS : (t_SPOTS == sysModules) = false)
    (e_SPOTS : kdE 16 K es_SPOTS.toList tbl_SPOTS = true)
    (q0 : noneB K = true)
    (qr : xrB K = true)
    (a_KindError : PySem.W.nsIn K mainGlobals "KindError" = some (some (.ref C_KindError)))
    (a_NoBare : PySem.W.nsIn K mainGlobals "NoBare" = some (some (.ref C_NoBare)))
    (xm_NoBare : xmB K 10 (.ref C_NoBare) = true)
    (qs : PySem.W.nsIn K mainGlobals "super" = some none)
    (qo : PySem.W.nsIn K cStatics "thirdparty.any" = some none)
    (if_KindError : PySem.W.findIn K (.ref C_KindError) "__init__" = some (some (.ref f_KindError)))
    (il_KindError : K.lookup f_KindError = some ⟨xoc_KindError, xod_KindError, .func (PySem.W.fnX "__init__" "KindError.__init__" (defArgs i_KindError) (defBody i_KindError) (defScope i_KindError) [("__class__", cc_KindError)] .none .none xdo_KindError xpm_KindError none (.ref cd_KindError) xct_KindError), xsl_KindError⟩)
    (ib_KindError : iniB l.prog K C_KindError cc_KindError cd_KindError "KindError.__init__" = true)
    (fb_KindError : fnB K f_KindError = true)
    (if_NoBare : PySem.W.findIn K (.ref C_NoBare) "__init__" = some (some (.ref f_NoBare)))
    (il_NoBare : K.lookup f_NoBare = some ⟨xoc_NoBare, xod_NoBare, .func (PySem.W.fnX "__init__" "NoBare.__init__" (defArgs i_NoBare) (defBody i_NoBare) (defScope i_NoBare) [("__class__", cc_NoBare)] .none .none xdo_NoBare xpm_NoBare none (.ref cd_NoBare) xct_NoBare), xsl_NoBare⟩)
    (ib_NoBare : iniB l.prog K C_NoBare cc_NoBare cd_NoBare "NoBare.__init__" = true)
    (fb_NoBare : fnB K f_NoBare = true)
    (xl_NoBare : K.lookup C_NoBare = some (excClassObj nm_NoBare xq_NoBare C_NoBare xN_NoBare bs_NoBare [.ref C_KindError, .type "ValueError", .type "Exception", .type "BaseException", .type "object"] true sn_NoBare sub_NoBare ab_NoBare col_NoBare dd_NoBare k0_NoBare k1_NoBare k2_NoBare k3_NoBare k5_NoBare "ValueError.__new__"))
    (xk_NoBare : keB K C_KindError C_NoBare = true)
    (ra_NoBare : raB K C_NoBare f_KindError (xflds 10) = true)
    (a__law_well : PySem.W.nsIn K mainGlobals "_law_well" = some (some (.ref ad__law_well)))
    (l__law_well : K.lookup ad__law_well = some ⟨oc__law_well, od__law_well, .func (PySem.W.fnOf "_law_well" "_law_well" (defArgs s__law_well) (defBody s__law_well) (defScope s__law_well) .none kV__law_well dc__law_well pm__law_well an__law_well cd__law_well ct__law_well), sl__law_well⟩)
    (c__law_well : PySem.W.codeIn K cd__law_well "_law_well" = true)
    (k__law_well : PySem.W.keepIn K (.ref ad__law_well) = true)
    (a_is_name : PySem.W.nsIn K mainGlobals "is_name" = some (some (.ref ad_is_name)))
    (l_is_name : K.lookup ad_is_name = some ⟨oc_is_name, od_is_name, .func (PySem.W.fnOf "is_name" "is_name" (defArgs s_is_name) (defBody s_is_name) (defScope s_is_name) .none kV_is_name dc_is_name pm_is_name an_is_name cd_is_name ct_is_name), sl_is_name⟩)
    (c_is_name : PySem.W.codeIn K cd_is_name "is_name" = true)
    (k_is_name : PySem.W.keepIn K (.ref ad_is_name) = true)
    (a_is_whole : PySem.W.nsIn K mainGlobals "is_whole" = some (some (.ref ad_is_whole)))
    (l_is_whole : K.lookup ad_is_whole = some ⟨oc_is_whole, od_is_whole, .func (PySem.W.fnOf "is_whole" "is_whole" (defArgs s_is_whole) (defBody s_is_whole) (defScope s_is_whole) .none kV_is_whole dc_is_whole pm_is_whole an_is_whole cd_is_whole ct_is_whole), sl_is_whole⟩)
    (c_is_whole : PySem.W.codeIn K cd_is_whole "is_whole" = true)
    (k_is_whole : PySem.W.keepIn K (.ref ad_is_whole) = true)
    (a_has_form : PySem.W.nsIn K mainGlobals "has_form" = some (some (.ref ad_has_form)))
    (l_has_form : K.lookup ad_has_form = some ⟨oc_has_form, od_has_form, .func (PySem.W.fnOf "has_form" "has_form" (defArgs s_has_form) (defBody s_has_form) (defScope s_has_form) .none kV_has_form dc_has_form pm_has_form an_has_form cd_has_form ct_has_form), sl_has_form⟩)
    (c_has_form : PySem.W.codeIn K cd_has_form "has_form" = true)
    (k_has_form : PySem.W.keepIn K (.ref ad_has_form) = true)
    (a_want_bare : PySem.W.nsIn K mainGlobals "want_bare" = some (some (.ref ad_want_bare)))
    (l_want_bare : K.lookup ad_want_bare = some ⟨oc_want_bare, od_want_bare, .func (PySem.W.fnOf "want_bare" "want_bare" (defArgs s_want_bare) (defBody s_want_bare) (defScope s_want_bare) (.ref T_want_bare) kV_want_bare dc_want_bare pm_want_bare an_want_bare cd_want_bare ct_want_bare), sl_want_bare⟩)
    (c_want_bare : PySem.W.codeIn K cd_want_bare "want_bare" = true)
    (k_want_bare : PySem.W.keepIn K (.ref ad_want_bare) = true)
    (lT_want_bare : K.lookup T_want_bare = some ⟨tc_want_bare, td_want_bare, .seq #[dv0_want_bare] tn_want_bare, tl_want_bare⟩)
    (ed0_want_bare : kdV 8 K dv0_want_bare (.tup []) = true)
    (a_letter : PySem.W.nsIn K mainGlobals "letter" = some (some (.ref ad_letter)))
    (l_letter : K.lookup ad_letter = some ⟨oc_letter, od_letter, .func (PySem.W.fnOf "letter" "letter" (defArgs s_letter) (defBody s_letter) (defScope s_letter) .none kV_letter dc_letter pm_letter an_letter cd_letter ct_letter), sl_letter⟩)
    (c_letter : PySem.W.codeIn K cd_letter "letter" = true)
    (k_letter : PySem.W.keepIn K (.ref ad_letter) = true)
    (a_first_letters : PySem.W.nsIn K mainGlobals "first_letters" = some (some (.ref ad_first_letters)))
    (l_first_letters : K.lookup ad_first_letters = some ⟨oc_first_letters, od_first_letters, .func (PySem.W.fnOf "first_letters" "first_letters" (defArgs s_first_letters) (defBody s_first_letters) (defScope s_first_letters) .none kV_first_letters dc_first_letters pm_first_letters an_first_letters cd_first_letters ct_first_letters), sl_first_letters⟩)
    (c_first_letters : PySem.W.codeIn K cd_first_letters "first_letters" = true)
    (k_first_letters : PySem.W.keepIn K (.ref ad_first_letters) = true)
    (a_relettered : PySem.W.nsIn K mainGlobals "relettered" = some (some (.ref ad_relettered)))
    (l_relettered : K.lookup ad_relettered = some ⟨oc_relettered, od_relettered, .func (PySem.W.fnOf "relettered" "relettered" (defArgs s_relettered) (defBody s_relettered) (defScope s_relettered) .none kV_relettered dc_relettered pm_relettered an_relettered cd_relettered ct_relettered), sl_relettered⟩)
    (c_relettered : PySem.W.codeIn K cd_relettered "relettered" = true)
    (k_relettered : PySem.W.keepIn K (.ref ad_relettered) = true)
    (a_free_names : PySem.W.nsIn K mainGlobals "free_names" = some (some (.ref ad_free_names)))
    (l_free_names : K.lookup ad_free_names = some ⟨oc_free_names, od_free_names, .func (PySem.W.fnOf "free_names" "free_names" (defArgs s_free_names) (defBody s_free_names) (defScope s_free_names) .none kV_free_names dc_free_names pm_free_names an_free_names cd_free_names ct_free_names), sl_free_names⟩)
    (c_free_names : PySem.W.codeIn K cd_free_names "free_names" = true)
    (k_free_names : PySem.W.keepIn K (.ref ad_free_names) = true)
    (a_plain_bare : PySem.W.nsIn K mainGlobals "plain_bare" = some (some (.ref ad_plain_bare)))
    (l_plain_bare : K.lookup ad_plain_bare = some ⟨oc_plain_bare, od_plain_bare, .func (PySem.W.fnOf "plain_bare" "plain_bare" (defArgs s_plain_bare) (defBody s_plain_bare) (defScope s_plain_bare) .none kV_plain_bare dc_plain_bare pm_plain_bare an_plain_bare cd_plain_bare ct_plain_bare), sl_plain_bare⟩)
    (c_plain_bare : PySem.W.codeIn K cd_plain_bare "plain_bare" = true)
    (k_plain_bare : PySem.W.keepIn K (.ref ad_plain_bare) = true)
    (a_exchanged : PySem.W.nsIn K mainGlobals "exchanged" = some (some (.ref ad_exchanged)))
    (l_exchanged : K.lookup ad_exchanged = some ⟨oc_exchanged, od_exchanged, .func (PySem.W.fnOf "exchanged" "exchanged" (defArgs s_exchanged) (defBody s_exchanged) (defScope s_exchanged) .none kV_exchanged dc_exchanged pm_exchanged an_exchanged cd_exchanged ct_exchanged), sl_exchanged⟩)
    (c_exchanged : PySem.W.codeIn K cd_exchanged "exchanged" = true)
    (k_exchanged : PySem.W.keepIn K (.ref ad_exchanged) = true)
    (a_away_from : PySem.W.nsIn K mainGlobals "away_from" = some (some (.ref ad_away_from)))
    (l_away_from : K.lookup ad_away_from = some ⟨oc_away_from, od_away_from, .func (PySem.W.fnOf "away_from" "away_from" (defArgs s_away_from) (defBody s_away_from) (defScope s_away_from) .none kV_away_from dc_away_from pm_away_from an_away_from cd_away_from ct_away_from), sl_away_from⟩)
    (c_away_from : PySem.W.codeIn K cd_away_from "away_from" = true)
    (k_away_from : PySem.W.keepIn K (.ref ad_away_from) = true)
    (a_filled : PySem.W.nsIn K mainGlobals "filled" = some (some (.ref ad_filled)))
    (l_filled : K.lookup ad_filled = some ⟨oc_filled, od_filled, .func (PySem.W.fnOf "filled" "filled" (defArgs s_filled) (defBody s_filled) (defScope s_filled) .none kV_filled dc_filled pm_filled an_filled cd_filled ct_filled), sl_filled⟩)
    (c_filled : PySem.W.codeIn K cd_filled "filled" = true)
    (k_filled : PySem.W.keepIn K (.ref ad_filled) = true)
    (a_without_lets : PySem.W.nsIn K mainGlobals "without_lets" = some (some (.ref ad_without_lets)))
    (l_without_lets : K.lookup ad_without_lets = some ⟨oc_without_lets, od_without_lets, .func (PySem.W.fnOf "without_lets" "without_lets" (defArgs s_without_lets) (defBody s_without_lets) (defScope s_without_lets) .none kV_without_lets dc_without_lets pm_without_lets an_without_lets cd_without_lets ct_without_lets), sl_without_lets⟩)
    (c_without_lets : PySem.W.codeIn K cd_without_lets "without_lets" = true)
    (k_without_lets : PySem.W.keepIn K (.ref ad_without_lets) = true)
    (a_put_in : PySem.W.nsIn K mainGlobals "put_in" = some (some (.ref ad_put_in)))
    (l_put_in : K.lookup ad_put_in = some ⟨oc_put_in, od_put_in, .func (PySem.W.fnOf "put_in" "put_in" (defArgs s_put_in) (defBody s_put_in) (defScope s_put_in) .none kV_put_in dc_put_in pm_put_in an_put_in cd_put_in ct_put_in), sl_put_in⟩)
    (c_put_in : PySem.W.codeIn K cd_put_in "put_in" = true)
    (k_put_in : PySem.W.keepIn K (.ref ad_put_in) = true)
    (a__law_draw : PySem.W.nsIn K mainGlobals "_law_draw" = some (some (.ref ad__law_draw)))
    (l__law_draw : K.lookup ad__law_draw = some ⟨oc__law_draw, od__law_draw, .func (PySem.W.fnOf "_law_draw" "_law_draw" (defArgs s__law_draw) (defBody s__law_draw) (defScope s__law_draw) .none kV__law_draw dc__law_draw pm__law_draw an__law_draw cd__law_draw ct__law_draw), sl__law_draw⟩)
    (c__law_draw : PySem.W.codeIn K cd__law_draw "_law_draw" = true)
    (k__law_draw : PySem.W.keepIn K (.ref ad__law_draw) = true)
    (a__law_one : PySem.W.nsIn K mainGlobals "_law_one" = some (some (.ref ad__law_one)))
    (l__law_one : K.lookup ad__law_one = some ⟨oc__law_one, od__law_one, .func (PySem.W.fnOf "_law_one" "_law_one" (defArgs s__law_one) (defBody s__law_one) (defScope s__law_one) .none kV__law_one dc__law_one pm__law_one an__law_one cd__law_one ct__law_one), sl__law_one⟩)
    (c__law_one : PySem.W.codeIn K cd__law_one "_law_one" = true)
    (k__law_one : PySem.W.keepIn K (.ref ad__law_one) = true)
    (a__law_raw : PySem.W.nsIn K mainGlobals "_law_raw" = some (some (.ref ad__law_raw)))
    (l__law_raw : K.lookup ad__law_raw = some ⟨oc__law_raw, od__law_raw, .func (PySem.W.fnOf "_law_raw" "_law_raw" (defArgs s__law_raw) (defBody s__law_raw) (defScope s__law_raw) .none kV__law_raw dc__law_raw pm__law_raw an__law_raw cd__law_raw ct__law_raw), sl__law_raw⟩)
    (c__law_raw : PySem.W.codeIn K cd__law_raw "_law_raw" = true)
    (k__law_raw : PySem.W.keepIn K (.ref ad__law_raw) = true)
    (a__law_in : PySem.W.nsIn K mainGlobals "_law_in" = some (some (.ref ad__law_in)))
    (l__law_in : K.lookup ad__law_in = some ⟨oc__law_in, od__law_in, .func (PySem.W.fnOf "_law_in" "_law_in" (defArgs s__law_in) (defBody s__law_in) (defScope s__law_in) .none kV__law_in dc__law_in pm__law_in an__law_in cd__law_in ct__law_in), sl__law_in⟩)
    (c__law_in : PySem.W.codeIn K cd__law_in "_law_in" = true)
    (k__law_in : PySem.W.keepIn K (.ref ad__law_in) = true)
    (a__law_lifted : PySem.W.nsIn K mainGlobals "_law_lifted" = some (some (.ref ad__law_lifted)))
    (l__law_lifted : K.lookup ad__law_lifted = some ⟨oc__law_lifted, od__law_lifted, .func (PySem.W.fnOf "_law_lifted" "_law_lifted" (defArgs s__law_lifted) (defBody s__law_lifted) (defScope s__law_lifted) .none kV__law_lifted dc__law_lifted pm__law_lifted an__law_lifted cd__law_lifted ct__law_lifted), sl__law_lifted⟩)
    (c__law_lifted : PySem.W.codeIn K cd__law_lifted "_law_lifted" = true)
    (k__law_lifted : PySem.W.keepIn K (.ref ad__law_lifted) = true)
    (a__law_put : PySem.W.nsIn K mainGlobals "_law_put" = some (some (.ref ad__law_put)))
    (l__law_put : K.lookup ad__law_put = some ⟨oc__law_put, od__law_put, .func (PySem.W.fnOf "_law_put" "_law_put" (defArgs s__law_put) (defBody s__law_put) (defScope s__law_put) .none kV__law_put dc__law_put pm__law_put an__law_put cd__law_put ct__law_put), sl__law_put⟩)
    (c__law_put : PySem.W.codeIn K cd__law_put "_law_put" = true)
    (k__law_put : PySem.W.keepIn K (.ref ad__law_put) = true)
    (a__law_without : PySem.W.nsIn K mainGlobals "_law_without" = some (some (.ref ad__law_without)))
    (l__law_without : K.lookup ad__law_without = some ⟨oc__law_without, od__law_without, .func (PySem.W.fnOf "_law_without" "_law_without" (defArgs s__law_without) (defBody s__law_without) (defScope s__law_without) .none kV__law_without dc__law_without pm__law_without an__law_without cd__law_without ct__law_without), sl__law_without⟩)
    (c__law_without : PySem.W.codeIn K cd__law_without "_law_without" = true)
    (k__law_without : PySem.W.keepIn K (.ref ad__law_without) = true)
    (a__law_out : PySem.W.nsIn K mainGlobals "_law_out" = some (some (.ref ad__law_out)))
    (l__law_out : K.lookup ad__law_out = some ⟨oc__law_out, od__law_out, .func (PySem.W.fnOf "_law_out" "_law_out" (defArgs s__law_out) (defBody s__law_out) (defScope s__law_out) .none kV__law_out dc__law_out pm__law_out an__law_out cd__law_out ct__law_out), sl__law_out⟩)
    (c__law_out : PySem.W.codeIn K cd__law_out "_law_out" = true)
    (k__law_out : PySem.W.keepIn K (.ref ad__law_out) = true)
    (a__law_frees_of : PySem.W.nsIn K mainGlobals "_law_frees_of" = some (some (.ref ad__law_frees_of)))
    (l__law_frees_of : K.lookup ad__law_frees_of = some ⟨oc__law_frees_of, od__law_frees_of, .func (PySem.W.fnOf "_law_frees_of" "_law_frees_of" (defArgs s__law_frees_of) (defBody s__law_frees_of) (defScope s__law_frees_of) .none kV__law_frees_of dc__law_frees_of pm__law_frees_of an__law_frees_of cd__law_frees_of ct__law_frees_of), sl__law_frees_of⟩)
    (c__law_frees_of : PySem.W.codeIn K cd__law_frees_of "_law_frees_of" = true)
    (k__law_frees_of : PySem.W.keepIn K (.ref ad__law_frees_of) = true)
    (a__law_named_so : PySem.W.nsIn K mainGlobals "_law_named_so" = some (some (.ref ad__law_named_so)))
    (l__law_named_so : K.lookup ad__law_named_so = some ⟨oc__law_named_so, od__law_named_so, .func (PySem.W.fnOf "_law_named_so" "_law_named_so" (defArgs s__law_named_so) (defBody s__law_named_so) (defScope s__law_named_so) .none kV__law_named_so dc__law_named_so pm__law_named_so an__law_named_so cd__law_named_so ct__law_named_so), sl__law_named_so⟩)
    (c__law_named_so : PySem.W.codeIn K cd__law_named_so "_law_named_so" = true)
    (k__law_named_so : PySem.W.keepIn K (.ref ad__law_named_so) = true)
    (a__law_odd : PySem.W.nsIn K mainGlobals "_law_odd" = some (some (.ref ad__law_odd)))
    (l__law_odd : K.lookup ad__law_odd = some ⟨oc__law_odd, od__law_odd, .func (PySem.W.fnOf "_law_odd" "_law_odd" (defArgs s__law_odd) (defBody s__law_odd) (defScope s__law_odd) .none kV__law_odd dc__law_odd pm__law_odd an__law_odd cd__law_odd ct__law_odd), sl__law_odd⟩)
    (c__law_odd : PySem.W.codeIn K cd__law_odd "_law_odd" = true)
    (k__law_odd : PySem.W.keepIn K (.ref ad__law_odd) = true)
    (a__law_count : PySem.W.nsIn K mainGlobals "_law_count" = some (some (.ref ad__law_count)))
    (l__law_count : K.lookup ad__law_count = some ⟨oc__law_count, od__law_count, .func (PySem.W.fnOf "_law_count" "_law_count" (defArgs s__law_count) (defBody s__law_count) (defScope s__law_count) .none kV__law_count dc__law_count pm__law_count an__law_count cd__law_count ct__law_count), sl__law_count⟩)
    (c__law_count : PySem.W.codeIn K cd__law_count "_law_count" = true)
    (k__law_count : PySem.W.keepIn K (.ref ad__law_count) = true)
    (a__law_said : PySem.W.nsIn K mainGlobals "_law_said" = some (some (.ref ad__law_said)))
    (l__law_said : K.lookup ad__law_said = some ⟨oc__law_said, od__law_said, .func (PySem.W.fnOf "_law_said" "_law_said" (defArgs s__law_said) (defBody s__law_said) (defScope s__law_said) .none kV__law_said dc__law_said pm__law_said an__law_said cd__law_said ct__law_said), sl__law_said⟩)
    (c__law_said : PySem.W.codeIn K cd__law_said "_law_said" = true)
    (k__law_said : PySem.W.keepIn K (.ref ad__law_said) = true)
    (a__law_right : PySem.W.nsIn K mainGlobals "_law_right" = some (some (.ref ad__law_right)))
    (l__law_right : K.lookup ad__law_right = some ⟨oc__law_right, od__law_right, .func (PySem.W.fnOf "_law_right" "_law_right" (defArgs s__law_right) (defBody s__law_right) (defScope s__law_right) .none kV__law_right dc__law_right pm__law_right an__law_right cd__law_right ct__law_right), sl__law_right⟩)
    (c__law_right : PySem.W.codeIn K cd__law_right "_law_right" = true)
    (k__law_right : PySem.W.keepIn K (.ref ad__law_right) = true)
    (a_law : PySem.W.nsIn K mainGlobals "law" = some (some (.ref ad_law)))
    (l_law : K.lookup ad_law = some ⟨oc_law, od_law, .func (PySem.W.fnOf "law" "law" (defArgs s_law) (defBody s_law) (defScope s_law) .none kV_law dc_law pm_law an_law cd_law ct_law), sl_law⟩)
    (c_law : PySem.W.codeIn K cd_law "law" = true)
    (k_law : PySem.W.keepIn K (.ref ad_law) = true)
    : ∃ fd : FuncData, (∀ (s : Shared) (v : Value), BindsTo s fd ⟨[v], []⟩ [("_law_script", v)]) ∧ ∀ base : Heap, K.In base → base.Ns mainGlobals mg → FnOk l.prog w K mg base (CX l.prog w) 230 fa fd ["_law_script"] (spF K 1 f_law) := by
  have e := hfa.symm.trans (PySem.W.mg_of X G a_law)
  cases e
  have F__law_well : FunD K "_law_well" "_law_well" (defArgs s__law_well) (defBody s__law_well) (defScope s__law_well) [] [] ad__law_well (PySem.W.fnOf "_law_well" "_law_well" (defArgs s__law_well) (defBody s__law_well) (defScope s__law_well) .none kV__law_well dc__law_well pm__law_well an__law_well cd__law_well ct__law_well) := ⟨⟨_, _, _, _, _, _, _, _, _, _, rfl, l__law_well, c__law_well, .inl ⟨rfl, rfl⟩, .inl rfl⟩, k__law_well⟩
  have F_is_name : FunD K "is_name" "is_name" (defArgs s_is_name) (defBody s_is_name) (defScope s_is_name) [] [] ad_is_name (PySem.W.fnOf "is_name" "is_name" (defArgs s_is_name) (defBody s_is_name) (defScope s_is_name) .none kV_is_name dc_is_name pm_is_name an_is_name cd_is_name ct_is_name) := ⟨⟨_, _, _, _, _, _, _, _, _, _, rfl, l_is_name, c_is_name, .inl ⟨rfl, rfl⟩, .inl rfl⟩, k_is_name⟩
  have F_is_whole : FunD K "is_whole" "is_whole" (defArgs s_is_whole) (defBody s_is_whole) (defScope s_is_whole) [] [] ad_is_whole (PySem.W.fnOf "is_whole" "is_whole" (defArgs s_is_whole) (defBody s_is_whole) (defScope s_is_whole) .none kV_is_whole dc_is_whole pm_is_whole an_is_whole cd_is_whole ct_is_whole) := ⟨⟨_, _, _, _, _, _, _, _, _, _, rfl, l_is_whole, c_is_whole, .inl ⟨rfl, rfl⟩, .inl rfl⟩, k_is_whole⟩
  have F_has_form : FunD K "has_form" "has_form" (defArgs s_has_form) (defBody s_has_form) (defScope s_has_form) [] [] ad_has_form (PySem.W.fnOf "has_form" "has_form" (defArgs s_has_form) (defBody s_has_form) (defScope s_has_form) .none kV_has_form dc_has_form pm_has_form an_has_form cd_has_form ct_has_form) := ⟨⟨_, _, _, _, _, _, _, _, _, _, rfl, l_has_form, c_has_form, .inl ⟨rfl, rfl⟩, .inl rfl⟩, k_has_form⟩
  obtain ⟨w0_want_bare, hw0_want_bare, _⟩ := kdV_ok (H := fun _ => none) (M := fun _ => False) 8 dv0_want_bare _ ed0_want_bare
  have F_want_bare : FunD K "want_bare" "want_bare" (defArgs s_want_bare) (defBody s_want_bare) (defScope s_want_bare) [w0_want_bare] [] ad_want_bare (PySem.W.fnOf "want_bare" "want_bare" (defArgs s_want_bare) (defBody s_want_bare) (defScope s_want_bare) (.ref T_want_bare) kV_want_bare dc_want_bare pm_want_bare an_want_bare cd_want_bare ct_want_bare) := ⟨⟨_, _, _, _, _, _, _, _, _, _, rfl, l_want_bare, c_want_bare, .inr ⟨by simp, T_want_bare, _, [dv0_want_bare], tn_want_bare, rfl, lT_want_bare, rfl, (.cons hw0_want_bare .nil)⟩, .inl rfl⟩, k_want_bare⟩
  obtain ⟨e0_want_bare, vd0_want_bare, bd0_want_bare⟩ := F_want_bare.binds1 (ps := ["thing", "place"]) 2 1 (by simp) rfl fun T kV doc pm an cdv ct us its hu hi => match us, its, hu, hi with | [_, _], [_], _, _ => ⟨_, rfl, rfl⟩
  cases vd0_want_bare
  obtain ⟨e1_want_bare, vd1_want_bare, bd1_want_bare⟩ := F_want_bare.binds1 (ps := ["thing", "place"]) 1 0 (by simp) rfl fun T kV doc pm an cdv ct us its hu hi => match us, its, hu, hi with | [_], [_], _, _ => ⟨_, rfl, rfl⟩
  have F_letter : FunD K "letter" "letter" (defArgs s_letter) (defBody s_letter) (defScope s_letter) [] [] ad_letter (PySem.W.fnOf "letter" "letter" (defArgs s_letter) (defBody s_letter) (defScope s_letter) .none kV_letter dc_letter pm_letter an_letter cd_letter ct_letter) := ⟨⟨_, _, _, _, _, _, _, _, _, _, rfl, l_letter, c_letter, .inl ⟨rfl, rfl⟩, .inl rfl⟩, k_letter⟩
  have F_first_letters : FunD K "first_letters" "first_letters" (defArgs s_first_letters) (defBody s_first_letters) (defScope s_first_letters) [] [] ad_first_letters (PySem.W.fnOf "first_letters" "first_letters" (defArgs s_first_letters) (defBody s_first_letters) (defScope s_first_letters) .none kV_first_letters dc_first_letters pm_first_letters an_first_letters cd_first_letters ct_first_letters) := ⟨⟨_, _, _, _, _, _, _, _, _, _, rfl, l_first_letters, c_first_letters, .inl ⟨rfl, rfl⟩, .inl rfl⟩, k_first_letters⟩
  have F_relettered : FunD K "relettered" "relettered" (defArgs s_relettered) (defBody s_relettered) (defScope s_relettered) [] [] ad_relettered (PySem.W.fnOf "relettered" "relettered" (defArgs s_relettered) (defBody s_relettered) (defScope s_relettered) .none kV_relettered dc_relettered pm_relettered an_relettered cd_relettered ct_relettered) := ⟨⟨_, _, _, _, _, _, _, _, _, _, rfl, l_relettered, c_relettered, .inl ⟨rfl, rfl⟩, .inl rfl⟩, k_relettered⟩
  have F_free_names : FunD K "free_names" "free_names" (defArgs s_free_names) (defBody s_free_names) (defScope s_free_names) [] [] ad_free_names (PySem.W.fnOf "free_names" "free_names" (defArgs s_free_names) (defBody s_free_names) (defScope s_free_names) .none kV_free_names dc_free_names pm_free_names an_free_names cd_free_names ct_free_names) := ⟨⟨_, _, _, _, _, _, _, _, _, _, rfl, l_free_names, c_free_names, .inl ⟨rfl, rfl⟩, .inl rfl⟩, k_free_names⟩
  have F_plain_bare : FunD K "plain_bare" "plain_bare" (defArgs s_plain_bare) (defBody s_plain_bare) (defScope s_plain_bare) [] [] ad_plain_bare (PySem.W.fnOf "plain_bare" "plain_bare" (defArgs s_plain_bare) (defBody s_plain_bare) (defScope s_plain_bare) .none kV_plain_bare dc_plain_bare pm_plain_bare an_plain_bare cd_plain_bare ct_plain_bare) := ⟨⟨_, _, _, _, _, _, _, _, _, _, rfl, l_plain_bare, c_plain_bare, .inl ⟨rfl, rfl⟩, .inl rfl⟩, k_plain_bare⟩
  have F_exchanged : FunD K "exchanged" "exchanged" (defArgs s_exchanged) (defBody s_exchanged) (defScope s_exchanged) [] [] ad_exchanged (PySem.W.fnOf "exchanged" "exchanged" (defArgs s_exchanged) (defBody s_exchanged) (defScope s_exchanged) .none kV_exchanged dc_exchanged pm_exchanged an_exchanged cd_exchanged ct_exchanged) := ⟨⟨_, _, _, _, _, _, _, _, _, _, rfl, l_exchanged, c_exchanged, .inl ⟨rfl, rfl⟩, .inl rfl⟩, k_exchanged⟩
  have F_away_from : FunD K "away_from" "away_from" (defArgs s_away_from) (defBody s_away_from) (defScope s_away_from) [] [] ad_away_from (PySem.W.fnOf "away_from" "away_from" (defArgs s_away_from) (defBody s_away_from) (defScope s_away_from) .none kV_away_from dc_away_from pm_away_from an_away_from cd_away_from ct_away_from) := ⟨⟨_, _, _, _, _, _, _, _, _, _, rfl, l_away_from, c_away_from, .inl ⟨rfl, rfl⟩, .inl rfl⟩, k_away_from⟩
  have F_filled : FunD K "filled" "filled" (defArgs s_filled) (defBody s_filled) (defScope s_filled) [] [] ad_filled (PySem.W.fnOf "filled" "filled" (defArgs s_filled) (defBody s_filled) (defScope s_filled) .none kV_filled dc_filled pm_filled an_filled cd_filled ct_filled) := ⟨⟨_, _, _, _, _, _, _, _, _, _, rfl, l_filled, c_filled, .inl ⟨rfl, rfl⟩, .inl rfl⟩, k_filled⟩
  have F_without_lets : FunD K "without_lets" "without_lets" (defArgs s_without_lets) (defBody s_without_lets) (defScope s_without_lets) [] [] ad_without_lets (PySem.W.fnOf "without_lets" "without_lets" (defArgs s_without_lets) (defBody s_without_lets) (defScope s_without_lets) .none kV_without_lets dc_without_lets pm_without_lets an_without_lets cd_without_lets ct_without_lets) := ⟨⟨_, _, _, _, _, _, _, _, _, _, rfl, l_without_lets, c_without_lets, .inl ⟨rfl, rfl⟩, .inl rfl⟩, k_without_lets⟩
  have F_put_in : FunD K "put_in" "put_in" (defArgs s_put_in) (defBody s_put_in) (defScope s_put_in) [] [] ad_put_in (PySem.W.fnOf "put_in" "put_in" (defArgs s_put_in) (defBody s_put_in) (defScope s_put_in) .none kV_put_in dc_put_in pm_put_in an_put_in cd_put_in ct_put_in) := ⟨⟨_, _, _, _, _, _, _, _, _, _, rfl, l_put_in, c_put_in, .inl ⟨rfl, rfl⟩, .inl rfl⟩, k_put_in⟩
  have F__law_draw : FunD K "_law_draw" "_law_draw" (defArgs s__law_draw) (defBody s__law_draw) (defScope s__law_draw) [] [] ad__law_draw (PySem.W.fnOf "_law_draw" "_law_draw" (defArgs s__law_draw) (defBody s__law_draw) (defScope s__law_draw) .none kV__law_draw dc__law_draw pm__law_draw an__law_draw cd__law_draw ct__law_draw) := ⟨⟨_, _, _, _, _, _, _, _, _, _, rfl, l__law_draw, c__law_draw, .inl ⟨rfl, rfl⟩, .inl rfl⟩, k__law_draw⟩
  have F__law_one : FunD K "_law_one" "_law_one" (defArgs s__law_one) (defBody s__law_one) (defScope s__law_one) [] [] ad__law_one (PySem.W.fnOf "_law_one" "_law_one" (defArgs s__law_one) (defBody s__law_one) (defScope s__law_one) .none kV__law_one dc__law_one pm__law_one an__law_one cd__law_one ct__law_one) := ⟨⟨_, _, _, _, _, _, _, _, _, _, rfl, l__law_one, c__law_one, .inl ⟨rfl, rfl⟩, .inl rfl⟩, k__law_one⟩
  have F__law_raw : FunD K "_law_raw" "_law_raw" (defArgs s__law_raw) (defBody s__law_raw) (defScope s__law_raw) [] [] ad__law_raw (PySem.W.fnOf "_law_raw" "_law_raw" (defArgs s__law_raw) (defBody s__law_raw) (defScope s__law_raw) .none kV__law_raw dc__law_raw pm__law_raw an__law_raw cd__law_raw ct__law_raw) := ⟨⟨_, _, _, _, _, _, _, _, _, _, rfl, l__law_raw, c__law_raw, .inl ⟨rfl, rfl⟩, .inl rfl⟩, k__law_raw⟩
  have F__law_in : FunD K "_law_in" "_law_in" (defArgs s__law_in) (defBody s__law_in) (defScope s__law_in) [] [] ad__law_in (PySem.W.fnOf "_law_in" "_law_in" (defArgs s__law_in) (defBody s__law_in) (defScope s__law_in) .none kV__law_in dc__law_in pm__law_in an__law_in cd__law_in ct__law_in) := ⟨⟨_, _, _, _, _, _, _, _, _, _, rfl, l__law_in, c__law_in, .inl ⟨rfl, rfl⟩, .inl rfl⟩, k__law_in⟩
  have F__law_lifted : FunD K "_law_lifted" "_law_lifted" (defArgs s__law_lifted) (defBody s__law_lifted) (defScope s__law_lifted) [] [] ad__law_lifted (PySem.W.fnOf "_law_lifted" "_law_lifted" (defArgs s__law_lifted) (defBody s__law_lifted) (defScope s__law_lifted) .none kV__law_lifted dc__law_lifted pm__law_lifted an__law_lifted cd__law_lifted ct__law_lifted) := ⟨⟨_, _, _, _, _, _, _, _, _, _, rfl, l__law_lifted, c__law_lifted, .inl ⟨rfl, rfl⟩, .inl rfl⟩, k__law_lifted⟩
  have F__law_put : FunD K "_law_put" "_law_put" (defArgs s__law_put) (defBody s__law_put) (defScope s__law_put) [] [] ad__law_put (PySem.W.fnOf "_law_put" "_law_put" (defArgs s__law_put) (defBody s__law_put) (defScope s__law_put) .none kV__law_put dc__law_put pm__law_put an__law_put cd__law_put ct__law_put) := ⟨⟨_, _, _, _, _, _, _, _, _, _, rfl, l__law_put, c__law_put, .inl ⟨rfl, rfl⟩, .inl rfl⟩, k__law_put⟩
  have F__law_without : FunD K "_law_without" "_law_without" (defArgs s__law_without) (defBody s__law_without) (defScope s__law_without) [] [] ad__law_without (PySem.W.fnOf "_law_without" "_law_without" (defArgs s__law_without) (defBody s__law_without) (defScope s__law_without) .none kV__law_without dc__law_without pm__law_without an__law_without cd__law_without ct__law_without) := ⟨⟨_, _, _, _, _, _, _, _, _, _, rfl, l__law_without, c__law_without, .inl ⟨rfl, rfl⟩, .inl rfl⟩, k__law_without⟩
  have F__law_out : FunD K "_law_out" "_law_out" (defArgs s__law_out) (defBody s__law_out) (defScope s__law_out) [] [] ad__law_out (PySem.W.fnOf "_law_out" "_law_out" (defArgs s__law_out) (defBody s__law_out) (defScope s__law_out) .none kV__law_out dc__law_out pm__law_out an__law_out cd__law_out ct__law_out) := ⟨⟨_, _, _, _, _, _, _, _, _, _, rfl, l__law_out, c__law_out, .inl ⟨rfl, rfl⟩, .inl rfl⟩, k__law_out⟩
  have F__law_frees_of : FunD K "_law_frees_of" "_law_frees_of" (defArgs s__law_frees_of) (defBody s__law_frees_of) (defScope s__law_frees_of) [] [] ad__law_frees_of (PySem.W.fnOf "_law_frees_of" "_law_frees_of" (defArgs s__law_frees_of) (defBody s__law_frees_of) (defScope s__law_frees_of) .none kV__law_frees_of dc__law_frees_of pm__law_frees_of an__law_frees_of cd__law_frees_of ct__law_frees_of) := ⟨⟨_, _, _, _, _, _, _, _, _, _, rfl, l__law_frees_of, c__law_frees_of, .inl ⟨rfl, rfl⟩, .inl rfl⟩, k__law_frees_of⟩
  have F__law_named_so : FunD K "_law_named_so" "_law_named_so" (defArgs s__law_named_so) (defBody s__law_named_so) (defScope s__law_named_so) [] [] ad__law_named_so (PySem.W.fnOf "_law_named_so" "_law_named_so" (defArgs s__law_named_so) (defBody s__law_named_so) (defScope s__law_named_so) .none kV__law_named_so dc__law_named_so pm__law_named_so an__law_named_so cd__law_named_so ct__law_named_so) := ⟨⟨_, _, _, _, _, _, _, _, _, _, rfl, l__law_named_so, c__law_named_so, .inl ⟨rfl, rfl⟩, .inl rfl⟩, k__law_named_so⟩
  have F__law_odd : FunD K "_law_odd" "_law_odd" (defArgs s__law_odd) (defBody s__law_odd) (defScope s__law_odd) [] [] ad__law_odd (PySem.W.fnOf "_law_odd" "_law_odd" (defArgs s__law_odd) (defBody s__law_odd) (defScope s__law_odd) .none kV__law_odd dc__law_odd pm__law_odd an__law_odd cd__law_odd ct__law_odd) := ⟨⟨_, _, _, _, _, _, _, _, _, _, rfl, l__law_odd, c__law_odd, .inl ⟨rfl, rfl⟩, .inl rfl⟩, k__law_odd⟩
  have F__law_count : FunD K "_law_count" "_law_count" (defArgs s__law_count) (defBody s__law_count) (defScope s__law_count) [] [] ad__law_count (PySem.W.fnOf "_law_count" "_law_count" (defArgs s__law_count) (defBody s__law_count) (defScope s__law_count) .none kV__law_count dc__law_count pm__law_count an__law_count cd__law_count ct__law_count) := ⟨⟨_, _, _, _, _, _, _, _, _, _, rfl, l__law_count, c__law_count, .inl ⟨rfl, rfl⟩, .inl rfl⟩, k__law_count⟩
  have F__law_said : FunD K "_law_said" "_law_said" (defArgs s__law_said) (defBody s__law_said) (defScope s__law_said) [] [] ad__law_said (PySem.W.fnOf "_law_said" "_law_said" (defArgs s__law_said) (defBody s__law_said) (defScope s__law_said) .none kV__law_said dc__law_said pm__law_said an__law_said cd__law_said ct__law_said) := ⟨⟨_, _, _, _, _, _, _, _, _, _, rfl, l__law_said, c__law_said, .inl ⟨rfl, rfl⟩, .inl rfl⟩, k__law_said⟩
  have F__law_right : FunD K "_law_right" "_law_right" (defArgs s__law_right) (defBody s__law_right) (defScope s__law_right) [] [] ad__law_right (PySem.W.fnOf "_law_right" "_law_right" (defArgs s__law_right) (defBody s__law_right) (defScope s__law_right) .none kV__law_right dc__law_right pm__law_right an__law_right cd__law_right ct__law_right) := ⟨⟨_, _, _, _, _, _, _, _, _, _, rfl, l__law_right, c__law_right, .inl ⟨rfl, rfl⟩, .inl rfl⟩, k__law_right⟩
  have F_law : FunD K "law" "law" (defArgs s_law) (defBody s_law) (defScope s_law) [] [] fa (PySem.W.fnOf "law" "law" (defArgs s_law) (defBody s_law) (defScope s_law) .none kV_law dc_law pm_law an_law cd_law ct_law) := ⟨⟨_, _, _, _, _, _, _, _, _, _, rfl, l_law, c_law, .inl ⟨rfl, rfl⟩, .inl rfl⟩, k_law⟩
  let T : Top l.prog w K mg := {
    z_all := PySem.W.mg_none_of X G z_all
    z_bool := PySem.W.mg_none_of X G z_bool
    z_int := PySem.W.mg_none_of X G z_int
    z_isinstance := PySem.W.mg_none_of X G z_isinstance
    z_len := PySem.W.mg_none_of X G z_len
    z_max := PySem.W.mg_none_of X G z_max
    z_min := PySem.W.mg_none_of X G z_min
    z_range := PySem.W.mg_none_of X G z_range
    z_str := PySem.W.mg_none_of X G z_str
    z_tuple := PySem.W.mg_none_of X G z_tuple
    u_BARRED := u_BARRED
    m_BARRED := PySem.W.mg_of X G a_BARRED
    c_BARRED := c_BARRED
    u_MOST_SIGNS := u_MOST_SIGNS
    m_MOST_SIGNS := PySem.W.mg_of X G a_MOST_SIGNS
    c_MOST_SIGNS := c_MOST_SIGNS
    u_LETTERS := u_LETTERS
    m_LETTERS := PySem.W.mg_of X G a_LETTERS
    c_LETTERS := c_LETTERS
    t_LENGTHS := t_LENGTHS
    m_LENGTHS := PySem.W.mg_of X G a_LENGTHS
    kd_LENGTHS := ⟨⟨_, _, _, ⟨l_LENGTHS, y_LENGTHS, o_LENGTHS⟩, e_LENGTHS⟩⟩
    t_SPOTS := t_SPOTS
    m_SPOTS := PySem.W.mg_of X G a_SPOTS
    kd_SPOTS := ⟨⟨_, _, _, ⟨l_SPOTS, y_SPOTS, o_SPOTS⟩, e_SPOTS⟩⟩
    xr := xr_mk q0 qr
    C_KindError := C_KindError
    m_KindError := PySem.W.mg_of X G a_KindError
    n_KindError := a_KindError
    C_NoBare := C_NoBare
    m_NoBare := PySem.W.mg_of X G a_NoBare
    n_NoBare := a_NoBare
    xm_NoBare := xm_mk q0 xm_NoBare
    sup := PySem.W.mg_none_of X G qs
    op := qo
    f_KindError := f_KindError
    cc_KindError := cc_KindError
    cd_KindError := cd_KindError
    S_KindError := sup_mk il_KindError ib_KindError
    fb_KindError := fb_KindError
    f_NoBare := f_NoBare
    cc_NoBare := cc_NoBare
    cd_NoBare := cd_NoBare
    S_NoBare := sup_mk il_NoBare ib_NoBare
    fb_NoBare := fb_NoBare
    ke_NoBare := ke_mk xl_NoBare (by rfl) xk_NoBare
    iC_NoBare := if_NoBare
    ra_NoBare := ra_NoBare
    v__law_well := []
    b__law_well := (F__law_well.bindsN fun _ _ _ _ _ _ us hl => match us, hl with | [_, _], _ => rfl)
    a__law_well := ad__law_well
    d__law_well := _
    F__law_well := F__law_well
    m__law_well := PySem.W.mg_of X G a__law_well
    v_is_name := []
    b_is_name := (F_is_name.bindsN fun _ _ _ _ _ _ us hl => match us, hl with | [_], _ => rfl)
    a_is_name := ad_is_name
    d_is_name := _
    F_is_name := F_is_name
    m_is_name := PySem.W.mg_of X G a_is_name
    v_is_whole := []
    b_is_whole := (F_is_whole.bindsN fun _ _ _ _ _ _ us hl => match us, hl with | [_], _ => rfl)
    a_is_whole := ad_is_whole
    d_is_whole := _
    F_is_whole := F_is_whole
    m_is_whole := PySem.W.mg_of X G a_is_whole
    v_has_form := []
    b_has_form := (F_has_form.bindsN fun _ _ _ _ _ _ us hl => match us, hl with | [_], _ => rfl)
    a_has_form := ad_has_form
    d_has_form := _
    F_has_form := F_has_form
    m_has_form := PySem.W.mg_of X G a_has_form
    b_want_bare := bd0_want_bare
    e1_want_bare := e1_want_bare
    y1_want_bare := _
    bd1_want_bare := bd1_want_bare
    vd1_want_bare := vd1_want_bare
    wd1_want_bare := (fun ρ S H => (.cons (dfl_one ed0_want_bare hw0_want_bare ρ S H) .nil))
    v_want_bare := [w0_want_bare]
    a_want_bare := ad_want_bare
    d_want_bare := _
    F_want_bare := F_want_bare
    m_want_bare := PySem.W.mg_of X G a_want_bare
    v_letter := []
    b_letter := (F_letter.bindsN fun _ _ _ _ _ _ us hl => match us, hl with | [_], _ => rfl)
    a_letter := ad_letter
    d_letter := _
    F_letter := F_letter
    m_letter := PySem.W.mg_of X G a_letter
    v_first_letters := []
    b_first_letters := (F_first_letters.bindsN fun _ _ _ _ _ _ us hl => match us, hl with | [_], _ => rfl)
    a_first_letters := ad_first_letters
    d_first_letters := _
    F_first_letters := F_first_letters
    m_first_letters := PySem.W.mg_of X G a_first_letters
    v_relettered := []
    b_relettered := (F_relettered.bindsN fun _ _ _ _ _ _ us hl => match us, hl with | [_, _, _], _ => rfl)
    a_relettered := ad_relettered
    d_relettered := _
    F_relettered := F_relettered
    m_relettered := PySem.W.mg_of X G a_relettered
    v_free_names := []
    b_free_names := (F_free_names.bindsN fun _ _ _ _ _ _ us hl => match us, hl with | [_], _ => rfl)
    a_free_names := ad_free_names
    d_free_names := _
    F_free_names := F_free_names
    m_free_names := PySem.W.mg_of X G a_free_names
    v_plain_bare := []
    b_plain_bare := (F_plain_bare.bindsN fun _ _ _ _ _ _ us hl => match us, hl with | [_], _ => rfl)
    a_plain_bare := ad_plain_bare
    d_plain_bare := _
    F_plain_bare := F_plain_bare
    m_plain_bare := PySem.W.mg_of X G a_plain_bare
    v_exchanged := []
    b_exchanged := (F_exchanged.bindsN fun _ _ _ _ _ _ us hl => match us, hl with | [_, _, _, _], _ => rfl)
    a_exchanged := ad_exchanged
    d_exchanged := _
    F_exchanged := F_exchanged
    m_exchanged := PySem.W.mg_of X G a_exchanged
    v_away_from := []
    b_away_from := (F_away_from.bindsN fun _ _ _ _ _ _ us hl => match us, hl with | [_, _, _], _ => rfl)
    a_away_from := ad_away_from
    d_away_from := _
    F_away_from := F_away_from
    m_away_from := PySem.W.mg_of X G a_away_from
    v_filled := []
    b_filled := (F_filled.bindsN fun _ _ _ _ _ _ us hl => match us, hl with | [_, _, _], _ => rfl)
    a_filled := ad_filled
    d_filled := _
    F_filled := F_filled
    m_filled := PySem.W.mg_of X G a_filled
    v_without_lets := []
    b_without_lets := (F_without_lets.bindsN fun _ _ _ _ _ _ us hl => match us, hl with | [_], _ => rfl)
    a_without_lets := ad_without_lets
    d_without_lets := _
    F_without_lets := F_without_lets
    m_without_lets := PySem.W.mg_of X G a_without_lets
    v_put_in := []
    b_put_in := (F_put_in.bindsN fun _ _ _ _ _ _ us hl => match us, hl with | [_], _ => rfl)
    a_put_in := ad_put_in
    d_put_in := _
    F_put_in := F_put_in
    m_put_in := PySem.W.mg_of X G a_put_in
    v__law_draw := []
    b__law_draw := (F__law_draw.bindsN fun _ _ _ _ _ _ us hl => match us, hl with | [_, _], _ => rfl)
    a__law_draw := ad__law_draw
    d__law_draw := _
    F__law_draw := F__law_draw
    m__law_draw := PySem.W.mg_of X G a__law_draw
    v__law_one := []
    b__law_one := (F__law_one.bindsN fun _ _ _ _ _ _ us hl => match us, hl with | [_, _], _ => rfl)
    a__law_one := ad__law_one
    d__law_one := _
    F__law_one := F__law_one
    m__law_one := PySem.W.mg_of X G a__law_one
    v__law_raw := []
    b__law_raw := (F__law_raw.bindsN fun _ _ _ _ _ _ us hl => match us, hl with | [_, _, _], _ => rfl)
    a__law_raw := ad__law_raw
    d__law_raw := _
    F__law_raw := F__law_raw
    m__law_raw := PySem.W.mg_of X G a__law_raw
    v__law_in := []
    b__law_in := (F__law_in.bindsN fun _ _ _ _ _ _ us hl => match us, hl with | [_, _], _ => rfl)
    a__law_in := ad__law_in
    d__law_in := _
    F__law_in := F__law_in
    m__law_in := PySem.W.mg_of X G a__law_in
    v__law_lifted := []
    b__law_lifted := (F__law_lifted.bindsN fun _ _ _ _ _ _ us hl => match us, hl with | [_, _, _], _ => rfl)
    a__law_lifted := ad__law_lifted
    d__law_lifted := _
    F__law_lifted := F__law_lifted
    m__law_lifted := PySem.W.mg_of X G a__law_lifted
    v__law_put := []
    b__law_put := (F__law_put.bindsN fun _ _ _ _ _ _ us hl => match us, hl with | [_, _, _], _ => rfl)
    a__law_put := ad__law_put
    d__law_put := _
    F__law_put := F__law_put
    m__law_put := PySem.W.mg_of X G a__law_put
    v__law_without := []
    b__law_without := (F__law_without.bindsN fun _ _ _ _ _ _ us hl => match us, hl with | [_], _ => rfl)
    a__law_without := ad__law_without
    d__law_without := _
    F__law_without := F__law_without
    m__law_without := PySem.W.mg_of X G a__law_without
    v__law_out := []
    b__law_out := (F__law_out.bindsN fun _ _ _ _ _ _ us hl => match us, hl with | [_, _, _], _ => rfl)
    a__law_out := ad__law_out
    d__law_out := _
    F__law_out := F__law_out
    m__law_out := PySem.W.mg_of X G a__law_out
    v__law_frees_of := []
    b__law_frees_of := (F__law_frees_of.bindsN fun _ _ _ _ _ _ us hl => match us, hl with | [_], _ => rfl)
    a__law_frees_of := ad__law_frees_of
    d__law_frees_of := _
    F__law_frees_of := F__law_frees_of
    m__law_frees_of := PySem.W.mg_of X G a__law_frees_of
    v__law_named_so := []
    b__law_named_so := (F__law_named_so.bindsN fun _ _ _ _ _ _ us hl => match us, hl with | [_], _ => rfl)
    a__law_named_so := ad__law_named_so
    d__law_named_so := _
    F__law_named_so := F__law_named_so
    m__law_named_so := PySem.W.mg_of X G a__law_named_so
    v__law_odd := []
    b__law_odd := (F__law_odd.bindsN fun _ _ _ _ _ _ us hl => match us, hl with | [_], _ => rfl)
    a__law_odd := ad__law_odd
    d__law_odd := _
    F__law_odd := F__law_odd
    m__law_odd := PySem.W.mg_of X G a__law_odd
    v__law_count := []
    b__law_count := (F__law_count.bindsN fun _ _ _ _ _ _ us hl => match us, hl with | [_], _ => rfl)
    a__law_count := ad__law_count
    d__law_count := _
    F__law_count := F__law_count
    m__law_count := PySem.W.mg_of X G a__law_count
    v__law_said := []
    b__law_said := (F__law_said.bindsN fun _ _ _ _ _ _ us hl => match us, hl with | [_], _ => rfl)
    a__law_said := ad__law_said
    d__law_said := _
    F__law_said := F__law_said
    m__law_said := PySem.W.mg_of X G a__law_said
    v__law_right := []
    b__law_right := (F__law_right.bindsN fun _ _ _ _ _ _ us hl => match us, hl with | [_], _ => rfl)
    a__law_right := ad__law_right
    d__law_right := _
    F__law_right := F__law_right
    m__law_right := PySem.W.mg_of X G a__law_right
    v_law := []
    a_law := fa
    d_law := _
    F_law := F_law }
  exact ⟨_, fun s v => .of_eq rfl, fun base _ _ => o_law T⟩
end Fro

namespace Fro
open PySem PySem.Spec L2

/-! ### evaluation, forward -/
section
variable {a b : DenS} {δ δ' : Slots} {S S1 S2 : Sto} {r : RS} {w : W} {d : D}
theorem e_seq_nx (h : a δ S = .nx δ' S1) (h2 : b δ' S1 = r) : cSeq a b δ S = r := by unfold cSeq; rw [h]; exact h2
theorem e_seq_rt (h : a δ S = .rt w S1) : cSeq a b δ S = .rt w S1 := by unfold cSeq; rw [h]
theorem e_ifs_t {t : Den Bool} (h : t δ S = .ok true S1) (h2 : a δ S1 = r) : cIfS t a b δ S = r := by unfold cIfS; rw [h]; exact h2
theorem e_ifs_f {t : Den Bool} (h : t δ S = .ok false S1) (h2 : b δ S1 = r) : cIfS t a b δ S = r := by unfold cIfS; rw [h]; exact h2
theorem e_ifs {t : Den Bool} {c : Bool} (h : t δ S = .ok c S1) (h2 : (if c = true then a δ S1 else b δ S1) = r) : cIfS t a b δ S = r := by unfold cIfS; rw [h]; exact h2
theorem e_ret {x : Den W} (h : x δ S = .ok w S1) : cRet x δ S = .rt w S1 := by unfold cRet; rw [h]; rfl
theorem e_expr {x : Den W} (h : x δ S = .ok w S1) : cExpr x δ S = .nx δ S1 := by unfold cExpr; rw [h]; rfl
theorem e_set {x : Den W} {i : Nat} (h : x δ S = .ok w S1) : cAsg x (gN i) δ S = .nx (δ.set i (some w)) S1 := by unfold cAsg; rw [h]; rfl
theorem e_asg {x : Den W} {g : DenG} (h : x δ S = .ok w S1) (hg : g w δ S1 = some (δ', S2)) : cAsg x g δ S = .nx δ' S2 := by
  unfold cAsg; rw [h]
  show (match g w δ S1 with | some (δ', S') => RS.nx δ' S' | none => RS.bad) = _
  rw [hg]
theorem e_for {it : Den (List D)} {g : DenG} {ds : List D} (h : it δ S = .ok ds S1) (h2 : forL g a ds δ S1 = r) : cFor it g a δ S = r := by unfold cFor; rw [h]; exact h2
end
section
variable {x y z : Den W} {t u : Den Bool} {δ : Slots} {S S1 S2 S3 : Sto} {r : R W} {rb : R Bool} {w v : W} {c : Bool}
theorem e_if_t (h : t δ S = .ok true S1) (h2 : x δ S1 = r) : cIf t x y δ S = r := by unfold cIf; rw [h]; exact h2
theorem e_if_f (h : t δ S = .ok false S1) (h2 : y δ S1 = r) : cIf t x y δ S = r := by unfold cIf; rw [h]; exact h2
theorem e_b (h : x δ S = .ok (.v (.bl c)) S1) : cB x δ S = .ok c S1 := by unfold cB; rw [h]; rfl
theorem e_not (h : t δ S = .ok c S1) : cNot t δ S = .ok (!c) S1 := by unfold cNot; rw [h]; rfl
theorem e_or_t (h : t δ S = .ok true S1) : cOr t u δ S = .ok true S1 := by unfold cOr; rw [h]; rfl
theorem e_or_f (h : t δ S = .ok false S1) (h2 : u δ S1 = rb) : cOr t u δ S = rb := by unfold cOr; rw [h]; exact h2
theorem e_and_t (h : t δ S = .ok true S1) (h2 : u δ S1 = rb) : cAnd t u δ S = rb := by unfold cAnd; rw [h]; exact h2
theorem e_and_f (h : t δ S = .ok false S1) : cAnd t u δ S = .ok false S1 := by unfold cAnd; rw [h]; rfl
theorem e_andV_t (h : x δ S = .ok (.v (.bl true)) S1) (h2 : y δ S1 = r) : cAndV x y δ S = r := by unfold cAndV; rw [h]; exact h2
theorem e_andV_f (h : x δ S = .ok (.v (.bl false)) S1) : cAndV x y δ S = .ok (.v (.bl false)) S1 := by unfold cAndV; rw [h]; rfl
theorem e_orV_t (h : x δ S = .ok (.v (.bl true)) S1) : cOrV x y δ S = .ok (.v (.bl true)) S1 := by unfold cOrV; rw [h]; rfl
theorem e_orV_f (h : x δ S = .ok (.v (.bl false)) S1) (h2 : y δ S1 = r) : cOrV x y δ S = r := by unfold cOrV; rw [h]; exact h2
theorem e_notV (h : x δ S = .ok (.v (.bl c)) S1) : cNotV x δ S = .ok (.v (.bl (!c))) S1 := by unfold cNotV; rw [h]; rfl
theorem e_op2 {g : D → D → Option D} {d e k : D} (h1 : x δ S = .ok w S1) (h2 : y δ S1 = .ok v S2) (r1 : rd S2 w = some d) (r2 : rd S2 v = some e) (hg : g d e = some k) : op2 g x y δ S = .ok (.v k) S2 := by
  unfold op2; rw [h1, R.bind_ok, h2, R.bind_ok]; unfold ap2; simp only [r1, r2, hg]
/-- two values -/
theorem e_op2v {g : D → D → Option D} {d e k : D} (h1 : x δ S = .ok (.v d) S1) (h2 : y δ S1 = .ok (.v e) S2) (hg : g d e = some k) : op2 g x y δ S = .ok (.v k) S2 := e_op2 h1 h2 rfl rfl hg
theorem e_ix {d e k : D} (h1 : x δ S = .ok (.v d) S1) (h2 : y δ S1 = .ok (.v e) S2) (hg : gIx d e = some k) : cIx x y δ S = .ok (.v k) S2 := by
  unfold cIx; rw [h1, R.bind_ok, h2, R.bind_ok]
  show ap2 gIx (.v d) (.v e) S2 = _
  unfold ap2; simp only [rd, hg]
theorem e_ixr {d e k : D} (h1 : x δ S = .ok w S1) (h2 : y δ S1 = .ok (.v e) S2) (r1 : rd S2 w = some d) (hg : gIx d e = some k) : cIx x y δ S = .ok (.v k) S2 := by
  unfold cIx; rw [h1, R.bind_ok, h2, R.bind_ok]
  have : apIx w (.v e) S2 = ap2 gIx w (.v e) S2 := by
    cases w with
    | s ns => cases r1
    | _ => rfl
  rw [this]
  unfold ap2
  rw [r1]
  simp only [rd, hg]
theorem e_cons {as : Den (List W)} {ws : List W} (h1 : x δ S = .ok w S1) (h2 : as δ S1 = .ok ws S2) : cCons x as δ S = .ok (w :: ws) S2 := by unfold cCons; rw [h1, R.bind_ok, h2]; rfl
theorem e_call {as : Den (List W)} {ws dws : List W} {n : Nat} {f : FDen} {rv : Rv} (h1 : as δ S = .ok ws S1) (h2 : (ws ++ dws).length = n) (h3 : f (ws ++ dws) S1 = .ok rv S2) (h4 : cRes rv S2 = r) : cCall n f as dws δ S = r := by
  unfold cCall; rw [h1, R.bind_ok]; unfold chk; rw [if_pos h2, h3, R.bind_ok]; exact h4
theorem e_callM {as : Den (List W)} {ws dws : List W} {n : Nat} {f : FDen} {rv : Rv} (h1 : as δ S = .ok ws S1) (h2 : (ws ++ dws).length = n) (h3 : f (ws ++ dws) S1 = .ok rv S2) (h4 : cResM rv S2 = r) : cCallM n f as dws δ S = r := by
  unfold cCallM; rw [h1, R.bind_ok]; unfold chk; rw [if_pos h2, h3, R.bind_ok]; exact h4
theorem e_blt {as : Den (List W)} {ws : List W} {g : List D → Option D} {ds : List D} {k : D} (h1 : as δ S = .ok ws S1) (h2 : rdAll S1 ws = some ds) (h3 : g ds = some k) : cBlt g as δ S = .ok (.v k) S1 := by
  unfold cBlt; rw [h1, R.bind_ok]; unfold apN; simp only [h2, h3]
theorem e_disp {as : Den (List W)} {mk : List D → Sto → R W} {ws : List W} {ds : List D} (h1 : as δ S = .ok ws S1) (h2 : toDs ws = some ds) (h3 : ds.length ≤ 1000) (h4 : mk ds S1 = r) : cDisp mk as δ S = r := by
  unfold cDisp; rw [h1, R.bind_ok]; simp only [h2, if_pos h3]; exact h4
end
theorem e_fdef {n : Nat} {body : DenS} {ws : List W} {S S' : Sto} {w : W} {r : R Rv} (h : body (slots0 n ws) S = .rt w S') (h2 : retv S.length w S' = r) : fdef n body ws S = r := by
  unfold fdef; rw [h]; exact h2
theorem e_fdefN {n : Nat} {body : DenS} {ws : List W} {S S' : Sto} {δ : Slots} (h : body (slots0 n ws) S = .nx δ S') : fdef n body ws S = .ok (.v .non) (S'.take S.length) := by
  unfold fdef; rw [h]; rfl
/-- a def that hands back a value and leaves the store as it was -/
theorem e_fdef_v {n : Nat} {body : DenS} {ws : List W} {S : Sto} {d : D} (h : body (slots0 n ws) S = .rt (.v d) S) : fdef n body ws S = .ok (.v d) S := by
  refine e_fdef h ?_
  show R.ok (Rv.v d) (S.take S.length) = _
  rw [List.take_length]
theorem e_fdef_va {n : Nat} {body : DenS} {ws : List W} {S T : Sto} {d : D} (h : body (slots0 n ws) S = .rt (.v d) (S ++ T)) : fdef n body ws S = .ok (.v d) S := by
  refine e_fdef h ?_
  show R.ok (Rv.v d) ((S ++ T).take S.length) = _
  rw [List.take_left]
theorem e_fdef_vs {n : Nat} {body : DenS} {ws : List W} {S : Sto} {d : D} {i : Nat} {o : Ob} (h : body (slots0 n ws) S = .rt (.v d) (S.set i o)) : fdef n body ws S = .ok (.v d) (S.set i o) := by
  refine e_fdef h ?_
  show R.ok (Rv.v d) ((S.set i o).take S.length) = _
  rw [List.take_of_length_le (by rw [List.length_set]; exact Nat.le_refl _)]
/-- .. the last object that was laid -/
theorem e_fdef_new {n : Nat} {body : DenS} {ws : List W} {S : Sto} {o : Ob} (h : body (slots0 n ws) S = .rt (.r S.length) (S ++ [o])) : fdef n body ws S = .ok (.new o) S := by
  refine e_fdef h ?_
  unfold retv
  simp only [if_neg (Nat.lt_irrefl _), List.getElem?_append_right (Nat.le_refl _), Nat.sub_self]
  show R.ok (Rv.new o) ((S ++ [o]).take S.length) = _
  rw [List.take_left]

/-! ### loops over lists of data -/
/-- a loop whose turns go on: a state St i that the slots and the store keep -/
theorem forL_all {dg : DenG} {b : DenS} (P : List D → Slots → Sto → Prop) (ds : List D) (step : ∀ (d : D) (rest : List D) (δ : Slots) (S : Sto), P (d :: rest) δ S → ∃ δ1 S1 δ2 S2, dg (.v d) δ S = some (δ1, S1) ∧ b δ1 S1 = .nx δ2 S2 ∧ P rest δ2 S2) :
    ∀ (δ : Slots) (S : Sto), P ds δ S → ∃ δ' S', forL dg b ds δ S = .nx δ' S' ∧ P [] δ' S' := by
  induction ds with
  | nil => exact fun δ S h => ⟨δ, S, rfl, h⟩
  | cons d rest ih =>
    intro δ S h
    obtain ⟨δ1, S1, δ2, S2, e1, e2, h2⟩ := step d rest δ S h
    obtain ⟨δ', S', e3, h3⟩ := ih δ2 S2 h2
    refine ⟨δ', S', ?_, h3⟩
    unfold forL
    simp only [e1, e2]
    exact e3
/-- a comprehension over data by a function on data, the store kept -/
theorem comp_ev {it : Den (List D)} {dg : DenG} {tt : Den Bool} {te : Den W} {vs : List Nat} {δ : Slots} {S S1 : Sto} {ds : List D} (f : D → Option D) (hit : it δ S = .ok ds S1) (hl : ds.length ≤ 1000000)
    (hs : ∀ d ∈ ds, ∀ acc : List D, ∃ δ1, dg (.v d) (wipeD δ vs) (S1 ++ [.lst acc]) = some (δ1, S1 ++ [.lst acc]) ∧ (match f d with
      | none => tt δ1 (S1 ++ [.lst acc]) = .ok false (S1 ++ [.lst acc])
      | some e => tt δ1 (S1 ++ [.lst acc]) = .ok true (S1 ++ [.lst acc]) ∧ te δ1 (S1 ++ [.lst acc]) = .ok (.v e) (S1 ++ [.lst acc]))) :
    cComp it dg tt te vs δ S = .ok (.v (.lst (ds.filterMap f))) S1 := by
  have key : ∀ (ds : List D) (acc : List D), acc.length + ds.length ≤ 1000000 → (∀ d ∈ ds, ∀ acc : List D, ∃ δ1, dg (.v d) (wipeD δ vs) (S1 ++ [.lst acc]) = some (δ1, S1 ++ [.lst acc]) ∧ (match f d with
      | none => tt δ1 (S1 ++ [.lst acc]) = .ok false (S1 ++ [.lst acc])
      | some e => tt δ1 (S1 ++ [.lst acc]) = .ok true (S1 ++ [.lst acc]) ∧ te δ1 (S1 ++ [.lst acc]) = .ok (.v e) (S1 ++ [.lst acc]))) →
      compL dg tt te S1.length ds (wipeD δ vs) (S1 ++ [.lst acc]) = .ok () (S1 ++ [.lst (acc ++ ds.filterMap f)]) := by
    intro ds
    induction ds with
    | nil => intro acc _ _; simp [compL]
    | cons d rest ih =>
      intro acc hl h
      obtain ⟨δ1, e1, e2⟩ := h d (List.mem_cons_self) acc
      unfold compL
      simp only [e1]
      cases q : f d with
      | none =>
        rw [q] at e2
        simp only [e2, R.noexc_ok, R.bind_ok]
        rw [if_neg Bool.false_ne_true, ih acc (by rw [List.length_cons] at hl; omega) (fun d hd => h d (List.mem_cons_of_mem _ hd)), List.filterMap_cons, q]
      | some e =>
        rw [q] at e2
        simp only [e2.1, e2.2, R.noexc_ok, R.bind_ok, if_true]
        rw [List.getElem?_append_right (Nat.le_refl _), Nat.sub_self]
        rw [List.length_cons] at hl
        simp only [List.getElem?_cons_zero, if_pos (show acc.length < 1000000 by omega)]
        rw [List.set_append_right _ _ (Nat.le_refl _), Nat.sub_self]
        simp only [List.set_cons_zero]
        rw [ih (acc ++ [e]) (by rw [List.length_append]; simp; omega) (fun d hd => h d (List.mem_cons_of_mem _ hd)), List.filterMap_cons, q]
        simp
  unfold cComp
  rw [hit, R.bind_ok, key ds [] (by simpa using hl) hs, R.bind_ok]
  rw [if_pos (by simp), List.getElem?_append_right (Nat.le_refl _), Nat.sub_self]
  simp only [List.getElem?_cons_zero, List.nil_append, List.take_left]
/-- .. whose elements are all taken -/
theorem comp_map {it : Den (List D)} {dg : DenG} {te : Den W} {vs : List Nat} {δ : Slots} {S S1 : Sto} {ds : List D} (f : D → D) (hit : it δ S = .ok ds S1) (hl : ds.length ≤ 1000000)
    (hs : ∀ d ∈ ds, ∀ acc : List D, ∃ δ1, dg (.v d) (wipeD δ vs) (S1 ++ [.lst acc]) = some (δ1, S1 ++ [.lst acc]) ∧ te δ1 (S1 ++ [.lst acc]) = .ok (.v (f d)) (S1 ++ [.lst acc])) :
    cComp it dg cYes te vs δ S = .ok (.v (.lst (ds.map f))) S1 := by
  have q := comp_ev (it := it) (dg := dg) (tt := cYes) (te := te) (vs := vs) (δ := δ) (S := S) (fun d => some (f d)) hit hl fun d hd acc => by
    obtain ⟨δ1, e1, e2⟩ := hs d hd acc
    exact ⟨δ1, e1, rfl, e2⟩
  rw [q]
  simp [List.filterMap_eq_map]

/-! ### names -/
def stL (ts : List Tx) : List D := ts.map .str
theorem all_stL (ts : List Tx) : (stL ts).all flatD = true := by
  unfold stL
  rw [List.all_map]
  exact List.all_eq_true.mpr fun _ _ => rfl
theorem any_stL (t : Tx) : ∀ ts : List Tx, ((stL ts).any fun y => deq y (.str t)) = decide (t ∈ ts)
  | [] => rfl
  | u :: ts => by
    have ih := any_stL t ts
    unfold stL at ih ⊢
    rw [List.map_cons, List.any_cons, ih]
    show ((u == t) || decide (t ∈ ts)) = decide (t ∈ u :: ts)
    by_cases h : u = t
    · subst h; simp
    · have h2 : (u == t) = false := beq_eq_false_iff_ne.mpr h
      rw [h2, Bool.false_or]
      have : (t ∈ u :: ts) ↔ t ∈ ts := by
        rw [List.mem_cons]
        exact ⟨fun z => z.elim (fun e => absurd e.symm h) id, Or.inr⟩
      exact decide_eq_decide.mpr this.symm
theorem gIn_lst (t : Tx) (ts : List Tx) : gIn (.str t) (.lst (stL ts)) = some (.bl (decide (t ∈ ts))) := by
  unfold gIn gInB
  simp only [flatD, all_stL, Bool.and_self, if_true, any_stL, Option.map_some]
theorem gIn_tup (t : Tx) (ts : List Tx) : gIn (.str t) (.tup (stL ts)) = some (.bl (decide (t ∈ ts))) := by
  unfold gIn gInB
  simp only [flatD, all_stL, Bool.and_self, if_true, any_stL, Option.map_some]
theorem gNotIn_lst (t : Tx) (ts : List Tx) : gNotIn (.str t) (.lst (stL ts)) = some (.bl (!decide (t ∈ ts))) := by
  unfold gNotIn gInB
  simp only [flatD, all_stL, Bool.and_self, if_true, any_stL, Option.map_some]
theorem gNotIn_tup (t : Tx) (ts : List Tx) : gNotIn (.str t) (.tup (stL ts)) = some (.bl (!decide (t ∈ ts))) := by
  unfold gNotIn gInB
  simp only [flatD, all_stL, Bool.and_self, if_true, any_stL, Option.map_some]
def okT (t : Tx) : Bool := t.all fun c => decide (c < 1114112)
theorem okDL_stL : ∀ ts : List Tx, (∀ t ∈ ts, okT t = true) → okDL (stL ts) = true
  | [], _ => rfl
  | t :: ts, h => by
    show (okD (.str t) && okDL (stL ts)) = true
    rw [okDL_stL ts fun u hu => h u (List.mem_cons_of_mem _ hu)]
    have := h t List.mem_cons_self
    unfold okT at this
    simp only [okD, this, Bool.and_self]
theorem depL_stL : ∀ ts : List Tx, depL (stL ts) = 0
  | [] => rfl
  | t :: ts => by
    show max (dep (.str t)) (depL (stL ts)) = 0
    rw [depL_stL ts]
    rfl
theorem deqL_stL : ∀ ts us : List Tx, deqL (stL ts) (stL us) = decide (ts = us)
  | [], [] => rfl
  | [], _ :: _ => rfl
  | _ :: _, [] => rfl
  | t :: ts, u :: us => by
    show ((t == u) && deqL (stL ts) (stL us)) = _
    rw [deqL_stL ts us]
    by_cases h : t = u
    · subst h
      by_cases h2 : ts = us
      · subst h2; simp
      · simp [h2]
    · simp [h]
theorem gEq_stL (ts us : List Tx) (h : ∀ t ∈ ts, okT t = true) (h2 : ∀ t ∈ us, okT t = true) : gEq (.lst (stL ts)) (.lst (stL us)) = some (.bl (decide (ts = us))) := by
  unfold gEq
  simp only [okD, okDL_stL ts h, okDL_stL us h2, dep, depL_stL, deq, deqL_stL]
  rfl
theorem gNe_stL (ts us : List Tx) (h : ∀ t ∈ ts, okT t = true) (h2 : ∀ t ∈ us, okT t = true) : gNe (.lst (stL ts)) (.lst (stL us)) = some (.bl (!decide (ts = us))) := by
  unfold gNe
  simp only [okD, okDL_stL ts h, okDL_stL us h2, dep, depL_stL, deq, deqL_stL]
  rfl
end Fro

namespace Fro
open PySem PySem.Spec L2

/-! ### the last object of a store, and others -/
theorem at_last (S : Sto) (o : Ob) : (S ++ [o])[S.length]? = some o := by simp
theorem at_last2 (S T : Sto) (o : Ob) : (S ++ [o] ++ T)[S.length]? = some o := by simp
theorem set_last (S : Sto) (o o' : Ob) : (S ++ [o]).set S.length o' = S ++ [o'] := by
  rw [List.set_append_right _ _ (Nat.le_refl _), Nat.sub_self]
  rfl
theorem rd_at {S : Sto} {i : Nat} {ds : List D} (h : S[i]? = some (.lst ds)) : rd S (.r i) = some (.lst ds) := by
  unfold rd
  simp only [h]
theorem isRL_at {S : Sto} {i : Nat} {ds : List D} (h : S[i]? = some (.lst ds)) : isRL (.r i) S = some (i, ds) := by
  unfold isRL
  simp only [h]
section
variable {x y : Den W} {δ : Slots} {S S1 S2 : Sto} {i : Nat} {w : W} {d : D} {ds es : List D}
theorem e_extend (h1 : x δ S = .ok (.r i) S1) (h2 : ∃ ds, S1[i]? = some (.lst ds)) (h3 : y δ S1 = .ok w S2) (h4 : S2[i]? = some (.lst ds)) (h5 : rd S2 w = some (.lst es)) (h6 : ds.length + es.length ≤ 1000000) : cExtend x y δ S = .ok (.v .non) (S2.set i (.lst (ds ++ es))) := by
  obtain ⟨ds0, h2⟩ := h2
  unfold cExtend cMth
  rw [h1, R.bind_ok, isRL_at h2]
  show (y δ S1).bind _ = _
  rw [h3, R.bind_ok]
  unfold apExtend
  rw [isRL_at h4, h5]
  simp only [if_pos h6]
theorem e_append (h1 : x δ S = .ok (.r i) S1) (h2 : ∃ ds, S1[i]? = some (.lst ds)) (h3 : y δ S1 = .ok (.v d) S2) (h4 : S2[i]? = some (.lst ds)) (h6 : ds.length < 1000000) : cAppend x y δ S = .ok (.v .non) (S2.set i (.lst (ds ++ [d]))) := by
  obtain ⟨ds0, h2⟩ := h2
  unfold cAppend cMth
  rw [h1, R.bind_ok, isRL_at h2]
  show (y δ S1).bind _ = _
  rw [h3, R.bind_ok]
  unfold apAppend
  rw [isRL_at h4]
  simp only [toD, if_pos h6]
end
theorem e_itL {x : Den W} {δ : Slots} {S S1 : Sto} {ds : List D} (h : x δ S = .ok (.v (.lst ds)) S1) : itL x δ S = .ok ds S1 := by unfold itL; rw [h]; rfl
theorem e_itT {x : Den W} {δ : Slots} {S S1 : Sto} {ds : List D} (h : x δ S = .ok (.v (.tup ds)) S1) : itT x δ S = .ok ds S1 := by unfold itT; rw [h]; rfl
theorem e_itR {as : Den (List W)} {δ : Slots} {S S1 : Sto} {n : Int} (h : as δ S = .ok [.v (.int n)] S1) (h0 : 0 ≤ n) (h1 : n < 1000000) : itR0 as δ S = .ok (rangeD 0 n.toNat) S1 := by
  unfold itR0
  rw [h, R.bind_ok]
  exact if_pos ⟨h0, h1⟩
theorem stL_append (a b : List Tx) : stL a ++ stL b = stL (a ++ b) := by unfold stL; rw [List.map_append]
theorem stL_length (a : List Tx) : (stL a).length = a.length := by unfold stL; rw [List.length_map]
theorem gAdd_tups (a b : List Tx) (h : a.length + b.length ≤ 1000000) : gAdd (.tup (stL a)) (.tup (stL b)) = some (.tup (stL (a ++ b))) := by
  unfold gAdd
  simp only [stL_length, if_pos h, stL_append]
theorem gAdd_lsts (a b : List Tx) (h : a.length + b.length ≤ 1000000) : gAdd (.lst (stL a)) (.lst (stL b)) = some (.lst (stL (a ++ b))) := by
  unfold gAdd
  simp only [stL_length, if_pos h, stL_append]
def flt (p : Tx → Bool) : D → Option D
  | .str t => if p t = true then some (.str t) else none
  | _ => none
theorem filter_stL (p : Tx → Bool) : ∀ ts : List Tx, (stL ts).filterMap (flt p) = stL (ts.filter p)
  | [] => rfl
  | t :: ts => by
    show (D.str t :: stL ts).filterMap _ = _
    rw [List.filterMap_cons]
    by_cases h : p t = true
    · rw [show flt p (.str t) = some (.str t) from if_pos h, List.filter_cons_of_pos h, filter_stL p ts]
      rfl
    · rw [show flt p (.str t) = none from if_neg h, List.filter_cons_of_neg h, filter_stL p ts]
end Fro

namespace Fro
open PySem PySem.Spec L2

/-! ### evaluation by rewriting: each step by the results of its parts -/
def seqK (r : RS) (b : DenS) : RS := match r with
  | .nx δ S => b δ S
  | r => r
def ifsK (r : R Bool) (δ : Slots) (a b : DenS) : RS := r.thenS δ fun c S1 => if c then a δ S1 else b δ S1
def retK (r : R W) (δ : Slots) : RS := r.thenS δ fun w S1 => .rt w S1
def exprK (r : R W) (δ : Slots) : RS := r.thenS δ fun _ S1 => .nx δ S1
def asgK2 (o : Option (Slots × Sto)) : RS := match o with
  | some (δ', S') => .nx δ' S'
  | none => .bad
def asgK (r : R W) (dg : DenG) (δ : Slots) : RS := r.thenS δ fun w S1 => asgK2 (dg w δ S1)
def gsK (o : Option (Slots × Sto)) (b : DenGs) (r : List D) : Option (Slots × Sto) := match o with
  | some (δ1, S1) => b r δ1 S1
  | none => none
def varK (o : Option (Option W)) (S : Sto) : R W := match o with
  | some (some w) => .ok w S
  | _ => .bad
def consK2 (w : W) (r : R (List W)) : R (List W) := r.bind fun ws S2 => .ok (w :: ws) S2
def consK (r : R W) (b : Den (List W)) (δ : Slots) : R (List W) := r.bind fun w S1 => consK2 w (b δ S1)
def dispK2 (mk : List D → Sto → R W) (o : Option (List D)) (S : Sto) : R W := match o with
  | some ds => if ds.length ≤ 1000 then mk ds S else .bad
  | none => .bad
def dispK (mk : List D → Sto → R W) (r : R (List W)) : R W := r.bind fun ws S1 => dispK2 mk (toDs ws) S1
def bK (r : R W) : R Bool := r.bind asB
def notK (r : R Bool) : R Bool := r.bind fun c S1 => .ok (!c) S1
def orK (r : R Bool) (u : Den Bool) (δ : Slots) : R Bool := r.bind fun c S1 => if c then .ok true S1 else u δ S1
def andK (r : R Bool) (u : Den Bool) (δ : Slots) : R Bool := r.bind fun c S1 => if c then u δ S1 else .ok false S1
def andVK (r : R W) (b : Den W) (δ : Slots) : R W := r.bind fun w S1 => (asB w S1).bind fun c S2 => if c then b δ S2 else .ok (.v (.bl false)) S2
def orVK (r : R W) (b : Den W) (δ : Slots) : R W := r.bind fun w S1 => (asB w S1).bind fun c S2 => if c then .ok (.v (.bl true)) S2 else b δ S2
def notVK (r : R W) : R W := r.bind fun w S1 => (asB w S1).bind fun c S2 => .ok (.v (.bl (!c))) S2
def ifK (r : R Bool) (a b : Den W) (δ : Slots) : R W := r.bind fun c S1 => if c then a δ S1 else b δ S1
def ofO (o : Option D) (S : Sto) : R W := match o with
  | some k => .ok (.v k) S
  | none => .bad
def ofO2 (g : D → D → Option D) (a b : Option D) (S : Sto) : R W := match a, b with
  | some d, some e => ofO (g d e) S
  | _, _ => .bad
def opK2 (g : D → D → Option D) (x : W) (r : R W) : R W := r.bind fun y S2 => ap2 g x y S2
def opK (r : R W) (g : D → D → Option D) (b : Den W) (δ : Slots) : R W := r.bind fun x S1 => opK2 g x (b δ S1)
def ixK2 (x : W) (r : R W) : R W := r.bind fun y S2 => apIx x y S2
def ixK (r : R W) (b : Den W) (δ : Slots) : R W := r.bind fun x S1 => ixK2 x (b δ S1)
def bltK2 (g : List D → Option D) (o : Option (List D)) (S : Sto) : R W := match o with
  | some ds => ofO (g ds) S
  | none => .bad
def bltK (g : List D → Option D) (r : R (List W)) : R W := r.bind fun ws S1 => bltK2 g (rdAll S1 ws) S1
def resK (r : R Rv) : R W := r.bind cRes
def resMK (r : R Rv) : R W := r.bind cResM
def callK (n : Nat) (f : FDen) (r : R (List W)) (dws : List W) : R W := r.bind fun ws S1 => resK (chk n f (ws ++ dws) S1)
def callMK (n : Nat) (f : FDen) (r : R (List W)) (dws : List W) : R W := r.bind fun ws S1 => resMK (chk n f (ws ++ dws) S1)
def m1K3 (g : D → Option D) (r : R W) : R W := r.bind fun y S3 => ap1 g y S3
def m1K (r : R W) (g : Tx → D → Option D) (b : Den W) (δ : Slots) : R W := r.bind fun w S1 => (asX w S1).bind fun t S2 => m1K3 (g t) (b δ S2)
def forK (r : R (List D)) (g : DenG) (b : DenS) (δ : Slots) : RS := r.thenS δ fun ds S1 => forL g b ds δ S1
def parK (r : R (List W)) (is : List Nat) (δ : Slots) : RS := r.thenS δ fun ws S1 => if ws.length = is.length then .nx ((is.zip ws).foldl (fun δ p => δ.set p.1 (some p.2)) δ) S1 else .bad
def mthK2 (o : Option (Nat × List D)) (k : Nat → Slots → Sto → R W) (δ : Slots) (S : Sto) : R W := match o with
  | some (i, _) => k i δ S
  | none => .bad
def mthK (r : R W) (k : Nat → Slots → Sto → R W) (δ : Slots) : R W := r.bind fun x S1 => mthK2 (isRL x S1) k δ S1
section
variable {a b c : DenS} {x y : Den W} {t u : Den Bool} {δ δ1 : Slots} {S S1 : Sto} {w v : W} {d e : D} {n : Nat} {k : Bool} {as : Den (List W)} {ws dws : List W} {g : D → D → Option D}
theorem v_seq : cSeq a b δ S = seqK (a δ S) b := rfl
theorem v_seq1 : seqK (.nx δ S) b = b δ S := rfl
theorem v_seq2 : seqK (.rt w S) b = .rt w S := rfl
theorem v_seq3 : seqK (.bk δ S) b = .bk δ S := rfl
theorem v_seq4 : seqK (.ct δ S) b = .ct δ S := rfl
theorem v_seq5 {m ds} : seqK (.xc m ds δ S) b = .xc m ds δ S := rfl
theorem v_ifs : cIfS t a b δ S = ifsK (t δ S) δ a b := rfl
theorem v_ifs1 : ifsK (.ok true S) δ a b = a δ S := rfl
theorem v_ifs2 : ifsK (.ok false S) δ a b = b δ S := rfl
theorem v_ifs3 {m ds} : ifsK (.exc m ds S) δ a b = .xc m ds δ S := rfl
theorem v_ret : cRet x δ S = retK (x δ S) δ := rfl
theorem v_ret1 : retK (.ok w S) δ = .rt w S := rfl
theorem v_ret3 {m ds} : retK (.exc m ds S) δ = .xc m ds δ S := rfl
theorem v_retN : cRetN δ S = .rt (.v .non) S := rfl
theorem v_expr : cExpr x δ S = exprK (x δ S) δ := rfl
theorem v_expr1 : exprK (.ok w S) δ = .nx δ S := rfl
theorem v_expr3 {m ds} : exprK (.exc m ds S) δ = .xc m ds δ S := rfl
theorem v_asg {dg : DenG} : cAsg x dg δ S = asgK (x δ S) dg δ := rfl
theorem v_asg1 {dg : DenG} : asgK (.ok w S) dg δ = asgK2 (dg w δ S) := rfl
theorem v_asg2 : asgK2 (some (δ, S)) = .nx δ S := rfl
theorem v_asg3 {dg : DenG} {m ds} : asgK (.exc m ds S) dg δ = .xc m ds δ S := rfl
theorem v_gN {i : Nat} : gN i w δ S = some (δ.set i (some w), S) := rfl
theorem v_gT {bs : DenGs} {ds : List D} : gT n bs (.v (.tup ds)) δ S = if ds.length = n then bs ds δ S else none := rfl
theorem v_gs {dg : DenG} {bs : DenGs} {ds : List D} : gsCons dg bs (d :: ds) δ S = gsK (dg (.v d) δ S) bs ds := rfl
theorem v_gs1 {bs : DenGs} {ds : List D} : gsK (some (δ, S)) bs ds = bs ds δ S := rfl
theorem v_gs2 : gsNil [] δ S = some (δ, S) := rfl
theorem v_nx : cNx δ S = .nx δ S := rfl
theorem v_brk : cBrk δ S = .bk δ S := rfl
theorem v_ct : cCt δ S = .ct δ S := rfl
theorem v_var {i : Nat} : cVar i δ S = varK δ[i]? S := rfl
theorem v_var1 : varK (some (some w)) S = .ok w S := rfl
theorem v_c : cC d δ S = .ok (.v d) S := rfl
theorem v_nil : cNil δ S = .ok [] S := rfl
theorem v_cons : cCons x as δ S = consK (x δ S) as δ := rfl
theorem v_cons1 : consK (.ok w S) as δ = consK2 w (as δ S) := rfl
theorem v_cons2 : consK2 w (.ok ws S) = .ok (w :: ws) S := rfl
theorem v_cons3 {m ds} : consK (.exc m ds S) as δ = .exc m ds S := rfl
theorem v_cons4 {m ds} : consK2 w (.exc m ds S) = .exc m ds S := rfl
theorem v_tup : cTup as δ S = dispK (fun ds S => .ok (.v (.tup ds)) S) (as δ S) := rfl
theorem v_lst : cLst as δ S = dispK (fun ds S => .ok (.v (.lst ds)) S) (as δ S) := rfl
theorem v_lstM : cLstM as δ S = dispK (fun ds S => .ok (.r S.length) (S ++ [.lst ds])) (as δ S) := rfl
theorem v_disp1 {mk : List D → Sto → R W} : dispK mk (.ok ws S) = dispK2 mk (toDs ws) S := rfl
theorem v_disp2 {mk : List D → Sto → R W} {ds : List D} : dispK2 mk (some ds) S = if ds.length ≤ 1000 then mk ds S else .bad := rfl
theorem v_disp3 {mk : List D → Sto → R W} {m ds} : dispK mk (.exc m ds S) = .exc m ds S := rfl
theorem v_toDs0 : toDs [] = some [] := rfl
theorem v_toDs1 : toDs (.v d :: ws) = (toDs ws).map (d :: ·) := by
  show (match toD (.v d), toDs ws with | some d, some ds => some (d :: ds) | _, _ => none) = _
  cases toDs ws <;> rfl
theorem v_b : cB x δ S = bK (x δ S) := rfl
theorem v_b1 : bK (.ok (.v (.bl k)) S) = .ok k S := rfl
theorem v_b3 {m ds} : bK (.exc m ds S) = .exc m ds S := rfl
theorem v_not : cNot t δ S = notK (t δ S) := rfl
theorem v_not1 : notK (.ok k S) = .ok (!k) S := rfl
theorem v_not3 {m ds} : notK (.exc m ds S) = .exc m ds S := rfl
theorem v_or : cOr t u δ S = orK (t δ S) u δ := rfl
theorem v_or1 : orK (.ok true S) u δ = .ok true S := rfl
theorem v_or2 : orK (.ok false S) u δ = u δ S := rfl
theorem v_and : cAnd t u δ S = andK (t δ S) u δ := rfl
theorem v_and1 : andK (.ok true S) u δ = u δ S := rfl
theorem v_and2 : andK (.ok false S) u δ = .ok false S := rfl
theorem v_andV : cAndV x y δ S = andVK (x δ S) y δ := rfl
theorem v_andV1 : andVK (.ok (.v (.bl true)) S) y δ = y δ S := rfl
theorem v_andV2 : andVK (.ok (.v (.bl false)) S) y δ = .ok (.v (.bl false)) S := rfl
theorem v_orV : cOrV x y δ S = orVK (x δ S) y δ := rfl
theorem v_orV1 : orVK (.ok (.v (.bl true)) S) y δ = .ok (.v (.bl true)) S := rfl
theorem v_orV2 : orVK (.ok (.v (.bl false)) S) y δ = y δ S := rfl
theorem v_notV : cNotV x δ S = notVK (x δ S) := rfl
theorem v_notV1 : notVK (.ok (.v (.bl k)) S) = .ok (.v (.bl (!k))) S := rfl
theorem v_if : cIf t x y δ S = ifK (t δ S) x y δ := rfl
theorem v_if1 : ifK (.ok true S) x y δ = x δ S := rfl
theorem v_if2 : ifK (.ok false S) x y δ = y δ S := rfl
theorem v_op : op2 g x y δ S = opK (x δ S) g y δ := rfl
theorem v_op1 : opK (.ok w S) g y δ = opK2 g w (y δ S) := rfl
theorem v_op2 : opK2 g w (.ok v S) = ap2 g w v S := rfl
theorem v_op3 {m ds} : opK (.exc m ds S) g y δ = .exc m ds S := rfl
theorem v_op4 {m ds} : opK2 g w (.exc m ds S) = .exc m ds S := rfl
theorem v_ap2 : ap2 g w v S = ofO2 g (rd S w) (rd S v) S := by
  unfold ap2 ofO2
  cases rd S w <;> cases rd S v <;> rfl
theorem v_ofO2 : ofO2 g (some d) (some e) S = ofO (g d e) S := rfl
theorem v_ofO : ofO (some d) S = .ok (.v d) S := rfl
theorem v_rd : rd S (.v d) = some d := rfl
theorem v_ix : cIx x y δ S = ixK (x δ S) y δ := rfl
theorem v_ix1 : ixK (.ok w S) y δ = ixK2 w (y δ S) := rfl
theorem v_ix2 : ixK2 w (.ok v S) = apIx w v S := rfl
theorem v_ix3 : apIx (.v d) (.v e) S = ofO (gIx d e) S := by
  show ap2 gIx (.v d) (.v e) S = _
  rw [v_ap2]; rfl
theorem v_ix4 {i : Nat} : apIx (.r i) (.v e) S = ofO2 gIx (rd S (.r i)) (some e) S := by
  show ap2 gIx (.r i) (.v e) S = _
  rw [v_ap2]; rfl
theorem v_gIxT {ds : List D} {i : Int} : gIx (.tup ds) (.int i) = atI ds i := rfl
theorem v_gIxL {ds : List D} {i : Int} : gIx (.lst ds) (.int i) = atI ds i := rfl
theorem v_at0 {α : Type} {p : α} {l : List α} : atI (p :: l) 0 = some p := by
  unfold atI ixN
  rw [if_pos (by decide), if_pos (by simp)]
  rfl
theorem v_at1 {α : Type} {p q : α} {l : List α} : atI (p :: q :: l) 1 = some q := by
  unfold atI ixN
  rw [if_pos (by decide), if_pos (by simp; omega)]
  rfl
theorem v_at2 {α : Type} {p q r : α} {l : List α} : atI (p :: q :: r :: l) 2 = some r := by
  unfold atI ixN
  rw [if_pos (by decide), if_pos (by simp; omega)]
  rfl
theorem v_at3 {α : Type} {p q r s : α} {l : List α} : atI (p :: q :: r :: s :: l) 3 = some s := by
  unfold atI ixN
  rw [if_pos (by decide), if_pos (by simp; omega)]
  rfl
theorem v_blt {gg : List D → Option D} : cBlt gg as δ S = bltK gg (as δ S) := by
  show (as δ S).bind _ = (as δ S).bind _
  congr 1
theorem v_blt1 {gg : List D → Option D} : bltK gg (.ok ws S) = bltK2 gg (rdAll S ws) S := rfl
theorem v_blt2 {gg : List D → Option D} {ds : List D} : bltK2 gg (some ds) S = ofO (gg ds) S := rfl
theorem v_blt3 {gg : List D → Option D} {m ds} : bltK gg (.exc m ds S) = .exc m ds S := rfl
theorem v_rdA0 : rdAll S [] = some [] := rfl
theorem v_rdA1 : rdAll S (.v d :: ws) = (rdAll S ws).map (d :: ·) := by
  show (match rd S (.v d), rdAll S ws with | some d, some ds => some (d :: ds) | _, _ => none) = _
  cases rdAll S ws <;> rfl
theorem v_call {f : FDen} : cCall n f as dws δ S = callK n f (as δ S) dws := rfl
theorem v_call1 {f : FDen} : callK n f (.ok ws S) dws = resK (chk n f (ws ++ dws) S) := rfl
theorem v_call3 {f : FDen} {m ds} : callK n f (.exc m ds S) dws = .exc m ds S := rfl
theorem v_chk {f : FDen} : chk n f ws S = if ws.length = n then f ws S else .bad := rfl
theorem v_res1 : resK (.ok (.v d) S) = .ok (.v d) S := rfl
theorem v_res2 {i : Nat} : resK (.ok (.old i) S) = .ok (.r i) S := rfl
theorem v_res3 {ds : List D} : resK (.ok (.new (.lst ds)) S) = .ok (.v (.lst ds)) S := rfl
theorem v_res4 {ds : List (Tx × D)} : resK (.ok (.new (.dct ds)) S) = .ok (.v (.dct ds)) S := rfl
theorem v_res5 {m ds} : resK (.exc m ds S) = .exc m ds S := rfl
theorem v_callM {f : FDen} : cCallM n f as dws δ S = callMK n f (as δ S) dws := rfl
theorem v_callM1 {f : FDen} : callMK n f (.ok ws S) dws = resMK (chk n f (ws ++ dws) S) := rfl
theorem v_resM1 : resMK (.ok (.v d) S) = .ok (.v d) S := rfl
theorem v_resM2 {i : Nat} : resMK (.ok (.old i) S) = .ok (.r i) S := rfl
theorem v_resM3 {ob : Ob} : resMK (.ok (.new ob) S) = .ok (.r S.length) (S ++ [ob]) := rfl
theorem v_m1 {g : Tx → D → Option D} : cM1 g x y δ S = m1K (x δ S) g y δ := rfl
theorem v_m11 {g : Tx → D → Option D} {t : Tx} : m1K (.ok (.v (.str t)) S) g y δ = m1K3 (g t) (y δ S) := rfl
theorem v_m12 {g : D → Option D} : m1K3 g (.ok (.v d) S) = ofO (g d) S := by
  show ap1 g (.v d) S = _
  unfold ap1
  show (match g d with | some r => R.ok (W.v r) S | none => .bad) = _
  cases g d <;> rfl
theorem v_for {it : Den (List D)} {dg : DenG} : cFor it dg b δ S = forK (it δ S) dg b δ := rfl
theorem v_for1 {dg : DenG} {ds : List D} : forK (.ok ds S) dg b δ = forL dg b ds δ S := rfl
theorem v_par {is : List Nat} : cPar is as δ S = parK (as δ S) is δ := rfl
theorem v_par2 {i j : Nat} : parK (.ok [w, v] S) [i, j] δ = .nx ((δ.set i (some w)).set j (some v)) S := rfl
theorem v_par3 {i j l : Nat} {z : W} : parK (.ok [w, v, z] S) [i, j, l] δ = .nx (((δ.set i (some w)).set j (some v)).set l (some z)) S := rfl
theorem v_len : cLen as δ S = (as δ S).bind apLen := rfl
theorem v_len1 : apLen [.v d] S = ofO (gLen [d]) S := by
  show apN gLen [.v d] S = _
  unfold apN
  show (match gLen [d] with | some r => R.ok (W.v r) S | none => .bad) = _
  cases gLen [d] <;> rfl
theorem v_lenL {ds : List D} : gLen [.lst ds] = some (.int ds.length) := rfl
theorem v_lenT {ds : List D} : gLen [.tup ds] = some (.int ds.length) := rfl
theorem v_lenS {t : Tx} (h : t.length ≤ 1000000) : gLen [.str t] = some (.int t.length) := if_pos h
theorem v_itL : itL x δ S = (x δ S).bind asL := rfl
theorem v_itL1 {ds : List D} : asL (.v (.lst ds)) S = .ok ds S := rfl
theorem v_itT : itT x δ S = (x δ S).bind asT := rfl
theorem v_itT1 {ds : List D} : asT (.v (.tup ds)) S = .ok ds S := rfl
theorem v_itR {n : Int} (h0 : 0 ≤ n) (h1 : n < 1000000) : asR0 [.v (.int n)] S = .ok (rangeD 0 n.toNat) S := if_pos ⟨h0, h1⟩
theorem v_itR0 : itR0 as δ S = (as δ S).bind asR0 := rfl
/-! data -/
theorem gEq_of (hd : okD d = true) (he : okD e = true) (h : min (dep d) (dep e) ≤ 64) : gEq d e = some (.bl (deq d e)) := by
  unfold gEq
  rw [if_pos (by rw [hd, he, decide_eq_true h]; rfl)]
theorem gNe_of (hd : okD d = true) (he : okD e = true) (h : min (dep d) (dep e) ≤ 64) : gNe d e = some (.bl (!deq d e)) := by
  unfold gNe
  rw [if_pos (by rw [hd, he, decide_eq_true h]; rfl)]
theorem deqS (p q : Tx) : deq (.str p) (.str q) = decide (p = q) := by
  show (p == q) = _
  by_cases h : p = q
  · subst h; simp
  · simp [h]
theorem v_eqS {p q : Tx} (hp : okT p = true) (hq : okT q = true) : gEq (.str p) (.str q) = some (.bl (decide (p = q))) := by
  rw [gEq_of (d := .str p) (e := .str q) hp hq (Nat.zero_le _), deqS]
theorem v_neS {p q : Tx} (hp : okT p = true) (hq : okT q = true) : gNe (.str p) (.str q) = some (.bl (!decide (p = q))) := by
  rw [gNe_of (d := .str p) (e := .str q) hp hq (Nat.zero_le _), deqS]
theorem v_eqI {i j : Int} : gEq (.int i) (.int j) = some (.bl (decide (i = j))) := rfl
theorem v_neI {i j : Int} : gNe (.int i) (.int j) = some (.bl (!decide (i = j))) := rfl
theorem v_okT0 : okT [] = true := rfl
theorem v_okT1 {c : Nat} {p : Tx} : okT (c :: p) = (decide (c < 1114112) && okT p) := rfl
theorem v_lt {i j : Int} : gLt (.int i) (.int j) = some (.bl (decide (i < j))) := rfl
theorem v_le {i j : Int} : gLe (.int i) (.int j) = some (.bl (decide (i ≤ j))) := rfl
theorem v_gt {i j : Int} : gGt (.int i) (.int j) = some (.bl (decide (j < i))) := rfl
theorem v_ge {i j : Int} : gGe (.int i) (.int j) = some (.bl (decide (j ≤ i))) := rfl
theorem v_add {i j : Int} : gAdd (.int i) (.int j) = some (.int (i + j)) := rfl
theorem v_sub {i j : Int} : gSub (.int i) (.int j) = some (.int (i - j)) := rfl
theorem v_mod {i j : Int} (h : 0 < j) : gMod (.int i) (.int j) = some (.int (i % j)) := if_pos h
theorem v_div {i j : Int} (h : 0 < j) (h2 : j < 1073741824) : gDiv (.int i) (.int j) = some (.int (i / j)) := if_pos ⟨h, h2⟩
theorem v_addS {p q : Tx} (h : p.length + q.length ≤ 1000000) : gAdd (.str p) (.str q) = some (.str (p ++ q)) := if_pos h
theorem v_addL {p q : List D} (h : p.length + q.length ≤ 1000000) : gAdd (.lst p) (.lst q) = some (.lst (p ++ q)) := if_pos h
theorem v_addT {p q : List D} (h : p.length + q.length ≤ 1000000) : gAdd (.tup p) (.tup q) = some (.tup (p ++ q)) := if_pos h
theorem v_int {i : Int} : gInt [.int i] = some (.int i) := rfl
theorem v_intB {k : Bool} : gInt [.bl k] = some (.int (if k then 1 else 0)) := rfl
theorem v_sl0 {n : Nat} {ws : List W} : slots0 n ws = ws.map some ++ List.replicate (n - ws.length) none := rfl
theorem v_frzV : frz (.v d) S = .ok (.v d) S := rfl
theorem v_frz : cFrz x δ S = (x δ S).bind frz := rfl
end
theorem e_while_f {t : Den Bool} {b : DenS} {n : Nat} {δ : Slots} {S S1 : Sto} (h : t δ S = .ok false S1) : whileN t b (n + 1) δ S = .nx δ S1 := by
  unfold whileN; rw [h]; rfl
theorem e_while_t {t : Den Bool} {b : DenS} {n : Nat} {δ δ2 : Slots} {S S1 S2 : Sto} (h : t δ S = .ok true S1) (h2 : b δ S1 = .nx δ2 S2) : whileN t b (n + 1) δ S = whileN t b n δ2 S2 := by
  rw [whileN, h, R.thenS_ok, if_pos rfl, h2]
theorem e_for_nil {dg : DenG} {b : DenS} {δ : Slots} {S : Sto} : forL dg b [] δ S = .nx δ S := rfl
theorem e_for_nx {dg : DenG} {b : DenS} {d : D} {ds : List D} {δ δ1 δ2 : Slots} {S S1 S2 : Sto} (h : dg (.v d) δ S = some (δ1, S1)) (h2 : b δ1 S1 = .nx δ2 S2) : forL dg b (d :: ds) δ S = forL dg b ds δ2 S2 := by
  rw [forL]; simp only [h, h2]
theorem e_for_ct {dg : DenG} {b : DenS} {d : D} {ds : List D} {δ δ1 δ2 : Slots} {S S1 S2 : Sto} (h : dg (.v d) δ S = some (δ1, S1)) (h2 : b δ1 S1 = .ct δ2 S2) : forL dg b (d :: ds) δ S = forL dg b ds δ2 S2 := by
  rw [forL]; simp only [h, h2]
theorem e_for_rt {dg : DenG} {b : DenS} {d : D} {ds : List D} {δ δ1 : Slots} {S S1 S2 : Sto} {w : W} (h : dg (.v d) δ S = some (δ1, S1)) (h2 : b δ1 S1 = .rt w S2) : forL dg b (d :: ds) δ S = .rt w S2 := by
  rw [forL]; simp only [h, h2]
/-- a test on a text in a row of texts -/
def inK (p : Tx) (e : D) (o : Option (List Tx)) : Option D := match o with
  | some ts => some (.bl (decide (p ∈ ts)))
  | none => gIn (.str p) e
theorem txs_stL : ∀ {ds : List D} {ts : List Tx}, txs ds = some ts → ds = stL ts
  | [], ts, e => by cases e; rfl
  | .str t :: r, ts, e => by
    unfold txs at e
    cases q : txs r with
    | none => rw [q] at e; cases e
    | some us =>
      rw [q] at e
      cases e
      rw [txs_stL q]
      rfl
  | .non :: _, _, e => by cases e
  | .bl _ :: _, _, e => by cases e
  | .int _ :: _, _, e => by cases e
  | .tup _ :: _, _, e => by cases e
  | .lst _ :: _, _, e => by cases e
  | .dct _ :: _, _, e => by cases e
  | .ty _ :: _, _, e => by cases e
theorem v_txs0 : txs [] = some [] := rfl
theorem v_txs1 {t : Tx} {r : List D} : txs (.str t :: r) = (txs r).map (t :: ·) := rfl
theorem txs_of : ∀ ts : List Tx, txs (stL ts) = some ts
  | [] => rfl
  | t :: ts => by
    show (txs (stL ts)).map (t :: ·) = _
    rw [txs_of ts]
    rfl
theorem v_in1 {p : Tx} {ds : List D} : gIn (.str p) (.tup ds) = inK p (.tup ds) (txs ds) := by
  unfold inK
  cases q : txs ds with
  | none => rfl
  | some ts => rw [txs_stL q]; exact gIn_tup p ts
theorem v_in2 {p : Tx} {ds : List D} : gIn (.str p) (.lst ds) = inK p (.lst ds) (txs ds) := by
  unfold inK
  cases q : txs ds with
  | none => rfl
  | some ts => rw [txs_stL q]; exact gIn_lst p ts
theorem v_in3 {p : Tx} {e : D} {ts : List Tx} : inK p e (some ts) = some (.bl (decide (p ∈ ts))) := rfl
theorem v_in4 {p : Tx} {ds : List D} : gNotIn (.str p) (.lst ds) = (gIn (.str p) (.lst ds)).map fun d => match d with
    | .bl b => .bl (!b)
    | d => d := by
  unfold gNotIn gIn
  cases gInB (.str p) (.lst ds) <;> rfl
theorem v_in5 {p : Tx} {ds : List D} : gNotIn (.str p) (.tup ds) = (gIn (.str p) (.tup ds)).map fun d => match d with
    | .bl b => .bl (!b)
    | d => d := by
  unfold gNotIn gIn
  cases gInB (.str p) (.tup ds) <;> rfl
/-- a test on a name in a row of texts -/
theorem v_inT {p : Tx} {ts : List Tx} {ds : List D} (h : ds = stL ts) : gIn (.str p) (.tup ds) = some (.bl (decide (p ∈ ts))) := by subst h; exact gIn_tup p ts
theorem v_inL {p : Tx} {ts : List Tx} {ds : List D} (h : ds = stL ts) : gIn (.str p) (.lst ds) = some (.bl (decide (p ∈ ts))) := by subst h; exact gIn_lst p ts
end Fro

namespace Fro
open PySem PySem.Spec L2

theorem set_self {S : Sto} {i : Nat} {o : Ob} (h : S[i]? = some o) : S.set i o = S := by
  apply List.ext_getElem?
  intro j
  by_cases hj : i = j
  · subst hj
    have hl : i < S.length := (List.getElem?_eq_some_iff.mp h).1
    rw [List.getElem?_set_self hl, h]
  · rw [List.getElem?_set_ne hj]
/-! ### evaluation: dicts -/
theorem mergeE_nil : ∀ (l acc : List (Tx × D)), ((acc ++ l).map (·.1)).Nodup → mergeE acc l = acc ++ l
  | [], acc, _ => by rw [List.append_nil]; rfl
  | (t, d) :: r, acc, h => by
    have hn : hasE acc t = false := by
      unfold hasE
      rw [List.any_eq_false]
      intro e he hb
      have heq : e.1 = t := eq_of_beq hb
      rw [List.map_append, List.nodup_append] at h
      exact h.2.2 e.1 (List.mem_map.mpr ⟨e, he, rfl⟩) t (by simp) heq
    show mergeE (putE acc t d) r = _
    have e : putE acc t d = acc ++ [(t, d)] := by
      unfold putE
      rw [hn, if_neg Bool.false_ne_true]
    rw [e, mergeE_nil r (acc ++ [(t, d)]) (by rw [List.append_assoc]; exact h), List.append_assoc]
    rfl
section
variable {x y z : Den W} {δ : Slots} {S S1 S2 S3 : Sto} {es : List (Tx × D)} {t : Tx} {w : W} {d : D}
theorem e_dget2_some (h1 : x δ S = .ok (.v (.dct es)) S1) (h2 : y δ S1 = .ok (.v (.str t)) S2) (h3 : z δ S2 = .ok w S3) (h4 : lkT es t = some d) : cDGet2 x y z δ S = .ok (.v d) S3 := by
  unfold cDGet2
  rw [h1, R.bind_ok, if_pos (show isDct (.v (.dct es)) S1 = true from rfl), h2, R.bind_ok, h3, R.bind_ok]
  unfold apDGet2
  simp only [rd, h4]
theorem e_dget2_none (h1 : x δ S = .ok (.v (.dct es)) S1) (h2 : y δ S1 = .ok (.v (.str t)) S2) (h3 : z δ S2 = .ok w S3) (h4 : lkT es t = none) : cDGet2 x y z δ S = .ok w S3 := by
  unfold cDGet2
  rw [h1, R.bind_ok, if_pos (show isDct (.v (.dct es)) S1 = true from rfl), h2, R.bind_ok, h3, R.bind_ok]
  unfold apDGet2
  simp only [rd, h4]
/-- a dict of one entry -/
theorem e_dict1 (h1 : x δ (S ++ [.dct []]) = .ok (.v (.str t)) (S ++ [.dct []])) (h2 : y δ (S ++ [.dct []]) = .ok (.v d) (S ++ [.dct []])) : cDict [(x, y)] δ S = .ok (.v (.dct [(t, d)])) S := by
  have hp : pairsD [(x, y)] δ (S ++ [.dct []]) = .ok [(t, d)] (S ++ [.dct []]) := by
    unfold pairsD
    rw [h1, R.bind_ok, h2, R.bind_ok]
    rfl
  unfold cDict
  rw [hp, R.bind_ok]
  unfold endDict
  rw [at_last]
  show (if ([(t, d)] : List (Tx × D)).length ≤ 15 ∧ (S ++ [Ob.dct []]).length = S.length + 1 then R.ok (W.v (D.dct (mergeE [] [(t, d)]))) ((S ++ [Ob.dct []]).take S.length) else R.bad) = _
  rw [if_pos ⟨by simp, by simp⟩]
  rw [List.take_left]
  rfl
end
theorem dcomp_ev {it : Den (List D)} {dg : DenG} {tt : Den Bool} {tk tv : Den W} {vs : List Nat} {δ : Slots} {S S1 : Sto} {ds : List D} (f : D → Option (Tx × D)) (hit : it δ S = .ok ds S1) (hl : ds.length ≤ 1000)
    (hs : ∀ d ∈ ds, ∀ acc : List (Tx × D), ∃ δ1, dg (.v d) (wipeD δ vs) (S1 ++ [.dct acc]) = some (δ1, S1 ++ [.dct acc]) ∧ (match f d with
      | none => tt δ1 (S1 ++ [.dct acc]) = .ok false (S1 ++ [.dct acc])
      | some e => tt δ1 (S1 ++ [.dct acc]) = .ok true (S1 ++ [.dct acc]) ∧ tk δ1 (S1 ++ [.dct acc]) = .ok (.v (.str e.1)) (S1 ++ [.dct acc]) ∧ tv δ1 (S1 ++ [.dct acc]) = .ok (.v e.2) (S1 ++ [.dct acc]))) :
    cDComp it dg tt tk tv vs δ S = .ok (.v (.dct (mergeE [] (ds.filterMap f)))) S1 := by
  have put_len : ∀ (acc : List (Tx × D)) (t : Tx) (d : D), (putE acc t d).length ≤ acc.length + 1 := fun acc t d => by
    unfold putE
    split
    · rw [List.length_map]; omega
    · rw [List.length_append]; simp
  have key : ∀ (ds : List D) (acc : List (Tx × D)), acc.length + ds.length ≤ 1000 → (∀ d ∈ ds, ∀ acc : List (Tx × D), ∃ δ1, dg (.v d) (wipeD δ vs) (S1 ++ [.dct acc]) = some (δ1, S1 ++ [.dct acc]) ∧ (match f d with
      | none => tt δ1 (S1 ++ [.dct acc]) = .ok false (S1 ++ [.dct acc])
      | some e => tt δ1 (S1 ++ [.dct acc]) = .ok true (S1 ++ [.dct acc]) ∧ tk δ1 (S1 ++ [.dct acc]) = .ok (.v (.str e.1)) (S1 ++ [.dct acc]) ∧ tv δ1 (S1 ++ [.dct acc]) = .ok (.v e.2) (S1 ++ [.dct acc]))) →
      dcompL dg tt tk tv S1.length ds (wipeD δ vs) (S1 ++ [.dct acc]) = .ok () (S1 ++ [.dct (mergeE acc (ds.filterMap f))]) := by
    intro ds
    induction ds with
    | nil => intro acc _ _; rfl
    | cons d rest ih =>
      intro acc hl h
      rw [List.length_cons] at hl
      obtain ⟨δ1, e1, e2⟩ := h d List.mem_cons_self acc
      unfold dcompL
      simp only [e1]
      cases q : f d with
      | none =>
        rw [q] at e2
        simp only [e2, R.noexc_ok, R.bind_ok]
        rw [if_neg Bool.false_ne_true, ih acc (by omega) (fun d hd => h d (List.mem_cons_of_mem _ hd)), List.filterMap_cons, q]
      | some e =>
        rw [q] at e2
        simp only [e2.1, e2.2.1, e2.2.2, R.noexc_ok, R.bind_ok, if_true]
        have hp : dputL S1.length (.v (.str e.1)) (.v e.2) (S1 ++ [.dct acc]) = some (S1 ++ [.dct (putE acc e.1 e.2)]) := by
          unfold dputL
          rw [at_last]
          simp only [if_pos (show acc.length < 1000000 by omega), set_last]
        rw [hp]
        show dcompL dg tt tk tv S1.length rest (wipeD δ vs) (S1 ++ [.dct (putE acc e.1 e.2)]) = _
        rw [ih (putE acc e.1 e.2) (by have := put_len acc e.1 e.2; omega) (fun d hd => h d (List.mem_cons_of_mem _ hd)), List.filterMap_cons, q]
        rfl
  unfold cDComp
  rw [hit, R.bind_ok, key ds [] (by simpa using hl) hs, R.bind_ok]
  unfold endDComp
  rw [if_pos (by simp), at_last]
  simp only [List.take_left]
/-- a comprehension over two data, by a call -/
theorem comp_two {it : Den (List D)} {f : FDen} {j n : Nat} {vs : List Nat} {as : Den (List W)} {δ : Slots} {S : Sto} {x y r1 r2 : D} {wx wy : List W} (hit : it δ S = .ok [x, y] S)
    (hx : ∀ S, as ((wipeD δ vs).set j (some (.v x))) S = .ok wx S) (hy : ∀ S, as ((wipeD δ vs).set j (some (.v y))) S = .ok wy S) (lx : wx.length = n) (ly : wy.length = n) (h1 : ∀ S, f wx S = .ok (.v r1) S) (h2 : ∀ S, f wy S = .ok (.v r2) S) :
    cComp it (gN j) cYes (cCall n f as []) vs δ S = .ok (.v (.lst [r1, r2])) S := by
  have e1 : ∀ S, cCall n f as [] ((wipeD δ vs).set j (some (.v x))) S = .ok (.v r1) S := fun S => e_call (hx S) (by rw [List.append_nil]; exact lx) (by rw [List.append_nil]; exact h1 S) rfl
  have e2 : ∀ S, cCall n f as [] ((wipeD δ vs).set j (some (.v y))) S = .ok (.v r2) S := fun S => e_call (hy S) (by rw [List.append_nil]; exact ly) (by rw [List.append_nil]; exact h2 S) rfl
  unfold cComp
  rw [hit, R.bind_ok]
  have key : compL (gN j) cYes (cCall n f as []) S.length [x, y] (wipeD δ vs) (S ++ [.lst []]) = .ok () (S ++ [.lst [r1, r2]]) := by
    simp only [compL, gN, cYes, R.noexc_ok, R.bind_ok, if_true, e1, e2, at_last, set_last, List.length_nil, List.length_cons, List.length_append, List.nil_append, List.cons_append]
    rfl
  rw [key, R.bind_ok, if_pos (by simp), at_last]
  simp only [List.take_left]
theorem comp2_nil {it : Den (List D)} {dg : DenG} {it1 : Den (List D)} {dg1 : DenG} {tt1 : Den Bool} {te : Den W} {vs vs1 : List Nat} {δ : Slots} {S S1 : Sto} {ds : List D} (hit : it δ S = .ok ds S1)
    (hs : ∀ d ∈ ds, ∃ δ1, dg (.v d) (wipeD δ vs) (S1 ++ [.lst []]) = some (δ1, S1 ++ [.lst []]) ∧ it1 δ1 (S1 ++ [.lst []]) = .ok [] (S1 ++ [.lst []])) : cComp2 it dg cYes it1 dg1 tt1 te vs vs1 δ S = .ok (.v (.lst [])) S1 := by
  have key : ∀ ds : List D, (∀ d ∈ ds, ∃ δ1, dg (.v d) (wipeD δ vs) (S1 ++ [.lst []]) = some (δ1, S1 ++ [.lst []]) ∧ it1 δ1 (S1 ++ [.lst []]) = .ok [] (S1 ++ [.lst []])) → comp2L dg cYes it1 dg1 tt1 te vs1 S1.length ds (wipeD δ vs) (S1 ++ [.lst []]) = .ok () (S1 ++ [.lst []]) := by
    intro ds
    induction ds with
    | nil => intro _; rfl
    | cons d rest ih =>
      intro h
      obtain ⟨δ1, e1, e2⟩ := h d List.mem_cons_self
      unfold comp2L
      simp only [e1, cYes, R.noexc_ok, R.bind_ok, if_true, e2]
      exact ih fun d hd => h d (List.mem_cons_of_mem _ hd)
  unfold cComp2
  rw [hit, R.bind_ok, key ds hs, R.bind_ok]
  unfold endComp
  rw [if_pos (by simp), at_last]
  simp only [List.take_left]
end Fro

set_option maxHeartbeats 1000000
/-! Fro: evaluation of exceptions and dicts. -/
namespace Fro
open PySem PySem.Spec L2
section
variable {a b : DenS} {x y : Den W} {δ δ' δ1 δ2 : Slots} {S S1 S2 : Sto} {c : Nat} {ds : List D} {w : W} {r : RS}
theorem e_seq_xc (h : a δ S = .xc c ds δ' S1) : cSeq a b δ S = .xc c ds δ' S1 := by unfold cSeq; rw [h]
theorem e_seq_ct (h : a δ S = .ct δ' S1) : cSeq a b δ S = .ct δ' S1 := by unfold cSeq; rw [h]
theorem e_seq_bk (h : a δ S = .bk δ' S1) : cSeq a b δ S = .bk δ' S1 := by unfold cSeq; rw [h]
theorem e_expr_xc (h : x δ S = .exc c ds S1) : cExpr x δ S = .xc c ds δ S1 := by unfold cExpr; rw [h]; rfl
theorem e_ret_xc (h : x δ S = .exc c ds S1) : cRet x δ S = .xc c ds δ S1 := by unfold cRet; rw [h]; rfl
theorem e_asg_xc {g : DenG} (h : x δ S = .exc c ds S1) : cAsg x g δ S = .xc c ds δ S1 := by unfold cAsg; rw [h]; rfl
theorem e_for_xc {dg : DenG} {d : D} {es : List D} (h : dg (.v d) δ S = some (δ1, S1)) (h2 : b δ1 S1 = .xc c ds δ2 S2) : forL dg b (d :: es) δ S = .xc c ds δ2 S2 := by
  unfold forL; simp only [h, h2]
theorem e_for_bk {dg : DenG} {d : D} {es : List D} (h : dg (.v d) δ S = some (δ1, S1)) (h2 : b δ1 S1 = .bk δ2 S2) : forL dg b (d :: es) δ S = .nx δ2 S2 := by
  unfold forL; simp only [h, h2]
theorem e_call_xc {as : Den (List W)} {ws dws : List W} {n : Nat} {f : FDen} (h1 : as δ S = .ok ws S1) (h2 : (ws ++ dws).length = n) (h3 : f (ws ++ dws) S1 = .exc c ds S2) : cCall n f as dws δ S = .exc c ds S2 := by
  unfold cCall chk; rw [h1, R.bind_ok, if_pos h2, h3]; rfl
theorem e_fdef_xc {n : Nat} {body : DenS} {ws : List W} {T : Sto} (h : body (slots0 n ws) S = .xc c ds δ (S ++ T)) : fdef n body ws S = .exc c ds S := by
  unfold fdef; rw [h]; show R.exc c ds ((S ++ T).take S.length) = _; rw [List.take_left]
theorem e_fdef_xc0 {n : Nat} {body : DenS} {ws : List W} (h : body (slots0 n ws) S = .xc c ds δ S) : fdef n body ws S = .exc c ds S := by
  unfold fdef; rw [h]; show R.exc c ds (S.take S.length) = _; rw [List.take_length]
theorem e_raise {as : Den (List W)} {ws : List W} (h1 : as δ S = .ok ws S1) (h2 : toDs ws = some ds) (h3 : ds.length = (xflds c).length) : cRaise c as δ S = .xc c ds δ S1 := by
  unfold cRaise; rw [h1]; show (match toDs ws with | some ds => if ds.length = (xflds c).length then RS.xc c ds δ S1 else .bad | none => .bad) = _; rw [h2]; simp only [if_pos h3]
theorem e_try_nx {hs} (h : b δ S = .nx δ' S1) : cTry b hs δ S = .nx δ' S1 := by unfold cTry; rw [h]
theorem e_try_rt {hs} (h : b δ S = .rt w S1) : cTry b hs δ S = .rt w S1 := by unfold cTry; rw [h]
theorem e_try_xc {hs} (h : b δ S = .xc c ds δ' S1) (h2 : hand hs c ds δ' S1 = r) : cTry b hs δ S = r := by unfold cTry; rw [h]; exact h2
theorem e_din {neg : Bool} {es : List (Tx × D)} {t : Tx} (h1 : y δ S = .ok (.v (.str t)) S1) (h2 : x δ S1 = .ok (.v (.dct es)) S2) : cDIn neg y x δ S = .ok (.v (.bl (if neg then !(lkT es t).isSome else (lkT es t).isSome))) S2 := by
  unfold cDIn; rw [h1, R.bind_ok, h2, R.bind_ok]; rfl
theorem e_dix {es : List (Tx × D)} {t : Tx} {d : D} (h1 : x δ S = .ok (.v (.dct es)) S1) (h2 : y δ S1 = .ok (.v (.str t)) S2) (h3 : lkT es t = some d) : cDIx x y δ S = .ok (.v d) S2 := by
  unfold cDIx; rw [h1, R.bind_ok, h2, R.bind_ok]; show apDIx (.v (.dct es)) (.v (.str t)) S2 = _; unfold apDIx; simp only [v_rd, h3]
theorem e_upd {i : Nat} {es more : List (Tx × D)} (h1 : x δ S = .ok (.r i) S1) (h2 : ∃ es, S1[i]? = some (.dct es)) (h3 : y δ S1 = .ok (.v (.dct more)) S2) (h4 : S2[i]? = some (.dct es)) (h5 : es.length + more.length ≤ 1000) : cUpd x y δ S = .ok (.v .non) (S2.set i (.dct (mergeE es more))) := by
  obtain ⟨e0, h2⟩ := h2
  unfold cUpd; rw [h1, R.bind_ok]; simp only [h2]; rw [h3, R.bind_ok]; unfold apUpd; simp only [h4, if_pos h5]
/-- every turn of a loop goes on, up to one that raises -/
theorem forL_first {dg : DenG} {b : DenS} (P : List D → Slots → Sto → Prop) (Q : List D → Option (Nat × List D)) (hQ : Q [] = none) (step : ∀ (d : D) (rest : List D) (δ : Slots) (S : Sto), P (d :: rest) δ S →
      (∃ δ1 S1 δ2 S2, dg (.v d) δ S = some (δ1, S1) ∧ b δ1 S1 = .nx δ2 S2 ∧ P rest δ2 S2 ∧ Q (d :: rest) = Q rest) ∨ ∃ δ1 S1 δ2 S2 c ds, dg (.v d) δ S = some (δ1, S1) ∧ b δ1 S1 = .xc c ds δ2 S2 ∧ P [] δ2 S2 ∧ Q (d :: rest) = some (c, ds)) :
    ∀ (ds : List D) (δ : Slots) (S : Sto), P ds δ S → ∃ δ2 S2, P [] δ2 S2 ∧ forL dg b ds δ S = (match Q ds with
      | none => .nx δ2 S2
      | some (c, es) => .xc c es δ2 S2)
  | [], δ, S, h => ⟨δ, S, h, by rw [hQ]; rfl⟩
  | d :: rest, δ, S, h => by
    rcases step d rest δ S h with ⟨δ1, S1, δ2, S2, e1, e2, h2, eq⟩ | ⟨δ1, S1, δ2, S2, c, es, e1, e2, h2, eq⟩
    · obtain ⟨δ3, S3, h3, e3⟩ := forL_first P Q hQ step rest δ2 S2 h2
      refine ⟨δ3, S3, h3, ?_⟩
      rw [eq, e_for_nx e1 e2, e3]
    · exact ⟨δ2, S2, h2, by rw [eq, e_for_xc e1 e2]⟩
end
end Fro

set_option maxHeartbeats 1000000
/-! Fro: evaluation of dict displays, get, slices. -/
namespace Fro
open PySem PySem.Spec L2
section
variable {a b c y : Den W} {δ : Slots} {S S1 S2 S3 : Sto}
theorem e_dict {ps : Prs} {es es' : List (Tx × D)} (h : pairsD ps δ (S ++ [.dct []]) = .ok es (S ++ [.dct []])) (hl : es.length ≤ 15) (hm : mergeE [] es = es') : cDict ps δ S = .ok (.v (.dct es')) S := by
  unfold cDict
  rw [h, R.bind_ok]
  unfold endDict
  rw [at_last]
  simp only [List.length_append, List.length_cons, List.length_nil, and_true]
  rw [if_pos hl, List.take_left, hm]
theorem e_dget {es : List (Tx × D)} {t : Tx} {d : D} {z : W} (h1 : a δ S = .ok (.v (.dct es)) S1) (h2 : b δ S1 = .ok (.v (.str t)) S2) (h3 : c δ S2 = .ok z S3) (h4 : lkT es t = some d) : cDGet2 a b c δ S = .ok (.v d) S3 := by
  unfold cDGet2
  rw [h1, R.bind_ok]
  simp only [isDct, v_rd, if_true]
  rw [h2, R.bind_ok, h3, R.bind_ok]
  unfold apDGet2
  simp only [v_rd, h4]
theorem e_dget_no {es : List (Tx × D)} {t : Tx} {z : W} (h1 : a δ S = .ok (.v (.dct es)) S1) (h2 : b δ S1 = .ok (.v (.str t)) S2) (h3 : c δ S2 = .ok z S3) (h4 : lkT es t = none) : cDGet2 a b c δ S = .ok z S3 := by
  unfold cDGet2
  rw [h1, R.bind_ok]
  simp only [isDct, v_rd, if_true]
  rw [h2, R.bind_ok, h3, R.bind_ok]
  unfold apDGet2
  simp only [v_rd, h4]
theorem e_slH {d z : D} {i : Int} (h1 : a δ S = .ok (.v d) S1) (h2 : y δ S1 = .ok (.v (.int i)) S2) (h3 : slD d none (some i) = some z) : cSl a cNoPart (cPart y) δ S = .ok (.v z) S2 := by
  unfold cSl cNoPart cPart
  rw [h1, R.bind_ok, R.bind_ok, h2, R.bind_ok]
  show apSl (.v d) none (some i) S2 = _
  unfold apSl
  simp only [v_rd, h3]
theorem e_slL {d z : D} {i : Int} (h1 : a δ S = .ok (.v d) S1) (h2 : y δ S1 = .ok (.v (.int i)) S2) (h3 : slD d (some i) none = some z) : cSl a (cPart y) cNoPart δ S = .ok (.v z) S2 := by
  unfold cSl cNoPart cPart
  rw [h1, R.bind_ok, h2, R.bind_ok]
  show apSl (.v d) (some i) none S2 = _
  unfold apSl
  simp only [v_rd, h3]
end
end Fro

namespace Fro
open PySem PySem.Spec L2

/-! ### names -/
def barred : List Tx := [[97, 108, 108], [102, 117, 110], [105, 110], [108, 101, 116], [116, 114, 117, 101], [102, 97, 108, 115, 101]]
def lets : Tx := [97, 98, 99, 100, 101, 102, 103, 104, 105, 106, 107, 108, 109, 110, 111, 112, 113, 114, 115, 116, 117, 118, 119, 120, 121, 122]
def isNm (t : Tx) : Bool := !decide (t ∈ barred) && (decide ((1 : Int) ≤ t.length) && decide ((t.length : Int) ≤ 8)) && t.all fun c => decide (c ∈ lets)
theorem blL_map {α : Type} (f : α → Bool) : ∀ l : List α, blL (l.map fun x => .bl (f x)) = some (l.map f)
  | [] => rfl
  | x :: l => by
    show (blL (l.map fun x => .bl (f x))).map (f x :: ·) = _
    rw [blL_map f l]
    rfl
theorem gAll_map {α : Type} (f : α → Bool) (l : List α) : gAll [.lst (l.map fun x => .bl (f x))] = some (.bl (l.all f)) := by
  unfold gAll
  simp only [blL_map, Option.map_some]
  congr 2
  rw [List.all_map]
  rfl
theorem isNm_ok {t : Tx} (h : isNm t = true) : okT t = true := by
  unfold isNm at h
  rw [Bool.and_eq_true] at h
  unfold okT
  rw [List.all_eq_true]
  intro c hc
  have q := List.all_eq_true.mp h.2 c hc
  have q2 : c ∈ lets := of_decide_eq_true q
  have : c < 123 := by
    have all : ∀ c ∈ lets, c < 123 := by decide
    exact all c q2
  exact decide_eq_true (by omega)
theorem isNm_len {t : Tx} (h : isNm t = true) : t.length ≤ 8 := by
  unfold isNm at h
  simp only [Bool.and_eq_true, decide_eq_true_eq] at h
  omega
theorem is_name_ev (t : Tx) (hl : t.length ≤ 1000000) (S : Sto) : f_is_name [.v (.str t)] S = .ok (.v (.bl (isNm t))) S := by
  unfold f_is_name
  refine e_fdef_v ?_
  unfold b_is_name
  have hin : (cOr (cNot (cB (cBlt gIsi (cCons (cVar 0) (cCons (cC (.ty .str)) cNil))))) (cB (op2 gIn (cVar 0) (cC k_BARRED)))) (slots0 2 [.v (.str t)]) S = .ok (decide (t ∈ barred)) S :=
    e_or_f (e_not (e_b (S1 := S) (c := true) rfl)) (e_b (e_op2v rfl rfl (gIn_tup t barred)))
  by_cases hb : t ∈ barred
  · rw [decide_eq_true hb] at hin
    have e : isNm t = false := by unfold isNm; simp [hb]
    rw [e]
    exact e_seq_rt (e_ifs_t hin (e_ret rfl))
  · rw [decide_eq_false hb] at hin
    refine e_seq_nx (e_ifs_f hin rfl) (e_ret ?_)
    have hlen : cLen (cCons (cVar 0) cNil) (slots0 2 [.v (.str t)]) S = .ok (.v (.int t.length)) S := by
      show apN gLen [.v (.str t)] S = _
      unfold apN
      simp only [rdAll, rd, gLen, if_pos hl]
    have hch : cChain gLe gLe (cC (.int 1)) (cLen (cCons (cVar 0) cNil)) (cC k_MOST_SIGNS) (slots0 2 [.v (.str t)]) S = .ok (.v (.bl (decide ((1 : Int) ≤ t.length) && decide ((t.length : Int) ≤ 8)))) S := by
      unfold cChain
      rw [show cC (.int 1) (slots0 2 [.v (.str t)]) S = .ok (.v (.int 1)) S from rfl, R.bind_ok, hlen, R.bind_ok]
      by_cases h1 : (1 : Int) ≤ t.length
      · rw [show ap2 gLe (.v (.int 1)) (.v (.int t.length)) S = .ok (.v (.bl (decide ((1 : Int) ≤ t.length)))) S from rfl, decide_eq_true h1]
        rfl
      · rw [show ap2 gLe (.v (.int 1)) (.v (.int t.length)) S = .ok (.v (.bl (decide ((1 : Int) ≤ t.length)))) S from rfl, decide_eq_false h1]
        rfl
    have hall : cBlt gAll (cCons (cComp (itS (cVar 0)) (gN 1) cYes (op2 gIn (cVar 1) (cC k_LETTERS)) [1]) cNil) (slots0 2 [.v (.str t)]) S = .ok (.v (.bl (t.all fun c => decide (c ∈ lets)))) S := by
      refine e_blt (ws := [.v (.lst (t.map fun c => .bl (decide (c ∈ lets))))]) (e_cons ?_ rfl) rfl (gAll_map _ t)
      have q := comp_map (it := itS (cVar 0)) (dg := gN 1) (te := op2 gIn (cVar 1) (cC k_LETTERS)) (vs := [1]) (δ := slots0 2 [.v (.str t)]) (S := S) (S1 := S) (ds := t.map fun c => .str [c]) (fun d => match d with
        | .str [c] => .bl (decide (c ∈ lets))
        | _ => .non) rfl (by rw [List.length_map]; exact hl) (fun d hd acc => by
          obtain ⟨c, hc, rfl⟩ := List.mem_map.mp hd
          exact ⟨_, rfl, e_op2v rfl rfl rfl⟩)
      rw [List.map_map] at q
      exact q
    have e : isNm t = ((decide ((1 : Int) ≤ t.length) && decide ((t.length : Int) ≤ 8)) && t.all fun c => decide (c ∈ lets)) := by
      unfold isNm
      rw [decide_eq_false hb]
      rfl
    rw [e]
    cases hq : (decide ((1 : Int) ≤ t.length) && decide ((t.length : Int) ≤ 8)) with
    | false =>
      rw [hq] at hch
      exact e_andV_f hch
    | true =>
      rw [hq] at hch
      rw [Bool.true_and]
      exact e_andV_t hch hall
end Fro

/-! bare terms, by name and by number; putting in (no program in sight) -/
namespace Fro
inductive B where
  | nm (t : Tx) | int (i : Int) | bl (b : Bool) | unit | fn (x : Tx) (a : B) | app (a b : B) | lt (x : Tx) (a b : B) | pr (a b : B)
inductive Qb where
  | fr (t : Tx) | bd (n : Nat) | int (i : Int) | bl (b : Bool) | unit | fn (a : Qb) | app (a b : Qb) | lt (a b : Qb) | pr (a b : Qb)
/-- G: the names around, innermost first -/
def inB (G : List Tx) : B → Qb
  | .nm t => if t ∈ G then .bd (G.idxOf t) else .fr t
  | .int i => .int i
  | .bl b => .bl b
  | .unit => .unit
  | .fn x a => .fn (inB (x :: G) a)
  | .app a b => .app (inB G a) (inB G b)
  | .lt x a b => .lt (inB G a) (inB (x :: G) b)
  | .pr a b => .pr (inB G a) (inB G b)
def liftB (k : Nat) : Nat → Qb → Qb
  | l, .bd n => if l ≤ n then .bd (n + k) else .bd n
  | _, .fr t => .fr t
  | _, .int i => .int i
  | _, .bl b => .bl b
  | _, .unit => .unit
  | l, .fn a => .fn (liftB k (l + 1) a)
  | l, .app a b => .app (liftB k l a) (liftB k l b)
  | l, .lt a b => .lt (liftB k l a) (liftB k (l + 1) b)
  | l, .pr a b => .pr (liftB k l a) (liftB k l b)
def putB (o : Qb) : Nat → Qb → Qb
  | d, .bd n => if n = d then liftB d 0 o else if d < n then .bd (n - 1) else .bd n
  | _, .fr t => .fr t
  | _, .int i => .int i
  | _, .bl b => .bl b
  | _, .unit => .unit
  | d, .fn a => .fn (putB o (d + 1) a)
  | d, .app a b => .app (putB o d a) (putB o d b)
  | d, .lt a b => .lt (putB o d a) (putB o (d + 1) b)
  | d, .pr a b => .pr (putB o d a) (putB o d b)
/-- t is free in the term -/
def Fv (t : Tx) : B → Prop
  | .nm u => t = u
  | .int _ => False
  | .bl _ => False
  | .unit => False
  | .fn x a => t ≠ x ∧ Fv t a
  | .app a b => Fv t a ∨ Fv t b
  | .lt x a b => Fv t a ∨ (t ≠ x ∧ Fv t b)
  | .pr a b => Fv t a ∨ Fv t b
theorem mem_mid {α : Type} {t x : α} {D G : List α} (h : t ≠ x) : t ∈ D ++ x :: G ↔ t ∈ D ++ G := by simp [h]
theorem idx_l {t : Tx} {D G : List Tx} (h : t ∈ D) : (D ++ G).idxOf t = D.idxOf t := by rw [List.idxOf_append, if_pos h]
theorem idx_r {t : Tx} {D G : List Tx} (h : t ∉ D) : (D ++ G).idxOf t = G.idxOf t + D.length := by rw [List.idxOf_append, if_neg h]
theorem idx_c {t x : Tx} {G : List Tx} (h : t ≠ x) : (x :: G).idxOf t = G.idxOf t + 1 := by rw [List.idxOf_cons, beq_false_of_ne (Ne.symm h)]; rfl
theorem idx_lt {t : Tx} {D : List Tx} (h : t ∈ D) : D.idxOf t < D.length := List.idxOf_lt_length_of_mem h
/-- more names around -/
theorem lift_in : ∀ (e : B) (E D G : List Tx), (∀ t, Fv t e → t ∉ E → t ∉ D) → inB (E ++ (D ++ G)) e = liftB D.length E.length (inB (E ++ G) e)
  | .int _, _, _, _, _ => rfl
  | .bl _, _, _, _, _ => rfl
  | .unit, _, _, _, _ => rfl
  | .fn x a, E, D, G, h => by
    show Qb.fn _ = Qb.fn _
    congr 1
    exact lift_in a (x :: E) D G fun t ht hn => h t ⟨fun z => hn (z ▸ List.mem_cons_self), ht⟩ fun z => hn (List.mem_cons_of_mem _ z)
  | .app a b, E, D, G, h => by
    show Qb.app _ _ = Qb.app _ _
    rw [lift_in a E D G fun t ht => h t (.inl ht), lift_in b E D G fun t ht => h t (.inr ht)]
  | .pr a b, E, D, G, h => by
    show Qb.pr _ _ = Qb.pr _ _
    rw [lift_in a E D G fun t ht => h t (.inl ht), lift_in b E D G fun t ht => h t (.inr ht)]
  | .lt x a b, E, D, G, h => by
    show Qb.lt _ _ = Qb.lt _ _
    rw [lift_in a E D G fun t ht => h t (.inl ht)]
    congr 1
    exact lift_in b (x :: E) D G fun t ht hn => h t (.inr ⟨fun z => hn (z ▸ List.mem_cons_self), ht⟩) fun z => hn (List.mem_cons_of_mem _ z)
  | .nm t, E, D, G, h => by
    unfold inB
    by_cases hE : t ∈ E
    · rw [if_pos (List.mem_append_left _ hE), if_pos (List.mem_append_left _ hE), idx_l hE, idx_l hE]
      unfold liftB
      rw [if_neg (by have := idx_lt hE; omega)]
    · have hD := h t rfl hE
      by_cases hG : t ∈ G
      · rw [if_pos (by simp [hG]), if_pos (by simp [hG]), idx_r hE, idx_r hD, idx_r hE]
        unfold liftB
        rw [if_pos (by omega)]
        congr 1
        omega
      · rw [if_neg (by simp [hE, hD, hG]), if_neg (by simp [hE, hG])]
        rfl
/-- a name that is not free goes -/
theorem put_none : ∀ (e : B) (o : Qb) (x : Tx) (D G : List Tx), (Fv x e → x ∈ D) → putB o D.length (inB (D ++ x :: G) e) = inB (D ++ G) e
  | .int _, _, _, _, _, _ => rfl
  | .bl _, _, _, _, _, _ => rfl
  | .unit, _, _, _, _, _ => rfl
  | .fn y a, o, x, D, G, h => by
    show Qb.fn _ = Qb.fn _
    congr 1
    exact put_none a o x (y :: D) G fun ht => by
      by_cases z : x = y
      · rw [z]; exact List.mem_cons_self
      · exact List.mem_cons_of_mem _ (h ⟨z, ht⟩)
  | .app a b, o, x, D, G, h => by
    show Qb.app _ _ = Qb.app _ _
    rw [put_none a o x D G fun ht => h (.inl ht), put_none b o x D G fun ht => h (.inr ht)]
  | .pr a b, o, x, D, G, h => by
    show Qb.pr _ _ = Qb.pr _ _
    rw [put_none a o x D G fun ht => h (.inl ht), put_none b o x D G fun ht => h (.inr ht)]
  | .lt y a b, o, x, D, G, h => by
    show Qb.lt _ _ = Qb.lt _ _
    rw [put_none a o x D G fun ht => h (.inl ht)]
    congr 1
    exact put_none b o x (y :: D) G fun ht => by
      by_cases z : x = y
      · rw [z]; exact List.mem_cons_self
      · exact List.mem_cons_of_mem _ (h (.inr ⟨z, ht⟩))
  | .nm t, o, x, D, G, h => by
    unfold inB
    by_cases hD : t ∈ D
    · rw [if_pos (List.mem_append_left _ hD), if_pos (List.mem_append_left _ hD), idx_l hD, idx_l hD]
      unfold putB
      have := idx_lt hD
      rw [if_neg (by omega), if_neg (by omega)]
    · have ne : t ≠ x := fun z => hD (z ▸ h z.symm)
      by_cases hG : t ∈ G
      · rw [if_pos (by simp [hG]), if_pos (by simp [hG]), idx_r hD, idx_r hD, idx_c ne]
        unfold putB
        rw [if_neg (by omega), if_pos (by omega)]
        congr 1
        omega
      · rw [if_neg (by simp [hD, hG, ne]), if_neg (by simp [hD, hG])]
        rfl
/-- another name in the place of a bound one -/
theorem put_name : ∀ (e : B) (y z : Tx) (E R : List Tx), (Fv z e → z ∈ E ∨ z = y) → putB (.bd 0) E.length (inB (E ++ y :: z :: R) e) = inB (E ++ y :: R) e
  | .int _, _, _, _, _, _ => rfl
  | .bl _, _, _, _, _, _ => rfl
  | .unit, _, _, _, _, _ => rfl
  | .fn w a, y, z, E, R, h => by
    show Qb.fn _ = Qb.fn _
    congr 1
    exact put_name a y z (w :: E) R fun ht => by
      by_cases q : z = w
      · rw [q]; exact .inl List.mem_cons_self
      · exact (h ⟨q, ht⟩).imp (List.mem_cons_of_mem _) id
  | .app a b, y, z, E, R, h => by
    show Qb.app _ _ = Qb.app _ _
    rw [put_name a y z E R fun ht => h (.inl ht), put_name b y z E R fun ht => h (.inr ht)]
  | .pr a b, y, z, E, R, h => by
    show Qb.pr _ _ = Qb.pr _ _
    rw [put_name a y z E R fun ht => h (.inl ht), put_name b y z E R fun ht => h (.inr ht)]
  | .lt w a b, y, z, E, R, h => by
    show Qb.lt _ _ = Qb.lt _ _
    rw [put_name a y z E R fun ht => h (.inl ht)]
    congr 1
    exact put_name b y z (w :: E) R fun ht => by
      by_cases q : z = w
      · rw [q]; exact .inl List.mem_cons_self
      · exact (h (.inr ⟨q, ht⟩)).imp (List.mem_cons_of_mem _) id
  | .nm t, y, z, E, R, h => by
    unfold inB
    by_cases hE : t ∈ E
    · rw [if_pos (List.mem_append_left _ hE), if_pos (List.mem_append_left _ hE), idx_l hE, idx_l hE]
      unfold putB
      have := idx_lt hE
      rw [if_neg (by omega), if_neg (by omega)]
    · by_cases hy : t = y
      · subst hy
        rw [if_pos (by simp), if_pos (by simp), idx_r hE, idx_r hE]
        simp [putB, liftB]
      · have hz : t ≠ z := fun q => (h q.symm).elim (fun g => hE (q ▸ g)) (fun g => hy (q.trans g))
        by_cases hR : t ∈ R
        · rw [if_pos (by simp [hR]), if_pos (by simp [hR]), idx_r hE, idx_r hE, idx_c hy, idx_c hy, idx_c hz]
          unfold putB
          rw [if_neg (by omega), if_pos (by omega)]
          congr 1
          omega
        · rw [if_neg (by simp [hE, hy, hz, hR]), if_neg (by simp [hE, hy, hR])]
          rfl
end Fro

/-! putting in by name is putting in by number -/
namespace Fro
def extB (f i : List Tx) : List Tx := f ++ i.filter fun t => decide (t ∉ f)
def freeB : B → List Tx
  | .nm t => [t]
  | .int _ => []
  | .bl _ => []
  | .unit => []
  | .fn x a => extB [] ((freeB a).filter fun t => decide (t ≠ x))
  | .app a b => extB (extB [] (freeB a)) (freeB b)
  | .lt x a b => extB (extB [] (freeB a)) ((freeB b).filter fun t => decide (t ≠ x))
  | .pr a b => extB (extB [] (freeB a)) (freeB b)
theorem mem_extB {t : Tx} {f i : List Tx} : t ∈ extB f i ↔ t ∈ f ∨ t ∈ i := by
  unfold extB
  by_cases h : t ∈ f <;> simp [h]
theorem mem_freeB {t : Tx} : ∀ e : B, t ∈ freeB e ↔ Fv t e
  | .nm u => by simp [freeB, Fv]
  | .int _ => by simp [freeB, Fv]
  | .bl _ => by simp [freeB, Fv]
  | .unit => by simp [freeB, Fv]
  | .fn x a => by simp [freeB, Fv, mem_extB, mem_freeB a, and_comm]
  | .app a b => by simp [freeB, Fv, mem_extB, mem_freeB a, mem_freeB b]
  | .lt x a b => by simp [freeB, Fv, mem_extB, mem_freeB a, mem_freeB b, and_comm]
  | .pr a b => by simp [freeB, Fv, mem_extB, mem_freeB a, mem_freeB b]
def firstQ : Nat → Tx → List Tx → Tx
  | 0, t, _ => t
  | n + 1, t, l => if t ∈ l then firstQ n (t ++ [113]) l else t
def newQ (l : List Tx) : Tx := firstQ (l.length + 1) [113] l
def szB : B → Nat
  | .nm _ => 1
  | .int _ => 1
  | .bl _ => 1
  | .unit => 1
  | .fn _ a => szB a + 1
  | .app a b => szB a + szB b + 1
  | .lt _ a b => szB a + szB b + 1
  | .pr a b => szB a + szB b + 1
/-- exchanged(e, x, o, frees); n: how deep it may go -/
def exB : Nat → B → Tx → B → List Tx → B
  | 0, e, _, _, _ => e
  | n + 1, .nm t, x, o, _ => if t = x then o else .nm t
  | n + 1, .int i, _, _, _ => .int i
  | n + 1, .bl b, _, _, _ => .bl b
  | n + 1, .unit, _, _, _ => .unit
  | n + 1, .app a b, x, o, fs => .app (exB n a x o fs) (exB n b x o fs)
  | n + 1, .pr a b, x, o, fs => .pr (exB n a x o fs) (exB n b x o fs)
  | n + 1, .fn y b, x, o, fs => if y ≠ x ∧ x ∈ freeB b then
      if y ∈ fs then
        let z := newQ (freeB b ++ (fs ++ [x]))
        .fn z (exB n (exB n b y (.nm z) [z]) x o fs)
      else .fn y (exB n b x o fs)
    else .fn y b
  | n + 1, .lt y a b, x, o, fs => if y ≠ x ∧ x ∈ freeB b then
      if y ∈ fs then
        let z := newQ (freeB b ++ (fs ++ [x]))
        .lt z (exB n a x o fs) (exB n (exB n b y (.nm z) [z]) x o fs)
      else .lt y (exB n a x o fs) (exB n b x o fs)
    else .lt y (exB n a x o fs) b
theorem sz_name : ∀ (n : Nat) (e : B) (x z : Tx) (fs : List Tx), szB (exB n e x (.nm z) fs) = szB e
  | 0, _, _, _, _ => rfl
  | n + 1, .nm t, x, z, fs => by unfold exB; split <;> rfl
  | n + 1, .int i, _, _, _ => rfl
  | n + 1, .bl b, _, _, _ => rfl
  | n + 1, .unit, _, _, _ => rfl
  | n + 1, .app a b, x, z, fs => by simp only [exB, szB, sz_name n]
  | n + 1, .pr a b, x, z, fs => by simp only [exB, szB, sz_name n]
  | n + 1, .fn y b, x, z, fs => by 
    unfold exB
    split
    · split <;> simp only [szB, sz_name n]
    · simp only [szB, sz_name n]
  | n + 1, .lt y a b, x, z, fs => by 
    unfold exB
    split
    · split <;> simp only [szB, sz_name n]
    · simp only [szB, sz_name n]
/-- the body under a binder y, as exB goes into it -/
theorem ex_in (hq : ∀ l, newQ l ∉ l) : ∀ (n : Nat) (e : B) (x : Tx) (o : B) (fs D G : List Tx), szB e ≤ n → (∀ t, Fv t o → t ∈ fs) → x ∉ D → (∀ t ∈ D, ¬ Fv t o) →
    inB (D ++ G) (exB n e x o fs) = putB (inB G o) D.length (inB (D ++ x :: G) e)
  | 0, e, _, _, _, _, _, h, _, _, _ => by cases e <;> simp [szB] at h
  | n + 1, .int i, _, _, _, _, _, _, _, _, _ => rfl
  | n + 1, .bl i, _, _, _, _, _, _, _, _, _ => rfl
  | n + 1, .unit, _, _, _, _, _, _, _, _, _ => rfl
  | n + 1, .app a b, x, o, fs, D, G, h, hf, hx, hD => by
    show Qb.app _ _ = Qb.app _ _
    simp only [szB] at h
    rw [ex_in hq n a x o fs D G (by omega) hf hx hD, ex_in hq n b x o fs D G (by omega) hf hx hD]
  | n + 1, .pr a b, x, o, fs, D, G, h, hf, hx, hD => by
    show Qb.pr _ _ = Qb.pr _ _
    simp only [szB] at h
    rw [ex_in hq n a x o fs D G (by omega) hf hx hD, ex_in hq n b x o fs D G (by omega) hf hx hD]
  | n + 1, .nm t, x, o, fs, D, G, h, hf, hx, hD => by
    unfold exB
    by_cases ht : t = x
    · subst ht
      rw [if_pos rfl]
      show _ = putB _ _ (if _ then _ else _)
      rw [if_pos (by simp), idx_r hx]
      have := lift_in o [] D G fun u hu _ g => hD u g hu
      simpa [putB] using this
    · rw [if_neg ht]
      exact (put_none (.nm t) (inB G o) x D G fun q => absurd q.symm ht).symm
  | n + 1, .fn y b, x, o, fs, D, G, h, hf, hx, hD => by
    simp only [szB] at h
    have go := fun b' (hb : szB b' ≤ n) (w : Tx) (hw : x ≠ w) (hw2 : ¬ Fv w o) => ex_in hq n b' x o fs (w :: D) G hb hf (by simp [hw, hx]) (by simpa [hw2] using hD)
    have rn := fun z (hz : ¬ Fv z b) (R : List Tx) => (ex_in hq n b y (.nm z) [z] [] (z :: R) (by omega) (fun t ht => by simp [Fv] at ht; simp [ht]) (by simp) (by simp)).trans (by
      have := put_name b y z [] R fun g => absurd g hz
      simpa [inB] using this)
    unfold exB
    split
    · rename_i c
      split
      · rename_i cy
        have hz := hq (freeB b ++ (fs ++ [x]))
        simp only [List.mem_append, List.mem_singleton, not_or] at hz
        obtain ⟨z1, z2, z3⟩ := hz
        show Qb.fn _ = Qb.fn _
        congr 1
        refine (go _ (by rw [sz_name]; omega) _ (Ne.symm z3) fun g => z2 (hf _ g)).trans ?_
        have := rn _ (fun g => z1 ((mem_freeB b).mpr g)) (D ++ x :: G)
        simp only [List.nil_append] at this
        rw [List.cons_append, this]
        rfl
      · rename_i cy
        show Qb.fn _ = Qb.fn _
        congr 1
        exact go b (by omega) y (Ne.symm c.1) fun g => cy (hf _ g)
    · rename_i c
      refine (put_none (.fn y b) (inB G o) x D G fun g => ?_).symm
      exact absurd ⟨Ne.symm g.1, (mem_freeB b).mpr g.2⟩ c
  | n + 1, .lt y a b, x, o, fs, D, G, h, hf, hx, hD => by
    simp only [szB] at h
    have ga := ex_in hq n a x o fs D G (by omega) hf hx hD
    have go := fun b' (hb : szB b' ≤ n) (w : Tx) (hw : x ≠ w) (hw2 : ¬ Fv w o) => ex_in hq n b' x o fs (w :: D) G hb hf (by simp [hw, hx]) (by simpa [hw2] using hD)
    have rn := fun z (hz : ¬ Fv z b) (R : List Tx) => (ex_in hq n b y (.nm z) [z] [] (z :: R) (by omega) (fun t ht => by simp [Fv] at ht; simp [ht]) (by simp) (by simp)).trans (by
      have := put_name b y z [] R fun g => absurd g hz
      simpa [inB] using this)
    unfold exB
    split
    · rename_i c
      split
      · rename_i cy
        have hz := hq (freeB b ++ (fs ++ [x]))
        simp only [List.mem_append, List.mem_singleton, not_or] at hz
        obtain ⟨z1, z2, z3⟩ := hz
        show Qb.lt _ _ = Qb.lt _ _
        rw [ga]
        congr 1
        refine (go _ (by rw [sz_name]; omega) _ (Ne.symm z3) fun g => z2 (hf _ g)).trans ?_
        have := rn _ (fun g => z1 ((mem_freeB b).mpr g)) (D ++ x :: G)
        simp only [List.nil_append] at this
        rw [List.cons_append, this]
        rfl
      · rename_i cy
        show Qb.lt _ _ = Qb.lt _ _
        rw [ga]
        congr 1
        exact go b (by omega) y (Ne.symm c.1) fun g => cy (hf _ g)
    · rename_i c
      show Qb.lt _ _ = Qb.lt _ _
      rw [ga]
      congr 1
      refine (put_none b (inB G o) x (y :: D) G fun g => ?_).symm
      by_cases q : x = y
      · rw [q]; exact List.mem_cons_self
      · exact absurd ⟨Ne.symm q, (mem_freeB b).mpr g⟩ c
end Fro

/-! all lets put in -/
namespace Fro
/-- filled(body, x, o) -/
def fillB (n : Nat) (b : B) (x : Tx) (o : B) : B := exB n b x o (freeB o)
def withoutB : B → B
  | .nm t => .nm t
  | .int i => .int i
  | .bl b => .bl b
  | .unit => .unit
  | .fn x a => .fn x (withoutB a)
  | .app a b => .app (withoutB a) (withoutB b)
  | .lt x a b => fillB (szB (withoutB b)) (withoutB b) x (withoutB a)
  | .pr a b => .pr (withoutB a) (withoutB b)
def withoutQ : Qb → Qb
  | .fr t => .fr t
  | .bd n => .bd n
  | .int i => .int i
  | .bl b => .bl b
  | .unit => .unit
  | .fn a => .fn (withoutQ a)
  | .app a b => .app (withoutQ a) (withoutQ b)
  | .lt a b => putB (withoutQ a) 0 (withoutQ b)
  | .pr a b => .pr (withoutQ a) (withoutQ b)
theorem without_in (hq : ∀ l, newQ l ∉ l) : ∀ (e : B) (G : List Tx), inB G (withoutB e) = withoutQ (inB G e)
  | .nm t, G => by
    unfold withoutB inB
    split <;> rfl
  | .int i, G => rfl
  | .bl b, G => rfl
  | .unit, G => rfl
  | .fn x a, G => by simp only [withoutB, inB, withoutQ, without_in hq a]
  | .app a b, G => by simp only [withoutB, inB, withoutQ, without_in hq a, without_in hq b]
  | .pr a b, G => by simp only [withoutB, inB, withoutQ, without_in hq a, without_in hq b]
  | .lt x a b, G => by
    simp only [withoutB, inB, withoutQ, fillB]
    have := ex_in hq (szB (withoutB b)) (withoutB b) x (withoutB a) (freeB (withoutB a)) [] G (Nat.le_refl _) (fun t h => (mem_freeB _).mpr h) (by simp) (by simp)
    simp only [List.nil_append, List.length_nil] at this
    rw [this, without_in hq a, without_in hq b]
theorem firstQ_run : ∀ (n : Nat) (t : Tx) (l : List Tx), firstQ n t l ∈ l → ∀ i, i ≤ n → t ++ List.replicate i 113 ∈ l
  | 0, t, l, h, i, hi => by
    obtain rfl : i = 0 := by omega
    simpa [firstQ] using h
  | n + 1, t, l, h, i, hi => by
    unfold firstQ at h
    split at h
    · rename_i c
      cases i with
      | zero => simpa using c
      | succ i =>
        have := firstQ_run n (t ++ [113]) l h i (by omega)
        rw [List.append_assoc] at this
        simpa [List.replicate_succ] using this
    · rename_i c; exact absurd h c
theorem newQ_not (l : List Tx) : newQ l ∉ l := fun h => by
  have hs : ((List.range (l.length + 1)).map fun i => ([113] ++ List.replicate i 113 : Tx)) ⊆ l := fun t ht => by
    obtain ⟨i, hi, rfl⟩ := List.mem_map.mp ht
    exact firstQ_run _ _ _ h i (by have := List.mem_range.mp hi; omega)
  have hn : ((List.range (l.length + 1)).map fun i => ([113] ++ List.replicate i 113 : Tx)).Nodup := by
    rw [List.nodup_iff_pairwise_ne]
    refine List.Pairwise.map _ (fun a b hab z => hab ?_) (List.nodup_iff_pairwise_ne.mp List.nodup_range)
    have := congrArg List.length z
    simpa using this
  have := hn.length_le_of_subset hs
  simp only [List.length_map, List.length_range] at this
  omega
end Fro

/-! letters given anew -/
namespace Fro
/-- relettered: ch, what stands for a name; ft, the letters for what is taken -/
def relB (ft : List Tx → Tx) (ch : Tx → Tx) (tk : List Tx) : B → B
  | .nm t => .nm (ch t)
  | .int i => .int i
  | .bl b => .bl b
  | .unit => .unit
  | .fn x a => .fn (ft tk) (relB ft (fun t => if t = x then ft tk else ch t) (tk ++ [ft tk]) a)
  | .app a b => .app (relB ft ch tk a) (relB ft ch tk b)
  | .lt x a b => .lt (ft tk) (relB ft ch tk a) (relB ft (fun t => if t = x then ft tk else ch t) (tk ++ [ft tk]) b)
  | .pr a b => .pr (relB ft ch tk a) (relB ft ch tk b)
/-- named again from numbers; A: the letters around, innermost first -/
def outB (ft : List Tx → Tx) (tk : List Tx) (A : List Tx) : Qb → B
  | .fr t => .nm t
  | .bd n => .nm (A.getD n [])
  | .int i => .int i
  | .bl b => .bl b
  | .unit => .unit
  | .fn a => .fn (ft (tk ++ A.reverse)) (outB ft tk (ft (tk ++ A.reverse) :: A) a)
  | .app a b => .app (outB ft tk A a) (outB ft tk A b)
  | .lt a b => .lt (ft (tk ++ A.reverse)) (outB ft tk A a) (outB ft tk (ft (tk ++ A.reverse) :: A) b)
  | .pr a b => .pr (outB ft tk A a) (outB ft tk A b)
theorem rel_out (ft : List Tx → Tx) (tk : List Tx) : ∀ (e : B) (ch : Tx → Tx) (G A : List Tx), (∀ t ∈ G, A.getD (G.idxOf t) [] = ch t) → (∀ t, t ∉ G → ch t = t) → relB ft ch (tk ++ A.reverse) e = outB ft tk A (inB G e)
  | .int _, _, _, _, _, _ => rfl
  | .bl _, _, _, _, _, _ => rfl
  | .unit, _, _, _, _, _ => rfl
  | .nm t, ch, G, A, h1, h2 => by
    unfold inB relB
    split
    · rename_i h
      show B.nm _ = B.nm _
      rw [h1 t h]
    · rename_i h
      show B.nm _ = B.nm _
      rw [h2 t h]
  | .app a b, ch, G, A, h1, h2 => by simp only [relB, inB, outB, rel_out ft tk a ch G A h1 h2, rel_out ft tk b ch G A h1 h2]
  | .pr a b, ch, G, A, h1, h2 => by simp only [relB, inB, outB, rel_out ft tk a ch G A h1 h2, rel_out ft tk b ch G A h1 h2]
  | .fn x a, ch, G, A, h1, h2 => by
    have k1 : ∀ t ∈ x :: G, (ft (tk ++ A.reverse) :: A).getD ((x :: G).idxOf t) [] = if t = x then ft (tk ++ A.reverse) else ch t := fun t ht => by
      by_cases q : t = x
      · subst q; simp
      · rw [if_neg q, idx_c q]
        simpa using h1 t ((List.mem_cons.mp ht).resolve_left q)
    have k2 : ∀ t, t ∉ x :: G → (if t = x then ft (tk ++ A.reverse) else ch t) = t := fun t ht => by
      have nx : ¬ t = x := fun q => ht (by rw [q]; exact List.mem_cons_self)
      rw [if_neg nx]
      exact h2 t fun q => ht (List.mem_cons_of_mem _ q)
    have ih := rel_out ft tk a _ (x :: G) (ft (tk ++ A.reverse) :: A) k1 k2
    rw [List.reverse_cons, ← List.append_assoc] at ih
    simp only [relB, inB, outB, ih]
  | .lt x a b, ch, G, A, h1, h2 => by
    have k1 : ∀ t ∈ x :: G, (ft (tk ++ A.reverse) :: A).getD ((x :: G).idxOf t) [] = if t = x then ft (tk ++ A.reverse) else ch t := fun t ht => by
      by_cases q : t = x
      · subst q; simp
      · rw [if_neg q, idx_c q]
        simpa using h1 t ((List.mem_cons.mp ht).resolve_left q)
    have k2 : ∀ t, t ∉ x :: G → (if t = x then ft (tk ++ A.reverse) else ch t) = t := fun t ht => by
      have nx : ¬ t = x := fun q => ht (by rw [q]; exact List.mem_cons_self)
      rw [if_neg nx]
      exact h2 t fun q => ht (List.mem_cons_of_mem _ q)
    have ih := rel_out ft tk b _ (x :: G) (ft (tk ++ A.reverse) :: A) k1 k2
    rw [List.reverse_cons, ← List.append_assoc] at ih
    simp only [relB, inB, outB, ih, rel_out ft tk a ch G A h1 h2]
end Fro

/-! heights of forms -/
namespace Fro
def htQ : Qb → Nat
  | .fn a => htQ a + 1
  | .app a b => max (htQ a) (htQ b) + 1
  | .lt a b => max (htQ a) (htQ b) + 1
  | .pr a b => max (htQ a) (htQ b) + 1
  | _ => 1
def cntQ : Qb → Nat
  | .fn a => cntQ a + 1
  | .app a b => cntQ a + cntQ b + 1
  | .lt a b => cntQ a + cntQ b + 1
  | .pr a b => cntQ a + cntQ b + 1
  | _ => 1
theorem htQ_pos (k : Qb) : 1 ≤ htQ k := by cases k <;> simp [htQ]
theorem ht_lift (k : Nat) : ∀ (q : Qb) (l : Nat), htQ (liftB k l q) = htQ q
  | .bd n, l => by unfold liftB; split <;> rfl
  | .fr _, _ => rfl
  | .int _, _ => rfl
  | .bl _, _ => rfl
  | .unit, _ => rfl
  | .fn a, l => by simp only [liftB, htQ, ht_lift k a]
  | .app a b, l => by simp only [liftB, htQ, ht_lift k a, ht_lift k b]
  | .lt a b, l => by simp only [liftB, htQ, ht_lift k a, ht_lift k b]
  | .pr a b, l => by simp only [liftB, htQ, ht_lift k a, ht_lift k b]
theorem ht_put (o : Qb) : ∀ (q : Qb) (d : Nat), htQ (putB o d q) ≤ htQ q + htQ o
  | .bd n, d => by
    unfold putB
    split
    · rw [ht_lift]; omega
    · split <;> simp [htQ]
  | .fr _, _ => by simp [putB, htQ]
  | .int _, _ => by simp [putB, htQ]
  | .bl _, _ => by simp [putB, htQ]
  | .unit, _ => by simp [putB, htQ]
  | .fn a, d => by have := ht_put o a (d + 1); simp only [putB, htQ]; omega
  | .app a b, d => by have := ht_put o a d; have := ht_put o b d; simp only [putB, htQ]; omega
  | .lt a b, d => by have := ht_put o a d; have := ht_put o b (d + 1); simp only [putB, htQ]; omega
  | .pr a b, d => by have := ht_put o a d; have := ht_put o b d; simp only [putB, htQ]; omega
theorem ht_without : ∀ q : Qb, htQ (withoutQ q) ≤ cntQ q
  | .bd n => Nat.le_refl _
  | .fr _ => Nat.le_refl _
  | .int _ => Nat.le_refl _
  | .bl _ => Nat.le_refl _
  | .unit => Nat.le_refl _
  | .fn a => by have := ht_without a; simp only [withoutQ, htQ, cntQ]; omega
  | .app a b => by have := ht_without a; have := ht_without b; simp only [withoutQ, htQ, cntQ]; omega
  | .pr a b => by have := ht_without a; have := ht_without b; simp only [withoutQ, htQ, cntQ]; omega
  | .lt a b => by
    have := ht_without a; have := ht_without b; have := ht_put (withoutQ a) (withoutQ b) 0
    simp only [withoutQ, cntQ]; omega
theorem ht_cnt : ∀ q : Qb, htQ q ≤ cntQ q
  | .bd n => Nat.le_refl _
  | .fr _ => Nat.le_refl _
  | .int _ => Nat.le_refl _
  | .bl _ => Nat.le_refl _
  | .unit => Nat.le_refl _
  | .fn a => by have := ht_cnt a; simp only [htQ, cntQ]; omega
  | .app a b => by have := ht_cnt a; have := ht_cnt b; simp only [htQ, cntQ]; omega
  | .pr a b => by have := ht_cnt a; have := ht_cnt b; simp only [htQ, cntQ]; omega
  | .lt a b => by have := ht_cnt a; have := ht_cnt b; simp only [htQ, cntQ]; omega
end Fro

set_option maxHeartbeats 1000000
/-! found.extend([name for name in x if name not in found]); [name for name in x if name != y] -/
namespace Fro
open PySem PySem.Spec L2
theorem e_var {δ : Slots} {S : Sto} {i : Nat} {w : W} (h : δ[i]? = some (some w)) : cVar i δ S = .ok w S := by unfold cVar; rw [h]
theorem wipe1 {δ : Slots} {i j : Nat} (h : i ≠ j) : (wipeD δ [j])[i]? = δ[i]? := by
  first
    | (simp [wipeD, List.getElem?_set_ne (Ne.symm h)])
    | (unfold wipeD; simp [List.getElem?_set_ne (Ne.symm h), h, Ne.symm h])
theorem wipe1_len {δ : Slots} {j : Nat} : (wipeD δ [j]).length = δ.length := by simp [wipeD]
theorem ext_turn {x : Den W} {δ : Slots} {S : Sto} {i j : Nat} {acc l : List Tx} (hx : x δ (S ++ [.lst (stL acc)]) = .ok (.v (.lst (stL l))) (S ++ [.lst (stL acc)])) (hi : δ[i]? = some (some (.r S.length))) (hj : i ≠ j) (hjl : j < δ.length) (hl : acc.length + l.length ≤ 100000) :
    cExpr (cExtend (cVar i) (cComp (itL x) (gN j) (cB (op2 gNotIn (cVar j) (cVar i))) (cVar j) [j])) δ (S ++ [.lst (stL acc)]) = .nx δ (S ++ [.lst (stL (acc ++ l.filter fun n => decide (n ∉ acc)))]) := by
  refine e_expr (w := .v .non) ?_
  have hf := List.length_filter_le (fun n => decide (n ∉ acc)) l
  rw [← set_last S (.lst (stL acc)) (.lst (stL (acc ++ l.filter fun n => decide (n ∉ acc)))), ← stL_append]
  refine e_extend (ds := stL acc) (es := stL (l.filter fun n => decide (n ∉ acc))) (w := .v (.lst (stL (l.filter fun n => decide (n ∉ acc))))) (e_var hi) ⟨_, at_last _ _⟩ ?_ (at_last _ _) rfl (by rw [stL_length, stL_length]; omega)
  have q := comp_ev (it := itL x) (dg := gN j) (tt := cB (op2 gNotIn (cVar j) (cVar i))) (te := cVar j) (vs := [j]) (δ := δ) (S := S ++ [.lst (stL acc)]) (S1 := S ++ [.lst (stL acc)]) (ds := stL l) (flt fun n => decide (n ∉ acc)) (e_itL hx) (by rw [stL_length]; omega) (fun d hd acc2 => by
      obtain ⟨t, ht, rfl⟩ := List.mem_map.mp hd
      refine ⟨_, rfl, ?_⟩
      have v1 : ((wipeD δ [j]).set j (some (W.v (.str t))))[j]? = some (some (.v (.str t))) := by rw [List.getElem?_set_self (by rw [wipe1_len]; exact hjl)]
      have v2 : ((wipeD δ [j]).set j (some (W.v (.str t))))[i]? = some (some (.r S.length)) := by rw [List.getElem?_set_ne (Ne.symm hj), wipe1 hj]; exact hi
      have ht : (cB (op2 gNotIn (cVar j) (cVar i))) ((wipeD δ [j]).set j (some (W.v (.str t)))) (S ++ [.lst (stL acc)] ++ [.lst acc2]) = .ok (!decide (t ∈ acc)) (S ++ [.lst (stL acc)] ++ [.lst acc2]) :=
        e_b (e_op2 (e_var v1) (e_var v2) rfl (rd_at (at_last2 _ _ _)) (gNotIn_lst t acc))
      by_cases hx : t ∈ acc
      · rw [show flt (fun n => decide (n ∉ acc)) (.str t) = none from if_neg (by simp [hx])]
        rw [decide_eq_true hx] at ht
        exact ht
      · rw [show flt (fun n => decide (n ∉ acc)) (.str t) = some (.str t) from if_pos (by simp [hx])]
        rw [decide_eq_false hx] at ht
        exact ⟨ht, e_var v1⟩)
  rw [filter_stL] at q
  exact q
/-- a call that tells a list of texts -/
def IsL (rv : Rv) (l : List Tx) : Prop := ∀ S, cRes rv S = .ok (.v (.lst (stL l))) S
theorem isL_new (l : List Tx) : IsL (.new (.lst (stL l))) l := fun _ => rfl
theorem isL_v (l : List Tx) : IsL (.v (.lst (stL l))) l := fun _ => rfl
end Fro

/-! letters (the same lines as in MPlain1 and MPlain5, for texts without kinds) -/
namespace Fro
open PySem PySem.Spec L2
def letr (n : Nat) : Tx := if n < 26 then [97 + n] else [97 + (n / 26 - 1), 97 + n % 26]
def letrs : List Tx := (List.range 130).map letr
def firstL (t : List Tx) : Tx := ((letrs.filter fun x => !decide (x ∈ t)).head?).getD []
theorem letrs_ok : ∀ x ∈ letrs, isNm x = true := by decide +kernel
theorem letrs_nd : letrs.Nodup := by decide +kernel
theorem firstL_congr {t u : List Tx} (h : ∀ x, x ∈ t ↔ x ∈ u) : firstL t = firstL u := by
  unfold firstL
  have : (fun x : Tx => !decide (x ∈ t)) = fun x => !decide (x ∈ u) := by
    funext x
    rw [decide_eq_decide.mpr (h x)]
  rw [this]
theorem free_letr {t : List Tx} (h : t.length < 130) : ∃ x ∈ letrs, x ∉ t := by
  apply Classical.byContradiction
  intro hn
  have hs : ∀ x ∈ letrs, x ∈ t := fun x hx => Classical.byContradiction fun hy => hn ⟨x, hx, hy⟩
  have : letrs.length ≤ t.length := letrs_nd.length_le_of_subset hs
  have e : letrs.length = 130 := by decide +kernel
  omega
theorem firstL_ok {t : List Tx} (h : t.length < 130) : firstL t ∈ letrs ∧ firstL t ∉ t := by
  obtain ⟨x, hx, hy⟩ := free_letr h
  have hm : x ∈ letrs.filter fun x => !decide (x ∈ t) := List.mem_filter.mpr ⟨hx, by simp [hy]⟩
  unfold firstL
  cases q : letrs.filter fun x => !decide (x ∈ t) with
  | nil => rw [q] at hm; cases hm
  | cons y r =>
    have hy : y ∈ letrs.filter fun x => !decide (x ∈ t) := by rw [q]; exact List.mem_cons_self
    obtain ⟨h1, h2⟩ := List.mem_filter.mp hy
    refine ⟨h1, ?_⟩
    show y ∉ t
    simpa using h2
theorem let_at : ∀ r : Nat, r < 26 → atI lets (r : Int) = some (97 + r) := by
  have : ∀ r : Fin 26, atI lets ((r.val : Nat) : Int) = some (97 + r.val) := by decide
  exact fun r h => this ⟨r, h⟩
theorem let_ix (r : Nat) (h : r < 26) : gIx k_LETTERS (.int r) = some (.str [97 + r]) := by
  show (if lets.length ≤ 1000000 then (atI lets (r : Int)).map (fun c => D.str [c]) else none) = _
  rw [if_pos (by decide), let_at r h]
  rfl
theorem letter_ev (n : Nat) (h : n < 130) (S : Sto) : f_letter [.v (.int n)] S = .ok (.v (.str (letr n))) S := by
  have hm : (n : Int) % 26 = ((n % 26 : Nat) : Int) := by omega
  have hd : (n : Int) / 26 = ((n / 26 : Nat) : Int) := by omega
  have e1 : cIx (cC k_LETTERS) (op2 gMod (cBlt gInt (cCons (cVar 0) cNil)) (cC (.int 26))) [some (.v (.int n)), none, none] S = .ok (.v (.str [97 + n % 26])) S := by
    refine e_ix (e := .int ((n % 26 : Nat) : Int)) rfl (e_op2v (e_blt (ws := [.v (.int n)]) rfl rfl rfl) rfl ?_) (let_ix _ (Nat.mod_lt _ (by decide)))
    rw [v_mod (by decide), hm]
  have e2 : op2 gDiv (cVar 0) (cC (.int 26)) [some (.v (.int n)), some (.v (.str [97 + n % 26])), none] S = .ok (.v (.int ((n / 26 : Nat) : Int))) S := by
    refine e_op2v rfl rfl ?_
    rw [v_div (by decide) (by decide), hd]
  have stop : ∀ (t : Tx) (m : Nat), whileN (cB (op2 gGt (cVar 2) (cC (.int 0)))) l1_letter (m + 1) [some (.v (.int n)), some (.v (.str t)), some (.v (.int 0))] S = .nx [some (.v (.int n)), some (.v (.str t)), some (.v (.int 0))] S := fun t m => e_while_f (e_b (e_op2v rfl rfl rfl))
  refine e_fdef_v (e_seq_nx (e_set e1) (e_seq_nx (e_set e2) (e_seq_nx (δ' := [some (.v (.int n)), some (.v (.str (letr n))), some (.v (.int 0))]) (S1 := S) ?_ (e_ret rfl))))
  show whileN _ _ 100000 _ S = _
  by_cases hn : n < 26
  · have h0 : n / 26 = 0 := Nat.div_eq_of_lt hn
    have h1 : n % 26 = n := Nat.mod_eq_of_lt hn
    have hl : letr n = [97 + n] := if_pos hn
    rw [hl, h0, h1]
    exact stop _ 99999
  · have hl : letr n = [97 + (n / 26 - 1), 97 + n % 26] := if_neg hn
    have hq : 0 < n / 26 := Nat.div_pos (by omega) (by decide)
    have hq4 : n / 26 < 5 := by omega
    generalize hqq : n / 26 = q at *
    generalize n % 26 = r at *
    have hqi : (q : Int) - 1 = ((q - 1 : Nat) : Int) := by omega
    have hgt : gGt (.int (q : Int)) (.int 0) = some (.bl true) := by
      rw [v_gt, decide_eq_true (by omega)]
    have hmo : ((q - 1 : Nat) : Int) % 26 = ((q - 1 : Nat) : Int) := by omega
    have hdo : ((q - 1 : Nat) : Int) / 26 = 0 := by omega
    have b1 : cAsg (op2 gAdd (cIx (cC k_LETTERS) (op2 gMod (cBlt gInt (cCons (op2 gSub (cVar 2) (cC (.int 1))) cNil)) (cC (.int 26)))) (cVar 1)) (gN 1) [some (.v (.int n)), some (.v (.str [97 + r])), some (.v (.int q))] S = .nx [some (.v (.int n)), some (.v (.str [97 + (q - 1), 97 + r])), some (.v (.int q))] S := by
      refine e_set (e_op2v (d := .str [97 + (q - 1)]) (e_ix (e := .int ((q - 1 : Nat) : Int)) rfl (e_op2v (e_blt (ws := [.v (.int ((q - 1 : Nat) : Int))]) (e_cons (e_op2v rfl rfl ?_) rfl) rfl rfl) rfl ?_) (let_ix _ (by omega))) rfl (v_addS (by simp)))
      · rw [v_sub, hqi]
      · rw [v_mod (by decide), hmo]
    have b2 : cAsg (op2 gDiv (op2 gSub (cVar 2) (cC (.int 1))) (cC (.int 26))) (gN 2) [some (.v (.int n)), some (.v (.str [97 + (q - 1), 97 + r])), some (.v (.int q))] S = .nx [some (.v (.int n)), some (.v (.str [97 + (q - 1), 97 + r])), some (.v (.int 0))] S := by
      refine e_set (e_op2v (d := .int ((q - 1 : Nat) : Int)) (e_op2v rfl rfl ?_) rfl ?_)
      · rw [v_sub, hqi]
      · rw [v_div (by decide) (by decide), hdo]
    rw [hl]
    refine Eq.trans (e_while_t (n := 99999) (S1 := S) (S2 := S) (δ2 := [some (.v (.int n)), some (.v (.str [97 + (q - 1), 97 + r])), some (.v (.int 0))]) (e_b (e_op2v rfl rfl hgt)) (e_seq_nx b1 b2)) (stop _ 99998)
theorem first_idx (t : List Tx) : ∀ (n s : Nat), (∃ j, s ≤ j ∧ j < s + n ∧ letr j ∉ t) → ∃ p, s ≤ p ∧ p < s + n ∧ letr p ∉ t ∧ (∀ j, s ≤ j → j < p → letr j ∈ t) ∧ ((((List.range' s n).map letr).filter fun x => !decide (x ∈ t)).head?).getD [] = letr p
  | 0, s, ⟨j, h1, h2, _⟩ => by omega
  | n + 1, s, ⟨j, h1, h2, h3⟩ => by
    rw [List.range'_succ, List.map_cons]
    by_cases h : letr s ∈ t
    · have hj : s ≠ j := fun z => h3 (z ▸ h)
      obtain ⟨p, p1, p2, p3, p4, p5⟩ := first_idx t n (s + 1) ⟨j, by omega, by omega, h3⟩
      refine ⟨p, by omega, by omega, p3, fun i hi hp => ?_, ?_⟩
      · by_cases z : i = s
        · rw [z]; exact h
        · exact p4 i (by omega) hp
      · rw [List.filter_cons_of_neg (by simp [h])]
        exact p5
    · refine ⟨s, Nat.le_refl _, by omega, h, fun i hi hp => by omega, ?_⟩
      rw [List.filter_cons_of_pos (by simp [h])]
      rfl
theorem letr_barred : ∀ i : Nat, i < 130 → letr i ∉ barred := by
  have : ∀ i : Fin 130, letr i.val ∉ barred := by decide +kernel
  exact fun i h => this ⟨i, h⟩
theorem first_letters_ev (t : List Tx) (h : t.length < 130) (S : Sto) : f_first_letters [.v (.lst (stL t))] S = .ok (.v (.str (firstL t))) S := by
  obtain ⟨x, hx, hy⟩ := free_letr h
  obtain ⟨j, hj, rfl⟩ := List.mem_map.mp hx
  obtain ⟨p, p1, p2, p3, p4, p5⟩ := first_idx t 130 0 ⟨j, Nat.zero_le _, by simpa using List.mem_range.mp hj, hy⟩
  have ep : firstL t = letr p := by
    unfold firstL letrs
    rw [List.range_eq_range']
    exact p5
  have test : ∀ i : Nat, i < 130 → (cOr (cB (op2 gIn (cCall 1 f_letter (cCons (cVar 1) cNil) []) (cVar 0))) (cB (op2 gIn (cCall 1 f_letter (cCons (cVar 1) cNil) []) (cC k_BARRED)))) [some (.v (.lst (stL t))), some (.v (.int i))] S = .ok (decide (letr i ∈ t)) S := fun i hi => by
    have ec : cCall 1 f_letter (cCons (cVar 1) cNil) [] [some (.v (.lst (stL t))), some (.v (.int i))] S = .ok (.v (.str (letr i))) S := e_call (ws := [.v (.int i)]) rfl rfl (letter_ev i hi S) rfl
    have t1 := e_b (e_op2v ec (show cVar 0 [some (.v (.lst (stL t))), some (.v (.int i))] S = .ok (.v (.lst (stL t))) S from rfl) (gIn_lst (letr i) t))
    have t2 := e_b (e_op2v ec (show cC k_BARRED [some (.v (.lst (stL t))), some (.v (.int i))] S = .ok (.v (.tup (stL barred))) S from rfl) (gIn_tup (letr i) barred))
    rw [decide_eq_false (letr_barred i hi)] at t2
    by_cases hm : letr i ∈ t
    · rw [decide_eq_true hm] at t1 ⊢
      exact e_or_t t1
    · rw [decide_eq_false hm] at t1 ⊢
      exact e_or_f t1 t2
  have loop : ∀ (d i fuel : Nat), i + d = p → d < fuel → whileN (cOr (cB (op2 gIn (cCall 1 f_letter (cCons (cVar 1) cNil) []) (cVar 0))) (cB (op2 gIn (cCall 1 f_letter (cCons (cVar 1) cNil) []) (cC k_BARRED)))) l1_first_letters fuel [some (.v (.lst (stL t))), some (.v (.int i))] S = .nx [some (.v (.lst (stL t))), some (.v (.int p))] S := by
    intro d
    induction d with
    | zero =>
      intro i fuel hi hf
      obtain ⟨fuel, rfl⟩ : ∃ k, fuel = k + 1 := ⟨fuel - 1, by omega⟩
      have : i = p := by omega
      subst this
      have q := test i (by omega)
      rw [decide_eq_false p3] at q
      exact e_while_f q
    | succ d ih =>
      intro i fuel hi hf
      obtain ⟨fuel, rfl⟩ : ∃ k, fuel = k + 1 := ⟨fuel - 1, by omega⟩
      have q := test i (by omega)
      rw [decide_eq_true (p4 i (Nat.zero_le _) (by omega))] at q
      refine Eq.trans (e_while_t (S2 := S) (δ2 := [some (.v (.lst (stL t))), some (.v (.int ((i + 1 : Nat) : Int)))]) q (e_set (e_op2v rfl rfl rfl))) (ih (i + 1) fuel (by omega) (by omega))
  rw [ep]
  refine e_fdef_v (e_seq_nx (e_set rfl) (e_seq_nx (loop p 0 100000 (by omega) (by omega)) (e_ret (e_call (ws := [.v (.int p)]) rfl rfl (letter_ev p (by omega) S) rfl))))
end Fro

/-! the law's forms with numbers, evaluated -/
namespace Fro
open PySem PySem.Spec L2
def encB : B → D
  | .nm t => .tup [.str [110, 97, 109, 101], .str t]
  | .int i => .tup [.str [105, 110, 116], .int i]
  | .bl b => .tup [.str [98, 111, 111, 108], .bl b]
  | .unit => .tup [.str [117, 110, 105, 116]]
  | .fn x a => .tup [.str [102, 117, 110], .str x, encB a]
  | .app a b => .tup [.str [97, 112, 112], encB a, encB b]
  | .lt x a b => .tup [.str [108, 101, 116], .str x, encB a, encB b]
  | .pr a b => .tup [.str [112, 97, 105, 114], encB a, encB b]
def encQ : Qb → D
  | .fr t => .tup [.str [110, 97, 109, 101], .str t]
  | .bd n => .tup [.str [98], .int n]
  | .int i => .tup [.str [105, 110, 116], .int i]
  | .bl b => .tup [.str [98, 111, 111, 108], .bl b]
  | .unit => .tup [.str [117, 110, 105, 116]]
  | .fn a => .tup [.str [102, 117, 110], encQ a]
  | .app a b => .tup [.str [97, 112, 112], encQ a, encQ b]
  | .lt a b => .tup [.str [108, 101, 116], encQ a, encQ b]
  | .pr a b => .tup [.str [112, 97, 105, 114], encQ a, encQ b]
def htB : B → Nat
  | .fn _ a => htB a + 1
  | .app a b => max (htB a) (htB b) + 1
  | .lt _ a b => max (htB a) (htB b) + 1
  | .pr a b => max (htB a) (htB b) + 1
  | _ => 1
theorem htB_pos (k : B) : 1 ≤ htB k := by cases k <;> simp [htB]
theorem suc_of {h m : Nat} (a : 1 ≤ h) (b : h ≤ m) : ∃ m', m = m' + 1 := ⟨m - 1, by omega⟩
theorem lifted_ev (k : Nat) : ∀ (q : Qb) (m l : Nat) (S : Sto), htQ q ≤ m → f__law_lifted m [.v (encQ q), .v (.int k), .v (.int l)] S = .ok (.v (encQ (liftB k l q))) S := by
  intro q
  induction q with
  | fr t => intro m l S hm; obtain ⟨m, rfl⟩ := suc_of (htQ_pos _) hm; exact e_fdef_v rfl
  | int t => intro m l S hm; obtain ⟨m, rfl⟩ := suc_of (htQ_pos _) hm; exact e_fdef_v rfl
  | bl t => intro m l S hm; obtain ⟨m, rfl⟩ := suc_of (htQ_pos _) hm; exact e_fdef_v rfl
  | unit => intro m l S hm; obtain ⟨m, rfl⟩ := suc_of (htQ_pos _) hm; exact e_fdef_v rfl
  | bd n =>
    intro m l S hm
    obtain ⟨m, rfl⟩ := suc_of (htQ_pos _) hm
    refine e_fdef_v (e_seq_nx (e_set (w := .v (.str [98])) (S1 := S) rfl) (e_seq_rt (e_ifs_t (S1 := S) (e_b rfl) (e_ret ?_))))
    unfold liftB
    by_cases h : l ≤ n
    · rw [if_pos h]
      refine e_if_t (S1 := S) (e_b (e_op2v (d := .int n) (e := .int l) (k := .bl true) rfl rfl ?_)) rfl
      show some (D.bl (decide ((l : Int) ≤ n))) = _
      rw [decide_eq_true (by omega)]
    · rw [if_neg h]
      refine e_if_f (S1 := S) (e_b (e_op2v (d := .int n) (e := .int l) (k := .bl false) rfl rfl ?_)) rfl
      show some (D.bl (decide ((l : Int) ≤ n))) = _
      rw [decide_eq_false (by omega)]
  | fn a ih =>
    intro m l S hm
    obtain ⟨m, rfl⟩ := suc_of (htQ_pos _) hm
    simp only [htQ] at hm
    refine e_fdef_v (e_seq_nx (e_set (w := .v (.str [102, 117, 110])) (S1 := S) rfl) (e_seq_nx (e_ifs_f (S1 := S) (e_b rfl) rfl) (e_seq_rt (e_ifs_t (S1 := S) (e_b rfl) (e_ret ?_)))))
    exact e_disp (ws := [.v (.str [102, 117, 110]), .v (encQ (liftB k (l + 1) a))]) (e_cons rfl (e_cons (e_call (ws := [.v (encQ a), .v (.int k), .v (.int ((l + 1 : Nat) : Int))]) rfl rfl (ih m (l + 1) S (by omega)) rfl) rfl)) rfl (by simp) rfl
  | lt a b iha ihb =>
    intro m l S hm
    obtain ⟨m, rfl⟩ := suc_of (htQ_pos _) hm
    simp only [htQ] at hm
    refine e_fdef_v (e_seq_nx (e_set (w := .v (.str [108, 101, 116])) (S1 := S) rfl) (e_seq_nx (e_ifs_f (S1 := S) (e_b rfl) rfl) (e_seq_nx (e_ifs_f (S1 := S) (e_b rfl) rfl) (e_seq_rt (e_ifs_t (S1 := S) (e_b rfl) (e_ret ?_))))))
    exact e_disp (ws := [.v (.str [108, 101, 116]), .v (encQ (liftB k l a)), .v (encQ (liftB k (l + 1) b))]) (e_cons rfl (e_cons (e_call (ws := [.v (encQ a), .v (.int k), .v (.int l)]) rfl rfl (iha m l S (by omega)) rfl) (e_cons (e_call (ws := [.v (encQ b), .v (.int k), .v (.int ((l + 1 : Nat) : Int))]) rfl rfl (ihb m (l + 1) S (by omega)) rfl) rfl))) rfl (by simp) rfl
  | app a b iha ihb =>
    intro m l S hm
    obtain ⟨m, rfl⟩ := suc_of (htQ_pos _) hm
    simp only [htQ] at hm
    refine e_fdef_v (e_seq_nx (e_set (w := .v (.str [97, 112, 112])) (S1 := S) rfl) (e_seq_nx (e_ifs_f (S1 := S) (e_b rfl) rfl) (e_seq_nx (e_ifs_f (S1 := S) (e_b rfl) rfl) (e_seq_nx (e_ifs_f (S1 := S) (e_b rfl) rfl) (e_seq_rt (e_ifs_t (S1 := S) (e_b rfl) (e_ret ?_)))))))
    exact e_disp (ws := [.v (.str [97, 112, 112]), .v (encQ (liftB k l a)), .v (encQ (liftB k l b))]) (e_cons rfl (e_cons (e_call (ws := [.v (encQ a), .v (.int k), .v (.int l)]) rfl rfl (iha m l S (by omega)) rfl) (e_cons (e_call (ws := [.v (encQ b), .v (.int k), .v (.int l)]) rfl rfl (ihb m l S (by omega)) rfl) rfl))) rfl (by simp) rfl
  | pr a b iha ihb =>
    intro m l S hm
    obtain ⟨m, rfl⟩ := suc_of (htQ_pos _) hm
    simp only [htQ] at hm
    refine e_fdef_v (e_seq_nx (e_set (w := .v (.str [112, 97, 105, 114])) (S1 := S) rfl) (e_seq_nx (e_ifs_f (S1 := S) (e_b rfl) rfl) (e_seq_nx (e_ifs_f (S1 := S) (e_b rfl) rfl) (e_seq_nx (e_ifs_f (S1 := S) (e_b rfl) rfl) (e_seq_rt (e_ifs_t (S1 := S) (e_b rfl) (e_ret ?_)))))))
    exact e_disp (ws := [.v (.str [112, 97, 105, 114]), .v (encQ (liftB k l a)), .v (encQ (liftB k l b))]) (e_cons rfl (e_cons (e_call (ws := [.v (encQ a), .v (.int k), .v (.int l)]) rfl rfl (iha m l S (by omega)) rfl) (e_cons (e_call (ws := [.v (encQ b), .v (.int k), .v (.int l)]) rfl rfl (ihb m l S (by omega)) rfl) rfl))) rfl (by simp) rfl
end Fro

namespace Fro
open PySem PySem.Spec L2
theorem gEq_int (a b : Int) : gEq (.int a) (.int b) = some (.bl (decide (a = b))) := by
  first
    | rfl
    | (simp [gEq, deq])
theorem put_ev (o : Qb) (ho : htQ o ≤ 60) : ∀ (q : Qb) (m d : Nat) (S : Sto), htQ q ≤ m → f__law_put m [.v (encQ q), .v (encQ o), .v (.int d)] S = .ok (.v (encQ (putB o d q))) S := by
  intro q
  induction q with
  | fr t => intro m d S hm; obtain ⟨m, rfl⟩ := suc_of (htQ_pos _) hm; exact e_fdef_v rfl
  | int t => intro m d S hm; obtain ⟨m, rfl⟩ := suc_of (htQ_pos _) hm; exact e_fdef_v rfl
  | bl t => intro m d S hm; obtain ⟨m, rfl⟩ := suc_of (htQ_pos _) hm; exact e_fdef_v rfl
  | unit => intro m d S hm; obtain ⟨m, rfl⟩ := suc_of (htQ_pos _) hm; exact e_fdef_v rfl
  | bd n =>
    intro m d S hm
    obtain ⟨m, rfl⟩ := suc_of (htQ_pos _) hm
    refine e_fdef_v (e_seq_nx (e_set (w := .v (.str [98])) (S1 := S) rfl) (e_seq_rt (e_ifs_t (S1 := S) (e_b rfl) ?_)))
    unfold putB
    by_cases h : n = d
    · subst h
      rw [if_pos rfl]
      refine e_seq_rt (e_ifs_t (S1 := S) (e_b (e_op2v (d := .int n) (e := .int n) (k := .bl true) rfl rfl ?_)) (e_ret (e_call (ws := [.v (encQ o), .v (.int n), .v (.int ((0 : Nat) : Int))]) rfl rfl (lifted_ev n o 60 0 S ho) rfl)))
      rw [gEq_int]
      simp
    · rw [if_neg h]
      refine e_seq_nx (e_ifs_f (S1 := S) (e_b (e_op2v (d := .int n) (e := .int d) (k := .bl false) rfl rfl ?_)) rfl) (e_ret ?_)
      · rw [gEq_int]
        simp
        omega
      · by_cases h2 : d < n
        · rw [if_pos h2]
          refine e_if_t (S1 := S) (e_b (e_op2v (d := .int n) (e := .int d) (k := .bl true) rfl rfl ?_)) ?_
          · show some (D.bl (decide ((d : Int) < n))) = _
            rw [decide_eq_true (by omega)]
          · have e : (n : Int) - 1 = ((n - 1 : Nat) : Int) := by omega
            show R.ok (W.v (.tup [.str [98], .int ((n : Int) - 1)])) S = _
            rw [e]
            rfl
        · rw [if_neg h2]
          refine e_if_f (S1 := S) (e_b (e_op2v (d := .int n) (e := .int d) (k := .bl false) rfl rfl ?_)) rfl
          show some (D.bl (decide ((d : Int) < n))) = _
          rw [decide_eq_false (by omega)]
  | fn a ih =>
    intro m d S hm
    obtain ⟨m, rfl⟩ := suc_of (htQ_pos _) hm
    simp only [htQ] at hm
    refine e_fdef_v (e_seq_nx (e_set (w := .v (.str [102, 117, 110])) (S1 := S) rfl) (e_seq_nx (e_ifs_f (S1 := S) (e_b rfl) rfl) (e_seq_rt (e_ifs_t (S1 := S) (e_b rfl) (e_ret ?_)))))
    exact e_disp (ws := [.v (.str [102, 117, 110]), .v (encQ (putB o (d + 1) a))]) (e_cons rfl (e_cons (e_call (ws := [.v (encQ a), .v (encQ o), .v (.int ((d + 1 : Nat) : Int))]) rfl rfl (ih m (d + 1) S (by omega)) rfl) rfl)) rfl (by simp) rfl
  | lt a b iha ihb =>
    intro m d S hm
    obtain ⟨m, rfl⟩ := suc_of (htQ_pos _) hm
    simp only [htQ] at hm
    refine e_fdef_v (e_seq_nx (e_set (w := .v (.str [108, 101, 116])) (S1 := S) rfl) (e_seq_nx (e_ifs_f (S1 := S) (e_b rfl) rfl) (e_seq_nx (e_ifs_f (S1 := S) (e_b rfl) rfl) (e_seq_rt (e_ifs_t (S1 := S) (e_b rfl) (e_ret ?_))))))
    exact e_disp (ws := [.v (.str [108, 101, 116]), .v (encQ (putB o d a)), .v (encQ (putB o (d + 1) b))]) (e_cons rfl (e_cons (e_call (ws := [.v (encQ a), .v (encQ o), .v (.int d)]) rfl rfl (iha m d S (by omega)) rfl) (e_cons (e_call (ws := [.v (encQ b), .v (encQ o), .v (.int ((d + 1 : Nat) : Int))]) rfl rfl (ihb m (d + 1) S (by omega)) rfl) rfl))) rfl (by simp) rfl
  | app a b iha ihb =>
    intro m d S hm
    obtain ⟨m, rfl⟩ := suc_of (htQ_pos _) hm
    simp only [htQ] at hm
    refine e_fdef_v (e_seq_nx (e_set (w := .v (.str [97, 112, 112])) (S1 := S) rfl) (e_seq_nx (e_ifs_f (S1 := S) (e_b rfl) rfl) (e_seq_nx (e_ifs_f (S1 := S) (e_b rfl) rfl) (e_seq_nx (e_ifs_f (S1 := S) (e_b rfl) rfl) (e_seq_rt (e_ifs_t (S1 := S) (e_b rfl) (e_ret ?_)))))))
    exact e_disp (ws := [.v (.str [97, 112, 112]), .v (encQ (putB o d a)), .v (encQ (putB o d b))]) (e_cons rfl (e_cons (e_call (ws := [.v (encQ a), .v (encQ o), .v (.int d)]) rfl rfl (iha m d S (by omega)) rfl) (e_cons (e_call (ws := [.v (encQ b), .v (encQ o), .v (.int d)]) rfl rfl (ihb m d S (by omega)) rfl) rfl))) rfl (by simp) rfl
  | pr a b iha ihb =>
    intro m d S hm
    obtain ⟨m, rfl⟩ := suc_of (htQ_pos _) hm
    simp only [htQ] at hm
    refine e_fdef_v (e_seq_nx (e_set (w := .v (.str [112, 97, 105, 114])) (S1 := S) rfl) (e_seq_nx (e_ifs_f (S1 := S) (e_b rfl) rfl) (e_seq_nx (e_ifs_f (S1 := S) (e_b rfl) rfl) (e_seq_nx (e_ifs_f (S1 := S) (e_b rfl) rfl) (e_seq_rt (e_ifs_t (S1 := S) (e_b rfl) (e_ret ?_)))))))
    exact e_disp (ws := [.v (.str [112, 97, 105, 114]), .v (encQ (putB o d a)), .v (encQ (putB o d b))]) (e_cons rfl (e_cons (e_call (ws := [.v (encQ a), .v (encQ o), .v (.int d)]) rfl rfl (iha m d S (by omega)) rfl) (e_cons (e_call (ws := [.v (encQ b), .v (encQ o), .v (.int d)]) rfl rfl (ihb m d S (by omega)) rfl) rfl))) rfl (by simp) rfl
end Fro

namespace Fro
open PySem PySem.Spec L2
theorem lwithout_ev : ∀ (q : Qb) (m : Nat) (S : Sto), htQ q ≤ m → cntQ q ≤ 60 → f__law_without m [.v (encQ q)] S = .ok (.v (encQ (withoutQ q))) S := by
  intro q
  induction q with
  | fr t => intro m S hm hc; obtain ⟨m, rfl⟩ := suc_of (htQ_pos _) hm; exact e_fdef_v rfl
  | bd t => intro m S hm hc; obtain ⟨m, rfl⟩ := suc_of (htQ_pos _) hm; exact e_fdef_v rfl
  | int t => intro m S hm hc; obtain ⟨m, rfl⟩ := suc_of (htQ_pos _) hm; exact e_fdef_v rfl
  | bl t => intro m S hm hc; obtain ⟨m, rfl⟩ := suc_of (htQ_pos _) hm; exact e_fdef_v rfl
  | unit => intro m S hm hc; obtain ⟨m, rfl⟩ := suc_of (htQ_pos _) hm; exact e_fdef_v rfl
  | fn a ih =>
    intro m S hm hc
    obtain ⟨m, rfl⟩ := suc_of (htQ_pos _) hm
    simp only [htQ] at hm
    simp only [cntQ] at hc
    refine e_fdef_v (e_seq_nx (e_set (w := .v (.str [102, 117, 110])) (S1 := S) rfl) (e_seq_nx (e_ifs_f (S1 := S) (e_b rfl) rfl) (e_seq_rt (e_ifs_t (S1 := S) (e_b rfl) (e_ret ?_)))))
    exact e_disp (ws := [.v (.str [102, 117, 110]), .v (encQ (withoutQ a))]) (e_cons rfl (e_cons (e_call (ws := [.v (encQ a)]) rfl rfl (ih m S (by omega) (by omega)) rfl) rfl)) rfl (by simp) rfl
  | app a b iha ihb =>
    intro m S hm hc
    obtain ⟨m, rfl⟩ := suc_of (htQ_pos _) hm
    simp only [htQ] at hm
    simp only [cntQ] at hc
    refine e_fdef_v (e_seq_nx (e_set (w := .v (.str [97, 112, 112])) (S1 := S) rfl) (e_seq_nx (e_ifs_f (S1 := S) (e_b rfl) rfl) (e_seq_nx (e_ifs_f (S1 := S) (e_b rfl) rfl) (e_seq_rt (e_ifs_t (S1 := S) (e_b rfl) (e_ret ?_))))))
    exact e_disp (ws := [.v (.str [97, 112, 112]), .v (encQ (withoutQ a)), .v (encQ (withoutQ b))]) (e_cons rfl (e_cons (e_call (ws := [.v (encQ a)]) rfl rfl (iha m S (by omega) (by omega)) rfl) (e_cons (e_call (ws := [.v (encQ b)]) rfl rfl (ihb m S (by omega) (by omega)) rfl) rfl))) rfl (by simp) rfl
  | pr a b iha ihb =>
    intro m S hm hc
    obtain ⟨m, rfl⟩ := suc_of (htQ_pos _) hm
    simp only [htQ] at hm
    simp only [cntQ] at hc
    refine e_fdef_v (e_seq_nx (e_set (w := .v (.str [112, 97, 105, 114])) (S1 := S) rfl) (e_seq_nx (e_ifs_f (S1 := S) (e_b rfl) rfl) (e_seq_nx (e_ifs_f (S1 := S) (e_b rfl) rfl) (e_seq_rt (e_ifs_t (S1 := S) (e_b rfl) (e_ret ?_))))))
    exact e_disp (ws := [.v (.str [112, 97, 105, 114]), .v (encQ (withoutQ a)), .v (encQ (withoutQ b))]) (e_cons rfl (e_cons (e_call (ws := [.v (encQ a)]) rfl rfl (iha m S (by omega) (by omega)) rfl) (e_cons (e_call (ws := [.v (encQ b)]) rfl rfl (ihb m S (by omega) (by omega)) rfl) rfl))) rfl (by simp) rfl
  | lt a b iha ihb =>
    intro m S hm hc
    obtain ⟨m, rfl⟩ := suc_of (htQ_pos _) hm
    simp only [htQ] at hm
    simp only [cntQ] at hc
    have ha := ht_without a
    have hb := ht_without b
    refine e_fdef_v (e_seq_nx (e_set (w := .v (.str [108, 101, 116])) (S1 := S) rfl) (e_seq_rt (e_ifs_t (S1 := S) (e_b rfl) (e_ret ?_))))
    exact e_call (ws := [.v (encQ (withoutQ b)), .v (encQ (withoutQ a)), .v (.int ((0 : Nat) : Int))]) (e_cons (e_call (ws := [.v (encQ b)]) rfl rfl (ihb m S (by omega) (by omega)) rfl) (e_cons (e_call (ws := [.v (encQ a)]) rfl rfl (iha m S (by omega) (by omega)) rfl) rfl)) rfl (put_ev _ (by omega) _ 60 0 S (by omega)) rfl
end Fro

namespace Fro
open PySem PySem.Spec L2
theorem idxD_of (t : Tx) : ∀ G : List Tx, t ∈ G → idxD (.str t) (stL G) = some (G.idxOf t)
  | [], h => by simp at h
  | u :: r, h => by
    show (if (u == t) = true then some 0 else (idxD (.str t) (stL r)).map (· + 1)) = _
    by_cases q : u = t
    · rw [if_pos (by simp [q]), q]; simp
    · rw [if_neg (by simp [q]), idxD_of t r ((List.mem_cons.mp h).resolve_left (Ne.symm q)), idx_c (Ne.symm q)]
      rfl
theorem gIndex_of {t : Tx} {G : List Tx} (h : t ∈ G) : gIndex (.lst (stL G)) (.str t) = some (.int (G.idxOf t)) := by
  show (if (flatD (.str t) && (stL G).all flatD) = true then _ else none) = _
  rw [if_pos (by rw [all_stL]; rfl), idxD_of t G h]
  rfl
theorem stL_rev (G : List Tx) : (stL G.reverse).reverse = stL G := by unfold stL; rw [← List.map_reverse, List.reverse_reverse]
theorem in_ev : ∀ (e : B) (m : Nat) (G : List Tx) (S : Sto), htB e ≤ m → G.length + htB e ≤ 1000 → f__law_in m [.v (encB e), .v (.lst (stL G.reverse))] S = .ok (.v (encQ (inB G e))) S := by
  intro e
  induction e with
  | int t => intro m G S hm hl; obtain ⟨m, rfl⟩ := suc_of (htB_pos _) hm; exact e_fdef_v rfl
  | bl t => intro m G S hm hl; obtain ⟨m, rfl⟩ := suc_of (htB_pos _) hm; exact e_fdef_v rfl
  | unit => intro m G S hm hl; obtain ⟨m, rfl⟩ := suc_of (htB_pos _) hm; exact e_fdef_v rfl
  | nm t =>
    intro m G S hm hl
    obtain ⟨m, rfl⟩ := suc_of (htB_pos _) hm
    refine e_fdef_v (e_seq_nx (e_set (w := .v (.str [110, 97, 109, 101])) (S1 := S) rfl) (e_seq_rt (e_ifs_t (S1 := S) (e_b rfl) (e_ret ?_))))
    unfold inB
    by_cases h : t ∈ G
    · rw [if_pos h]
      refine e_if_t (S1 := S) (e_b (e_op2v (d := .str t) (e := .lst (stL G.reverse)) (k := .bl true) rfl rfl ?_)) ?_
      · rw [gIn_lst, decide_eq_true (List.mem_reverse.mpr h)]
      · refine e_disp (ws := [.v (.str [98]), .v (.int (G.idxOf t))]) (e_cons rfl (e_cons ?_ rfl)) rfl (by simp) rfl
        show ap2 gIndex (.v (.lst (stL G.reverse).reverse)) (.v (.str t)) S = _
        rw [stL_rev]
        unfold ap2
        simp only [rd, gIndex_of h]
    · rw [if_neg h]
      refine e_if_f (S1 := S) (e_b (e_op2v (d := .str t) (e := .lst (stL G.reverse)) (k := .bl false) rfl rfl ?_)) rfl
      rw [gIn_lst, decide_eq_false fun z => h (List.mem_reverse.mp z)]
  | fn x a ih =>
    intro m G S hm hl
    obtain ⟨m, rfl⟩ := suc_of (htB_pos _) hm
    simp only [htB] at hm hl
    refine e_fdef_v (e_seq_nx (e_set (w := .v (.str [102, 117, 110])) (S1 := S) rfl) (e_seq_nx (e_ifs_f (S1 := S) (e_b rfl) rfl) (e_seq_rt (e_ifs_t (S1 := S) (e_b rfl) (e_ret ?_)))))
    refine e_disp (ws := [.v (.str [102, 117, 110]), .v (encQ (inB (x :: G) a))]) (e_cons rfl (e_cons (e_call (ws := [.v (encB a), .v (.lst (stL (x :: G).reverse))]) (e_cons rfl (e_cons (e_op2v (d := .lst (stL G.reverse)) (e := .lst (stL [x])) rfl rfl ?_) rfl)) rfl (ih m (x :: G) S (by omega) (by rw [List.length_cons]; omega)) rfl) rfl)) rfl (by simp) rfl
    rw [List.reverse_cons]
    exact gAdd_lsts _ _ (by simp; omega)
  | lt x a b iha ihb =>
    intro m G S hm hl
    obtain ⟨m, rfl⟩ := suc_of (htB_pos _) hm
    simp only [htB] at hm hl
    refine e_fdef_v (e_seq_nx (e_set (w := .v (.str [108, 101, 116])) (S1 := S) rfl) (e_seq_nx (e_ifs_f (S1 := S) (e_b rfl) rfl) (e_seq_nx (e_ifs_f (S1 := S) (e_b rfl) rfl) (e_seq_rt (e_ifs_t (S1 := S) (e_b rfl) (e_ret ?_))))))
    refine e_disp (ws := [.v (.str [108, 101, 116]), .v (encQ (inB G a)), .v (encQ (inB (x :: G) b))]) (e_cons rfl (e_cons (e_call (ws := [.v (encB a), .v (.lst (stL G.reverse))]) rfl rfl (iha m G S (by omega) (by omega)) rfl) (e_cons (e_call (ws := [.v (encB b), .v (.lst (stL (x :: G).reverse))]) (e_cons rfl (e_cons (e_op2v (d := .lst (stL G.reverse)) (e := .lst (stL [x])) rfl rfl ?_) rfl)) rfl (ihb m (x :: G) S (by omega) (by rw [List.length_cons]; omega)) rfl) rfl))) rfl (by simp) rfl
    rw [List.reverse_cons]
    exact gAdd_lsts _ _ (by simp; omega)
  | app a b iha ihb =>
    intro m G S hm hl
    obtain ⟨m, rfl⟩ := suc_of (htB_pos _) hm
    simp only [htB] at hm hl
    refine e_fdef_v (e_seq_nx (e_set (w := .v (.str [97, 112, 112])) (S1 := S) rfl) (e_seq_nx (e_ifs_f (S1 := S) (e_b rfl) rfl) (e_seq_nx (e_ifs_f (S1 := S) (e_b rfl) rfl) (e_seq_nx (e_ifs_f (S1 := S) (e_b rfl) rfl) (e_seq_rt (e_ifs_t (S1 := S) (e_b rfl) (e_ret ?_)))))))
    exact e_disp (ws := [.v (.str [97, 112, 112]), .v (encQ (inB G a)), .v (encQ (inB G b))]) (e_cons rfl (e_cons (e_call (ws := [.v (encB a), .v (.lst (stL G.reverse))]) rfl rfl (iha m G S (by omega) (by omega)) rfl) (e_cons (e_call (ws := [.v (encB b), .v (.lst (stL G.reverse))]) rfl rfl (ihb m G S (by omega) (by omega)) rfl) rfl))) rfl (by simp) rfl
  | pr a b iha ihb =>
    intro m G S hm hl
    obtain ⟨m, rfl⟩ := suc_of (htB_pos _) hm
    simp only [htB] at hm hl
    refine e_fdef_v (e_seq_nx (e_set (w := .v (.str [112, 97, 105, 114])) (S1 := S) rfl) (e_seq_nx (e_ifs_f (S1 := S) (e_b rfl) rfl) (e_seq_nx (e_ifs_f (S1 := S) (e_b rfl) rfl) (e_seq_nx (e_ifs_f (S1 := S) (e_b rfl) rfl) (e_seq_rt (e_ifs_t (S1 := S) (e_b rfl) (e_ret ?_)))))))
    exact e_disp (ws := [.v (.str [112, 97, 105, 114]), .v (encQ (inB G a)), .v (encQ (inB G b))]) (e_cons rfl (e_cons (e_call (ws := [.v (encB a), .v (.lst (stL G.reverse))]) rfl rfl (iha m G S (by omega) (by omega)) rfl) (e_cons (e_call (ws := [.v (encB b), .v (.lst (stL G.reverse))]) rfl rfl (ihb m G S (by omega) (by omega)) rfl) rfl))) rfl (by simp) rfl
end Fro

namespace Fro
open PySem PySem.Spec L2
theorem count_turn {m n c : Nat} {d : D} {w0 : Option W} {S : Sto} (e : ∀ S, f__law_count m [.v d] S = .ok (.v (.int c)) S) :
    l1__law_count (f__law_count m) [w0, some (.v (.int n)), some (.v d)] S = .nx [w0, some (.v (.int ((n + c : Nat) : Int))), some (.v d)] S :=
  e_set (e_op2v (d := .int n) (e := .int c) rfl (e_call (ws := [.v d]) rfl rfl (e S) rfl) rfl)
theorem count_ev : ∀ (q : Qb) (m : Nat) (S : Sto), htQ q ≤ m → f__law_count m [.v (encQ q)] S = .ok (.v (.int (cntQ q))) S := by
  intro q
  induction q with
  | fr t => intro m S hm; obtain ⟨m, rfl⟩ := suc_of (htQ_pos _) hm; exact e_fdef_v (e_seq_nx (e_set rfl) (e_seq_nx (e_for (ds := []) rfl rfl) rfl))
  | bd t => intro m S hm; obtain ⟨m, rfl⟩ := suc_of (htQ_pos _) hm; exact e_fdef_v (e_seq_nx (e_set rfl) (e_seq_nx (e_for (ds := []) rfl rfl) rfl))
  | int t => intro m S hm; obtain ⟨m, rfl⟩ := suc_of (htQ_pos _) hm; exact e_fdef_v (e_seq_nx (e_set rfl) (e_seq_nx (e_for (ds := []) rfl rfl) rfl))
  | bl t => intro m S hm; obtain ⟨m, rfl⟩ := suc_of (htQ_pos _) hm; exact e_fdef_v (e_seq_nx (e_set rfl) (e_seq_nx (e_for (ds := []) rfl rfl) rfl))
  | unit => intro m S hm; obtain ⟨m, rfl⟩ := suc_of (htQ_pos _) hm; exact e_fdef_v (e_seq_nx (e_set rfl) (e_seq_nx (e_for (ds := []) rfl rfl) rfl))
  | fn a ih =>
    intro m S hm
    obtain ⟨m, rfl⟩ := suc_of (htQ_pos _) hm
    simp only [htQ] at hm
    have q := count_turn (m := m) (n := 1) (c := cntQ a) (d := encQ a) (w0 := some (.v (encQ (.fn a)))) (S := S) fun S => ih m S (by omega)
    have e : (cntQ (.fn a) : Nat) = 1 + cntQ a := by simp only [cntQ]; omega
    rw [e]
    exact e_fdef_v (e_seq_nx (e_set rfl) (e_seq_nx (e_for (ds := [encQ a]) rfl (Eq.trans (e_for_nx (δ1 := [some (.v (encQ (.fn a))), some (.v (.int ((1 : Nat) : Int))), some (.v (encQ a))]) (S1 := S) rfl q) rfl)) rfl))
  | app a b iha ihb =>
    intro m S hm
    obtain ⟨m, rfl⟩ := suc_of (htQ_pos _) hm
    simp only [htQ] at hm
    have q := count_turn (m := m) (n := 1) (c := cntQ a) (d := encQ a) (w0 := some (.v (encQ (.app a b)))) (S := S) fun S => iha m S (by omega)
    have q2 := count_turn (m := m) (n := 1 + cntQ a) (c := cntQ b) (d := encQ b) (w0 := some (.v (encQ (.app a b)))) (S := S) fun S => ihb m S (by omega)
    have e : (cntQ (.app a b) : Nat) = 1 + cntQ a + cntQ b := by simp only [cntQ]; omega
    rw [e]
    exact e_fdef_v (e_seq_nx (e_set rfl) (e_seq_nx (e_for (ds := [encQ a, encQ b]) rfl (Eq.trans (e_for_nx (δ1 := [some (.v (encQ (.app a b))), some (.v (.int ((1 : Nat) : Int))), some (.v (encQ a))]) (S1 := S) rfl q) (Eq.trans (e_for_nx (δ1 := [some (.v (encQ (.app a b))), some (.v (.int ((1 + cntQ a : Nat) : Int))), some (.v (encQ b))]) (S1 := S) rfl q2) rfl))) rfl))
  | lt a b iha ihb =>
    intro m S hm
    obtain ⟨m, rfl⟩ := suc_of (htQ_pos _) hm
    simp only [htQ] at hm
    have q := count_turn (m := m) (n := 1) (c := cntQ a) (d := encQ a) (w0 := some (.v (encQ (.lt a b)))) (S := S) fun S => iha m S (by omega)
    have q2 := count_turn (m := m) (n := 1 + cntQ a) (c := cntQ b) (d := encQ b) (w0 := some (.v (encQ (.lt a b)))) (S := S) fun S => ihb m S (by omega)
    have e : (cntQ (.lt a b) : Nat) = 1 + cntQ a + cntQ b := by simp only [cntQ]; omega
    rw [e]
    exact e_fdef_v (e_seq_nx (e_set rfl) (e_seq_nx (e_for (ds := [encQ a, encQ b]) rfl (Eq.trans (e_for_nx (δ1 := [some (.v (encQ (.lt a b))), some (.v (.int ((1 : Nat) : Int))), some (.v (encQ a))]) (S1 := S) rfl q) (Eq.trans (e_for_nx (δ1 := [some (.v (encQ (.lt a b))), some (.v (.int ((1 + cntQ a : Nat) : Int))), some (.v (encQ b))]) (S1 := S) rfl q2) rfl))) rfl))
  | pr a b iha ihb =>
    intro m S hm
    obtain ⟨m, rfl⟩ := suc_of (htQ_pos _) hm
    simp only [htQ] at hm
    have q := count_turn (m := m) (n := 1) (c := cntQ a) (d := encQ a) (w0 := some (.v (encQ (.pr a b)))) (S := S) fun S => iha m S (by omega)
    have q2 := count_turn (m := m) (n := 1 + cntQ a) (c := cntQ b) (d := encQ b) (w0 := some (.v (encQ (.pr a b)))) (S := S) fun S => ihb m S (by omega)
    have e : (cntQ (.pr a b) : Nat) = 1 + cntQ a + cntQ b := by simp only [cntQ]; omega
    rw [e]
    exact e_fdef_v (e_seq_nx (e_set rfl) (e_seq_nx (e_for (ds := [encQ a, encQ b]) rfl (Eq.trans (e_for_nx (δ1 := [some (.v (encQ (.pr a b))), some (.v (.int ((1 : Nat) : Int))), some (.v (encQ a))]) (S1 := S) rfl q) (Eq.trans (e_for_nx (δ1 := [some (.v (encQ (.pr a b))), some (.v (.int ((1 + cntQ a : Nat) : Int))), some (.v (encQ b))]) (S1 := S) rfl q2) rfl))) rfl))
end Fro

namespace Fro
open PySem PySem.Spec L2
/-! the law's free names -/
def frQ : Qb → List Tx
  | .fr t => [t]
  | .fn a => extB [] (frQ a)
  | .app a b => extB (extB [] (frQ a)) (frQ b)
  | .lt a b => extB (extB [] (frQ a)) (frQ b)
  | .pr a b => extB (extB [] (frQ a)) (frQ b)
  | _ => []
theorem extB_len (f i : List Tx) : (extB f i).length ≤ f.length + i.length := by
  unfold extB
  rw [List.length_append]
  have := List.length_filter_le (fun t => decide (t ∉ f)) i
  omega
theorem frQ_len : ∀ q : Qb, (frQ q).length ≤ cntQ q
  | .fr _ => Nat.le_refl _
  | .bd _ => Nat.zero_le _
  | .int _ => Nat.zero_le _
  | .bl _ => Nat.zero_le _
  | .unit => Nat.zero_le _
  | .fn a => by have := frQ_len a; have h := extB_len [] (frQ a); simp only [List.length_nil] at h; simp only [frQ, cntQ]; omega
  | .app a b => by have := frQ_len a; have := frQ_len b; have h := extB_len [] (frQ a); have h2 := extB_len (extB [] (frQ a)) (frQ b); simp only [List.length_nil] at h; simp only [frQ, cntQ]; omega
  | .lt a b => by have := frQ_len a; have := frQ_len b; have h := extB_len [] (frQ a); have h2 := extB_len (extB [] (frQ a)) (frQ b); simp only [List.length_nil] at h; simp only [frQ, cntQ]; omega
  | .pr a b => by have := frQ_len a; have := frQ_len b; have h := extB_len [] (frQ a); have h2 := extB_len (extB [] (frQ a)) (frQ b); simp only [List.length_nil] at h; simp only [frQ, cntQ]; omega
theorem lfr_turn {m : Nat} {d : D} {acc l : List Tx} {w0 w3 : Option W} {S : Sto} (hl : acc.length + l.length ≤ 100000) (e : ∀ S, ∃ rv, f__law_frees_of m [.v d] S = .ok rv S ∧ IsL rv l) :
    l1__law_frees_of (f__law_frees_of m) [w0, some (.r S.length), some (.v d), w3] (S ++ [.lst (stL acc)]) = .nx [w0, some (.r S.length), some (.v d), w3] (S ++ [.lst (stL (extB acc l))]) := by
  obtain ⟨rv, e1, e2⟩ := e (S ++ [.lst (stL acc)])
  exact ext_turn (i := 1) (j := 3) (δ := [w0, some (.r S.length), some (.v d), w3]) (e_call (ws := [.v d]) rfl rfl e1 (e2 _)) rfl (by decide) (by simp) hl
theorem lfrees_ev : ∀ (q : Qb) (m : Nat) (S : Sto), htQ q ≤ m → cntQ q ≤ 1000 → ∃ rv, f__law_frees_of m [.v (encQ q)] S = .ok rv S ∧ IsL rv (frQ q) := by
  intro q
  induction q with
  | fr t =>
    intro m S hm hc; obtain ⟨m, rfl⟩ := suc_of (htQ_pos _) hm
    exact ⟨_, e_fdef_v (d := .lst (stL [t])) (e_seq_rt (e_ifs_t (S1 := S) (e_b rfl) (e_ret rfl))), isL_v [t]⟩
  | bd t => intro m S hm hc; obtain ⟨m, rfl⟩ := suc_of (htQ_pos _) hm; exact ⟨_, e_fdef_new (o := .lst (stL [])) (e_seq_nx (e_ifs_f (S1 := S) (e_b rfl) rfl) (e_seq_nx (e_set rfl) (e_seq_nx (e_for (ds := []) rfl rfl) rfl))), isL_new []⟩
  | int t => intro m S hm hc; obtain ⟨m, rfl⟩ := suc_of (htQ_pos _) hm; exact ⟨_, e_fdef_new (o := .lst (stL [])) (e_seq_nx (e_ifs_f (S1 := S) (e_b rfl) rfl) (e_seq_nx (e_set rfl) (e_seq_nx (e_for (ds := []) rfl rfl) rfl))), isL_new []⟩
  | bl t => intro m S hm hc; obtain ⟨m, rfl⟩ := suc_of (htQ_pos _) hm; exact ⟨_, e_fdef_new (o := .lst (stL [])) (e_seq_nx (e_ifs_f (S1 := S) (e_b rfl) rfl) (e_seq_nx (e_set rfl) (e_seq_nx (e_for (ds := []) rfl rfl) rfl))), isL_new []⟩
  | unit => intro m S hm hc; obtain ⟨m, rfl⟩ := suc_of (htQ_pos _) hm; exact ⟨_, e_fdef_new (o := .lst (stL [])) (e_seq_nx (e_ifs_f (S1 := S) (e_b rfl) rfl) (e_seq_nx (e_set rfl) (e_seq_nx (e_for (ds := []) rfl rfl) rfl))), isL_new []⟩
  | fn a ih =>
    intro m S hm hc
    obtain ⟨m, rfl⟩ := suc_of (htQ_pos _) hm
    simp only [htQ] at hm
    simp only [cntQ] at hc
    have la := frQ_len a
    have q := lfr_turn (m := m) (d := encQ a) (acc := []) (l := frQ a) (w0 := some (.v (encQ (.fn a)))) (w3 := none) (S := S) (by simp; omega) fun S => ih m S (by omega) (by omega)
    exact ⟨_, e_fdef_new (o := .lst (stL (frQ (.fn a)))) (e_seq_nx (e_ifs_f (S1 := S) (e_b rfl) rfl) (e_seq_nx (e_set rfl) (e_seq_nx (e_for (ds := [encQ a]) rfl (Eq.trans (e_for_nx (δ1 := [some (.v (encQ (.fn a))), some (.r S.length), some (.v (encQ a)), none]) (S1 := S ++ [.lst (stL [])]) rfl q) rfl)) rfl))), isL_new _⟩
  | app a b iha ihb =>
    intro m S hm hc
    obtain ⟨m, rfl⟩ := suc_of (htQ_pos _) hm
    simp only [htQ] at hm
    simp only [cntQ] at hc
    have la := frQ_len a
    have lb := frQ_len b
    have lx := extB_len [] (frQ a)
    simp only [List.length_nil] at lx
    have q := lfr_turn (m := m) (d := encQ a) (acc := []) (l := frQ a) (w0 := some (.v (encQ (.app a b)))) (w3 := none) (S := S) (by simp; omega) fun S => iha m S (by omega) (by omega)
    have q2 := lfr_turn (m := m) (d := encQ b) (acc := extB [] (frQ a)) (l := frQ b) (w0 := some (.v (encQ (.app a b)))) (w3 := none) (S := S) (by omega) fun S => ihb m S (by omega) (by omega)
    exact ⟨_, e_fdef_new (o := .lst (stL (frQ (.app a b)))) (e_seq_nx (e_ifs_f (S1 := S) (e_b rfl) rfl) (e_seq_nx (e_set rfl) (e_seq_nx (e_for (ds := [encQ a, encQ b]) rfl (Eq.trans (e_for_nx (δ1 := [some (.v (encQ (.app a b))), some (.r S.length), some (.v (encQ a)), none]) (S1 := S ++ [.lst (stL [])]) rfl q) (Eq.trans (e_for_nx (δ1 := [some (.v (encQ (.app a b))), some (.r S.length), some (.v (encQ b)), none]) (S1 := S ++ [.lst (stL (extB [] (frQ a)))]) rfl q2) rfl))) rfl))), isL_new _⟩
  | lt a b iha ihb =>
    intro m S hm hc
    obtain ⟨m, rfl⟩ := suc_of (htQ_pos _) hm
    simp only [htQ] at hm
    simp only [cntQ] at hc
    have la := frQ_len a
    have lb := frQ_len b
    have lx := extB_len [] (frQ a)
    simp only [List.length_nil] at lx
    have q := lfr_turn (m := m) (d := encQ a) (acc := []) (l := frQ a) (w0 := some (.v (encQ (.lt a b)))) (w3 := none) (S := S) (by simp; omega) fun S => iha m S (by omega) (by omega)
    have q2 := lfr_turn (m := m) (d := encQ b) (acc := extB [] (frQ a)) (l := frQ b) (w0 := some (.v (encQ (.lt a b)))) (w3 := none) (S := S) (by omega) fun S => ihb m S (by omega) (by omega)
    exact ⟨_, e_fdef_new (o := .lst (stL (frQ (.lt a b)))) (e_seq_nx (e_ifs_f (S1 := S) (e_b rfl) rfl) (e_seq_nx (e_set rfl) (e_seq_nx (e_for (ds := [encQ a, encQ b]) rfl (Eq.trans (e_for_nx (δ1 := [some (.v (encQ (.lt a b))), some (.r S.length), some (.v (encQ a)), none]) (S1 := S ++ [.lst (stL [])]) rfl q) (Eq.trans (e_for_nx (δ1 := [some (.v (encQ (.lt a b))), some (.r S.length), some (.v (encQ b)), none]) (S1 := S ++ [.lst (stL (extB [] (frQ a)))]) rfl q2) rfl))) rfl))), isL_new _⟩
  | pr a b iha ihb =>
    intro m S hm hc
    obtain ⟨m, rfl⟩ := suc_of (htQ_pos _) hm
    simp only [htQ] at hm
    simp only [cntQ] at hc
    have la := frQ_len a
    have lb := frQ_len b
    have lx := extB_len [] (frQ a)
    simp only [List.length_nil] at lx
    have q := lfr_turn (m := m) (d := encQ a) (acc := []) (l := frQ a) (w0 := some (.v (encQ (.pr a b)))) (w3 := none) (S := S) (by simp; omega) fun S => iha m S (by omega) (by omega)
    have q2 := lfr_turn (m := m) (d := encQ b) (acc := extB [] (frQ a)) (l := frQ b) (w0 := some (.v (encQ (.pr a b)))) (w3 := none) (S := S) (by omega) fun S => ihb m S (by omega) (by omega)
    exact ⟨_, e_fdef_new (o := .lst (stL (frQ (.pr a b)))) (e_seq_nx (e_ifs_f (S1 := S) (e_b rfl) rfl) (e_seq_nx (e_set rfl) (e_seq_nx (e_for (ds := [encQ a, encQ b]) rfl (Eq.trans (e_for_nx (δ1 := [some (.v (encQ (.pr a b))), some (.r S.length), some (.v (encQ a)), none]) (S1 := S ++ [.lst (stL [])]) rfl q) (Eq.trans (e_for_nx (δ1 := [some (.v (encQ (.pr a b))), some (.r S.length), some (.v (encQ b)), none]) (S1 := S ++ [.lst (stL (extB [] (frQ a)))]) rfl q2) rfl))) rfl))), isL_new _⟩
end Fro

/-! names, heights and free names of bare terms (no program in sight) -/
namespace Fro
open PySem PySem.Spec L2
def frP (t : Tx) : Qb → Prop
  | .fr u => t = u
  | .fn a => frP t a
  | .app a b => frP t a ∨ frP t b
  | .lt a b => frP t a ∨ frP t b
  | .pr a b => frP t a ∨ frP t b
  | _ => False
theorem fr_in (t : Tx) : ∀ (e : B) (G : List Tx), frP t (inB G e) ↔ Fv t e ∧ t ∉ G
  | .int _, _ => by simp [inB, frP, Fv]
  | .bl _, _ => by simp [inB, frP, Fv]
  | .unit, _ => by simp [inB, frP, Fv]
  | .nm u, G => by
    unfold inB
    by_cases h : u ∈ G
    · rw [if_pos h]
      simp only [frP, Fv]
      constructor
      · exact fun z => z.elim
      · rintro ⟨rfl, z⟩; exact z h
    · rw [if_neg h]
      simp only [frP, Fv]
      constructor
      · rintro rfl; exact ⟨rfl, h⟩
      · exact fun z => z.1
  | .fn x a, G => by
    simp only [inB, frP, Fv, fr_in t a, List.mem_cons, not_or]
    constructor
    · rintro ⟨h1, h2, h3⟩; exact ⟨⟨h2, h1⟩, h3⟩
    · rintro ⟨⟨h2, h1⟩, h3⟩; exact ⟨h1, h2, h3⟩
  | .app a b, G => by simp only [inB, frP, Fv, fr_in t a, fr_in t b, or_and_right]
  | .pr a b, G => by simp only [inB, frP, Fv, fr_in t a, fr_in t b, or_and_right]
  | .lt x a b, G => by
    simp only [inB, frP, Fv, fr_in t a, fr_in t b, List.mem_cons, not_or, or_and_right]
    constructor
    · rintro (h | ⟨h1, h2, h3⟩)
      · exact .inl h
      · exact .inr ⟨⟨h2, h1⟩, h3⟩
    · rintro (h | ⟨⟨h2, h1⟩, h3⟩)
      · exact .inl h
      · exact .inr ⟨h1, h2, h3⟩
theorem fr_lift (t : Tx) (k : Nat) : ∀ (q : Qb) (l : Nat), frP t (liftB k l q) ↔ frP t q
  | .bd n, l => by unfold liftB; split <;> exact Iff.rfl
  | .fr _, _ => Iff.rfl
  | .int _, _ => Iff.rfl
  | .bl _, _ => Iff.rfl
  | .unit, _ => Iff.rfl
  | .fn a, l => by simp only [liftB, frP, fr_lift t k a]
  | .app a b, l => by simp only [liftB, frP, fr_lift t k a, fr_lift t k b]
  | .lt a b, l => by simp only [liftB, frP, fr_lift t k a, fr_lift t k b]
  | .pr a b, l => by simp only [liftB, frP, fr_lift t k a, fr_lift t k b]
theorem fr_put (t : Tx) (o : Qb) : ∀ (q : Qb) (d : Nat), frP t (putB o d q) → frP t q ∨ frP t o
  | .bd n, d, h => by
    unfold putB at h
    split at h
    · exact .inr ((fr_lift t d o 0).mp h)
    · split at h <;> exact h.elim
  | .fr _, _, h => .inl h
  | .int _, _, h => .inl h
  | .bl _, _, h => .inl h
  | .unit, _, h => .inl h
  | .fn a, d, h => fr_put t o a (d + 1) h
  | .app a b, d, h => by
    rcases h with h | h
    · exact (fr_put t o a d h).imp .inl id
    · exact (fr_put t o b d h).imp .inr id
  | .lt a b, d, h => by
    rcases h with h | h
    · exact (fr_put t o a d h).imp .inl id
    · exact (fr_put t o b (d + 1) h).imp .inr id
  | .pr a b, d, h => by
    rcases h with h | h
    · exact (fr_put t o a d h).imp .inl id
    · exact (fr_put t o b d h).imp .inr id
theorem fr_without (t : Tx) : ∀ q : Qb, frP t (withoutQ q) → frP t q
  | .bd n, h => h
  | .fr _, h => h
  | .int _, h => h
  | .bl _, h => h
  | .unit, h => h
  | .fn a, h => fr_without t a h
  | .app a b, h => h.imp (fr_without t a) (fr_without t b)
  | .pr a b, h => h.imp (fr_without t a) (fr_without t b)
  | .lt a b, h => ((fr_put t _ _ 0 h).imp (fr_without t b) (fr_without t a)).symm
theorem mem_frQ (t : Tx) : ∀ q : Qb, t ∈ frQ q ↔ frP t q
  | .bd n => by simp [frQ, frP]
  | .fr _ => by simp [frQ, frP]
  | .int _ => by simp [frQ, frP]
  | .bl _ => by simp [frQ, frP]
  | .unit => by simp [frQ, frP]
  | .fn a => by simp [frQ, frP, mem_extB, mem_frQ t a]
  | .app a b => by simp [frQ, frP, mem_extB, mem_frQ t a, mem_frQ t b]
  | .lt a b => by simp [frQ, frP, mem_extB, mem_frQ t a, mem_frQ t b]
  | .pr a b => by simp [frQ, frP, mem_extB, mem_frQ t a, mem_frQ t b]
/-! heights -/
theorem ht_in : ∀ (e : B) (G : List Tx), htQ (inB G e) = htB e
  | .nm t, G => by unfold inB; split <;> rfl
  | .int _, _ => rfl
  | .bl _, _ => rfl
  | .unit, _ => rfl
  | .fn x a, G => by simp only [inB, htQ, htB, ht_in a]
  | .app a b, G => by simp only [inB, htQ, htB, ht_in a, ht_in b]
  | .lt x a b, G => by simp only [inB, htQ, htB, ht_in a, ht_in b]
  | .pr a b, G => by simp only [inB, htQ, htB, ht_in a, ht_in b]
theorem cnt_in : ∀ (e : B) (G : List Tx), cntQ (inB G e) = szB e
  | .nm t, G => by unfold inB; split <;> rfl
  | .int _, _ => rfl
  | .bl _, _ => rfl
  | .unit, _ => rfl
  | .fn x a, G => by simp only [inB, cntQ, szB, cnt_in a]
  | .app a b, G => by simp only [inB, cntQ, szB, cnt_in a, cnt_in b]
  | .lt x a b, G => by simp only [inB, cntQ, szB, cnt_in a, cnt_in b]
  | .pr a b, G => by simp only [inB, cntQ, szB, cnt_in a, cnt_in b]
/-- how deep exchanged goes: two calls a binder -/
def dpB : B → Nat
  | .fn _ a => dpB a + 2
  | .app a b => max (dpB a) (dpB b) + 1
  | .lt _ a b => max (dpB a) (dpB b) + 2
  | .pr a b => max (dpB a) (dpB b) + 1
  | _ => 1
theorem dpB_pos (k : B) : 1 ≤ dpB k := by cases k <;> simp [dpB]
theorem dp_ht : ∀ e : B, dpB e ≤ 2 * htB e
  | .nm t => by simp [dpB, htB]
  | .int _ => by simp [dpB, htB]
  | .bl _ => by simp [dpB, htB]
  | .unit => by simp [dpB, htB]
  | .fn x a => by have := dp_ht a; simp only [dpB, htB]; omega
  | .app a b => by have := dp_ht a; have := dp_ht b; simp only [dpB, htB]; omega
  | .lt x a b => by have := dp_ht a; have := dp_ht b; simp only [dpB, htB]; omega
  | .pr a b => by have := dp_ht a; have := dp_ht b; simp only [dpB, htB]; omega
theorem dp_name : ∀ (n : Nat) (e : B) (x z : Tx) (fs : List Tx), dpB (exB n e x (.nm z) fs) = dpB e ∧ htB (exB n e x (.nm z) fs) = htB e
  | 0, _, _, _, _ => ⟨rfl, rfl⟩
  | n + 1, .nm t, x, z, fs => by unfold exB; split <;> exact ⟨rfl, rfl⟩
  | n + 1, .int i, _, _, _ => ⟨rfl, rfl⟩
  | n + 1, .bl b, _, _, _ => ⟨rfl, rfl⟩
  | n + 1, .unit, _, _, _ => ⟨rfl, rfl⟩
  | n + 1, .app a b, x, z, fs => by
    simp only [exB, dpB, htB, (dp_name n a x z fs).1, (dp_name n b x z fs).1, (dp_name n a x z fs).2, (dp_name n b x z fs).2, and_self]
  | n + 1, .pr a b, x, z, fs => by
    simp only [exB, dpB, htB, (dp_name n a x z fs).1, (dp_name n b x z fs).1, (dp_name n a x z fs).2, (dp_name n b x z fs).2, and_self]
  | n + 1, .fn y b, x, z, fs => by
    unfold exB
    split
    · split
      · constructor
        · simp only [dpB, (dp_name n _ _ _ _).1]
        · simp only [htB, (dp_name n _ _ _ _).2]
      · constructor
        · simp only [dpB, (dp_name n _ _ _ _).1]
        · simp only [htB, (dp_name n _ _ _ _).2]
    · exact ⟨rfl, rfl⟩
  | n + 1, .lt y a b, x, z, fs => by
    unfold exB
    split
    · split
      · constructor
        · simp only [dpB, (dp_name n _ _ _ _).1]
        · simp only [htB, (dp_name n _ _ _ _).2]
      · constructor
        · simp only [dpB, (dp_name n _ _ _ _).1]
        · simp only [htB, (dp_name n _ _ _ _).2]
    · constructor
      · simp only [dpB, (dp_name n _ _ _ _).1]
      · simp only [htB, (dp_name n _ _ _ _).2]
/-! all names -/
def allB (P : Tx → Prop) : B → Prop
  | .nm t => P t
  | .int _ => True
  | .bl _ => True
  | .unit => True
  | .fn x a => P x ∧ allB P a
  | .app a b => allB P a ∧ allB P b
  | .lt x a b => P x ∧ allB P a ∧ allB P b
  | .pr a b => allB P a ∧ allB P b
theorem allB.mono {P Q : Tx → Prop} (w : ∀ t, P t → Q t) : ∀ {e : B}, allB P e → allB Q e
  | .nm _, h => w _ h
  | .int _, h => h
  | .bl _, h => h
  | .unit, h => h
  | .fn _ _, h => ⟨w _ h.1, allB.mono w h.2⟩
  | .app _ _, h => ⟨allB.mono w h.1, allB.mono w h.2⟩
  | .lt _ _ _, h => ⟨w _ h.1, allB.mono w h.2.1, allB.mono w h.2.2⟩
  | .pr _ _, h => ⟨allB.mono w h.1, allB.mono w h.2⟩
abbrev okB : B → Prop := allB fun t => okT t = true
theorem okT_firstQ : ∀ (n : Nat) (t : Tx) (l : List Tx), okT t = true → okT (firstQ n t l) = true
  | 0, _, _, h => h
  | n + 1, t, l, h => by
    unfold firstQ
    split
    · refine okT_firstQ n _ l ?_
      unfold okT at h ⊢
      rw [List.all_append, h]
      rfl
    · exact h
theorem okT_newQ (l : List Tx) : okT (newQ l) = true := okT_firstQ _ _ _ (by decide)
theorem ok_ex : ∀ (n : Nat) (e : B) (x : Tx) (o : B) (fs : List Tx), okB e → okB o → okB (exB n e x o fs)
  | 0, _, _, _, _, h, _ => h
  | n + 1, .nm t, x, o, fs, h, ho => by
    unfold exB
    split
    · exact ho
    · exact h
  | n + 1, .int i, _, _, _, h, _ => h
  | n + 1, .bl b, _, _, _, h, _ => h
  | n + 1, .unit, _, _, _, h, _ => h
  | n + 1, .app a b, x, o, fs, h, ho => ⟨ok_ex n a x o fs h.1 ho, ok_ex n b x o fs h.2 ho⟩
  | n + 1, .pr a b, x, o, fs, h, ho => ⟨ok_ex n a x o fs h.1 ho, ok_ex n b x o fs h.2 ho⟩
  | n + 1, .fn y b, x, o, fs, h, ho => by
    unfold exB
    split
    · split
      · exact ⟨okT_newQ _, ok_ex n _ x o fs (ok_ex n b y _ _ h.2 (okT_newQ _)) ho⟩
      · exact ⟨h.1, ok_ex n b x o fs h.2 ho⟩
    · exact h
  | n + 1, .lt y a b, x, o, fs, h, ho => by
    unfold exB
    split
    · split
      · exact ⟨okT_newQ _, ok_ex n a x o fs h.2.1 ho, ok_ex n _ x o fs (ok_ex n b y _ _ h.2.2 (okT_newQ _)) ho⟩
      · exact ⟨h.1, ok_ex n a x o fs h.2.1 ho, ok_ex n b x o fs h.2.2 ho⟩
    · exact ⟨h.1, ok_ex n a x o fs h.2.1 ho, h.2.2⟩
theorem ok_without : ∀ e : B, okB e → okB (withoutB e)
  | .nm _, h => h
  | .int _, h => h
  | .bl _, h => h
  | .unit, h => h
  | .fn _ a, h => ⟨h.1, ok_without a h.2⟩
  | .app a b, h => ⟨ok_without a h.1, ok_without b h.2⟩
  | .lt _ a b, h => ok_ex _ _ _ _ _ (ok_without b h.2.2) (ok_without a h.2.1)
  | .pr a b, h => ⟨ok_without a h.1, ok_without b h.2⟩
/-! how many free names -/
theorem nd_ext {f i : List Tx} (hf : f.Nodup) (hi : i.Nodup) : (extB f i).Nodup := by
  unfold extB
  refine List.nodup_append.mpr ⟨hf, hi.filter _, fun a ha b hb e => ?_⟩
  subst e
  have := (List.mem_filter.mp hb).2
  exact (of_decide_eq_true this) ha
theorem nd_free : ∀ e : B, (freeB e).Nodup
  | .nm t => by simp [freeB]
  | .int _ => by simp [freeB]
  | .bl _ => by simp [freeB]
  | .unit => by simp [freeB]
  | .fn x a => nd_ext List.nodup_nil ((nd_free a).filter _)
  | .app a b => nd_ext (nd_ext List.nodup_nil (nd_free a)) (nd_free b)
  | .lt x a b => nd_ext (nd_ext List.nodup_nil (nd_free a)) ((nd_free b).filter _)
  | .pr a b => nd_ext (nd_ext List.nodup_nil (nd_free a)) (nd_free b)
abbrev nf (e : B) : Nat := (freeB e).length
theorem nf_le {a : B} {l : List Tx} (h : ∀ t, Fv t a → t ∈ l) : nf a ≤ l.length := (nd_free a).length_le_of_subset fun t ht => h t ((mem_freeB a).mp ht)
theorem nf_sub {a b : B} (h : ∀ t, Fv t a → Fv t b) : nf a ≤ nf b := nf_le fun t ht => (mem_freeB b).mpr (h t ht)
theorem nf_sub1 {a b : B} {x : Tx} (h : ∀ t, Fv t a → Fv t b ∨ t = x) : nf a ≤ nf b + 1 := by
  have := nf_le (a := a) (l := freeB b ++ [x]) fun t ht => List.mem_append.mpr ((h t ht).imp (mem_freeB b).mpr fun z => by simp [z])
  rwa [List.length_append] at this
theorem nf_sz : ∀ e : B, nf e ≤ szB e
  | .nm t => by simp [nf, freeB, szB]
  | .int _ => by simp [nf, freeB, szB]
  | .bl _ => by simp [nf, freeB, szB]
  | .unit => by simp [nf, freeB, szB]
  | .fn x a => by
    have h1 := nf_sz a
    have h2 := nf_sub (a := .fn x a) (b := a) fun t h => h.2
    simp only [szB]; omega
  | .app a b => by
    have h1 := nf_sz a; have h2 := nf_sz b
    have h3 := nf_le (a := .app a b) (l := freeB a ++ freeB b) fun t h => List.mem_append.mpr (h.imp (mem_freeB a).mpr (mem_freeB b).mpr)
    rw [List.length_append] at h3
    simp only [szB]; unfold nf at h1 h2; omega
  | .lt x a b => by
    have h1 := nf_sz a; have h2 := nf_sz b
    have h3 := nf_le (a := .lt x a b) (l := freeB a ++ freeB b) fun t h => List.mem_append.mpr (h.imp (mem_freeB a).mpr fun z => (mem_freeB b).mpr z.2)
    rw [List.length_append] at h3
    simp only [szB]; unfold nf at h1 h2; omega
  | .pr a b => by
    have h1 := nf_sz a; have h2 := nf_sz b
    have h3 := nf_le (a := .pr a b) (l := freeB a ++ freeB b) fun t h => List.mem_append.mpr (h.imp (mem_freeB a).mpr (mem_freeB b).mpr)
    rw [List.length_append] at h3
    simp only [szB]; unfold nf at h1 h2; omega
theorem nf_fn (x : Tx) (a : B) : nf a ≤ nf (.fn x a) + 1 := nf_sub1 (x := x) fun t h => by
  by_cases z : t = x
  · exact .inr z
  · exact .inl ⟨z, h⟩
theorem nf_appl (a b : B) : nf a ≤ nf (.app a b) := nf_sub fun t h => .inl h
theorem nf_appr (a b : B) : nf b ≤ nf (.app a b) := nf_sub fun t h => .inr h
theorem nf_prl (a b : B) : nf a ≤ nf (.pr a b) := nf_sub fun t h => .inl h
theorem nf_prr (a b : B) : nf b ≤ nf (.pr a b) := nf_sub fun t h => .inr h
theorem nf_ltl (x : Tx) (a b : B) : nf a ≤ nf (.lt x a b) := nf_sub fun t h => .inl h
theorem nf_ltr (x : Tx) (a b : B) : nf b ≤ nf (.lt x a b) + 1 := nf_sub1 (x := x) fun t h => by
  by_cases z : t = x
  · exact .inr z
  · exact .inl (.inr ⟨z, h⟩)
theorem fv_ex {n : Nat} {e : B} {x : Tx} {o : B} {fs : List Tx} {t : Tx} (h : szB e ≤ n) (hf : ∀ t, Fv t o → t ∈ fs) (ht : Fv t (exB n e x o fs)) : (Fv t e ∧ t ≠ x) ∨ Fv t o := by
  have q := ex_in newQ_not n e x o fs [] [] h hf (by simp) (by simp)
  simp only [List.nil_append, List.length_nil] at q
  have p := (fr_in t (exB n e x o fs) []).mpr ⟨ht, by simp⟩
  rw [q] at p
  rcases fr_put t _ _ _ p with z | z
  · have := (fr_in t e [x]).mp z
    exact .inl ⟨this.1, by simpa using this.2⟩
  · exact .inr ((fr_in t o []).mp z).1
theorem nf_ex1 {n : Nat} {e : B} {x z : Tx} (h : szB e ≤ n) : nf (exB n e x (.nm z) [z]) ≤ nf e + 1 := nf_sub1 (x := z) fun t ht => by
  rcases fv_ex h (fun t h => by simp [Fv] at h; simp [h]) ht with g | g
  · exact .inl g.1
  · exact .inr g
theorem nf_without (e : B) : nf (withoutB e) ≤ nf e := nf_sub fun t h => by
  have p := (fr_in t (withoutB e) []).mpr ⟨h, by simp⟩
  rw [without_in newQ_not] at p
  exact ((fr_in t e []).mp (fr_without t _ p)).1
theorem ht_withoutB (e : B) : htB (withoutB e) ≤ szB e := by
  have := ht_without (inB [] e)
  rw [← without_in newQ_not, ht_in, cnt_in] at this
  exact this
/-- free names and height together -/
theorem nfht_without : ∀ q : Qb, (frQ (withoutQ q)).length + htQ (withoutQ q) ≤ cntQ q + 1 := by
  have nd : ∀ q : Qb, (frQ q).Nodup := by
    intro q
    induction q with
    | fr t => simp [frQ]
    | bd _ => simp [frQ]
    | int _ => simp [frQ]
    | bl _ => simp [frQ]
    | unit => simp [frQ]
    | fn a ih => exact nd_ext List.nodup_nil ih
    | app a b iha ihb => exact nd_ext (nd_ext List.nodup_nil iha) ihb
    | lt a b iha ihb => exact nd_ext (nd_ext List.nodup_nil iha) ihb
    | pr a b iha ihb => exact nd_ext (nd_ext List.nodup_nil iha) ihb
  intro q
  induction q with
  | fr t => simp [withoutQ, frQ, htQ, cntQ]
  | bd _ => simp [withoutQ, frQ, htQ, cntQ]
  | int _ => simp [withoutQ, frQ, htQ, cntQ]
  | bl _ => simp [withoutQ, frQ, htQ, cntQ]
  | unit => simp [withoutQ, frQ, htQ, cntQ]
  | fn a ih =>
    have h := extB_len [] (frQ (withoutQ a))
    simp only [List.length_nil] at h
    simp only [withoutQ, frQ, htQ, cntQ]; omega
  | app a b iha ihb =>
    have h := extB_len [] (frQ (withoutQ a))
    have h2 := extB_len (extB [] (frQ (withoutQ a))) (frQ (withoutQ b))
    have p1 := htQ_pos (withoutQ a); have p2 := htQ_pos (withoutQ b)
    simp only [List.length_nil] at h
    simp only [withoutQ, frQ, htQ, cntQ]; omega
  | pr a b iha ihb =>
    have h := extB_len [] (frQ (withoutQ a))
    have h2 := extB_len (extB [] (frQ (withoutQ a))) (frQ (withoutQ b))
    have p1 := htQ_pos (withoutQ a); have p2 := htQ_pos (withoutQ b)
    simp only [List.length_nil] at h
    simp only [withoutQ, frQ, htQ, cntQ]; omega
  | lt a b iha ihb =>
    have h := (nd (putB (withoutQ a) 0 (withoutQ b))).length_le_of_subset (l₂ := frQ (withoutQ b) ++ frQ (withoutQ a)) fun t ht => by
      rcases fr_put t _ _ _ ((mem_frQ t _).mp ht) with z | z
      · exact List.mem_append_left _ ((mem_frQ t _).mpr z)
      · exact List.mem_append_right _ ((mem_frQ t _).mpr z)
    have h2 := ht_put (withoutQ a) (withoutQ b) 0
    rw [List.length_append] at h
    simp only [withoutQ, cntQ]; omega
end Fro

namespace Fro
open PySem PySem.Spec L2
/-! the program's free names -/
theorem ne_comp {d0 : D} {w1 w2 w4 : Option W} {l : List Tx} {x : Tx} {S : Sto} (h0 : gIx d0 (.int 1) = some (.str x)) (hx : okT x = true) (hl : ∀ t ∈ l, okT t = true) (hn : l.length ≤ 100000) :
    cComp (itL (cVar 3)) (gN 4) (cB (op2 gNe (cVar 4) (cIx (cVar 0) (cC (.int 1))))) (cVar 4) [4] [some (.v d0), w1, w2, some (.v (.lst (stL l))), w4] S = .ok (.v (.lst (stL (l.filter fun n => decide (n ≠ x))))) S := by
  have q := comp_ev (it := itL (cVar 3)) (dg := gN 4) (tt := cB (op2 gNe (cVar 4) (cIx (cVar 0) (cC (.int 1))))) (te := cVar 4) (vs := [4]) (δ := [some (.v d0), w1, w2, some (.v (.lst (stL l))), w4]) (S := S) (S1 := S) (ds := stL l) (flt fun n => decide (n ≠ x)) (e_itL rfl) (by rw [stL_length]; omega) (fun d hd acc2 => by
      obtain ⟨t, ht, rfl⟩ := List.mem_map.mp hd
      refine ⟨_, rfl, ?_⟩
      have hb : (cB (op2 gNe (cVar 4) (cIx (cVar 0) (cC (.int 1))))) [some (.v d0), w1, w2, some (.v (.lst (stL l))), some (.v (.str t))] (S ++ [.lst acc2]) = .ok (!decide (t = x)) (S ++ [.lst acc2]) :=
        e_b (e_op2v (d := .str t) (e := .str x) rfl (e_ix (d := d0) (e := .int 1) rfl rfl h0) (v_neS (hl t ht) hx))
      by_cases hx : t = x
      · rw [show flt (fun n => decide (n ≠ x)) (.str t) = none from if_neg (by simp [hx])]
        rw [decide_eq_true hx] at hb
        exact hb
      · rw [show flt (fun n => decide (n ≠ x)) (.str t) = some (.str t) from if_pos (by simp [hx])]
        rw [decide_eq_false hx] at hb
        exact ⟨hb, rfl⟩)
  rw [filter_stL] at q
  exact q
theorem fn_turn {m : Nat} {d0 d : D} {k : Int} {acc l : List Tx} {w3 w4 : Option W} {S : Sto} (h0 : gIx d0 (.int k) = some d) (hl : acc.length + l.length ≤ 100000) (e : ∀ S, ∃ rv, f_free_names m [.v d] S = .ok rv S ∧ IsL rv l)
    (ht : ∀ w3 S, (cOr (cB (op2 gEq (cIx (cVar 0) (cC (.int 0))) (cC (.str [102, 117, 110])))) (cAnd (cB (op2 gEq (cIx (cVar 0) (cC (.int 0))) (cC (.str [108, 101, 116])))) (cB (op2 gEq (cVar 2) (cC (.int 3)))))) [some (.v d0), some (.r S.length), some (.v (.int k)), w3, w4] (S ++ [.lst (stL acc)]) = .ok false (S ++ [.lst (stL acc)])) :
    l1_free_names (f_free_names m) [some (.v d0), some (.r S.length), some (.v (.int k)), w3, w4] (S ++ [.lst (stL acc)]) = .nx [some (.v d0), some (.r S.length), some (.v (.int k)), some (.v (.lst (stL l))), w4] (S ++ [.lst (stL (extB acc l))]) := by
  obtain ⟨rv, e1, e2⟩ := e (S ++ [.lst (stL acc)])
  refine e_seq_nx (δ' := [some (.v d0), some (.r S.length), some (.v (.int k)), some (.v (.lst (stL l))), w4]) (e_set (e_call (ws := [.v d]) (e_cons (e_ix (d := d0) (e := .int k) rfl rfl h0) rfl) rfl e1 (e2 _))) (e_seq_nx (e_ifs_f (ht _ S) rfl) ?_)
  exact ext_turn (i := 1) (j := 4) (δ := [some (.v d0), some (.r S.length), some (.v (.int k)), some (.v (.lst (stL l))), w4]) rfl rfl (by decide) (by simp) hl
theorem fn_turnx {m : Nat} {d0 d : D} {k : Int} {x : Tx} {acc l : List Tx} {w3 w4 : Option W} {S : Sto} (h0 : gIx d0 (.int k) = some d) (h1 : gIx d0 (.int 1) = some (.str x)) (hx : okT x = true) (hk : ∀ t ∈ l, okT t = true) (hl : acc.length + l.length ≤ 100000) (e : ∀ S, ∃ rv, f_free_names m [.v d] S = .ok rv S ∧ IsL rv l)
    (ht : ∀ w3 S, (cOr (cB (op2 gEq (cIx (cVar 0) (cC (.int 0))) (cC (.str [102, 117, 110])))) (cAnd (cB (op2 gEq (cIx (cVar 0) (cC (.int 0))) (cC (.str [108, 101, 116])))) (cB (op2 gEq (cVar 2) (cC (.int 3)))))) [some (.v d0), some (.r S.length), some (.v (.int k)), w3, w4] (S ++ [.lst (stL acc)]) = .ok true (S ++ [.lst (stL acc)])) :
    l1_free_names (f_free_names m) [some (.v d0), some (.r S.length), some (.v (.int k)), w3, w4] (S ++ [.lst (stL acc)]) = .nx [some (.v d0), some (.r S.length), some (.v (.int k)), some (.v (.lst (stL (l.filter fun n => decide (n ≠ x))))), w4] (S ++ [.lst (stL (extB acc (l.filter fun n => decide (n ≠ x))))]) := by
  obtain ⟨rv, e1, e2⟩ := e (S ++ [.lst (stL acc)])
  have hf := List.length_filter_le (fun n => decide (n ≠ x)) l
  refine e_seq_nx (δ' := [some (.v d0), some (.r S.length), some (.v (.int k)), some (.v (.lst (stL l))), w4]) (e_set (e_call (ws := [.v d]) (e_cons (e_ix (d := d0) (e := .int k) rfl rfl h0) rfl) rfl e1 (e2 _))) (e_seq_nx (δ' := [some (.v d0), some (.r S.length), some (.v (.int k)), some (.v (.lst (stL (l.filter fun n => decide (n ≠ x))))), w4]) (e_ifs_t (ht _ S) (e_set (ne_comp h1 hx hk (by omega)))) ?_)
  exact ext_turn (i := 1) (j := 4) (δ := [some (.v d0), some (.r S.length), some (.v (.int k)), some (.v (.lst (stL (l.filter fun n => decide (n ≠ x))))), w4]) rfl rfl (by decide) (by simp) (by omega)
theorem okB_free : ∀ {P : Tx → Prop} (e : B), allB P e → ∀ t ∈ freeB e, P t := by
  intro P e h t ht
  have ht := (mem_freeB e).mp ht
  induction e with
  | nm u => cases ht; exact h
  | int _ => cases ht
  | bl _ => cases ht
  | unit => cases ht
  | fn x a ih => exact ih h.2 ((mem_freeB a).mpr ht.2) ht.2
  | app a b iha ihb => exact ht.elim (fun z => iha h.1 ((mem_freeB a).mpr z) z) fun z => ihb h.2 ((mem_freeB b).mpr z) z
  | pr a b iha ihb => exact ht.elim (fun z => iha h.1 ((mem_freeB a).mpr z) z) fun z => ihb h.2 ((mem_freeB b).mpr z) z
  | lt x a b iha ihb => exact ht.elim (fun z => iha h.2.1 ((mem_freeB a).mpr z) z) fun z => ihb h.2.2 ((mem_freeB b).mpr z.2) z.2
theorem free_ev : ∀ (e : B) (m : Nat) (S : Sto), okB e → htB e ≤ m → nf e + htB e ≤ 1000 → ∃ rv, f_free_names m [.v (encB e)] S = .ok rv S ∧ IsL rv (freeB e) := by
  intro e
  induction e with
  | nm t =>
    intro m S ho hm hc; obtain ⟨m, rfl⟩ := suc_of (htB_pos _) hm
    exact ⟨_, e_fdef_v (d := .lst (stL [t])) (e_seq_rt (e_ifs_t (S1 := S) (e_b rfl) (e_ret rfl))), isL_v [t]⟩
  | int t => intro m S ho hm hc; obtain ⟨m, rfl⟩ := suc_of (htB_pos _) hm; exact ⟨_, e_fdef_new (o := .lst (stL [])) (e_seq_nx (e_ifs_f (S1 := S) (e_b rfl) rfl) (e_seq_nx (e_set rfl) (e_seq_nx (e_for (ds := []) rfl rfl) rfl))), isL_new []⟩
  | bl t => intro m S ho hm hc; obtain ⟨m, rfl⟩ := suc_of (htB_pos _) hm; exact ⟨_, e_fdef_new (o := .lst (stL [])) (e_seq_nx (e_ifs_f (S1 := S) (e_b rfl) rfl) (e_seq_nx (e_set rfl) (e_seq_nx (e_for (ds := []) rfl rfl) rfl))), isL_new []⟩
  | unit => intro m S ho hm hc; obtain ⟨m, rfl⟩ := suc_of (htB_pos _) hm; exact ⟨_, e_fdef_new (o := .lst (stL [])) (e_seq_nx (e_ifs_f (S1 := S) (e_b rfl) rfl) (e_seq_nx (e_set rfl) (e_seq_nx (e_for (ds := []) rfl rfl) rfl))), isL_new []⟩
  | fn x a ih =>
    intro m S ho hm hc
    obtain ⟨m, rfl⟩ := suc_of (htB_pos _) hm
    simp only [htB] at hm hc
    have la := nf_fn x a
    have ka : (freeB a).length = nf a := rfl
    have q := fn_turnx (m := m) (d0 := encB (.fn x a)) (d := encB a) (k := 2) (x := x) (acc := []) (l := freeB a) (w3 := none) (w4 := none) (S := S) rfl rfl ho.1 (okB_free a ho.2) (by simp; omega) (fun S => ih m S ho.2 (by omega) (by omega)) fun _ _ => e_or_t (e_b rfl)
    exact ⟨_, e_fdef_new (o := .lst (stL (freeB (.fn x a)))) (e_seq_nx (e_ifs_f (S1 := S) (e_b rfl) rfl) (e_seq_nx (e_set rfl) (e_seq_nx (e_for (ds := [.int 2]) rfl (Eq.trans (e_for_nx (δ1 := [some (.v (encB (.fn x a))), some (.r S.length), some (.v (.int 2)), none, none]) (S1 := S ++ [.lst (stL [])]) rfl q) rfl)) rfl))), isL_new _⟩
  | app a b iha ihb =>
    intro m S ho hm hc
    obtain ⟨m, rfl⟩ := suc_of (htB_pos _) hm
    simp only [htB] at hm hc
    have la := nf_appl a b
    have lb := nf_appr a b
    have ka : (freeB a).length = nf a := rfl
    have kb : (freeB b).length = nf b := rfl
    have lx := extB_len [] (freeB a)
    simp only [List.length_nil] at lx
    have q := fn_turn (m := m) (d0 := encB (.app a b)) (d := encB a) (k := 1) (acc := []) (l := freeB a) (w3 := none) (w4 := none) (S := S) rfl (by simp; omega) (fun S => iha m S ho.1 (by omega) (by omega)) fun _ _ => e_or_f (e_b rfl) (e_and_f (e_b rfl))
    have q2 := fn_turn (m := m) (d0 := encB (.app a b)) (d := encB b) (k := 2) (acc := extB [] (freeB a)) (l := freeB b) (w3 := some (.v (.lst (stL (freeB a))))) (w4 := none) (S := S) rfl (by omega) (fun S => ihb m S ho.2 (by omega) (by omega)) fun _ _ => e_or_f (e_b rfl) (e_and_f (e_b rfl))
    exact ⟨_, e_fdef_new (o := .lst (stL (freeB (.app a b)))) (e_seq_nx (e_ifs_f (S1 := S) (e_b rfl) rfl) (e_seq_nx (e_set rfl) (e_seq_nx (e_for (ds := [.int 1, .int 2]) rfl (Eq.trans (e_for_nx (δ1 := [some (.v (encB (.app a b))), some (.r S.length), some (.v (.int 1)), none, none]) (S1 := S ++ [.lst (stL [])]) rfl q) (Eq.trans (e_for_nx (δ1 := [some (.v (encB (.app a b))), some (.r S.length), some (.v (.int 2)), some (.v (.lst (stL (freeB a)))), none]) (S1 := S ++ [.lst (stL (extB [] (freeB a)))]) rfl q2) rfl))) rfl))), isL_new _⟩
  | pr a b iha ihb =>
    intro m S ho hm hc
    obtain ⟨m, rfl⟩ := suc_of (htB_pos _) hm
    simp only [htB] at hm hc
    have la := nf_prl a b
    have lb := nf_prr a b
    have ka : (freeB a).length = nf a := rfl
    have kb : (freeB b).length = nf b := rfl
    have lx := extB_len [] (freeB a)
    simp only [List.length_nil] at lx
    have q := fn_turn (m := m) (d0 := encB (.pr a b)) (d := encB a) (k := 1) (acc := []) (l := freeB a) (w3 := none) (w4 := none) (S := S) rfl (by simp; omega) (fun S => iha m S ho.1 (by omega) (by omega)) fun _ _ => e_or_f (e_b rfl) (e_and_f (e_b rfl))
    have q2 := fn_turn (m := m) (d0 := encB (.pr a b)) (d := encB b) (k := 2) (acc := extB [] (freeB a)) (l := freeB b) (w3 := some (.v (.lst (stL (freeB a))))) (w4 := none) (S := S) rfl (by omega) (fun S => ihb m S ho.2 (by omega) (by omega)) fun _ _ => e_or_f (e_b rfl) (e_and_f (e_b rfl))
    exact ⟨_, e_fdef_new (o := .lst (stL (freeB (.pr a b)))) (e_seq_nx (e_ifs_f (S1 := S) (e_b rfl) rfl) (e_seq_nx (e_set rfl) (e_seq_nx (e_for (ds := [.int 1, .int 2]) rfl (Eq.trans (e_for_nx (δ1 := [some (.v (encB (.pr a b))), some (.r S.length), some (.v (.int 1)), none, none]) (S1 := S ++ [.lst (stL [])]) rfl q) (Eq.trans (e_for_nx (δ1 := [some (.v (encB (.pr a b))), some (.r S.length), some (.v (.int 2)), some (.v (.lst (stL (freeB a)))), none]) (S1 := S ++ [.lst (stL (extB [] (freeB a)))]) rfl q2) rfl))) rfl))), isL_new _⟩
  | lt x a b iha ihb =>
    intro m S ho hm hc
    obtain ⟨m, rfl⟩ := suc_of (htB_pos _) hm
    simp only [htB] at hm hc
    have la := nf_ltl x a b
    have lb := nf_ltr x a b
    have ka : (freeB a).length = nf a := rfl
    have kb : (freeB b).length = nf b := rfl
    have lx := extB_len [] (freeB a)
    simp only [List.length_nil] at lx
    have q := fn_turn (m := m) (d0 := encB (.lt x a b)) (d := encB a) (k := 2) (acc := []) (l := freeB a) (w3 := none) (w4 := none) (S := S) rfl (by simp; omega) (fun S => iha m S ho.2.1 (by omega) (by omega)) fun _ _ => e_or_f (e_b rfl) (e_and_t (e_b rfl) (e_b rfl))
    have q2 := fn_turnx (m := m) (d0 := encB (.lt x a b)) (d := encB b) (k := 3) (x := x) (acc := extB [] (freeB a)) (l := freeB b) (w3 := some (.v (.lst (stL (freeB a))))) (w4 := none) (S := S) rfl rfl ho.1 (okB_free b ho.2.2) (by omega) (fun S => ihb m S ho.2.2 (by omega) (by omega)) fun _ _ => e_or_f (e_b rfl) (e_and_t (e_b rfl) (e_b rfl))
    exact ⟨_, e_fdef_new (o := .lst (stL (freeB (.lt x a b)))) (e_seq_nx (e_ifs_f (S1 := S) (e_b rfl) rfl) (e_seq_nx (e_set rfl) (e_seq_nx (e_for (ds := [.int 2, .int 3]) rfl (Eq.trans (e_for_nx (δ1 := [some (.v (encB (.lt x a b))), some (.r S.length), some (.v (.int 2)), none, none]) (S1 := S ++ [.lst (stL [])]) rfl q) (Eq.trans (e_for_nx (δ1 := [some (.v (encB (.lt x a b))), some (.r S.length), some (.v (.int 3)), some (.v (.lst (stL (freeB a)))), none]) (S1 := S ++ [.lst (stL (extB [] (freeB a)))]) rfl q2) rfl))) rfl))), isL_new _⟩
/-- free names as a value -/
theorem free_call {e : B} {m : Nat} {S : Sto} {δ : Slots} {x : Den W} (ho : okB e) (hm : htB e ≤ m) (hc : nf e + htB e ≤ 1000) (hx : x δ S = .ok (.v (encB e)) S) : cCall 1 (f_free_names m) (cCons x cNil) [] δ S = .ok (.v (.lst (stL (freeB e)))) S := by
  obtain ⟨rv, h1, h2⟩ := free_ev e m S ho hm hc
  exact e_call (ws := [.v (encB e)]) (e_cons hx rfl) rfl h1 (h2 S)
end Fro

namespace Fro
open PySem PySem.Spec L2
/-! exchanged -/
theorem away_test (f0 f1 : FDen) {a b : Option W} {t : Tx} {fs kn : List Tx} {S : Sto} : (cOr (cB (op2 gIn (cVar 3) (cVar 4))) (cB (op2 gIn (cVar 3) (cVar 2)))) [a, b, some (.v (.lst (stL fs))), some (.v (.str t)), some (.v (.lst (stL kn)))] S = .ok (decide (t ∈ kn ++ fs)) S := by
  have t1 := e_b (e_op2v (show cVar 3 [a, b, some (.v (.lst (stL fs))), some (.v (.str t)), some (.v (.lst (stL kn)))] S = .ok (.v (.str t)) S from rfl) (show cVar 4 [a, b, some (.v (.lst (stL fs))), some (.v (.str t)), some (.v (.lst (stL kn)))] S = .ok (.v (.lst (stL kn))) S from rfl) (gIn_lst t kn))
  have t2 := e_b (e_op2v (show cVar 3 [a, b, some (.v (.lst (stL fs))), some (.v (.str t)), some (.v (.lst (stL kn)))] S = .ok (.v (.str t)) S from rfl) (show cVar 2 [a, b, some (.v (.lst (stL fs))), some (.v (.str t)), some (.v (.lst (stL kn)))] S = .ok (.v (.lst (stL fs))) S from rfl) (gIn_lst t fs))
  by_cases h : t ∈ kn
  · rw [decide_eq_true h] at t1
    rw [decide_eq_true (List.mem_append_left _ h)]
    exact e_or_t t1
  · rw [decide_eq_false h] at t1
    rw [show decide (t ∈ kn ++ fs) = decide (t ∈ fs) from decide_eq_decide.mpr (by simp [h])]
    exact e_or_f t1 t2
theorem away_loop (f0 f1 : FDen) {a b : Option W} {fs kn : List Tx} {S : Sto} : ∀ (n : Nat) (t : Tx) (fuel : Nat), firstQ n t (kn ++ fs) ∉ kn ++ fs → n < fuel → t.length + n ≤ 100000 →
    whileN (cOr (cB (op2 gIn (cVar 3) (cVar 4))) (cB (op2 gIn (cVar 3) (cVar 2)))) (l1_away_from f0 f1) fuel [a, b, some (.v (.lst (stL fs))), some (.v (.str t)), some (.v (.lst (stL kn)))] S = .nx [a, b, some (.v (.lst (stL fs))), some (.v (.str (firstQ n t (kn ++ fs)))), some (.v (.lst (stL kn)))] S
  | 0, t, fuel, h, hf, hl => by
    obtain ⟨fuel, rfl⟩ : ∃ k, fuel = k + 1 := ⟨fuel - 1, by omega⟩
    have q := away_test f0 f1 (a := a) (b := b) (t := t) (fs := fs) (kn := kn) (S := S)
    rw [decide_eq_false (show t ∉ kn ++ fs from h)] at q
    exact e_while_f q
  | n + 1, t, fuel, h, hf, hl => by
    obtain ⟨fuel, rfl⟩ : ∃ k, fuel = k + 1 := ⟨fuel - 1, by omega⟩
    have q := away_test f0 f1 (a := a) (b := b) (t := t) (fs := fs) (kn := kn) (S := S)
    unfold firstQ at h ⊢
    by_cases c : t ∈ kn ++ fs
    · rw [if_pos c] at h ⊢
      rw [decide_eq_true c] at q
      refine Eq.trans (e_while_t (S2 := S) (δ2 := [a, b, some (.v (.lst (stL fs))), some (.v (.str (t ++ [113]))), some (.v (.lst (stL kn)))]) q (e_set (e_op2v rfl rfl (v_addS (by simp; omega))))) (away_loop f0 f1 n (t ++ [113]) fuel h (by omega) (by simp; omega))
    · rw [if_neg c] at h ⊢
      rw [decide_eq_false c] at q
      exact e_while_f q
theorem away_ev {m : Nat} {b b' : B} {y : Tx} {fs : List Tx} {S : Sto} (ho : okB b) (hm : htB b ≤ 60) (hc : nf b + htB b ≤ 1000) (hl : fs.length ≤ 1000)
    (e : f_exchanged m [.v (encB b), .v (.str y), .v (encB (.nm (newQ (freeB b ++ fs)))), .v (.lst (stL [newQ (freeB b ++ fs)]))] S = .ok (.v (encB b')) S) :
    f_away_from (m + 1) [.v (.str y), .v (encB b), .v (.lst (stL fs))] S = .ok (.v (.tup [.str (newQ (freeB b ++ fs)), encB b'])) S := by
  have kb : (freeB b).length = nf b := rfl
  have hp := away_loop (f_exchanged m) (f_away_from m) (a := some (.v (.str y))) (b := some (.v (encB b))) (fs := fs) (kn := freeB b) (S := S) ((freeB b ++ fs).length + 1) [113] 100000 (newQ_not _) (by rw [List.length_append]; omega) (by rw [List.length_append]; simp; omega)
  refine e_fdef_v (e_seq_nx (δ' := [some (.v (.str y)), some (.v (encB b)), some (.v (.lst (stL fs))), some (.v (.str [113])), some (.v (.lst (stL (freeB b))))]) (S1 := S) ?_ (e_seq_nx hp (e_ret ?_)))
  · have q : cCons (cC (.str [113])) (cCons (cCall 1 (f_free_names 60) (cCons (cVar 1) cNil) []) cNil) (slots0 5 [.v (.str y), .v (encB b), .v (.lst (stL fs))]) S = .ok [.v (.str [113]), .v (.lst (stL (freeB b)))] S := e_cons rfl (e_cons (free_call ho hm hc rfl) rfl)
    show cPar [3, 4] _ _ S = _
    unfold cPar
    rw [q]
    rfl
  · refine e_disp (ws := [.v (.str (newQ (freeB b ++ fs))), .v (encB b')]) (e_cons rfl (e_cons (e_call (ws := [.v (encB b), .v (.str y), .v (encB (.nm (newQ (freeB b ++ fs)))), .v (.lst (stL [newQ (freeB b ++ fs)]))]) ?_ rfl e rfl) rfl)) rfl (by simp) rfl
    exact e_cons rfl (e_cons rfl (e_cons (e_disp (ws := [.v (.str [110, 97, 109, 101]), .v (.str (newQ (freeB b ++ fs)))]) rfl rfl (by simp) rfl) (e_cons (e_disp (ws := [.v (.str (newQ (freeB b ++ fs)))]) rfl rfl (by simp) rfl) rfl)))
/-- the part of exchanged under a binder -/
theorem ex_mid {m : Nat} {n : Nat} {d0 : D} {x y : Tx} {o b : B} {fs : List Tx} {S : Sto} (hob : okB b) (hx : okT x = true) (hy : okT y = true) (hm : htB b ≤ 60) (hc : nf b + htB b ≤ 500) (hl : fs.length ≤ 400)
    (e1 : ∀ S, f_exchanged m [.v (encB b), .v (.str x), .v (encB o), .v (.lst (stL fs))] S = .ok (.v (encB (exB n b x o fs))) S)
    (e2 : ∀ z S, okT z = true → f_away_from m [.v (.str y), .v (encB b), .v (.lst (stL (fs ++ [x])))] S = .ok (.v (.tup [.str (newQ (freeB b ++ (fs ++ [x]))), encB (exB n b y (.nm (newQ (freeB b ++ (fs ++ [x])))) [newQ (freeB b ++ (fs ++ [x]))])])) S)
    (e3 : ∀ z S, okT z = true → f_exchanged m [.v (encB (exB n b y (.nm z) [z])), .v (.str x), .v (encB o), .v (.lst (stL fs))] S = .ok (.v (encB (exB n (exB n b y (.nm z) [z]) x o fs))) S) :
    (cIfS (cAnd (cB (op2 gNe (cVar 5) (cVar 1))) (cB (op2 gIn (cVar 1) (cCall 1 (f_free_names 60) (cCons (cVar 4) cNil) []))))
    (cSeq (cIfS (cB (op2 gIn (cVar 5) (cVar 3)))
    (cAsg (cCall 3 (f_away_from m) (cCons (cVar 5) (cCons (cVar 4) (cCons (op2 gAdd (cVar 3) (cLst (cCons (cVar 1) cNil))) cNil))) []) (gT 2 (gsCons (gN 5) (gsCons (gN 4) gsNil))))
    cNx)
    (cAsg (cCall 4 (f_exchanged m) (cCons (cVar 4) (cCons (cVar 1) (cCons (cVar 2) (cCons (cVar 3) cNil)))) []) (gN 4)))
    cNx) [some (.v d0), some (.v (.str x)), some (.v (encB o)), some (.v (.lst (stL fs))), some (.v (encB b)), some (.v (.str y))] S =
    .nx [some (.v d0), some (.v (.str x)), some (.v (encB o)), some (.v (.lst (stL fs))), some (.v (encB (if y ≠ x ∧ x ∈ freeB b then if y ∈ fs then exB n (exB n b y (.nm (newQ (freeB b ++ (fs ++ [x])))) [newQ (freeB b ++ (fs ++ [x]))]) x o fs else exB n b x o fs else b))), some (.v (.str (if y ≠ x ∧ x ∈ freeB b then if y ∈ fs then newQ (freeB b ++ (fs ++ [x])) else y else y)))] S := by
  have q1 : (cB (op2 gNe (cVar 5) (cVar 1))) [some (.v d0), some (.v (.str x)), some (.v (encB o)), some (.v (.lst (stL fs))), some (.v (encB b)), some (.v (.str y))] S = .ok (!decide (y = x)) S := e_b (e_op2v (d := .str y) (e := .str x) rfl rfl (v_neS hy hx))
  have q2 : (cB (op2 gIn (cVar 1) (cCall 1 (f_free_names 60) (cCons (cVar 4) cNil) []))) [some (.v d0), some (.v (.str x)), some (.v (encB o)), some (.v (.lst (stL fs))), some (.v (encB b)), some (.v (.str y))] S = .ok (decide (x ∈ freeB b)) S :=
    e_b (e_op2v (d := .str x) (e := .lst (stL (freeB b))) rfl (free_call hob hm (by omega) rfl) (gIn_lst _ _))
  by_cases h1 : y = x
  · rw [if_neg (show ¬ (y ≠ x ∧ x ∈ freeB b) from fun z => z.1 h1), if_neg (show ¬ (y ≠ x ∧ x ∈ freeB b) from fun z => z.1 h1)]
    rw [decide_eq_true h1] at q1
    exact e_ifs_f (e_and_f q1) rfl
  · rw [decide_eq_false h1] at q1
    by_cases h2 : x ∈ freeB b
    · rw [if_pos (show y ≠ x ∧ x ∈ freeB b from ⟨h1, h2⟩), if_pos (show y ≠ x ∧ x ∈ freeB b from ⟨h1, h2⟩)]
      rw [decide_eq_true h2] at q2
      refine e_ifs_t (e_and_t q1 q2) ?_
      have q3 : (cB (op2 gIn (cVar 5) (cVar 3))) [some (.v d0), some (.v (.str x)), some (.v (encB o)), some (.v (.lst (stL fs))), some (.v (encB b)), some (.v (.str y))] S = .ok (decide (y ∈ fs)) S := e_b (e_op2v (d := .str y) (e := .lst (stL fs)) rfl rfl (gIn_lst _ _))
      by_cases h3 : y ∈ fs
      · rw [if_pos h3, if_pos h3]
        rw [decide_eq_true h3] at q3
        refine e_seq_nx (δ' := [some (.v d0), some (.v (.str x)), some (.v (encB o)), some (.v (.lst (stL fs))), some (.v (encB (exB n b y (.nm (newQ (freeB b ++ (fs ++ [x])))) [newQ (freeB b ++ (fs ++ [x]))]))), some (.v (.str (newQ (freeB b ++ (fs ++ [x])))))]) (S1 := S) (e_ifs_t q3 (e_asg (e_call (ws := [.v (.str y), .v (encB b), .v (.lst (stL (fs ++ [x])))]) (e_cons rfl (e_cons rfl (e_cons (e_op2v (d := .lst (stL fs)) (e := .lst (stL [x])) rfl (e_disp (ws := [.v (.str x)]) rfl rfl (by simp) rfl) (gAdd_lsts _ _ (by simp; omega))) rfl))) rfl (e2 _ S hx) rfl) rfl)) ?_
        exact e_set (e_call (ws := [.v (encB (exB n b y (.nm (newQ (freeB b ++ (fs ++ [x])))) [newQ (freeB b ++ (fs ++ [x]))])), .v (.str x), .v (encB o), .v (.lst (stL fs))]) rfl rfl (e3 _ S (okT_newQ _)) rfl)
      · rw [if_neg h3, if_neg h3]
        rw [decide_eq_false h3] at q3
        exact e_seq_nx (e_ifs_f q3 rfl) (e_set (e_call (ws := [.v (encB b), .v (.str x), .v (encB o), .v (.lst (stL fs))]) rfl rfl (e1 S) rfl))
    · rw [if_neg (show ¬ (y ≠ x ∧ x ∈ freeB b) from fun z => h2 z.2), if_neg (show ¬ (y ≠ x ∧ x ∈ freeB b) from fun z => h2 z.2)]
      rw [decide_eq_false h2] at q2
      exact e_ifs_f (e_and_t q1 q2) rfl
theorem exB_fn {n : Nat} {y x : Tx} {b o : B} {fs : List Tx} : exB (n + 1) (.fn y b) x o fs = if y ≠ x ∧ x ∈ freeB b then if y ∈ fs then .fn (newQ (freeB b ++ (fs ++ [x]))) (exB n (exB n b y (.nm (newQ (freeB b ++ (fs ++ [x])))) [newQ (freeB b ++ (fs ++ [x]))]) x o fs) else .fn y (exB n b x o fs) else .fn y b := rfl
theorem exB_lt {n : Nat} {y x : Tx} {a b o : B} {fs : List Tx} : exB (n + 1) (.lt y a b) x o fs = if y ≠ x ∧ x ∈ freeB b then if y ∈ fs then .lt (newQ (freeB b ++ (fs ++ [x]))) (exB n a x o fs) (exB n (exB n b y (.nm (newQ (freeB b ++ (fs ++ [x])))) [newQ (freeB b ++ (fs ++ [x]))]) x o fs) else .lt y (exB n a x o fs) (exB n b x o fs) else .lt y (exB n a x o fs) b := rfl
theorem ex_ev : ∀ (n : Nat) (e : B), szB e ≤ n → ∀ (m : Nat) (x : Tx) (o : B) (fs : List Tx) (S : Sto), okB e → okB o → okT x = true → dpB e ≤ m → htB e ≤ 60 → nf e + 2 * htB e ≤ 400 → fs.length ≤ 400 →
    f_exchanged m [.v (encB e), .v (.str x), .v (encB o), .v (.lst (stL fs))] S = .ok (.v (encB (exB n e x o fs))) S
  | 0, e, h, _, _, _, _, _, _, _, _, _, _, _, _ => by cases e <;> simp [szB] at h
  | n + 1, .int i, h, m, x, o, fs, S, he, ho, hx, hm, ht, hc, hl => by obtain ⟨m, rfl⟩ := suc_of (dpB_pos _) hm; unfold f_exchanged; exact e_fdef_v rfl
  | n + 1, .bl i, h, m, x, o, fs, S, he, ho, hx, hm, ht, hc, hl => by obtain ⟨m, rfl⟩ := suc_of (dpB_pos _) hm; unfold f_exchanged; exact e_fdef_v rfl
  | n + 1, .unit, h, m, x, o, fs, S, he, ho, hx, hm, ht, hc, hl => by obtain ⟨m, rfl⟩ := suc_of (dpB_pos _) hm; unfold f_exchanged; exact e_fdef_v rfl
  | n + 1, .nm t, h, m, x, o, fs, S, he, ho, hx, hm, ht, hc, hl => by
    obtain ⟨m, rfl⟩ := suc_of (dpB_pos _) hm
    unfold f_exchanged
    refine e_fdef_v (e_seq_rt (e_ifs_t (S1 := S) (e_b rfl) (e_ret ?_)))
    have q : (cB (op2 gEq (cIx (cVar 0) (cC (.int 1))) (cVar 1))) (slots0 6 [.v (encB (.nm t)), .v (.str x), .v (encB o), .v (.lst (stL fs))]) S = .ok (decide (t = x)) S := e_b (e_op2v (d := .str t) (e := .str x) rfl rfl (v_eqS he hx))
    unfold exB
    by_cases c : t = x
    · rw [if_pos c]
      rw [decide_eq_true c] at q
      exact e_if_t q rfl
    · rw [if_neg c]
      rw [decide_eq_false c] at q
      exact e_if_f q rfl
  | n + 1, .app a b, h, m, x, o, fs, S, he, ho, hx, hm, ht, hc, hl => by
    obtain ⟨m, rfl⟩ := suc_of (dpB_pos _) hm
    simp only [szB] at h
    simp only [dpB] at hm
    simp only [htB] at ht hc
    have la := nf_appl a b; have lb := nf_appr a b
    have ra := ex_ev n a (by omega) m x o fs S he.1 ho hx (by omega) (by omega) (by omega) hl
    have rb := ex_ev n b (by omega) m x o fs S he.2 ho hx (by omega) (by omega) (by omega) hl
    unfold f_exchanged
    refine e_fdef_v (e_seq_nx (e_ifs_f (S1 := S) (e_b rfl) rfl) (e_seq_rt (e_ifs_t (S1 := S) (e_b rfl) (e_ret ?_))))
    exact e_disp (ws := [.v (.str [97, 112, 112]), .v (encB (exB n a x o fs)), .v (encB (exB n b x o fs))]) (e_cons rfl (e_cons (e_call (ws := [.v (encB a), .v (.str x), .v (encB o), .v (.lst (stL fs))]) rfl rfl ra rfl) (e_cons (e_call (ws := [.v (encB b), .v (.str x), .v (encB o), .v (.lst (stL fs))]) rfl rfl rb rfl) rfl))) rfl (by simp) rfl
  | n + 1, .pr a b, h, m, x, o, fs, S, he, ho, hx, hm, ht, hc, hl => by
    obtain ⟨m, rfl⟩ := suc_of (dpB_pos _) hm
    simp only [szB] at h
    simp only [dpB] at hm
    simp only [htB] at ht hc
    have la := nf_prl a b; have lb := nf_prr a b
    have ra := ex_ev n a (by omega) m x o fs S he.1 ho hx (by omega) (by omega) (by omega) hl
    have rb := ex_ev n b (by omega) m x o fs S he.2 ho hx (by omega) (by omega) (by omega) hl
    unfold f_exchanged
    refine e_fdef_v (e_seq_nx (e_ifs_f (S1 := S) (e_b rfl) rfl) (e_seq_rt (e_ifs_t (S1 := S) (e_b rfl) (e_ret ?_))))
    exact e_disp (ws := [.v (.str [112, 97, 105, 114]), .v (encB (exB n a x o fs)), .v (encB (exB n b x o fs))]) (e_cons rfl (e_cons (e_call (ws := [.v (encB a), .v (.str x), .v (encB o), .v (.lst (stL fs))]) rfl rfl ra rfl) (e_cons (e_call (ws := [.v (encB b), .v (.str x), .v (encB o), .v (.lst (stL fs))]) rfl rfl rb rfl) rfl))) rfl (by simp) rfl
  | n + 1, .fn y b, h, m, x, o, fs, S, he, ho, hx, hm, ht, hc, hl => by
    simp only [szB] at h
    simp only [dpB] at hm
    simp only [htB] at ht hc
    obtain ⟨m, rfl⟩ : ∃ k, m = k + 1 + 1 := ⟨m - 2, by omega⟩
    have lb := nf_fn y b
    have mid := ex_mid (m := m + 1) (n := n) (d0 := encB (.fn y b)) (x := x) (y := y) (o := o) (b := b) (fs := fs) (S := S) he.2 hx he.1 (by omega) (by omega) hl
      (fun S => ex_ev n b (by omega) (m + 1) x o fs S he.2 ho hx (by omega) (by omega) (by omega) hl)
      (fun z S _ => away_ev he.2 (by omega) (by omega) (by simp; omega) (ex_ev n b (by omega) m y _ _ S he.2 (okT_newQ _) he.1 (by omega) (by omega) (by omega) (by simp)))
      (fun z S hz => ex_ev n _ (by rw [sz_name]; omega) (m + 1) x o fs S (ok_ex n b y _ _ he.2 hz) ho hx (by rw [(dp_name _ _ _ _ _).1]; omega) (by rw [(dp_name _ _ _ _ _).2]; omega) (by rw [(dp_name _ _ _ _ _).2]; have := nf_ex1 (n := n) (e := b) (x := y) (z := z) (by omega); omega) hl)
    unfold f_exchanged
    refine e_fdef_v (e_seq_nx (e_ifs_f (S1 := S) (e_b rfl) rfl) (e_seq_nx (e_ifs_f (S1 := S) (e_b rfl) rfl) (e_seq_nx (e_ifs_f (S1 := S) (e_b rfl) rfl) (e_seq_nx (e_set (w := .v (encB b)) (S1 := S) rfl) (e_seq_nx (e_set (w := .v (.str y)) (S1 := S) rfl) (e_seq_nx mid (e_seq_rt (e_ifs_t (S1 := S) (e_b rfl) (e_ret (e_disp (ws := [.v (.str [102, 117, 110]), .v (.str _), .v (encB _)]) rfl rfl (by simp) ?_))))))))))
    rw [exB_fn]
    split
    · split <;> rfl
    · rfl
  | n + 1, .lt y a b, h, m, x, o, fs, S, he, ho, hx, hm, ht, hc, hl => by
    simp only [szB] at h
    simp only [dpB] at hm
    simp only [htB] at ht hc
    obtain ⟨m, rfl⟩ : ∃ k, m = k + 1 + 1 := ⟨m - 2, by omega⟩
    have la := nf_ltl y a b
    have lb := nf_ltr y a b
    have ra := ex_ev n a (by omega) (m + 1) x o fs S he.2.1 ho hx (by omega) (by omega) (by omega) hl
    have mid := ex_mid (m := m + 1) (n := n) (d0 := encB (.lt y a b)) (x := x) (y := y) (o := o) (b := b) (fs := fs) (S := S) he.2.2 hx he.1 (by omega) (by omega) hl
      (fun S => ex_ev n b (by omega) (m + 1) x o fs S he.2.2 ho hx (by omega) (by omega) (by omega) hl)
      (fun z S _ => away_ev he.2.2 (by omega) (by omega) (by simp; omega) (ex_ev n b (by omega) m y _ _ S he.2.2 (okT_newQ _) he.1 (by omega) (by omega) (by omega) (by simp)))
      (fun z S hz => ex_ev n _ (by rw [sz_name]; omega) (m + 1) x o fs S (ok_ex n b y _ _ he.2.2 hz) ho hx (by rw [(dp_name _ _ _ _ _).1]; omega) (by rw [(dp_name _ _ _ _ _).2]; omega) (by rw [(dp_name _ _ _ _ _).2]; have := nf_ex1 (n := n) (e := b) (x := y) (z := z) (by omega); omega) hl)
    unfold f_exchanged
    refine e_fdef_v (e_seq_nx (e_ifs_f (S1 := S) (e_b rfl) rfl) (e_seq_nx (e_ifs_f (S1 := S) (e_b rfl) rfl) (e_seq_nx (e_ifs_f (S1 := S) (e_b rfl) rfl) (e_seq_nx (e_set (w := .v (encB b)) (S1 := S) rfl) (e_seq_nx (e_set (w := .v (.str y)) (S1 := S) rfl) (e_seq_nx mid (e_seq_nx (e_ifs_f (S1 := S) (e_b rfl) rfl) (e_ret (e_disp (ws := [.v (.str [108, 101, 116]), .v (.str _), .v (encB (exB n a x o fs)), .v (encB _)]) (e_cons rfl (e_cons rfl (e_cons (e_call (ws := [.v (encB a), .v (.str x), .v (encB o), .v (.lst (stL fs))]) rfl rfl ra rfl) (e_cons rfl rfl)))) rfl (by simp) ?_)))))))))
    rw [exB_lt]
    split
    · split <;> rfl
    · rfl
end Fro

namespace Fro
open PySem PySem.Spec L2
/-! without_lets, relettered -/
theorem filled_ev {b o : B} {x : Tx} {S : Sto} (hb : okB b) (ho : okB o) (hx : okT x = true) (h1 : htB b ≤ 52) (h2 : htB o ≤ 60) (h3 : nf b ≤ 200) (h4 : nf o ≤ 200) : f_filled [.v (encB b), .v (.str x), .v (encB o)] S = .ok (.v (encB (fillB (szB b) b x o))) S := by
  have d := dp_ht b
  have q := ex_ev (szB b) b (Nat.le_refl _) 105 x o (freeB o) S hb ho hx (by omega) (by omega) (by omega) (by unfold nf at h4; omega)
  refine e_fdef_v (e_ret (e_call (ws := [.v (encB b), .v (.str x), .v (encB o), .v (.lst (stL (freeB o)))]) (e_cons rfl (e_cons rfl (e_cons rfl (e_cons (free_call ho h2 (by omega) rfl) rfl)))) rfl q rfl))
theorem without_ev : ∀ (e : B) (m : Nat) (S : Sto), okB e → htB e ≤ m → szB e ≤ 54 → f_without_lets m [.v (encB e)] S = .ok (.v (encB (withoutB e))) S := by
  intro e
  induction e with
  | nm t => intro m S ho hm hs; obtain ⟨m, rfl⟩ := suc_of (htB_pos _) hm; exact e_fdef_v rfl
  | int t => intro m S ho hm hs; obtain ⟨m, rfl⟩ := suc_of (htB_pos _) hm; exact e_fdef_v rfl
  | bl t => intro m S ho hm hs; obtain ⟨m, rfl⟩ := suc_of (htB_pos _) hm; exact e_fdef_v rfl
  | unit => intro m S ho hm hs; obtain ⟨m, rfl⟩ := suc_of (htB_pos _) hm; exact e_fdef_v rfl
  | fn x a ih =>
    intro m S ho hm hs
    obtain ⟨m, rfl⟩ := suc_of (htB_pos _) hm
    simp only [htB] at hm
    simp only [szB] at hs
    refine e_fdef_v (e_seq_nx (e_ifs_f (S1 := S) (e_b rfl) rfl) (e_seq_rt (e_ifs_t (S1 := S) (e_b rfl) (e_ret ?_))))
    exact e_disp (ws := [.v (.str [102, 117, 110]), .v (.str x), .v (encB (withoutB a))]) (e_cons rfl (e_cons rfl (e_cons (e_call (ws := [.v (encB a)]) rfl rfl (ih m S ho.2 (by omega) (by omega)) rfl) rfl))) rfl (by simp) rfl
  | app a b iha ihb =>
    intro m S ho hm hs
    obtain ⟨m, rfl⟩ := suc_of (htB_pos _) hm
    simp only [htB] at hm
    simp only [szB] at hs
    refine e_fdef_v (e_seq_nx (e_ifs_f (S1 := S) (e_b rfl) rfl) (e_seq_nx (e_ifs_f (S1 := S) (e_b rfl) rfl) (e_seq_rt (e_ifs_t (S1 := S) (e_b rfl) (e_ret ?_)))))
    exact e_disp (ws := [.v (.str [97, 112, 112]), .v (encB (withoutB a)), .v (encB (withoutB b))]) (e_cons rfl (e_cons (e_call (ws := [.v (encB a)]) rfl rfl (iha m S ho.1 (by omega) (by omega)) rfl) (e_cons (e_call (ws := [.v (encB b)]) rfl rfl (ihb m S ho.2 (by omega) (by omega)) rfl) rfl))) rfl (by simp) rfl
  | pr a b iha ihb =>
    intro m S ho hm hs
    obtain ⟨m, rfl⟩ := suc_of (htB_pos _) hm
    simp only [htB] at hm
    simp only [szB] at hs
    refine e_fdef_v (e_seq_nx (e_ifs_f (S1 := S) (e_b rfl) rfl) (e_seq_nx (e_ifs_f (S1 := S) (e_b rfl) rfl) (e_seq_rt (e_ifs_t (S1 := S) (e_b rfl) (e_ret ?_)))))
    exact e_disp (ws := [.v (.str [112, 97, 105, 114]), .v (encB (withoutB a)), .v (encB (withoutB b))]) (e_cons rfl (e_cons (e_call (ws := [.v (encB a)]) rfl rfl (iha m S ho.1 (by omega) (by omega)) rfl) (e_cons (e_call (ws := [.v (encB b)]) rfl rfl (ihb m S ho.2 (by omega) (by omega)) rfl) rfl))) rfl (by simp) rfl
  | lt x a b iha ihb =>
    intro m S ho hm hs
    obtain ⟨m, rfl⟩ := suc_of (htB_pos _) hm
    simp only [htB] at hm
    simp only [szB] at hs
    have ka := ht_withoutB a; have kb := ht_withoutB b
    have na := nf_without a; have nb := nf_without b
    have sa := nf_sz a; have sb := nf_sz b
    have pa : 1 ≤ szB a := by cases a <;> simp [szB]
    refine e_fdef_v (e_seq_rt (e_ifs_t (S1 := S) (e_b rfl) (e_ret ?_)))
    exact e_call (ws := [.v (encB (withoutB b)), .v (.str x), .v (encB (withoutB a))]) (e_cons (e_call (ws := [.v (encB b)]) rfl rfl (ihb m S ho.2.2 (by omega) (by omega)) rfl) (e_cons rfl (e_cons (e_call (ws := [.v (encB a)]) rfl rfl (iha m S ho.2.1 (by omega) (by omega)) rfl) rfl))) rfl (filled_ev (ok_without b ho.2.2) (ok_without a ho.2.1) ho.1 (by omega) (by omega) (by omega) (by omega)) rfl
/-! letters given anew -/
theorem lk_map (x : Tx) (d : D) (t : Tx) : ∀ es : List (Tx × D), lkT (es.map fun e => if e.1 = x then (e.1, d) else e) t = if t = x then (lkT es t).map fun _ => d else lkT es t
  | [] => by simp [lkT]
  | (k, c) :: r => by
    have ih := lk_map x d t r
    rw [List.map_cons]
    by_cases h : k = x
    · subst h
      rw [if_pos rfl]
      show (if k = t then some d else lkT _ t) = if t = k then ((if k = t then some c else lkT r t)).map _ else (if k = t then some c else lkT r t)
      by_cases g : k = t
      · subst g; simp
      · rw [if_neg g, if_neg (Ne.symm g), if_neg g, ih, if_neg (Ne.symm g)]
    · rw [if_neg h]
      show (if k = t then some c else lkT _ t) = if t = x then ((if k = t then some c else lkT r t)).map _ else (if k = t then some c else lkT r t)
      by_cases g : k = t
      · subst g; rw [if_pos rfl, if_neg h, if_pos rfl]
      · rw [if_neg g, if_neg g, ih]
theorem lk_app (x : Tx) (d : D) (t : Tx) : ∀ es : List (Tx × D), lkT (es ++ [(x, d)]) t = match lkT es t with
    | some c => some c
    | none => if x = t then some d else none
  | [] => rfl
  | (k, c) :: r => by
    show (if k = t then some c else lkT (r ++ [(x, d)]) t) = match (if k = t then some c else lkT r t) with
      | some c => some c
      | none => if x = t then some d else none
    by_cases g : k = t
    · rw [if_pos g, if_pos g]
    · rw [if_neg g, if_neg g, lk_app x d t r]
theorem lk_has (t : Tx) : ∀ es : List (Tx × D), hasE es t = (lkT es t).isSome
  | [] => rfl
  | (k, c) :: r => by
    show (k == t || hasE r t) = (if k = t then some c else lkT r t).isSome
    by_cases g : k = t
    · rw [if_pos g]; simp [g]
    · rw [if_neg g, lk_has t r]; simp [g]
theorem lk_putE (es : List (Tx × D)) (x : Tx) (d : D) (t : Tx) : lkT (putE es x d) t = if t = x then some d else lkT es t := by
  unfold putE
  by_cases h : hasE es x = true
  · rw [if_pos h, lk_map]
    by_cases g : t = x
    · subst g
      rw [if_pos rfl, if_pos rfl]
      rw [lk_has] at h
      obtain ⟨c, hc⟩ := Option.isSome_iff_exists.mp h
      rw [hc]; rfl
    · rw [if_neg g, if_neg g]
  · rw [if_neg h, lk_app]
    rw [lk_has] at h
    by_cases g : t = x
    · subst g
      rw [if_pos rfl]
      cases q : lkT es t with
      | none => simp
      | some c => rw [q] at h; simp at h
    · rw [if_neg g]
      cases q : lkT es t with
      | none => simp [Ne.symm g]
      | some c => rfl
theorem keys_putE (es : List (Tx × D)) (x : Tx) (d : D) (h : (es.map (·.1)).Nodup) : ((putE es x d).map (·.1)).Nodup ∧ (putE es x d).length ≤ es.length + 1 := by
  unfold putE
  by_cases g : hasE es x = true
  · rw [if_pos g]
    constructor
    · have : (es.map fun e => if e.1 = x then (e.1, d) else e).map (·.1) = es.map (·.1) := by
        rw [List.map_map]
        refine List.map_congr_left fun e _ => ?_
        show (if e.1 = x then (e.1, d) else e).1 = e.1
        split <;> rfl
      rw [this]; exact h
    · rw [List.length_map]; omega
  · rw [if_neg g]
    constructor
    · rw [List.map_append]
      refine List.nodup_append.mpr ⟨h, by simp, fun a ha b hb e => ?_⟩
      obtain ⟨p, hp, rfl⟩ := List.mem_map.mp ha
      simp only [List.map_cons, List.map_nil, List.mem_singleton] at hb
      apply g
      unfold hasE
      rw [List.any_eq_true]
      exact ⟨p, hp, by simp [e, hb]⟩
    · simp
structure Ch (es : List (Tx × D)) (ch : Tx → Tx) : Prop where
  nd : (es.map (·.1)).Nodup
  lk : ∀ t, lkT es t = some (.str (ch t)) ∨ (lkT es t = none ∧ ch t = t)
theorem Ch.put {es : List (Tx × D)} {ch : Tx → Tx} (h : Ch es ch) (x n : Tx) : Ch (putE es x (.str n)) (fun t => if t = x then n else ch t) := by
  refine ⟨(keys_putE es x _ h.nd).1, fun t => ?_⟩
  rw [lk_putE]
  by_cases g : t = x
  · simp only [if_pos g]; exact .inl trivial
  · simp only [if_neg g]; exact h.lk t
theorem e_star {m k v : Den W} {δ : Slots} {S : Sto} {es : List (Tx × D)} {t : Tx} {d : D} (hn : (es.map (·.1)).Nodup) (hl : es.length ≤ 900) (h1 : m δ (S ++ [.dct []]) = .ok (.v (.dct es)) (S ++ [.dct []]))
    (h2 : k δ (S ++ [.dct es] ++ [.dct []]) = .ok (.v (.str t)) (S ++ [.dct es] ++ [.dct []])) (h3 : v δ (S ++ [.dct es] ++ [.dct []]) = .ok (.v d) (S ++ [.dct es] ++ [.dct []])) : cStar m k v δ S = .ok (.v (.dct (putE es t d))) S := by
  have hm : mergeE [] es = es := by
    have := mergeE_nil es [] (by simpa using hn)
    simpa using this
  have hp : pairsD [(k, v)] δ (S ++ [.dct es] ++ [.dct []]) = .ok [(t, d)] (S ++ [.dct es] ++ [.dct []]) := by
    unfold pairsD
    rw [h2, R.bind_ok, h3, R.bind_ok]
    rfl
  unfold cStar
  rw [h1, R.bind_ok]
  unfold midStar
  rw [at_last]
  show (if es.length ≤ 900 ∧ (S ++ [Ob.dct []]).length = S.length + 1 then _ else R.bad) = _
  rw [if_pos ⟨hl, by simp⟩, hm, set_last, hp, R.bind_ok]
  unfold endStar
  have e1 : (S ++ [Ob.dct es] ++ [Ob.dct []])[S.length]? = some (.dct es) := at_last2 S [.dct []] (.dct es)
  have e2 : (S ++ [Ob.dct es] ++ [Ob.dct []])[S.length + 1]? = some (.dct []) := by
    have := at_last (S ++ [Ob.dct es]) (.dct [])
    simpa using this
  rw [e1, e2]
  show (if ([(t, d)] : List (Tx × D)).length ≤ 15 ∧ es.length ≤ 900 ∧ (S ++ [Ob.dct es] ++ [Ob.dct []]).length = S.length + 2 then R.ok (W.v (D.dct (mergeE es (mergeE [] [(t, d)])))) ((S ++ [Ob.dct es] ++ [Ob.dct []]).take S.length) else R.bad) = _
  rw [if_pos ⟨by simp, hl, by simp⟩, List.append_assoc, List.take_left]
  rfl
theorem rel_ev : ∀ (e : B) (m : Nat) (es : List (Tx × D)) (ch : Tx → Tx) (tk : List Tx) (S : Sto), Ch es ch → htB e ≤ m → es.length + htB e ≤ 800 → tk.length + htB e < 130 →
    f_relettered m [.v (encB e), .v (.dct es), .v (.lst (stL tk))] S = .ok (.v (encB (relB firstL ch tk e))) S := by
  intro e
  induction e with
  | int t => intro m es ch tk S hc hm he ht; obtain ⟨m, rfl⟩ := suc_of (htB_pos _) hm; exact e_fdef_v rfl
  | bl t => intro m es ch tk S hc hm he ht; obtain ⟨m, rfl⟩ := suc_of (htB_pos _) hm; exact e_fdef_v rfl
  | unit => intro m es ch tk S hc hm he ht; obtain ⟨m, rfl⟩ := suc_of (htB_pos _) hm; exact e_fdef_v rfl
  | nm t =>
    intro m es ch tk S hc hm he ht
    obtain ⟨m, rfl⟩ := suc_of (htB_pos _) hm
    refine e_fdef_v (e_seq_rt (e_ifs_t (S1 := S) (e_b rfl) (e_ret (e_disp (ws := [.v (.str [110, 97, 109, 101]), .v (.str (ch t))]) (e_cons rfl (e_cons ?_ rfl)) rfl (by simp) rfl))))
    rcases hc.lk t with h | ⟨h, h'⟩
    · exact e_dget2_some (w := .v (.str t)) (t := t) (es := es) rfl rfl rfl h
    · rw [h']
      exact e_dget2_none (w := .v (.str t)) (t := t) (es := es) rfl rfl rfl h
  | fn x a ih =>
    intro m es ch tk S hc hm he ht
    obtain ⟨m, rfl⟩ := suc_of (htB_pos _) hm
    simp only [htB] at hm he ht
    have ln := keys_putE es x (.str (firstL tk)) hc.nd
    have q := ih m (putE es x (.str (firstL tk))) _ (tk ++ [firstL tk]) S (hc.put x (firstL tk)) (by omega) (by omega) (by simp; omega)
    refine e_fdef_v (e_seq_nx (e_ifs_f (S1 := S) (e_b rfl) rfl) (e_seq_rt (e_ifs_t (S1 := S) (e_b rfl) (e_seq_nx (δ' := [some (.v (encB (.fn x a))), some (.v (.dct es)), some (.v (.lst (stL tk))), some (.v (.str (firstL tk))), none]) (e_set (e_call (ws := [.v (.lst (stL tk))]) rfl rfl (first_letters_ev tk (by omega) S) rfl)) (e_ret ?_)))))
    exact e_disp (ws := [.v (.str [102, 117, 110]), .v (.str (firstL tk)), .v (encB (relB firstL (fun t => if t = x then firstL tk else ch t) (tk ++ [firstL tk]) a))]) (e_cons rfl (e_cons rfl (e_cons (e_call (ws := [.v (encB a), .v (.dct (putE es x (.str (firstL tk)))), .v (.lst (stL (tk ++ [firstL tk])))]) (e_cons rfl (e_cons (e_star hc.nd (by omega) rfl rfl rfl) (e_cons (e_op2v (d := .lst (stL tk)) (e := .lst (stL [firstL tk])) rfl (e_disp (ws := [.v (.str (firstL tk))]) rfl rfl (by simp) rfl) (gAdd_lsts _ _ (by simp; omega))) rfl))) rfl q rfl) rfl))) rfl (by simp) rfl
  | lt x a b iha ihb =>
    intro m es ch tk S hc hm he ht
    obtain ⟨m, rfl⟩ := suc_of (htB_pos _) hm
    simp only [htB] at hm he ht
    have ln := keys_putE es x (.str (firstL tk)) hc.nd
    have qa := iha m es ch tk S hc (by omega) (by omega) (by omega)
    have q := ihb m (putE es x (.str (firstL tk))) _ (tk ++ [firstL tk]) S (hc.put x (firstL tk)) (by omega) (by omega) (by simp; omega)
    refine e_fdef_v (e_seq_nx (e_ifs_f (S1 := S) (e_b rfl) rfl) (e_seq_nx (e_ifs_f (S1 := S) (e_b rfl) rfl) (e_seq_rt (e_ifs_t (S1 := S) (e_b rfl) (e_seq_nx (δ' := [some (.v (encB (.lt x a b))), some (.v (.dct es)), some (.v (.lst (stL tk))), some (.v (.str (firstL tk))), some (.v (encB (relB firstL ch tk a)))]) (S1 := S) ?_ (e_ret ?_))))))
    · have q : cCons (cCall 1 f_first_letters (cCons (cVar 2) cNil) []) (cCons (cCall 3 (f_relettered m) (cCons (cIx (cVar 0) (cC (.int 2))) (cCons (cVar 1) (cCons (cVar 2) cNil))) []) cNil) (slots0 5 [.v (encB (.lt x a b)), .v (.dct es), .v (.lst (stL tk))]) S = .ok [.v (.str (firstL tk)), .v (encB (relB firstL ch tk a))] S :=
        e_cons (e_call (ws := [.v (.lst (stL tk))]) rfl rfl (first_letters_ev tk (by omega) S) rfl) (e_cons (e_call (ws := [.v (encB a), .v (.dct es), .v (.lst (stL tk))]) rfl rfl qa rfl) rfl)
      show cPar [3, 4] _ _ S = _
      unfold cPar
      rw [q]
      rfl
    · exact e_disp (ws := [.v (.str [108, 101, 116]), .v (.str (firstL tk)), .v (encB (relB firstL ch tk a)), .v (encB (relB firstL (fun t => if t = x then firstL tk else ch t) (tk ++ [firstL tk]) b))]) (e_cons rfl (e_cons rfl (e_cons rfl (e_cons (e_call (ws := [.v (encB b), .v (.dct (putE es x (.str (firstL tk)))), .v (.lst (stL (tk ++ [firstL tk])))]) (e_cons rfl (e_cons (e_star hc.nd (by omega) rfl rfl rfl) (e_cons (e_op2v (d := .lst (stL tk)) (e := .lst (stL [firstL tk])) rfl (e_disp (ws := [.v (.str (firstL tk))]) rfl rfl (by simp) rfl) (gAdd_lsts _ _ (by simp; omega))) rfl))) rfl q rfl) rfl)))) rfl (by simp) rfl
  | app a b iha ihb =>
    intro m es ch tk S hc hm he ht
    obtain ⟨m, rfl⟩ := suc_of (htB_pos _) hm
    simp only [htB] at hm he ht
    refine e_fdef_v (e_seq_nx (e_ifs_f (S1 := S) (e_b rfl) rfl) (e_seq_nx (e_ifs_f (S1 := S) (e_b rfl) rfl) (e_seq_nx (e_ifs_f (S1 := S) (e_b rfl) rfl) (e_seq_rt (e_ifs_t (S1 := S) (e_b rfl) (e_ret ?_))))))
    exact e_disp (ws := [.v (.str [97, 112, 112]), .v (encB (relB firstL ch tk a)), .v (encB (relB firstL ch tk b))]) (e_cons rfl (e_cons (e_call (ws := [.v (encB a), .v (.dct es), .v (.lst (stL tk))]) rfl rfl (iha m es ch tk S hc (by omega) (by omega) (by omega)) rfl) (e_cons (e_call (ws := [.v (encB b), .v (.dct es), .v (.lst (stL tk))]) rfl rfl (ihb m es ch tk S hc (by omega) (by omega) (by omega)) rfl) rfl))) rfl (by simp) rfl
  | pr a b iha ihb =>
    intro m es ch tk S hc hm he ht
    obtain ⟨m, rfl⟩ := suc_of (htB_pos _) hm
    simp only [htB] at hm he ht
    refine e_fdef_v (e_seq_nx (e_ifs_f (S1 := S) (e_b rfl) rfl) (e_seq_nx (e_ifs_f (S1 := S) (e_b rfl) rfl) (e_seq_nx (e_ifs_f (S1 := S) (e_b rfl) rfl) (e_seq_rt (e_ifs_t (S1 := S) (e_b rfl) (e_ret ?_))))))
    exact e_disp (ws := [.v (.str [112, 97, 105, 114]), .v (encB (relB firstL ch tk a)), .v (encB (relB firstL ch tk b))]) (e_cons rfl (e_cons (e_call (ws := [.v (encB a), .v (.dct es), .v (.lst (stL tk))]) rfl rfl (iha m es ch tk S hc (by omega) (by omega) (by omega)) rfl) (e_cons (e_call (ws := [.v (encB b), .v (.dct es), .v (.lst (stL tk))]) rfl rfl (ihb m es ch tk S hc (by omega) (by omega) (by omega)) rfl) rfl))) rfl (by simp) rfl
/-- the plain form by name -/
def plainB (e : B) : B := relB firstL (fun t => t) (freeB e) e
theorem plain_bare_ev {e : B} {S : Sto} (ho : okB e) (h1 : htB e ≤ 60) (h2 : nf e + htB e < 130) : f_plain_bare [.v (encB e)] S = .ok (.v (encB (plainB e))) S := by
  have q := rel_ev e 60 [] (fun t => t) (freeB e) S ⟨by simp, fun t => .inr ⟨rfl, rfl⟩⟩ h1 (by simp; omega) h2
  exact e_fdef_v (e_ret (e_call (ws := [.v (encB e), .v (.dct []), .v (.lst (stL (freeB e)))]) (e_cons rfl (e_cons rfl (e_cons (free_call ho h1 (by omega) rfl) rfl))) rfl q rfl))
end Fro

namespace Fro
open PySem PySem.Spec L2
/-! want_bare -/
abbrev goodB : B → Prop := allB fun t => isNm t = true
theorem good_ok {e : B} (h : goodB e) : okB e := allB.mono (fun _ => isNm_ok) h
theorem gIx_0 (a : D) (ds : List D) : gIx (.tup (a :: ds)) (.int 0) = some a := by rw [v_gIxT, v_at0]
theorem gIx_1 (a b : D) (ds : List D) : gIx (.tup (a :: b :: ds)) (.int 1) = some b := by rw [v_gIxT, v_at1]
theorem form_test {d : D} {ds : List D} {t : Tx} {S : Sto} (hd : d = .tup (.str t :: ds)) : (cOr (cNot (cB (cBlt gIsi (cCons (cVar 0) (cCons (cC (.ty .tup)) cNil))))) (cOr (cB (op2 gEqT0 (cVar 0) (cTup cNil))) (cNot (cB (cBlt gIsi (cCons (cIx (cVar 0) (cC (.int 0))) (cCons (cC (.ty .str)) cNil))))))) [some (.v d)] S = .ok false S := by
  subst hd
  exact e_or_f (e_not (e_b (c := true) (S1 := S) rfl)) (e_or_f (e_b (S1 := S) rfl) (e_not (e_b (c := true) (S1 := S) (e_blt (ws := [.v (.str t), .v (.ty .str)]) (e_cons (e_ix rfl rfl (gIx_0 _ _)) rfl) rfl rfl))))
theorem form_name {d : D} {ds : List D} {t x : Tx} {S : Sto} (hd : d = .tup (.str t :: .str x :: ds)) (hx : isNm x = true) (h1 : (cB (op2 gNe (cKGet1 tbl_LENGTHS (cIx (cVar 0) (cC (.int 0)))) (cLen (cCons (cVar 0) cNil)))) [some (.v d)] S = .ok false S)
    (h2 : (cB (op2 gIn (cIx (cVar 0) (cC (.int 0))) (cTup (cCons (cC (.str [110, 97, 109, 101])) (cCons (cC (.str [102, 117, 110])) (cCons (cC (.str [108, 101, 116])) cNil)))))) [some (.v d)] S = .ok true S) : f_has_form [.v d] S = .ok (.v (.bl true)) S := by
  have q := is_name_ev x (by have := isNm_len hx; omega) S
  rw [hx] at q
  refine e_fdef_v (e_seq_nx (e_ifs_f (form_test hd) rfl) (e_seq_nx (e_ifs_f h1 rfl) (e_seq_rt (e_ifs_t h2 (e_ret (e_call (ws := [.v (.str x)]) (e_cons ?_ rfl) rfl q rfl))))))
  subst hd
  exact e_ix rfl rfl (gIx_1 _ _ _)
theorem form_ev : ∀ (e : B) (S : Sto), goodB e → f_has_form [.v (encB e)] S = .ok (.v (.bl true)) S
  | .nm t, S, h => form_name (t := [110, 97, 109, 101]) (x := t) rfl h (e_b rfl) (e_b rfl)
  | .fn x a, S, h => form_name (t := [102, 117, 110]) (x := x) rfl h.1 (e_b rfl) (e_b rfl)
  | .lt x a b, S, h => form_name (t := [108, 101, 116]) (x := x) rfl h.1 (e_b rfl) (e_b rfl)
  | .int i, S, h => e_fdef_v (e_seq_nx (e_ifs_f (form_test rfl) rfl) (e_seq_nx (e_ifs_f (S1 := S) (e_b rfl) rfl) (e_seq_nx (e_ifs_f (S1 := S) (e_b rfl) rfl) (e_seq_rt (e_ifs_t (S1 := S) (e_b rfl) (e_ret (e_call (ws := [.v (.int i)]) rfl rfl (e_fdef_v rfl) rfl)))))))
  | .bl i, S, h => e_fdef_v (e_seq_nx (e_ifs_f (form_test rfl) rfl) (e_seq_nx (e_ifs_f (S1 := S) (e_b rfl) rfl) (e_seq_nx (e_ifs_f (S1 := S) (e_b rfl) rfl) (e_seq_nx (e_ifs_f (S1 := S) (e_b rfl) rfl) rfl))))
  | .unit, S, h => e_fdef_v (e_seq_nx (e_ifs_f (form_test rfl) rfl) (e_seq_nx (e_ifs_f (S1 := S) (e_b rfl) rfl) (e_seq_nx (e_ifs_f (S1 := S) (e_b rfl) rfl) (e_seq_nx (e_ifs_f (S1 := S) (e_b rfl) rfl) rfl))))
  | .app a b, S, h => e_fdef_v (e_seq_nx (e_ifs_f (form_test rfl) rfl) (e_seq_nx (e_ifs_f (S1 := S) (e_b rfl) rfl) (e_seq_nx (e_ifs_f (S1 := S) (e_b rfl) rfl) (e_seq_nx (e_ifs_f (S1 := S) (e_b rfl) rfl) rfl))))
  | .pr a b, S, h => e_fdef_v (e_seq_nx (e_ifs_f (form_test rfl) rfl) (e_seq_nx (e_ifs_f (S1 := S) (e_b rfl) rfl) (e_seq_nx (e_ifs_f (S1 := S) (e_b rfl) rfl) (e_seq_nx (e_ifs_f (S1 := S) (e_b rfl) rfl) rfl))))
/-! the same for a node whose parts may be anything -/
theorem form_pair (a b : D) (S : Sto) : f_has_form [.v (.tup [.str [112, 97, 105, 114], a, b])] S = .ok (.v (.bl true)) S := e_fdef_v (e_seq_nx (e_ifs_f (form_test rfl) rfl) (e_seq_nx (e_ifs_f (S1 := S) (e_b rfl) rfl) (e_seq_nx (e_ifs_f (S1 := S) (e_b rfl) rfl) (e_seq_nx (e_ifs_f (S1 := S) (e_b rfl) rfl) rfl))))
theorem form_app (a b : D) (S : Sto) : f_has_form [.v (.tup [.str [97, 112, 112], a, b])] S = .ok (.v (.bl true)) S := e_fdef_v (e_seq_nx (e_ifs_f (form_test rfl) rfl) (e_seq_nx (e_ifs_f (S1 := S) (e_b rfl) rfl) (e_seq_nx (e_ifs_f (S1 := S) (e_b rfl) rfl) (e_seq_nx (e_ifs_f (S1 := S) (e_b rfl) rfl) rfl))))
theorem form_fun (x : Tx) (a : D) (S : Sto) (h : isNm x = true) : f_has_form [.v (.tup [.str [102, 117, 110], .str x, a])] S = .ok (.v (.bl true)) S := form_name rfl h (e_b rfl) (e_b rfl)
theorem form_let (x : Tx) (a b : D) (S : Sto) (h : isNm x = true) : f_has_form [.v (.tup [.str [108, 101, 116], .str x, a, b])] S = .ok (.v (.bl true)) S := form_name rfl h (e_b rfl) (e_b rfl)
section
variable {m : Nat} {d0 d : D} {k : Int} {pl : List D} {S : Sto} {c : Nat} {ds : List D}
theorem wb_args (h0 : gIx d0 (.int k) = some d) (hl : pl.length ≤ 1000) : (cCons (cIx (cVar 0) (cVar 2)) (cCons (op2 gAdd (cVar 1) (cTup (cCons (cVar 2) cNil))) cNil)) [some (.v d0), some (.v (.tup pl)), some (.v (.int k))] S = .ok [.v d, .v (.tup (pl ++ [.int k]))] S :=
  e_cons (e_ix (d := d0) (e := .int k) rfl rfl h0) (e_cons (e_op2v (d := .tup pl) (e := .tup [.int k]) rfl rfl (v_addT (by simp; omega))) rfl)
theorem wb_turn (h0 : gIx d0 (.int k) = some d) (hl : pl.length ≤ 1000) (e : f_want_bare m [.v d, .v (.tup (pl ++ [.int k]))] S = .ok (.v .non) S) :
    l1_want_bare (f_want_bare m) [some (.v d0), some (.v (.tup pl)), some (.v (.int k))] S = .nx [some (.v d0), some (.v (.tup pl)), some (.v (.int k))] S :=
  e_expr (e_call (ws := [W.v d, W.v (D.tup (pl ++ [D.int k]))]) (wb_args h0 hl) rfl e rfl)
theorem wb_turn_xc (h0 : gIx d0 (.int k) = some d) (hl : pl.length ≤ 1000) (e : f_want_bare m [.v d, .v (.tup (pl ++ [.int k]))] S = .exc c ds S) :
    l1_want_bare (f_want_bare m) [some (.v d0), some (.v (.tup pl)), some (.v (.int k))] S = .xc c ds [some (.v d0), some (.v (.tup pl)), some (.v (.int k))] S :=
  e_expr_xc (e_call_xc (ws := [W.v d, W.v (D.tup (pl ++ [D.int k]))]) (wb_args h0 hl) rfl e)
/-- the loop's parts -/
abbrev spotsOf (d0 : D) (pl : List D) (S : Sto) (ks : List D) : Prop := itT (cKGet2 tbl_SPOTS (cIx (cVar 0) (cC (.int 0))) (cTup cNil)) [some (.v d0), some (.v (.tup pl)), none] S = .ok ks S
theorem wb_head (hf : f_has_form [.v d0] S = .ok (.v (.bl true)) S) : cIfS (cNot (cB (cCall 1 f_has_form (cCons (cVar 0) cNil) []))) (cRaise 10 (cCons (cVar 1) cNil)) cNx [some (.v d0), some (.v (.tup pl)), none] S = .nx [some (.v d0), some (.v (.tup pl)), none] S :=
  e_ifs_f (e_not (e_b (e_call (ws := [.v d0]) rfl rfl hf rfl))) rfl
theorem nonS {n : Nat} {body : DenS} {ws : List W} {δ : Slots} (h : body (slots0 n ws) S = .nx δ S) : fdef n body ws S = .ok (.v .non) S := by
  rw [e_fdefN h, List.take_length]
theorem wb_zero (hf : f_has_form [.v d0] S = .ok (.v (.bl true)) S) (hk : spotsOf d0 pl S []) : f_want_bare (m + 1) [.v d0, .v (.tup pl)] S = .ok (.v .non) S :=
  nonS (e_seq_nx (wb_head hf) (e_for hk rfl))
theorem wb_one (hf : f_has_form [.v d0] S = .ok (.v (.bl true)) S) (hk : spotsOf d0 pl S [.int k]) (h0 : gIx d0 (.int k) = some d) (hl : pl.length ≤ 1000) (e : f_want_bare m [.v d, .v (.tup (pl ++ [.int k]))] S = .ok (.v .non) S) : f_want_bare (m + 1) [.v d0, .v (.tup pl)] S = .ok (.v .non) S :=
  nonS (e_seq_nx (wb_head hf) (e_for hk (Eq.trans (e_for_nx rfl (wb_turn h0 hl e)) rfl)))
theorem wb_one_xc (hf : f_has_form [.v d0] S = .ok (.v (.bl true)) S) (hk : spotsOf d0 pl S [.int k]) (h0 : gIx d0 (.int k) = some d) (hl : pl.length ≤ 1000) (e : f_want_bare m [.v d, .v (.tup (pl ++ [.int k]))] S = .exc c ds S) : f_want_bare (m + 1) [.v d0, .v (.tup pl)] S = .exc c ds S :=
  e_fdef_xc0 (e_seq_nx (wb_head hf) (e_for hk (e_for_xc rfl (wb_turn_xc h0 hl e))))
theorem wb_two {k2 : Int} {d2 : D} (hf : f_has_form [.v d0] S = .ok (.v (.bl true)) S) (hk : spotsOf d0 pl S [.int k, .int k2]) (h0 : gIx d0 (.int k) = some d) (h2 : gIx d0 (.int k2) = some d2) (hl : pl.length ≤ 1000) (e : f_want_bare m [.v d, .v (.tup (pl ++ [.int k]))] S = .ok (.v .non) S)
    (e2 : f_want_bare m [.v d2, .v (.tup (pl ++ [.int k2]))] S = .ok (.v .non) S) : f_want_bare (m + 1) [.v d0, .v (.tup pl)] S = .ok (.v .non) S :=
  nonS (e_seq_nx (wb_head hf) (e_for hk (Eq.trans (e_for_nx rfl (wb_turn h0 hl e)) (Eq.trans (e_for_nx rfl (wb_turn h2 hl e2)) rfl))))
theorem wb_two_xc1 {k2 : Int} (hf : f_has_form [.v d0] S = .ok (.v (.bl true)) S) (hk : spotsOf d0 pl S [.int k, .int k2]) (h0 : gIx d0 (.int k) = some d) (hl : pl.length ≤ 1000) (e : f_want_bare m [.v d, .v (.tup (pl ++ [.int k]))] S = .exc c ds S) : f_want_bare (m + 1) [.v d0, .v (.tup pl)] S = .exc c ds S :=
  e_fdef_xc0 (e_seq_nx (wb_head hf) (e_for hk (e_for_xc rfl (wb_turn_xc h0 hl e))))
theorem wb_two_xc2 {k2 : Int} {d2 : D} (hf : f_has_form [.v d0] S = .ok (.v (.bl true)) S) (hk : spotsOf d0 pl S [.int k, .int k2]) (h0 : gIx d0 (.int k) = some d) (h2 : gIx d0 (.int k2) = some d2) (hl : pl.length ≤ 1000) (e : f_want_bare m [.v d, .v (.tup (pl ++ [.int k]))] S = .ok (.v .non) S)
    (e2 : f_want_bare m [.v d2, .v (.tup (pl ++ [.int k2]))] S = .exc c ds S) : f_want_bare (m + 1) [.v d0, .v (.tup pl)] S = .exc c ds S :=
  e_fdef_xc0 (e_seq_nx (wb_head hf) (e_for hk (Eq.trans (e_for_nx rfl (wb_turn h0 hl e)) (e_for_xc rfl (wb_turn_xc h2 hl e2)))))
/-- an object of no form -/
theorem wb_odd (hf : f_has_form [.v d0] S = .ok (.v (.bl false)) S) : f_want_bare (m + 1) [.v d0, .v (.tup pl)] S = .exc 10 [.tup pl] S :=
  e_fdef_xc0 (e_seq_xc (e_ifs_t (e_not (e_b (e_call (ws := [.v d0]) rfl rfl hf rfl))) (e_raise (ws := [.v (.tup pl)]) rfl rfl rfl)))
end
theorem wb_ev : ∀ (e : B) (m : Nat) (pl : List D) (S : Sto), goodB e → htB e ≤ m → pl.length + htB e ≤ 1000 → f_want_bare m [.v (encB e), .v (.tup pl)] S = .ok (.v .non) S := by
  intro e
  induction e with
  | nm t => intro m pl S hg hm hl; obtain ⟨m, rfl⟩ := suc_of (htB_pos _) hm; exact wb_zero (form_ev _ S hg) rfl
  | int t => intro m pl S hg hm hl; obtain ⟨m, rfl⟩ := suc_of (htB_pos _) hm; exact wb_zero (form_ev _ S hg) rfl
  | bl t => intro m pl S hg hm hl; obtain ⟨m, rfl⟩ := suc_of (htB_pos _) hm; exact wb_zero (form_ev _ S hg) rfl
  | unit => intro m pl S hg hm hl; obtain ⟨m, rfl⟩ := suc_of (htB_pos _) hm; exact wb_zero (form_ev _ S hg) rfl
  | fn x a ih =>
    intro m pl S hg hm hl
    obtain ⟨m, rfl⟩ := suc_of (htB_pos _) hm
    simp only [htB] at hm hl
    exact wb_one (k := 2) (form_ev _ S hg) rfl rfl (by omega) (ih m _ S hg.2 (by omega) (by simp; omega))
  | app a b iha ihb =>
    intro m pl S hg hm hl
    obtain ⟨m, rfl⟩ := suc_of (htB_pos _) hm
    simp only [htB] at hm hl
    exact wb_two (k := 1) (k2 := 2) (form_ev _ S hg) rfl rfl rfl (by omega) (iha m _ S hg.1 (by omega) (by simp; omega)) (ihb m _ S hg.2 (by omega) (by simp; omega))
  | pr a b iha ihb =>
    intro m pl S hg hm hl
    obtain ⟨m, rfl⟩ := suc_of (htB_pos _) hm
    simp only [htB] at hm hl
    exact wb_two (k := 1) (k2 := 2) (form_ev _ S hg) rfl rfl rfl (by omega) (iha m _ S hg.1 (by omega) (by simp; omega)) (ihb m _ S hg.2 (by omega) (by simp; omega))
  | lt x a b iha ihb =>
    intro m pl S hg hm hl
    obtain ⟨m, rfl⟩ := suc_of (htB_pos _) hm
    simp only [htB] at hm hl
    exact wb_two (k := 2) (k2 := 3) (form_ev _ S hg) rfl rfl rfl (by omega) (iha m _ S hg.2.1 (by omega) (by simp; omega)) (ihb m _ S hg.2.2 (by omega) (by simp; omega))
theorem put_in_ev {e : B} {S : Sto} (hg : goodB e) (h1 : szB e ≤ 54) (h2 : htB e ≤ 58) : f_put_in [.v (encB e)] S = .ok (.v (encB (plainB (withoutB e)))) S := by
  have ka := ht_withoutB e
  have na := nf_without e
  have sa := nf_sz e
  refine e_fdef_v (e_seq_nx (e_expr (e_call (ws := [.v (encB e)]) rfl rfl (wb_ev e 60 [] S hg (by omega) (by simp; omega)) rfl)) (e_ret (e_call (ws := [.v (encB (withoutB e))]) (e_cons (e_call (ws := [.v (encB e)]) rfl rfl (without_ev e 60 S (good_ok hg) (by omega) (by omega)) rfl) rfl) rfl (plain_bare_ev (ok_without e (good_ok hg)) (by omega) (by omega)) rfl)))
theorem put_in_xc {d : D} {pl : List D} {S : Sto} (e : f_want_bare 60 [.v d, .v (.tup [])] S = .exc 10 [.tup pl] S) : f_put_in [.v d] S = .exc 10 [.tup pl] S :=
  e_fdef_xc0 (e_seq_xc (e_expr_xc (e_call_xc (ws := [.v d]) rfl rfl e)))
end Fro

namespace Fro
open PySem PySem.Spec L2
/-! the law's letters -/
def let78 : List Tx := (lets.map fun c => [c]) ++ (lets.map fun x => [97, x]) ++ (lets.map fun x => [98, x])
theorem let78_nd : let78.Nodup := by decide +kernel
theorem letrs_78 : letrs = let78 ++ letrs.drop 78 := by decide +kernel
theorem first78 {t : List Tx} (h : t.length < 78) : ∃ r, (let78.filter fun x => !decide (x ∈ t)) = firstL t :: r := by
  have hx : ∃ x ∈ let78, x ∉ t := by
    apply Classical.byContradiction
    intro hn
    have hs : ∀ x ∈ let78, x ∈ t := fun x hx => Classical.byContradiction fun hy => hn ⟨x, hx, hy⟩
    have : let78.length ≤ t.length := let78_nd.length_le_of_subset hs
    have e : let78.length = 78 := by decide +kernel
    omega
  obtain ⟨x, hx, hy⟩ := hx
  have hm : x ∈ let78.filter fun x => !decide (x ∈ t) := List.mem_filter.mpr ⟨hx, by simp [hy]⟩
  cases q : let78.filter fun x => !decide (x ∈ t) with
  | nil => rw [q] at hm; cases hm
  | cons y r =>
    refine ⟨r, ?_⟩
    have : firstL t = y := by
      unfold firstL
      rw [letrs_78, List.filter_append, q]
      rfl
    rw [this]
theorem comp_pre (c : Tx) (te : Den W) {δ : Slots} {S : Sto} (hl : 6 < δ.length) (h4 : δ[4]? = some (some (.v (.str lets)))) (hc : ∀ (x : Nat) (S : Sto) (δ : Slots), δ[6]? = some (some (.v (.str [x]))) → te δ S = .ok (.v (.str (c ++ [x]))) S) :
    cComp (itS (cVar 4)) (gN 6) cYes te [6] δ S = .ok (.v (.lst (stL (lets.map fun x => c ++ [x])))) S := by
  have q := comp_map (it := itS (cVar 4)) (dg := gN 6) (te := te) (vs := [6]) (δ := δ) (S := S) (S1 := S) (ds := lets.map fun x => .str [x]) (fun d => match d with
    | .str [x] => .str (c ++ [x])
    | d => d) (by unfold itS; rw [e_var h4]; rfl) (by decide) (fun d hd acc => by
      obtain ⟨x, hx, rfl⟩ := List.mem_map.mp hd
      refine ⟨_, rfl, hc x _ _ ?_⟩
      rw [List.getElem?_set_self (by rw [wipe1_len]; exact hl)])
  have hm : (lets.map fun x => D.str [x]).map (fun d => match d with
    | .str [x] => .str (c ++ [x])
    | d => d) = stL (lets.map fun x => c ++ [x]) := by
    rw [List.map_map]
    unfold stL
    rw [List.map_map]
    rfl
  rw [hm] at q
  exact q
theorem lo_some {d0 : D} {tk ar : List Tx} {w : Tx} {S : Sto} : (op2 gAdd (op2 gAdd (cComp (itS (cVar 4)) (gN 6) cYes (cVar 6) [6]) (cComp (itS (cVar 4)) (gN 6) cYes (op2 gAdd (cC (.str [97])) (cVar 6)) [6])) (cComp (itS (cVar 4)) (gN 6) cYes (op2 gAdd (cC (.str [98])) (cVar 6)) [6]))
    [some (.v d0), some (.v (.lst (stL tk))), some (.v (.lst (stL ar))), some (.v (.str w)), some (.v (.str lets)), none, none, none] S = .ok (.v (.lst (stL let78))) S := by
  refine e_op2v (e_op2v (comp_pre [] (cVar 6) (by simp) rfl fun x S δ h => e_var h) (comp_pre [97] _ (by simp) rfl fun x S δ h => e_op2v rfl (e_var h) (v_addS (by simp))) (gAdd_lsts _ _ (by decide))) (comp_pre [98] _ (by simp) rfl fun x S δ h => e_op2v rfl (e_var h) (v_addS (by simp))) ?_
  exact gAdd_lsts _ _ (by decide)
theorem lo_filter {d0 : D} {tk ar : List Tx} {w : Tx} {S : Sto} : cComp (itL (cVar 5)) (gN 7) (cAnd (cB (op2 gNotIn (cVar 7) (cVar 1))) (cB (op2 gNotIn (cVar 7) (cVar 2)))) (cVar 7) [7]
    [some (.v d0), some (.v (.lst (stL tk))), some (.v (.lst (stL ar))), some (.v (.str w)), some (.v (.str lets)), some (.v (.lst (stL let78))), none, none] S = .ok (.v (.lst (stL (let78.filter fun x => !decide (x ∈ tk ++ ar))))) S := by
  have q := comp_ev (it := itL (cVar 5)) (dg := gN 7) (tt := cAnd (cB (op2 gNotIn (cVar 7) (cVar 1))) (cB (op2 gNotIn (cVar 7) (cVar 2)))) (te := cVar 7) (vs := [7]) (δ := [some (.v d0), some (.v (.lst (stL tk))), some (.v (.lst (stL ar))), some (.v (.str w)), some (.v (.str lets)), some (.v (.lst (stL let78))), none, none]) (S := S) (S1 := S) (ds := stL let78) (flt fun n => !decide (n ∈ tk ++ ar)) rfl (by decide) (fun x hx acc2 => by
    obtain ⟨u, hu, rfl⟩ := List.mem_map.mp hx
    refine ⟨[some (.v d0), some (.v (.lst (stL tk))), some (.v (.lst (stL ar))), some (.v (.str w)), some (.v (.str lets)), some (.v (.lst (stL let78))), none, some (.v (.str u))], rfl, ?_⟩
    have h1 : cB (op2 gNotIn (cVar 7) (cVar 1)) [some (.v d0), some (.v (.lst (stL tk))), some (.v (.lst (stL ar))), some (.v (.str w)), some (.v (.str lets)), some (.v (.lst (stL let78))), none, some (.v (.str u))] (S ++ [.lst acc2]) = .ok (!decide (u ∈ tk)) (S ++ [.lst acc2]) := e_b (e_op2v rfl rfl (gNotIn_lst u tk))
    have h2 : cB (op2 gNotIn (cVar 7) (cVar 2)) [some (.v d0), some (.v (.lst (stL tk))), some (.v (.lst (stL ar))), some (.v (.str w)), some (.v (.str lets)), some (.v (.lst (stL let78))), none, some (.v (.str u))] (S ++ [.lst acc2]) = .ok (!decide (u ∈ ar)) (S ++ [.lst acc2]) := e_b (e_op2v rfl rfl (gNotIn_lst u ar))
    by_cases c1 : u ∈ tk
    · rw [show flt (fun n => !decide (n ∈ tk ++ ar)) (.str u) = none from if_neg (by simp [c1])]
      rw [decide_eq_true c1] at h1
      exact e_and_f h1
    · rw [decide_eq_false c1] at h1
      by_cases c2 : u ∈ ar
      · rw [show flt (fun n => !decide (n ∈ tk ++ ar)) (.str u) = none from if_neg (by simp [c2])]
        rw [decide_eq_true c2] at h2
        exact e_and_t h1 h2
      · rw [show flt (fun n => !decide (n ∈ tk ++ ar)) (.str u) = some (.str u) from if_pos (by simp [c1, c2])]
        rw [decide_eq_false c2] at h2
        exact ⟨e_and_t h1 h2, rfl⟩)
  rw [filter_stL] at q
  exact q
/-! closed forms -/
def InnQ : Qb → Nat → Prop
  | .bd k, n => k < n
  | .fn a, n => InnQ a (n + 1)
  | .app a b, n => InnQ a n ∧ InnQ b n
  | .lt a b, n => InnQ a n ∧ InnQ b (n + 1)
  | .pr a b, n => InnQ a n ∧ InnQ b n
  | _, _ => True
theorem inn_in : ∀ (e : B) (G : List Tx), InnQ (inB G e) G.length
  | .nm t, G => by
    unfold inB
    split
    · rename_i h; exact idx_lt h
    · trivial
  | .int _, _ => trivial
  | .bl _, _ => trivial
  | .unit, _ => trivial
  | .fn x a, G => inn_in a (x :: G)
  | .app a b, G => ⟨inn_in a G, inn_in b G⟩
  | .lt x a b, G => ⟨inn_in a G, inn_in b (x :: G)⟩
  | .pr a b, G => ⟨inn_in a G, inn_in b G⟩
theorem lo_mid {f : FDen} {d0 : D} {tk A : List Tx} {w : Tx} {S : Sto} {r : RS} {rest : DenS} (ht : tk.length + A.length < 78)
    (hr : ∀ l, rest [some (.v d0), some (.v (.lst (stL tk))), some (.v (.lst (stL A.reverse))), some (.v (.str w)), some (.v (.str lets)), some (.v (.lst (.str (firstL (tk ++ A.reverse)) :: l))), none, none] S = r) :
    (cSeq (cAsg (cC (.str [97, 98, 99, 100, 101, 102, 103, 104, 105, 106, 107, 108, 109, 110, 111, 112, 113, 114, 115, 116, 117, 118, 119, 120, 121, 122])) (gN 4))
    (cSeq (cAsg (op2 gAdd (op2 gAdd (cComp (itS (cVar 4)) (gN 6) cYes (cVar 6) [6]) (cComp (itS (cVar 4)) (gN 6) cYes (op2 gAdd (cC (.str [97])) (cVar 6)) [6])) (cComp (itS (cVar 4)) (gN 6) cYes (op2 gAdd (cC (.str [98])) (cVar 6)) [6])) (gN 5))
    (cSeq (cAsg (cComp (itL (cVar 5)) (gN 7) (cAnd (cB (op2 gNotIn (cVar 7) (cVar 1))) (cB (op2 gNotIn (cVar 7) (cVar 2)))) (cVar 7) [7]) (gN 5)) rest)))
    [some (.v d0), some (.v (.lst (stL tk))), some (.v (.lst (stL A.reverse))), some (.v (.str w)), none, none, none, none] S = r := by
  obtain ⟨l, hl⟩ := first78 (t := tk ++ A.reverse) (by simp; omega)
  have q := lo_filter (d0 := d0) (tk := tk) (ar := A.reverse) (w := w) (S := S)
  rw [hl] at q
  exact e_seq_nx (e_set rfl) (e_seq_nx (e_set lo_some) (e_seq_nx (e_set q) (hr (stL l))))
theorem lout_ev : ∀ (q : Qb) (m : Nat) (tk A : List Tx) (S : Sto), htQ q ≤ m → InnQ q A.length → tk.length + A.length + htQ q ≤ 78 → f__law_out m [.v (encQ q), .v (.lst (stL tk)), .v (.lst (stL A.reverse))] S = .ok (.v (encB (outB firstL tk A q))) S := by
  intro q
  induction q with
  | fr t => intro m tk A S hm hi hl; obtain ⟨m, rfl⟩ := suc_of (htQ_pos _) hm; exact e_fdef_v rfl
  | int t => intro m tk A S hm hi hl; obtain ⟨m, rfl⟩ := suc_of (htQ_pos _) hm; exact e_fdef_v rfl
  | bl t => intro m tk A S hm hi hl; obtain ⟨m, rfl⟩ := suc_of (htQ_pos _) hm; exact e_fdef_v rfl
  | unit => intro m tk A S hm hi hl; obtain ⟨m, rfl⟩ := suc_of (htQ_pos _) hm; exact e_fdef_v rfl
  | bd n =>
    intro m tk A S hm hi hl; obtain ⟨m, rfl⟩ := suc_of (htQ_pos _) hm
    have hi : n < A.length := hi
    refine e_fdef_v (e_seq_nx (e_set (w := .v (.str [98])) (S1 := S) rfl) (e_seq_rt (e_ifs_t (S1 := S) (e_b rfl) (e_ret (e_disp (ws := [.v (.str [110, 97, 109, 101]), .v (.str (A.getD n []))]) (e_cons rfl (e_cons (e_ix (d := .lst (stL A.reverse)) (e := .int ((A.length - 1 - n : Nat) : Int)) rfl (e_op2v (d := .int ((A.length : Int) - 1)) (e := .int n) (e_op2v (d := .int (A.length : Int)) (e := .int 1) ?_ rfl rfl) rfl ?_) ?_) rfl)) rfl (by simp) rfl)))))
    · show apN gLen [.v (.lst (stL A.reverse))] S = _
      unfold apN
      simp only [rdAll, rd, gLen, stL_length, List.length_reverse]
    · show some (D.int ((A.length : Int) - 1 - n)) = _
      congr 2
      omega
    · rw [v_gIxL]
      unfold atI ixN
      rw [if_pos (by omega), if_pos (by rw [stL_length, List.length_reverse]; omega)]
      simp only [Option.bind_some]
      show (stL A.reverse)[_]? = _
      unfold stL
      rw [List.getElem?_map, List.getElem?_reverse (by omega)]
      have : A.length - 1 - ((A.length - 1 - n : Nat) : Int).toNat = n := by omega
      rw [this]
      rw [List.getElem?_eq_getElem hi]
      simp [List.getD, hi]
  | app a b iha ihb =>
    intro m tk A S hm hi hl
    obtain ⟨m, rfl⟩ := suc_of (htQ_pos _) hm
    simp only [htQ] at hm hl
    refine e_fdef_v (e_seq_nx (e_set (w := .v (.str [97, 112, 112])) (S1 := S) rfl) (e_seq_nx (e_ifs_f (S1 := S) (e_b rfl) rfl) (e_seq_rt (e_ifs_t (S1 := S) (e_b rfl) (e_ret ?_)))))
    exact e_disp (ws := [.v (.str [97, 112, 112]), .v (encB (outB firstL tk A a)), .v (encB (outB firstL tk A b))]) (e_cons rfl (e_cons (e_call (ws := [.v (encQ a), .v (.lst (stL tk)), .v (.lst (stL A.reverse))]) rfl rfl (iha m tk A S (by omega) hi.1 (by omega)) rfl) (e_cons (e_call (ws := [.v (encQ b), .v (.lst (stL tk)), .v (.lst (stL A.reverse))]) rfl rfl (ihb m tk A S (by omega) hi.2 (by omega)) rfl) rfl))) rfl (by simp) rfl
  | pr a b iha ihb =>
    intro m tk A S hm hi hl
    obtain ⟨m, rfl⟩ := suc_of (htQ_pos _) hm
    simp only [htQ] at hm hl
    refine e_fdef_v (e_seq_nx (e_set (w := .v (.str [112, 97, 105, 114])) (S1 := S) rfl) (e_seq_nx (e_ifs_f (S1 := S) (e_b rfl) rfl) (e_seq_rt (e_ifs_t (S1 := S) (e_b rfl) (e_ret ?_)))))
    exact e_disp (ws := [.v (.str [112, 97, 105, 114]), .v (encB (outB firstL tk A a)), .v (encB (outB firstL tk A b))]) (e_cons rfl (e_cons (e_call (ws := [.v (encQ a), .v (.lst (stL tk)), .v (.lst (stL A.reverse))]) rfl rfl (iha m tk A S (by omega) hi.1 (by omega)) rfl) (e_cons (e_call (ws := [.v (encQ b), .v (.lst (stL tk)), .v (.lst (stL A.reverse))]) rfl rfl (ihb m tk A S (by omega) hi.2 (by omega)) rfl) rfl))) rfl (by simp) rfl
  | fn a ih =>
    intro m tk A S hm hi hl
    obtain ⟨m, rfl⟩ := suc_of (htQ_pos _) hm
    simp only [htQ] at hm hl
    have pa := htQ_pos a
    have q := ih m tk (firstL (tk ++ A.reverse) :: A) S (by omega) hi (by rw [List.length_cons]; omega)
    refine e_fdef_v (e_seq_nx (e_set (w := .v (.str [102, 117, 110])) (S1 := S) rfl) (e_seq_nx (e_ifs_f (S1 := S) (e_b rfl) rfl) (e_seq_nx (e_ifs_f (S1 := S) (e_b rfl) rfl) (e_seq_nx (e_ifs_f (S1 := S) (e_b rfl) rfl) (lo_mid (f := f__law_out m) (by omega) fun l => e_seq_rt (e_ifs_t (S1 := S) (e_b rfl) (e_ret ?_)))))))
    refine e_disp (ws := [.v (.str [102, 117, 110]), .v (.str (firstL (tk ++ A.reverse))), .v (encB (outB firstL tk (firstL (tk ++ A.reverse) :: A) a))]) (e_cons rfl (e_cons (e_ix rfl rfl v_at0) (e_cons (e_call (ws := [.v (encQ a), .v (.lst (stL tk)), .v (.lst (stL (firstL (tk ++ A.reverse) :: A).reverse))]) (e_cons rfl (e_cons rfl (e_cons (e_op2v (d := .lst (stL A.reverse)) (e := .lst (stL [firstL (tk ++ A.reverse)])) rfl (e_disp (ws := [.v (.str (firstL (tk ++ A.reverse)))]) (e_cons (e_ix rfl rfl v_at0) rfl) rfl (by simp) rfl) ?_) rfl))) rfl q rfl) rfl))) rfl (by simp) rfl
    rw [List.reverse_cons]
    exact gAdd_lsts _ _ (by simp; omega)
  | lt a b iha ihb =>
    intro m tk A S hm hi hl
    obtain ⟨m, rfl⟩ := suc_of (htQ_pos _) hm
    simp only [htQ] at hm hl
    have pa := htQ_pos a
    have qa := iha m tk A S (by omega) hi.1 (by omega)
    have q := ihb m tk (firstL (tk ++ A.reverse) :: A) S (by omega) hi.2 (by rw [List.length_cons]; omega)
    refine e_fdef_v (e_seq_nx (e_set (w := .v (.str [108, 101, 116])) (S1 := S) rfl) (e_seq_nx (e_ifs_f (S1 := S) (e_b rfl) rfl) (e_seq_nx (e_ifs_f (S1 := S) (e_b rfl) rfl) (e_seq_nx (e_ifs_f (S1 := S) (e_b rfl) rfl) (lo_mid (f := f__law_out m) (by omega) fun l => e_seq_nx (e_ifs_f (S1 := S) (e_b rfl) rfl) (e_ret ?_))))))
    refine e_disp (ws := [.v (.str [108, 101, 116]), .v (.str (firstL (tk ++ A.reverse))), .v (encB (outB firstL tk A a)), .v (encB (outB firstL tk (firstL (tk ++ A.reverse) :: A) b))]) (e_cons rfl (e_cons (e_ix rfl rfl v_at0) (e_cons (e_call (ws := [.v (encQ a), .v (.lst (stL tk)), .v (.lst (stL A.reverse))]) rfl rfl qa rfl) (e_cons (e_call (ws := [.v (encQ b), .v (.lst (stL tk)), .v (.lst (stL (firstL (tk ++ A.reverse) :: A).reverse))]) (e_cons rfl (e_cons rfl (e_cons (e_op2v (d := .lst (stL A.reverse)) (e := .lst (stL [firstL (tk ++ A.reverse)])) rfl (e_disp (ws := [.v (.str (firstL (tk ++ A.reverse)))]) (e_cons (e_ix rfl rfl v_at0) rfl) rfl (by simp) rfl) ?_) rfl))) rfl q rfl) rfl)))) rfl (by simp) rfl
    rw [List.reverse_cons]
    exact gAdd_lsts _ _ (by simp; omega)
/-- the law's plain form -/
def namedQ (q : Qb) : B := outB firstL (frQ q) [] q
theorem named_ev {q : Qb} {S : Sto} (h1 : htQ q ≤ 60) (h2 : InnQ q 0) (h3 : (frQ q).length + htQ q ≤ 78) (h4 : cntQ q ≤ 1000) : f__law_named_so [.v (encQ q)] S = .ok (.v (encB (namedQ q))) S := by
  obtain ⟨rv, e1, e2⟩ := lfrees_ev q 60 S h1 h4
  have q := lout_ev q 60 (frQ q) [] S h1 h2 (by simpa using h3)
  exact e_fdef_v (e_ret (e_call (ws := [.v (encQ _), .v (.lst (stL (frQ _))), .v (.lst (stL ([] : List Tx).reverse))]) (e_cons rfl (e_cons (e_call (ws := [.v (encQ _)]) rfl rfl e1 (e2 S)) (e_cons rfl rfl))) rfl q rfl))
end Fro

namespace Fro
open PySem PySem.Spec L2
/-! plain forms by name and by number -/
theorem out_congr {tk tk' : List Tx} (h : ∀ x, x ∈ tk ↔ x ∈ tk') : ∀ (q : Qb) (A : List Tx), outB firstL tk A q = outB firstL tk' A q := by
  have hf : ∀ A : List Tx, firstL (tk ++ A.reverse) = firstL (tk' ++ A.reverse) := fun A => firstL_congr fun x => by simp [h x]
  intro q
  induction q with
  | fr _ => intro A; rfl
  | bd _ => intro A; rfl
  | int _ => intro A; rfl
  | bl _ => intro A; rfl
  | unit => intro A; rfl
  | fn a ih => intro A; simp only [outB, hf A, ih]
  | app a b iha ihb => intro A; simp only [outB, iha, ihb]
  | lt a b iha ihb => intro A; simp only [outB, hf A, iha, ihb]
  | pr a b iha ihb => intro A; simp only [outB, iha, ihb]
theorem free_fr (e : B) (x : Tx) : x ∈ freeB e ↔ x ∈ frQ (inB [] e) := by
  rw [mem_freeB, mem_frQ, fr_in]
  simp
theorem plain_named (e : B) : plainB e = namedQ (inB [] e) := by
  have q := rel_out firstL (freeB e) e (fun t => t) [] [] (by simp) (by simp)
  simp only [List.reverse_nil, List.append_nil] at q
  unfold plainB namedQ
  rw [q]
  exact out_congr (free_fr e) _ _
theorem in_out : ∀ (q : Qb) (tk A : List Tx), InnQ q A.length → A.Nodup → (∀ x ∈ A, x ∉ tk) → (∀ x, frP x q → x ∈ tk) → tk.length + A.length + htQ q < 130 → inB A (outB firstL tk A q) = q := by
  intro q
  induction q with
  | fr t =>
    intro tk A hi hn ha hf hl
    show (if t ∈ A then Qb.bd _ else Qb.fr t) = _
    rw [if_neg fun z => ha t z (hf t rfl)]
  | bd n =>
    intro tk A hi hn ha hf hl
    have hi : n < A.length := hi
    have hg : A.getD n [] = A[n] := by simp [List.getD, hi]
    show (if A.getD n [] ∈ A then Qb.bd (A.idxOf (A.getD n [])) else Qb.fr _) = _
    rw [hg, if_pos (List.getElem_mem hi)]
    congr 1
    exact List.Nodup.idxOf_getElem hn n hi
  | int _ => intro tk A hi hn ha hf hl; rfl
  | bl _ => intro tk A hi hn ha hf hl; rfl
  | unit => intro tk A hi hn ha hf hl; rfl
  | app a b iha ihb =>
    intro tk A hi hn ha hf hl
    simp only [htQ] at hl
    simp only [outB, inB]
    rw [iha tk A hi.1 hn ha (fun x h => hf x (.inl h)) (by omega), ihb tk A hi.2 hn ha (fun x h => hf x (.inr h)) (by omega)]
  | pr a b iha ihb =>
    intro tk A hi hn ha hf hl
    simp only [htQ] at hl
    simp only [outB, inB]
    rw [iha tk A hi.1 hn ha (fun x h => hf x (.inl h)) (by omega), ihb tk A hi.2 hn ha (fun x h => hf x (.inr h)) (by omega)]
  | fn a ih =>
    intro tk A hi hn ha hf hl
    simp only [htQ] at hl
    have pa := htQ_pos a
    obtain ⟨z1, z2⟩ := firstL_ok (t := tk ++ A.reverse) (by simp; omega)
    simp only [List.mem_append, List.mem_reverse, not_or] at z2
    simp only [outB, inB]
    rw [ih tk (firstL (tk ++ A.reverse) :: A) hi (List.nodup_cons.mpr ⟨z2.2, hn⟩) (fun x hx => by
      rcases List.mem_cons.mp hx with q | q
      · rw [q]; exact z2.1
      · exact ha x q) hf (by rw [List.length_cons]; omega)]
  | lt a b iha ihb =>
    intro tk A hi hn ha hf hl
    simp only [htQ] at hl
    have pa := htQ_pos a
    obtain ⟨z1, z2⟩ := firstL_ok (t := tk ++ A.reverse) (by simp; omega)
    simp only [List.mem_append, List.mem_reverse, not_or] at z2
    simp only [outB, inB]
    rw [iha tk A hi.1 hn ha (fun x h => hf x (.inl h)) (by omega), ihb tk (firstL (tk ++ A.reverse) :: A) hi.2 (List.nodup_cons.mpr ⟨z2.2, hn⟩) (fun x hx => by
      rcases List.mem_cons.mp hx with q | q
      · rw [q]; exact z2.1
      · exact ha x q) (fun x h => hf x (.inr h)) (by rw [List.length_cons]; omega)]
theorem in_named {q : Qb} (h : InnQ q 0) (hl : (frQ q).length + htQ q < 130) : inB [] (namedQ q) = q :=
  in_out q (frQ q) [] h (by simp) (by simp) (fun x hx => (mem_frQ x q).mpr hx) (by simpa using hl)
theorem good_out : ∀ (q : Qb) (tk A : List Tx), InnQ q A.length → (∀ x ∈ A, isNm x = true) → (∀ x, frP x q → isNm x = true) → tk.length + A.length + htQ q < 130 → goodB (outB firstL tk A q) := by
  intro q
  induction q with
  | fr t => intro tk A hi ha hf hl; exact hf t rfl
  | bd n =>
    intro tk A hi ha hf hl
    have hi : n < A.length := hi
    have hg : A.getD n [] = A[n] := by simp [List.getD, hi]
    show isNm (A.getD n []) = true
    rw [hg]
    exact ha _ (List.getElem_mem hi)
  | int _ => intro tk A hi ha hf hl; trivial
  | bl _ => intro tk A hi ha hf hl; trivial
  | unit => intro tk A hi ha hf hl; trivial
  | app a b iha ihb =>
    intro tk A hi ha hf hl
    simp only [htQ] at hl
    exact ⟨iha tk A hi.1 ha (fun x h => hf x (.inl h)) (by omega), ihb tk A hi.2 ha (fun x h => hf x (.inr h)) (by omega)⟩
  | pr a b iha ihb =>
    intro tk A hi ha hf hl
    simp only [htQ] at hl
    exact ⟨iha tk A hi.1 ha (fun x h => hf x (.inl h)) (by omega), ihb tk A hi.2 ha (fun x h => hf x (.inr h)) (by omega)⟩
  | fn a ih =>
    intro tk A hi ha hf hl
    simp only [htQ] at hl
    have pa := htQ_pos a
    obtain ⟨z1, z2⟩ := firstL_ok (t := tk ++ A.reverse) (by simp; omega)
    refine ⟨letrs_ok _ z1, ih tk _ hi (fun x hx => ?_) hf (by rw [List.length_cons]; omega)⟩
    rcases List.mem_cons.mp hx with q | q
    · rw [q]; exact letrs_ok _ z1
    · exact ha x q
  | lt a b iha ihb =>
    intro tk A hi ha hf hl
    simp only [htQ] at hl
    have pa := htQ_pos a
    obtain ⟨z1, z2⟩ := firstL_ok (t := tk ++ A.reverse) (by simp; omega)
    refine ⟨letrs_ok _ z1, iha tk A hi.1 ha (fun x h => hf x (.inl h)) (by omega), ihb tk _ hi.2 (fun x hx => ?_) (fun x h => hf x (.inr h)) (by rw [List.length_cons]; omega)⟩
    rcases List.mem_cons.mp hx with q | q
    · rw [q]; exact letrs_ok _ z1
    · exact ha x q
theorem sz_out (ft : List Tx → Tx) : ∀ (q : Qb) (tk A : List Tx), htB (outB ft tk A q) = htQ q ∧ szB (outB ft tk A q) = cntQ q := by
  intro q
  induction q with
  | fr _ => intro tk A; exact ⟨rfl, rfl⟩
  | bd _ => intro tk A; exact ⟨rfl, rfl⟩
  | int _ => intro tk A; exact ⟨rfl, rfl⟩
  | bl _ => intro tk A; exact ⟨rfl, rfl⟩
  | unit => intro tk A; exact ⟨rfl, rfl⟩
  | fn a ih => intro tk A; simp only [outB, htB, szB, htQ, cntQ, (ih _ _).1, (ih _ _).2, and_self]
  | app a b iha ihb => intro tk A; simp only [outB, htB, szB, htQ, cntQ, (iha _ _).1, (iha _ _).2, (ihb _ _).1, (ihb _ _).2, and_self]
  | lt a b iha ihb => intro tk A; simp only [outB, htB, szB, htQ, cntQ, (iha _ _).1, (iha _ _).2, (ihb _ _).1, (ihb _ _).2, and_self]
  | pr a b iha ihb => intro tk A; simp only [outB, htB, szB, htQ, cntQ, (iha _ _).1, (iha _ _).2, (ihb _ _).1, (ihb _ _).2, and_self]
/-! without lets -/
def noLt : Qb → Prop
  | .fn a => noLt a
  | .app a b => noLt a ∧ noLt b
  | .lt _ _ => False
  | .pr a b => noLt a ∧ noLt b
  | _ => True
theorem noL_lift (k : Nat) : ∀ (q : Qb) (l : Nat), noLt q → noLt (liftB k l q)
  | .bd n, l, h => by unfold liftB; split <;> trivial
  | .fr _, _, h => h
  | .int _, _, h => h
  | .bl _, _, h => h
  | .unit, _, h => h
  | .fn a, l, h => noL_lift k a (l + 1) h
  | .app a b, l, h => ⟨noL_lift k a l h.1, noL_lift k b l h.2⟩
  | .pr a b, l, h => ⟨noL_lift k a l h.1, noL_lift k b l h.2⟩
theorem noL_put (o : Qb) (ho : noLt o) : ∀ (q : Qb) (d : Nat), noLt q → noLt (putB o d q)
  | .bd n, d, h => by
    unfold putB
    split
    · exact noL_lift _ o 0 ho
    · split <;> trivial
  | .fr _, _, h => h
  | .int _, _, h => h
  | .bl _, _, h => h
  | .unit, _, h => h
  | .fn a, d, h => noL_put o ho a (d + 1) h
  | .app a b, d, h => ⟨noL_put o ho a d h.1, noL_put o ho b d h.2⟩
  | .pr a b, d, h => ⟨noL_put o ho a d h.1, noL_put o ho b d h.2⟩
theorem noL_without : ∀ q : Qb, noLt (withoutQ q)
  | .bd n => trivial
  | .fr _ => trivial
  | .int _ => trivial
  | .bl _ => trivial
  | .unit => trivial
  | .fn a => noL_without a
  | .app a b => ⟨noL_without a, noL_without b⟩
  | .pr a b => ⟨noL_without a, noL_without b⟩
  | .lt a b => noL_put _ (noL_without a) _ 0 (noL_without b)
theorem lift_0 : ∀ (q : Qb) (l : Nat), liftB 0 l q = q
  | .bd n, l => by unfold liftB; split <;> rfl
  | .fr _, _ => rfl
  | .int _, _ => rfl
  | .bl _, _ => rfl
  | .unit, _ => rfl
  | .fn a, l => by simp only [liftB, lift_0 a]
  | .app a b, l => by simp only [liftB, lift_0 a, lift_0 b]
  | .lt a b, l => by simp only [liftB, lift_0 a, lift_0 b]
  | .pr a b, l => by simp only [liftB, lift_0 a, lift_0 b]
/-! put_in of a term without lets -/
theorem without_no_ev : ∀ (e : B) (m : Nat) (G : List Tx) (S : Sto), noLt (inB G e) → htB e ≤ m → f_without_lets m [.v (encB e)] S = .ok (.v (encB e)) S := by
  intro e
  induction e with
  | nm t => intro m G S ho hm; obtain ⟨m, rfl⟩ := suc_of (htB_pos _) hm; exact e_fdef_v rfl
  | int t => intro m G S ho hm; obtain ⟨m, rfl⟩ := suc_of (htB_pos _) hm; exact e_fdef_v rfl
  | bl t => intro m G S ho hm; obtain ⟨m, rfl⟩ := suc_of (htB_pos _) hm; exact e_fdef_v rfl
  | unit => intro m G S ho hm; obtain ⟨m, rfl⟩ := suc_of (htB_pos _) hm; exact e_fdef_v rfl
  | lt x a b _ _ => intro m G S ho hm; exact ho.elim
  | fn x a ih =>
    intro m G S ho hm
    obtain ⟨m, rfl⟩ := suc_of (htB_pos _) hm
    simp only [htB] at hm
    refine e_fdef_v (e_seq_nx (e_ifs_f (S1 := S) (e_b rfl) rfl) (e_seq_rt (e_ifs_t (S1 := S) (e_b rfl) (e_ret ?_))))
    exact e_disp (ws := [.v (.str [102, 117, 110]), .v (.str x), .v (encB a)]) (e_cons rfl (e_cons rfl (e_cons (e_call (ws := [.v (encB a)]) rfl rfl (ih m _ S ho (by omega)) rfl) rfl))) rfl (by simp) rfl
  | app a b iha ihb =>
    intro m G S ho hm
    obtain ⟨m, rfl⟩ := suc_of (htB_pos _) hm
    simp only [htB] at hm
    refine e_fdef_v (e_seq_nx (e_ifs_f (S1 := S) (e_b rfl) rfl) (e_seq_nx (e_ifs_f (S1 := S) (e_b rfl) rfl) (e_seq_rt (e_ifs_t (S1 := S) (e_b rfl) (e_ret ?_)))))
    exact e_disp (ws := [.v (.str [97, 112, 112]), .v (encB a), .v (encB b)]) (e_cons rfl (e_cons (e_call (ws := [.v (encB a)]) rfl rfl (iha m _ S ho.1 (by omega)) rfl) (e_cons (e_call (ws := [.v (encB b)]) rfl rfl (ihb m _ S ho.2 (by omega)) rfl) rfl))) rfl (by simp) rfl
  | pr a b iha ihb =>
    intro m G S ho hm
    obtain ⟨m, rfl⟩ := suc_of (htB_pos _) hm
    simp only [htB] at hm
    refine e_fdef_v (e_seq_nx (e_ifs_f (S1 := S) (e_b rfl) rfl) (e_seq_nx (e_ifs_f (S1 := S) (e_b rfl) rfl) (e_seq_rt (e_ifs_t (S1 := S) (e_b rfl) (e_ret ?_)))))
    exact e_disp (ws := [.v (.str [112, 97, 105, 114]), .v (encB a), .v (encB b)]) (e_cons rfl (e_cons (e_call (ws := [.v (encB a)]) rfl rfl (iha m _ S ho.1 (by omega)) rfl) (e_cons (e_call (ws := [.v (encB b)]) rfl rfl (ihb m _ S ho.2 (by omega)) rfl) rfl))) rfl (by simp) rfl
theorem put_in_no {e : B} {S : Sto} (hg : goodB e) (hn : noLt (inB [] e)) (h2 : htB e ≤ 58) (h3 : nf e + htB e < 130) : f_put_in [.v (encB e)] S = .ok (.v (encB (namedQ (inB [] e)))) S := by
  rw [← plain_named]
  exact e_fdef_v (e_seq_nx (e_expr (e_call (ws := [.v (encB e)]) rfl rfl (wb_ev e 60 [] S hg (by omega) (by simp; omega)) rfl)) (e_ret (e_call (ws := [.v (encB e)]) (e_cons (e_call (ws := [.v (encB e)]) rfl rfl (without_no_ev e 60 [] S hn (by omega)) rfl) rfl) rfl (plain_bare_ev (good_ok hg) (by omega) h3) rfl)))
theorem put_in_named {e : B} {S : Sto} (hg : goodB e) (h1 : szB e ≤ 54) : f_put_in [.v (encB e)] S = .ok (.v (encB (namedQ (withoutQ (inB [] e))))) S := by
  have hh : htB e ≤ szB e := by
    have := ht_cnt (inB [] e)
    rwa [ht_in, cnt_in] at this
  rw [← without_in newQ_not, ← plain_named]
  exact put_in_ev hg h1 (by omega)
/-! == of terms -/
mutual
theorem deq_refl : ∀ d : D, okD d = true → deq d d = true
  | .non, _ => rfl
  | .bl b, _ => by show (b == b) = true; simp
  | .int i, _ => by show (i == i) = true; simp
  | .str t, _ => by show (t == t) = true; simp
  | .tup ds, h => deqL_refl ds (by simpa [okD] using h)
  | .lst ds, h => deqL_refl ds (by simpa [okD] using h)
  | .dct _, h => by simp [okD] at h
  | .ty _, h => by simp [okD] at h
theorem deqL_refl : ∀ ds : List D, okDL ds = true → deqL ds ds = true
  | [], _ => rfl
  | d :: ds, h => by
    have h' : okD d = true ∧ okDL ds = true := by simpa [okDL] using h
    show (deq d d && deqL ds ds) = true
    rw [deq_refl d h'.1, deqL_refl ds h'.2]
    rfl
end
theorem okD_encB : ∀ e : B, okB e → okD (encB e) = true
  | .nm t, h => by show (true && (okD (.str t) && true)) = true; rw [show okD (.str t) = true from h]; rfl
  | .int _, _ => rfl
  | .bl _, _ => rfl
  | .unit, _ => rfl
  | .fn x a, h => by show (true && (okD (.str x) && (okD (encB a) && true))) = true; rw [show okD (.str x) = true from h.1, okD_encB a h.2]; rfl
  | .app a b, h => by show (true && (okD (encB a) && (okD (encB b) && true))) = true; rw [okD_encB a h.1, okD_encB b h.2]; rfl
  | .lt x a b, h => by show (true && (okD (.str x) && (okD (encB a) && (okD (encB b) && true)))) = true; rw [show okD (.str x) = true from h.1, okD_encB a h.2.1, okD_encB b h.2.2]; rfl
  | .pr a b, h => by show (true && (okD (encB a) && (okD (encB b) && true))) = true; rw [okD_encB a h.1, okD_encB b h.2]; rfl
theorem dep_encB : ∀ e : B, dep (encB e) ≤ htB e
  | .nm t => by show max 0 (max 0 0) + 1 ≤ 1; decide
  | .int _ => by show max 0 (max 0 0) + 1 ≤ 1; decide
  | .bl _ => by show max 0 (max 0 0) + 1 ≤ 1; decide
  | .unit => by show max 0 0 + 1 ≤ 1; decide
  | .fn x a => by have := dep_encB a; show max 0 (max 0 (max (dep (encB a)) 0)) + 1 ≤ htB a + 1; omega
  | .app a b => by have := dep_encB a; have := dep_encB b; show max 0 (max (dep (encB a)) (max (dep (encB b)) 0)) + 1 ≤ max (htB a) (htB b) + 1; omega
  | .lt x a b => by have := dep_encB a; have := dep_encB b; show max 0 (max 0 (max (dep (encB a)) (max (dep (encB b)) 0))) + 1 ≤ max (htB a) (htB b) + 1; omega
  | .pr a b => by have := dep_encB a; have := dep_encB b; show max 0 (max (dep (encB a)) (max (dep (encB b)) 0)) + 1 ≤ max (htB a) (htB b) + 1; omega
theorem ne_same {e : B} (h : okB e) (hh : htB e ≤ 64) : gNe (encB e) (encB e) = some (.bl false) := by
  have hd := dep_encB e
  rw [gNe_of (okD_encB e h) (okD_encB e h) (by omega), deq_refl _ (okD_encB e h)]
  rfl
end Fro

namespace Fro
open PySem PySem.Spec L2
/-! ### the source of draws (the well) -/
def SrcO (o : Ob) : Prop := ∃ a b c : Int, o = .lst [.int a, .int b, .int c]
def Src (S : Sto) (i : Nat) : Prop := ∃ o, S[i]? = some o ∧ SrcO o
theorem src_lt {S : Sto} {i : Nat} (h : Src S i) : i < S.length := by
  obtain ⟨o, h, _⟩ := h
  rcases Nat.lt_or_ge i S.length with z | z
  · exact z
  · rw [List.getElem?_eq_none z] at h; cases h
def Drew (S T : Sto) (i : Nat) : Prop := ∃ o, SrcO o ∧ T = S.set i o
theorem Drew.src {S T : Sto} {i : Nat} (h : Src S i) (d : Drew S T i) : Src T i := by
  obtain ⟨o, ho, rfl⟩ := d
  exact ⟨o, List.getElem?_set_self (src_lt h), ho⟩
theorem Drew.trans {S T U : Sto} {i : Nat} (a : Drew S T i) (b : Drew T U i) : Drew S U i := by
  obtain ⟨o, ho, rfl⟩ := a
  obtain ⟨p, hp, rfl⟩ := b
  exact ⟨p, hp, List.set_set _⟩
theorem Drew.refl {S : Sto} {i : Nat} (h : Src S i) : Drew S S i := by
  obtain ⟨o, h1, h2⟩ := h
  exact ⟨o, h2, (set_self h1).symm⟩
theorem e_fdef_vd {n : Nat} {body : DenS} {ws : List W} {S T : Sto} {d : D} {i : Nat} (hd : Drew S T i) (h : body (slots0 n ws) S = .rt (.v d) T) : fdef n body ws S = .ok (.v d) T := by
  obtain ⟨o, _, rfl⟩ := hd
  exact e_fdef_vs h
theorem gMod_ev {i j : Int} (h : 0 < j) : gMod (.int i) (.int j) = some (.int (i % j)) := if_pos h
theorem gDiv_ev {i j : Int} (h : 0 < j) (h2 : j < 1073741824) : gDiv (.int i) (.int j) = some (.int (i / j)) := if_pos ⟨h, h2⟩
theorem gMul_l {i j : Int} (h : -18446744073709551616 < i) (h2 : i < 18446744073709551616) : gMul (.int i) (.int j) = some (.int (i * j)) := if_pos (.inl ⟨h, h2⟩)
theorem gMul_r {i j : Int} (h : -18446744073709551616 < j) (h2 : j < 18446744073709551616) : gMul (.int i) (.int j) = some (.int (i * j)) := if_pos (.inr ⟨h, h2⟩)
theorem gSubD_ev {x y : Den W} {δ : Slots} {S : Sto} {i : Nat} {ds : List D} {k : Int} {j : Nat} {d : D} (h1 : x δ S = .ok (.r i) S) (h2 : y δ S = .ok (.v (.int k)) S) (h3 : S[i]? = some (.lst ds)) (h4 : ixN ds.length k = some j) : gSubD x y (.v d) δ S = some (δ, S.set i (.lst (ds.set j d))) := by
  unfold gSubD
  simp only [h1, h2, isRL_at h3, toD, h4]
theorem draw_ev {S : Sto} {i : Nat} (hs : Src S i) (m : Int) (h0 : 0 < m) (h1 : m < 1073741824) : ∃ (d : Int) (T : Sto), f__law_draw [.r i, .v (.int m)] S = .ok (.v (.int d)) T ∧ 0 ≤ d ∧ d < m ∧ Drew S T i := by
  obtain ⟨o, ho, a, b, c, rfl⟩ := hs
  have hlt : i < S.length := by
    rcases Nat.lt_or_ge i S.length with z | z
    · exact z
    · rw [List.getElem?_eq_none z] at ho; cases ho
  have ix0 : ∀ δ : Slots, cVar 0 δ S = .ok (.r i) S → cIx (cVar 0) (cC (.int 0)) δ S = .ok (.v (.int a)) S := fun δ h => e_ixr h rfl (rd_at ho) rfl
  have hp : ∀ δ : Slots, op2 gPow (cC (.int 10)) (cC (.int 18)) δ S = .ok (.v (.int 1000000000000000000)) S := fun δ => e_op2v rfl rfl rfl
  by_cases ha : 1000000000000000000 ≤ a
  · refine ⟨a % m, S.set i (.lst [.int (a / m), .int b, .int c]), ?_, Int.emod_nonneg _ (by omega), Int.emod_lt_of_pos _ h0, ⟨_, ⟨_, _, _, rfl⟩, rfl⟩⟩
    refine e_fdef_vs (e_seq_rt (e_ifs_t (S1 := S) (e_b (e_op2v (ix0 _ rfl) (hp _) ?_)) (e_seq_nx (e_set (e_op2v (e_blt (ws := [.v (.int a)]) (e_cons (ix0 _ rfl) rfl) rfl rfl) rfl (gMod_ev h0))) (e_seq_nx (e_asg (e_op2v (ix0 _ rfl) rfl (gDiv_ev h0 h1)) (gSubD_ev (j := 0) rfl rfl ho rfl)) (e_ret rfl)))))
    show some (D.bl (decide (1000000000000000000 ≤ a))) = _
    rw [decide_eq_true ha]
  · have hS1 : (S.set i (.lst [.int a, .int b, .int (c + 1)]))[i]? = some (.lst [.int a, .int b, .int (c + 1)]) := List.getElem?_set_self hlt
    have dr : Drew S (S.set i (.lst [.int a, .int b, .int (c + 1)])) i := ⟨_, ⟨_, _, _, rfl⟩, rfl⟩
    generalize hg : S.set i (.lst [.int a, .int b, .int (c + 1)]) = S1 at hS1 dr
    have ix1 : ∀ δ : Slots, cVar 0 δ S1 = .ok (.r i) S1 → cIx (cVar 0) (cC (.int 1)) δ S1 = .ok (.v (.int b)) S1 := fun δ h => e_ixr h rfl (rd_at hS1) rfl
    have ix2 : ∀ δ : Slots, cVar 0 δ S1 = .ok (.r i) S1 → cIx (cVar 0) (cC (.int 2)) δ S1 = .ok (.v (.int (c + 1))) S1 := fun δ h => e_ixr h rfl (rd_at hS1) rfl
    have n1 := Int.emod_nonneg ((b + 7919 * (c + 1) + 1) * 48271) (show (2147483647 : Int) ≠ 0 by decide)
    have n1' := Int.emod_lt_of_pos ((b + 7919 * (c + 1) + 1) * 48271) (show (0 : Int) < 2147483647 by decide)
    generalize hx1 : ((b + 7919 * (c + 1) + 1) * 48271) % 2147483647 = x1 at n1 n1'
    have n2 := Int.emod_nonneg (x1 * (x1 / 1009 + 69621)) (show (2147483629 : Int) ≠ 0 by decide)
    have n2' := Int.emod_lt_of_pos (x1 * (x1 / 1009 + 69621)) (show (0 : Int) < 2147483629 by decide)
    generalize hx2 : (x1 * (x1 / 1009 + 69621)) % 2147483629 = x2 at n2 n2'
    generalize hx3 : (x2 * (x2 / 2003 + 40692)) % 2147483587 = x3
    refine ⟨x3 / 5 % m, S1, ?_, Int.emod_nonneg _ (by omega), Int.emod_lt_of_pos _ h0, dr⟩
    have hge : gGe (.int a) (.int 1000000000000000000) = some (.bl false) := by
      show some (D.bl (decide (1000000000000000000 ≤ a))) = _
      rw [decide_eq_false ha]
    refine e_fdef_vd dr (e_seq_nx (e_ifs_f (S1 := S) (e_b (e_op2v (ix0 _ rfl) (hp _) hge)) rfl) (e_seq_nx (S1 := S1) (δ' := slots0 4 [.r i, .v (.int m)]) (e_asg (e_op2v (e_ixr (d := .lst [.int a, .int b, .int c]) rfl rfl (rd_at ho) rfl) rfl rfl) ?_) ?_))
    · rw [← hg]
      exact gSubD_ev (j := 2) rfl rfl ho rfl
    · refine e_seq_nx (e_set (e_op2v (e_blt (ws := [.v (.int ((b + 7919 * (c + 1) + 1) * 48271))]) (e_cons (e_op2v (e_op2v (e_op2v (ix1 _ rfl) (e_op2v rfl (ix2 _ rfl) (gMul_l (by decide) (by decide))) rfl) rfl rfl) rfl (gMul_r (by decide) (by decide))) rfl) rfl rfl) rfl (gMod_ev (by decide)))) ?_
      rw [hx1]
      refine e_seq_nx (e_set (e_op2v (e_blt (ws := [.v (.int (x1 * (x1 / 1009 + 69621)))]) (e_cons (e_op2v rfl (e_op2v (e_op2v rfl rfl (gDiv_ev (by decide) (by decide))) rfl rfl) (gMul_l (by omega) (by omega))) rfl) rfl rfl) rfl (gMod_ev (by decide)))) ?_
      rw [hx2]
      refine e_ret (e_op2v (e_blt (ws := [.v (.int (x3 / 5))]) (e_cons (e_op2v (d := .int x3) (e := .int 5) (e_op2v (d := .int (x2 * (x2 / 2003 + 40692))) (e := .int 2147483587) (e_blt (ws := [.v (.int (x2 * (x2 / 2003 + 40692)))]) (e_cons (e_op2v rfl (e_op2v (e_op2v rfl rfl (gDiv_ev (by decide) (by decide))) rfl rfl) (gMul_l (by omega) (by omega))) rfl) rfl rfl) rfl ?_) rfl (gDiv_ev (by decide) (by decide))) rfl) rfl rfl) rfl (gMod_ev h0))
      rw [gMod_ev (by decide), hx3]
theorem draw_call {S : Sto} {i : Nat} (hs : Src S i) (m : Int) (h0 : 0 < m) (h1 : m < 1073741824) : ∃ (d : Int) (T : Sto), 0 ≤ d ∧ d < m ∧ Drew S T i ∧ ∀ (as : Den (List W)) (δ : Slots), as δ S = .ok [.r i, .v (.int m)] S → cCall 2 f__law_draw as [] δ S = .ok (.v (.int d)) T := by
  obtain ⟨d, T, e, h2, h3, h4⟩ := draw_ev hs m h0 h1
  exact ⟨d, T, h2, h3, h4, fun as δ h => e_call h rfl e rfl⟩
theorem atI_lt {α : Type} {l : List α} {d : Int} (h0 : 0 ≤ d) (h1 : d < l.length) : ∃ x, atI l d = some x ∧ x ∈ l := by
  have hd : d.toNat < l.length := by omega
  refine ⟨l[d.toNat], ?_, List.getElem_mem hd⟩
  unfold atI ixN
  rw [if_pos h0, if_pos h1]
  exact List.getElem?_eq_getElem hd
theorem one_call {S : Sto} {i : Nat} (hs : Src S i) (ds : List D) (h0 : ds ≠ []) (h1 : ds.length < 1073741824) : ∃ (d : D) (T : Sto), d ∈ ds ∧ Drew S T i ∧ ∀ (as : Den (List W)) (δ : Slots), as δ S = .ok [.r i, .v (.lst ds)] S → cCall 2 f__law_one as [] δ S = .ok (.v d) T := by
  have hp : 0 < ds.length := List.length_pos_iff.mpr h0
  obtain ⟨k, T, h2, h3, h4, h5⟩ := draw_call hs (ds.length : Int) (by omega) (by omega)
  obtain ⟨x, e1, e2⟩ := atI_lt (l := ds) h2 h3
  exact ⟨x, T, e2, h4, fun as δ h => e_call h rfl (e_fdef_vd h4 (e_ret (e_ix rfl (h5 _ _ (e_cons rfl (e_cons rfl rfl))) e1))) rfl⟩
/-- a drawn one of a list that can be changed -/
theorem one_callR {S : Sto} {i j : Nat} (hs : Src S i) (ds : List D) (hj : S[j]? = some (.lst ds)) (hij : j ≠ i) (h0 : ds ≠ []) (h1 : ds.length < 1073741824) : ∃ (d : D) (T : Sto), d ∈ ds ∧ Drew S T i ∧ ∀ (as : Den (List W)) (δ : Slots), as δ S = .ok [.r i, .r j] S → cCall 2 f__law_one as [] δ S = .ok (.v d) T := by
  have hp : 0 < ds.length := List.length_pos_iff.mpr h0
  obtain ⟨k, T, h2, h3, h4, h5⟩ := draw_call hs (ds.length : Int) (by omega) (by omega)
  obtain ⟨x, e1, e2⟩ := atI_lt (l := ds) h2 h3
  have hT : T[j]? = some (.lst ds) := by
    obtain ⟨o, _, rfl⟩ := h4
    rw [List.getElem?_set_ne (Ne.symm hij)]; exact hj
  refine ⟨x, T, e2, h4, fun as δ h => e_call h rfl (e_fdef_vd h4 (e_ret (e_ixr (w := .r j) (d := .lst ds) rfl (h5 _ _ (e_cons rfl (e_cons ?_ rfl))) (rd_at hT) e1))) rfl⟩
  show apN gLen [.r j] S = _
  unfold apN
  simp only [rdAll, rd_at hj, gLen]
theorem well_ev (ns : List Int) (k : Int) (h : 0 ≤ k) (S : Sto) : ∃ o, f__law_well [.s ns, .v (.int k)] S = .ok (.new o) S ∧ SrcO o := by
  have key : ∀ c : Int, (cRet (cLstM (cCons (cVar 2) (cCons (op2 gMod (cBlt gInt (cCons (cVar 2) cNil)) (cC (.int 2147483629))) (cCons (cC (.int 0)) cNil))))) [some (.s ns), some (.v (.int k)), some (.v (.int c))] S = .rt (.r S.length) (S ++ [.lst [.int c, .int (c % 2147483629), .int 0]]) := fun c =>
    e_ret (e_disp (ws := [.v (.int c), .v (.int (c % 2147483629)), .v (.int 0)]) (e_cons rfl (e_cons (e_op2v rfl rfl (gMod_ev (by decide))) rfl)) rfl (by simp) rfl)
  have ht : (cB (op2 gLt (cVar 1) (cLen (cCons (cVar 0) cNil)))) (slots0 3 [.s ns, .v (.int k)]) S = .ok (decide (k < ns.length)) S := e_b (e_op2v (d := .int k) (e := .int ns.length) rfl rfl rfl)
  by_cases hk : k < ns.length
  · rw [decide_eq_true hk] at ht
    obtain ⟨x, e1, _⟩ := atI_lt (l := ns) h hk
    refine ⟨_, e_fdef_new (e_seq_nx (e_set (w := .v (.int x)) (e_if_t ht ?_)) (key x)), ⟨_, _, _, rfl⟩⟩
    show apIx (.s ns) (.v (.int k)) S = _
    unfold apIx
    simp only [e1]
  · rw [decide_eq_false hk] at ht
    exact ⟨_, e_fdef_new (e_seq_nx (e_set (w := .v (.int (7919 * k))) (e_if_f ht (e_op2v rfl rfl (gMul_l (by decide) (by decide))))) (key (7919 * k))), ⟨_, _, _, rfl⟩⟩
end Fro

namespace Fro
open PySem PySem.Spec L2
/-! ### drawn bare terms -/
theorem e_orb {t u : Den Bool} {δ : Slots} {S : Sto} {a b : Bool} (h : t δ S = .ok a S) (h2 : u δ S = .ok b S) : cOr t u δ S = .ok (a || b) S := by
  cases a with
  | true => exact e_or_t h
  | false => exact e_or_f h h2
theorem mem_stL {d : D} {ts : List Tx} (h : d ∈ stL ts) : ∃ t, d = .str t ∧ t ∈ ts := by
  obtain ⟨t, ht, rfl⟩ := List.mem_map.mp h
  exact ⟨t, rfl, ht⟩
def knownL : List Tx := [[102, 115, 116], [115, 110, 100], [110, 105, 108], [99, 111, 110, 115], [102, 111, 108, 100], [112, 105, 99, 107], [105, 116, 101, 114], [97, 100, 100], [108, 101, 115, 115], [117]]
def bindL : List Tx := [[120], [121], [122], [97], [98], [97, 100, 100], [113], [102, 115, 116], [110, 105, 108], [99, 111, 110, 115], [105, 116, 101, 114]]
def wordL : List Tx := [[102, 115, 116], [115, 110, 100], [99, 111, 110, 115], [102, 111, 108, 100], [112, 105, 99, 107], [105, 116, 101, 114], [97, 100, 100], [108, 101, 115, 115]]
theorem known_ok : ∀ t ∈ knownL, isNm t = true := by decide +kernel
theorem bind_ok : ∀ t ∈ bindL, isNm t = true := by decide +kernel
theorem word_ok : ∀ t ∈ wordL, isNm t = true := by decide +kernel
def manyT : Prs := [((cC (.str [102, 115, 116])), (cC (.int 1))), ((cC (.str [115, 110, 100])), (cC (.int 1))), ((cC (.str [99, 111, 110, 115])), (cC (.int 2))), ((cC (.str [97, 100, 100])), (cC (.int 2))), ((cC (.str [108, 101, 115, 115])), (cC (.int 2)))]
def manyE : List (Tx × D) := [([102, 115, 116], .int 1), ([115, 110, 100], .int 1), ([99, 111, 110, 115], .int 2), ([97, 100, 100], .int 2), ([108, 101, 115, 115], .int 2)]
theorem many_dict {δ : Slots} {S : Sto} : cDict manyT δ S = .ok (.v (.dct manyE)) S := e_dict (es := manyE) rfl (by decide) rfl
theorem many_ev {δ : Slots} {S : Sto} {t : Tx} (ht : t ∈ wordL) (h : δ[7]? = some (some (.v (.str t)))) : ∃ k : Nat, k ≤ 3 ∧ cDGet2 (cDict manyT) (cVar 7) (cC (.int 3)) δ S = .ok (.v (.int k)) S := by
  have hv : cVar 7 δ S = .ok (.v (.str t)) S := e_var h
  simp only [wordL, List.mem_cons, List.not_mem_nil, or_false] at ht
  rcases ht with rfl | rfl | rfl | rfl | rfl | rfl | rfl | rfl
  · exact ⟨1, by decide, e_dget many_dict hv rfl rfl⟩
  · exact ⟨1, by decide, e_dget many_dict hv rfl rfl⟩
  · exact ⟨2, by decide, e_dget many_dict hv rfl rfl⟩
  · exact ⟨3, by decide, e_dget_no many_dict hv rfl rfl⟩
  · exact ⟨3, by decide, e_dget_no many_dict hv rfl rfl⟩
  · exact ⟨3, by decide, e_dget_no many_dict hv rfl rfl⟩
  · exact ⟨2, by decide, e_dget many_dict hv rfl rfl⟩
  · exact ⟨2, by decide, e_dget many_dict hv rfl rfl⟩
/-- what a drawn term is -/
def RawOk (f : FDen) (i : Nat) (names : List Tx) (n h : Nat) (S : Sto) : Prop :=
  ∃ (e : B) (T : Sto), Drew S T i ∧ goodB e ∧ htB e ≤ h ∧ ∀ (as : Den (List W)) (δ : Slots), as δ S = .ok [.r i, .v (.lst (stL names)), .v (.int n)] S → cCall 3 f as [] δ S = .ok (.v (encB e)) T
theorem raw_loop {f : FDen} {i n h : Nat} {names : List Tx} (w3 w4 w5 w6 w7 : Option W) (rc : ∀ S, Src S i → RawOk f i names n h S) : ∀ (k : Nat) (lo : Int) (j : Nat) (e : B) (w9 : Option W) (S : Sto), Src S i → goodB e → htB e ≤ h + j →
    ∃ (e' : B) (w9' : Option W) (T : Sto), Drew S T i ∧ goodB e' ∧ htB e' ≤ h + j + k ∧
      forL (gN 9) (l1__law_raw f) (rangeD lo k) [some (.r i), some (.v (.lst (stL names))), some (.v (.int ((n + 1 : Nat) : Int))), w3, w4, w5, w6, w7, some (.v (encB e)), w9] S = .nx [some (.r i), some (.v (.lst (stL names))), some (.v (.int ((n + 1 : Nat) : Int))), w3, w4, w5, w6, w7, some (.v (encB e')), w9'] T
  | 0, lo, j, e, w9, S, hs, hg, hh => ⟨e, w9, S, Drew.refl hs, hg, by omega, rfl⟩
  | k + 1, lo, j, e, w9, S, hs, hg, hh => by
    obtain ⟨a, T, d1, g1, h1, c1⟩ := rc S hs
    obtain ⟨e', w9', U, d2, g2, h2, c2⟩ := raw_loop w3 w4 w5 w6 w7 rc k (lo + 1) (j + 1) (.app e a) (some (.v (.int lo))) T (d1.src hs) ⟨hg, g1⟩ (by simp only [htB]; omega)
    refine ⟨e', w9', U, d1.trans d2, g2, by omega, ?_⟩
    have hsub : ∀ (δ : Slots) (S : Sto), δ[2]? = some (some (.v (.int ((n + 1 : Nat) : Int)))) → op2 gSub (cVar 2) (cC (.int 1)) δ S = .ok (.v (.int n)) S := fun δ S h => by
      have e := e_op2v (g := gSub) (y := cC (.int 1)) (k := .int (((n + 1 : Nat) : Int) - 1)) (S1 := S) (S2 := S) (e_var h) rfl rfl
      rw [show ((n + 1 : Nat) : Int) - 1 = (n : Int) by omega] at e
      exact e
    refine Eq.trans (e_for_nx (δ1 := [some (.r i), some (.v (.lst (stL names))), some (.v (.int ((n + 1 : Nat) : Int))), w3, w4, w5, w6, w7, some (.v (encB e)), some (.v (.int lo))]) (S1 := S) rfl (e_set (e_disp (ws := [.v (.str [97, 112, 112]), .v (encB e), .v (encB a)]) (e_cons rfl (e_cons rfl (e_cons (c1 _ _ (e_cons rfl (e_cons rfl (e_cons (hsub _ _ rfl) rfl)))) rfl))) rfl (by simp) rfl))) c2
theorem raw_ev : ∀ (m n : Nat) (names : List Tx) (S : Sto) (i : Nat), n < m → Src S i → (∀ t ∈ names, isNm t = true) → names.length + n ≤ 1000 →
    ∃ (e : B) (T : Sto), f__law_raw m [.r i, .v (.lst (stL names)), .v (.int n)] S = .ok (.v (encB e)) T ∧ Drew S T i ∧ goodB e ∧ htB e ≤ 3 * n + 1 := by
  intro m
  induction m with
  | zero => intro n names S i h; omega
  | succ m ih =>
    intro n names S i hn hs hnm hnl
    have hway : ∃ (way : Int) (T1 : Sto), 0 ≤ way ∧ way < 12 ∧ (n = 0 → way < 4) ∧ Drew S T1 i ∧ cCall 2 f__law_draw (cCons (cVar 0) (cCons (cIf (cB (op2 gGt (cVar 2) (cC (.int 0)))) (cC (.int 12)) (cC (.int 4))) cNil)) [] (slots0 10 [.r i, .v (.lst (stL names)), .v (.int n)]) S = .ok (.v (.int way)) T1 := by
      have ht : (cB (op2 gGt (cVar 2) (cC (.int 0)))) (slots0 10 [.r i, .v (.lst (stL names)), .v (.int n)]) S = .ok (decide ((0 : Int) < n)) S := e_b (e_op2v (d := .int n) (e := .int 0) rfl rfl rfl)
      by_cases h0 : n = 0
      · subst h0
        obtain ⟨way, T1, w1, w2, w3, w4⟩ := draw_call hs 4 (by decide) (by decide)
        exact ⟨way, T1, w1, by omega, fun _ => w2, w3, w4 _ _ (e_cons rfl (e_cons (e_if_f ht rfl) rfl))⟩
      · rw [decide_eq_true (by omega)] at ht
        obtain ⟨way, T1, w1, w2, w3, w4⟩ := draw_call hs 12 (by decide) (by decide)
        exact ⟨way, T1, w1, w2, fun z => absurd z h0, w3, w4 _ _ (e_cons rfl (e_cons (e_if_t ht rfl) rfl))⟩
    obtain ⟨way, T1, w0, w12, wz, d1, ew⟩ := hway
    have s1 := d1.src hs
    have t1 : cB (op2 gLt (cVar 3) (cC (.int 4))) [some (.r i), some (.v (.lst (stL names))), some (.v (.int n)), some (.v (.int way)), some (.v (.lst (stL knownL))), none, none, none, none, none] T1 = .ok (decide (way < 4)) T1 := e_b (e_op2v rfl rfl rfl)
    by_cases h4 : way < 4
    · rw [decide_eq_true h4] at t1
      obtain ⟨d5, T2, _, _, d2, e5⟩ := draw_call s1 5 (by decide) (by decide)
      have s2 := d2.src s1
      obtain ⟨dd, T3, _, _, d3, e2⟩ := draw_call s2 2 (by decide) (by decide)
      have s3 := d3.src s2
      obtain ⟨dn, T4, hm, d4, en⟩ := one_call s3 (stL (knownL ++ names ++ names ++ names)) (by simp [stL, knownL]) (by rw [stL_length]; simp [knownL]; omega)
      obtain ⟨t, rfl, ht⟩ := mem_stL hm
      have gt : isNm t = true := by
        simp only [List.mem_append] at ht
        rcases ht with ((h | h) | h) | h
        · exact known_ok t h
        · exact hnm t h
        · exact hnm t h
        · exact hnm t h
      have s4 := d4.src s3
      obtain ⟨dr, T5, hr, d5', er⟩ := one_call s4 [encB (.int (d5 - 1)), encB (.bl (dd == 0)), encB .unit, encB (.nm [110, 105, 108]), encB (.nm t), encB (.nm t), encB (.nm t), encB (.nm t)] (by simp) (by simp)
      have hleaf : ∃ e, dr = encB e ∧ goodB e ∧ htB e = 1 := by
        simp only [List.mem_cons, List.not_mem_nil, or_false] at hr
        rcases hr with h | h | h | h | h | h | h | h
        · exact ⟨_, h, trivial, rfl⟩
        · exact ⟨_, h, trivial, rfl⟩
        · exact ⟨_, h, trivial, rfl⟩
        · exact ⟨_, h, (by decide +kernel : isNm [110, 105, 108] = true), rfl⟩
        · exact ⟨_, h, gt, rfl⟩
        · exact ⟨_, h, gt, rfl⟩
        · exact ⟨_, h, gt, rfl⟩
        · exact ⟨_, h, gt, rfl⟩
      obtain ⟨e, rfl, ge, he⟩ := hleaf
      have dall := (((d1.trans d2).trans d3).trans d4).trans d5'
      refine ⟨e, T5, e_fdef_vd dall (e_seq_nx (e_set ew) (e_seq_nx (e_set (w := .v (.lst (stL knownL))) (S1 := T1) rfl) (e_seq_rt (e_ifs_t t1 (e_seq_nx (e_set (w := .v (.lst [encB (.int (d5 - 1)), encB (.bl (dd == 0)), encB .unit, encB (.nm [110, 105, 108])])) (S1 := T3) ?_) (e_seq_nx (e_set (w := .v (.lst [encB (.int (d5 - 1)), encB (.bl (dd == 0)), encB .unit, encB (.nm [110, 105, 108]), encB (.nm t), encB (.nm t), encB (.nm t), encB (.nm t)])) (S1 := T4) ?_) (e_ret (er _ _ (e_cons rfl (e_cons rfl rfl)))))))))), dall, ge, by omega⟩
      · exact e_disp (ws := [.v (encB (.int (d5 - 1))), .v (encB (.bl (dd == 0))), .v (encB .unit), .v (encB (.nm [110, 105, 108]))]) (e_cons (e_disp (ws := [.v (.str [105, 110, 116]), .v (.int (d5 - 1))]) (e_cons rfl (e_cons (e_op2v (e5 _ _ (e_cons rfl (e_cons rfl rfl))) rfl rfl) rfl)) rfl (by simp) rfl) (e_cons (e_disp (ws := [.v (.str [98, 111, 111, 108]), .v (.bl (dd == 0))]) (e_cons rfl (e_cons (e_op2v (e2 _ _ (e_cons rfl (e_cons rfl rfl))) rfl rfl) rfl)) rfl (by simp) rfl) (e_cons rfl (e_cons rfl rfl)))) rfl (by simp) rfl
      · refine e_op2v (d := .lst [encB (.int (d5 - 1)), encB (.bl (dd == 0)), encB .unit, encB (.nm [110, 105, 108])]) (e := .lst [encB (.nm t), encB (.nm t), encB (.nm t), encB (.nm t)]) rfl (e_op2v (d := .lst [encB (.nm t)]) (e := .int 4) (e_disp (ws := [.v (encB (.nm t))]) (e_cons (e_disp (ws := [.v (.str [110, 97, 109, 101]), .v (.str t)]) (e_cons rfl (e_cons (en _ _ (e_cons rfl (e_cons (e_op2v (d := .lst (stL (knownL ++ names ++ names))) (e := .lst (stL names)) (e_op2v (d := .lst (stL (knownL ++ names))) (e := .lst (stL names)) (e_op2v (d := .lst (stL knownL)) (e := .lst (stL names)) rfl rfl (gAdd_lsts _ _ ?_)) rfl (gAdd_lsts _ _ ?_)) rfl (gAdd_lsts _ _ ?_)) rfl))) rfl)) rfl (by simp) rfl) rfl) rfl (by simp) rfl) rfl rfl) rfl
        · simp [knownL]; omega
        · simp [knownL]; omega
        · simp [knownL]; omega
    · rw [decide_eq_false h4] at t1
      obtain ⟨n, rfl⟩ : ∃ k, n = k + 1 := ⟨n - 1, by
        rcases Nat.eq_zero_or_pos n with z | z
        · exact absurd (wz z) h4
        · omega⟩
      have hsub : ∀ (δ : Slots) (S : Sto), δ[2]? = some (some (.v (.int ((n + 1 : Nat) : Int)))) → op2 gSub (cVar 2) (cC (.int 1)) δ S = .ok (.v (.int n)) S := fun δ S h => by
        have e := e_op2v (g := gSub) (y := cC (.int 1)) (k := .int (((n + 1 : Nat) : Int) - 1)) (S1 := S) (S2 := S) (e_var h) rfl rfl
        rw [show ((n + 1 : Nat) : Int) - 1 = (n : Int) by omega] at e
        exact e
      have rc : ∀ (ns : List Tx), (∀ t ∈ ns, isNm t = true) → ns.length ≤ names.length + 1 → ∀ S, Src S i → RawOk (f__law_raw m) i ns n (3 * n + 1) S := fun ns h1 h2 S hs => by
        obtain ⟨e, T, e1, e2, e3, e4⟩ := ih n ns S i (by omega) hs h1 (by omega)
        exact ⟨e, T, e2, e3, e4, fun as δ h => e_call h rfl e1 rfl⟩
      obtain ⟨db, T2, hm, d2, eb⟩ := one_call s1 (stL bindL) (by decide) (by decide)
      obtain ⟨b, rfl, hb⟩ := mem_stL hm
      have gb := bind_ok b hb
      have s2 := d2.src s1
      have pre : ∀ {r : RS} {rest : DenS}, rest [some (.r i), some (.v (.lst (stL names))), some (.v (.int ((n + 1 : Nat) : Int))), some (.v (.int way)), some (.v (.lst (stL knownL))), none, some (.v (.str b)), none, none, none] T2 = r →
          (cSeq (cAsg (cCall 2 f__law_one (cCons (cVar 0) (cCons (cLst (cCons (cC (.str [120])) (cCons (cC (.str [121])) (cCons (cC (.str [122])) (cCons (cC (.str [97])) (cCons (cC (.str [98])) (cCons (cC (.str [97, 100, 100])) (cCons (cC (.str [113])) (cCons (cC (.str [102, 115, 116])) (cCons (cC (.str [110, 105, 108])) (cCons (cC (.str [99, 111, 110, 115])) (cCons (cC (.str [105, 116, 101, 114])) cNil)))))))))))) cNil)) []) (gN 6)) rest) [some (.r i), some (.v (.lst (stL names))), some (.v (.int ((n + 1 : Nat) : Int))), some (.v (.int way)), some (.v (.lst (stL knownL))), none, none, none, none, none] T1 = r := fun {r rest} h =>
        e_seq_nx (e_set (eb _ _ (e_cons rfl (e_cons rfl rfl)))) h
      have tk : cOr (cB (op2 gEq (cVar 3) (cC (.int 4)))) (cB (op2 gEq (cVar 3) (cC (.int 5)))) [some (.r i), some (.v (.lst (stL names))), some (.v (.int ((n + 1 : Nat) : Int))), some (.v (.int way)), some (.v (.lst (stL knownL))), none, some (.v (.str b)), none, none, none] T2 = .ok ((way == 4) || (way == 5)) T2 := e_orb (e_b (e_op2v rfl rfl rfl)) (e_b (e_op2v rfl rfl rfl))
      have hnb : ∀ t ∈ names ++ [b], isNm t = true := fun t ht => by
        rcases List.mem_append.mp ht with h | h
        · exact hnm t h
        · simp only [List.mem_singleton] at h; rw [h]; exact gb
      have addb : ∀ (δ : Slots) (S : Sto), δ[1]? = some (some (.v (.lst (stL names)))) → δ[6]? = some (some (.v (.str b))) → op2 gAdd (cVar 1) (cLst (cCons (cVar 6) cNil)) δ S = .ok (.v (.lst (stL (names ++ [b])))) S := fun δ S h1 h6 =>
        e_op2v (d := .lst (stL names)) (e := .lst (stL [b])) (e_var h1) (e_disp (ws := [.v (.str b)]) (e_cons (e_var h6) rfl) rfl (by simp) rfl) (gAdd_lsts _ _ (by simp; omega))
      by_cases hk : ((way == 4) || (way == 5)) = true
      · rw [hk] at tk
        obtain ⟨a, T3, d3, ga, ha, ca⟩ := rc (names ++ [b]) hnb (by simp) T2 s2
        have dall := (d1.trans d2).trans d3
        refine ⟨.fn b a, T3, e_fdef_vd dall (e_seq_nx (e_set ew) (e_seq_nx (e_set (w := .v (.lst (stL knownL))) (S1 := T1) rfl) (e_seq_nx (e_ifs_f t1 rfl) (pre (e_seq_rt (e_ifs_t tk (e_ret ?_))))))), dall, ⟨gb, ga⟩, by simp only [htB]; omega⟩
        exact e_disp (ws := [.v (.str [102, 117, 110]), .v (.str b), .v (encB a)]) (e_cons rfl (e_cons rfl (e_cons (ca _ _ (e_cons rfl (e_cons (addb _ _ rfl rfl) (e_cons (hsub _ _ rfl) rfl)))) rfl))) rfl (by simp) rfl
      · rw [Bool.not_eq_true] at hk
        rw [hk] at tk
        have t6 : (cB (op2 gEq (cVar 3) (cC (.int 6)))) [some (.r i), some (.v (.lst (stL names))), some (.v (.int ((n + 1 : Nat) : Int))), some (.v (.int way)), some (.v (.lst (stL knownL))), none, some (.v (.str b)), none, none, none] T2 = .ok (way == 6) T2 := e_b (e_op2v rfl rfl rfl)
        by_cases h6 : (way == 6) = true
        · rw [h6] at t6
          obtain ⟨a, T3, d3, ga, ha, ca⟩ := rc names hnm (by omega) T2 s2
          have s3 := d3.src s2
          obtain ⟨c, T4, d4, gc, hc, cc⟩ := rc (names ++ [b]) hnb (by simp) T3 s3
          have dall := ((d1.trans d2).trans d3).trans d4
          refine ⟨.lt b a c, T4, e_fdef_vd dall (e_seq_nx (e_set ew) (e_seq_nx (e_set (w := .v (.lst (stL knownL))) (S1 := T1) rfl) (e_seq_nx (e_ifs_f t1 rfl) (pre (e_seq_nx (e_ifs_f tk rfl) (e_seq_rt (e_ifs_t t6 (e_ret ?_)))))))), dall, ⟨gb, ga, gc⟩, by simp only [htB]; omega⟩
          exact e_disp (ws := [.v (.str [108, 101, 116]), .v (.str b), .v (encB a), .v (encB c)]) (e_cons rfl (e_cons rfl (e_cons (ca _ _ (e_cons rfl (e_cons rfl (e_cons (hsub _ _ rfl) rfl)))) (e_cons (cc _ _ (e_cons rfl (e_cons (addb _ _ rfl rfl) (e_cons (hsub _ _ rfl) rfl)))) rfl)))) rfl (by simp) rfl
        · rw [Bool.not_eq_true] at h6
          rw [h6] at t6
          have t7 : (cB (op2 gEq (cVar 3) (cC (.int 7)))) [some (.r i), some (.v (.lst (stL names))), some (.v (.int ((n + 1 : Nat) : Int))), some (.v (.int way)), some (.v (.lst (stL knownL))), none, some (.v (.str b)), none, none, none] T2 = .ok (way == 7) T2 := e_b (e_op2v rfl rfl rfl)
          by_cases h7 : (way == 7) = true
          · rw [h7] at t7
            obtain ⟨a, T3, d3, ga, ha, ca⟩ := rc names hnm (by omega) T2 s2
            have s3 := d3.src s2
            obtain ⟨c, T4, d4, gc, hc, cc⟩ := rc names hnm (by omega) T3 s3
            have dall := ((d1.trans d2).trans d3).trans d4
            refine ⟨.pr a c, T4, e_fdef_vd dall (e_seq_nx (e_set ew) (e_seq_nx (e_set (w := .v (.lst (stL knownL))) (S1 := T1) rfl) (e_seq_nx (e_ifs_f t1 rfl) (pre (e_seq_nx (e_ifs_f tk rfl) (e_seq_nx (e_ifs_f t6 rfl) (e_seq_rt (e_ifs_t t7 (e_ret ?_))))))))), dall, ⟨ga, gc⟩, by simp only [htB]; omega⟩
            exact e_disp (ws := [.v (.str [112, 97, 105, 114]), .v (encB a), .v (encB c)]) (e_cons rfl (e_cons (ca _ _ (e_cons rfl (e_cons rfl (e_cons (hsub _ _ rfl) rfl)))) (e_cons (cc _ _ (e_cons rfl (e_cons rfl (e_cons (hsub _ _ rfl) rfl)))) rfl))) rfl (by simp) rfl
          · rw [Bool.not_eq_true] at h7
            rw [h7] at t7
            have t10 : (cB (op2 gLt (cVar 3) (cC (.int 10)))) [some (.r i), some (.v (.lst (stL names))), some (.v (.int ((n + 1 : Nat) : Int))), some (.v (.int way)), some (.v (.lst (stL knownL))), none, some (.v (.str b)), none, none, none] T2 = .ok (decide (way < 10)) T2 := e_b (e_op2v rfl rfl rfl)
            by_cases h10 : way < 10
            · rw [decide_eq_true h10] at t10
              obtain ⟨a, T3, d3, ga, ha, ca⟩ := rc names hnm (by omega) T2 s2
              have s3 := d3.src s2
              obtain ⟨c, T4, d4, gc, hc, cc⟩ := rc names hnm (by omega) T3 s3
              have dall := ((d1.trans d2).trans d3).trans d4
              refine ⟨.app a c, T4, e_fdef_vd dall (e_seq_nx (e_set ew) (e_seq_nx (e_set (w := .v (.lst (stL knownL))) (S1 := T1) rfl) (e_seq_nx (e_ifs_f t1 rfl) (pre (e_seq_nx (e_ifs_f tk rfl) (e_seq_nx (e_ifs_f t6 rfl) (e_seq_nx (e_ifs_f t7 rfl) (e_seq_rt (e_ifs_t t10 (e_ret ?_)))))))))), dall, ⟨ga, gc⟩, by simp only [htB]; omega⟩
              exact e_disp (ws := [.v (.str [97, 112, 112]), .v (encB a), .v (encB c)]) (e_cons rfl (e_cons (ca _ _ (e_cons rfl (e_cons rfl (e_cons (hsub _ _ rfl) rfl)))) (e_cons (cc _ _ (e_cons rfl (e_cons rfl (e_cons (hsub _ _ rfl) rfl)))) rfl))) rfl (by simp) rfl
            · rw [decide_eq_false h10] at t10
              obtain ⟨dw, T3, hw, d3, eo⟩ := one_call s2 (stL wordL) (by decide) (by decide)
              obtain ⟨t, rfl, ht⟩ := mem_stL hw
              have s3 := d3.src s2
              obtain ⟨k, k3, ek⟩ := many_ev (δ := [some (.r i), some (.v (.lst (stL names))), some (.v (.int ((n + 1 : Nat) : Int))), some (.v (.int way)), some (.v (.lst (stL knownL))), none, some (.v (.str b)), some (.v (.str t)), some (.v (encB (.nm t))), none]) (S := T3) ht rfl
              obtain ⟨e', w9', T4, d4, ge, he, el⟩ := raw_loop (f := f__law_raw m) (some (.v (.int way))) (some (.v (.lst (stL knownL)))) none (some (.v (.str b))) (some (.v (.str t))) (rc names hnm (by omega)) k 0 0 (.nm t) none T3 s3 (word_ok t ht) (by simp [htB])
              have dall := ((d1.trans d2).trans d3).trans d4
              refine ⟨e', T4, e_fdef_vd dall (e_seq_nx (e_set ew) (e_seq_nx (e_set (w := .v (.lst (stL knownL))) (S1 := T1) rfl) (e_seq_nx (e_ifs_f t1 rfl) (pre (e_seq_nx (e_ifs_f tk rfl) (e_seq_nx (e_ifs_f t6 rfl) (e_seq_nx (e_ifs_f t7 rfl) (e_seq_nx (e_ifs_f t10 rfl) (e_seq_nx (e_set (eo _ _ (e_cons rfl (e_cons rfl rfl)))) (e_seq_nx (e_set (w := .v (encB (.nm t))) (S1 := T3) rfl) (e_seq_nx (e_for (ds := rangeD 0 k) (S1 := T3) ?_ el) (e_ret rfl)))))))))))), dall, ge, by omega⟩
              have := e_itR (as := cCons (cDGet2 (cDict manyT) (cVar 7) (cC (.int 3))) cNil) (n := (k : Int)) (S1 := T3) (e_cons ek rfl) (by omega) (by omega)
              rw [Int.toNat_natCast] at this
              exact this
end Fro

namespace Fro
open PySem PySem.Spec L2
/-! ### objects of no form -/
def unitD : D := .tup [.str [117, 110, 105, 116]]
def oddL : List D := [.non, .int 3, .str [120], .tup [], .tup [.str [110, 97, 109, 101]], .tup [.str [110, 97, 109, 101], .str [97, 108, 108]], .tup [.str [110, 97, 109, 101], .str [88, 49]], .tup [.str [105, 110, 116], .bl false], .tup [.str [105, 110, 116], .str [49]], .tup [.str [98, 111, 111, 108], .int 0],
  .tup [.str [117, 110, 105, 116], .int 1], .tup [.str [102, 117, 110], .str [120]], .tup [.str [102, 117, 110], .str [120], .non, unitD], .tup [.str [108, 101, 116], .str [120], .non, unitD, unitD], .tup [.str [108, 101, 116], .str [120], unitD], .lst [unitD],
  .tup [.str [102, 114, 111, 122, 101, 110], .str [120]], .tup [.str [97, 116], unitD, unitD], .tup [.str [112, 97, 105, 114], unitD], .tup [.str [97, 112, 112], unitD, unitD, unitD], .tup [.str [102, 117, 110], .str [105, 110], unitD], .dct []]
theorem odd_ev {S : Sto} {i : Nat} (hs : Src S i) : ∃ (d : D) (T : Sto), d ∈ oddL ∧ Drew S T i ∧ ∀ (as : Den (List W)) (δ : Slots), as δ S = .ok [.r i] S → cCall 1 f__law_odd as [] δ S = .ok (.v d) T := by
  obtain ⟨d, T, hd, dr, e⟩ := one_call hs oddL (by simp [oddL]) (by decide)
  refine ⟨d, T, hd, dr, fun as δ h => e_call h rfl (e_fdef_vd dr (e_seq_nx (e_set (w := .v unitD) (S1 := S) rfl) (e_seq_nx (e_set (S1 := S) rfl) (e_seq_nx (e_set (S1 := S) (e_op2v rfl rfl rfl)) (e_ret (e _ _ (e_cons rfl (e_cons (e_op2v rfl rfl rfl) rfl)))))))) rfl⟩
theorem form_len {d : D} {ds : List D} {t : Tx} {S : Sto} (hd : d = .tup (.str t :: ds)) (h1 : (cB (op2 gNe (cKGet1 tbl_LENGTHS (cIx (cVar 0) (cC (.int 0)))) (cLen (cCons (cVar 0) cNil)))) [some (.v d)] S = .ok true S) : f_has_form [.v d] S = .ok (.v (.bl false)) S :=
  e_fdef_v (e_seq_nx (e_ifs_f (form_test hd) rfl) (e_seq_rt (e_ifs_t h1 rfl)))
theorem form_bad {d : D} {ds : List D} {t x : Tx} {S : Sto} (hd : d = .tup (.str t :: .str x :: ds)) (hx : isNm x = false) (hl : x.length ≤ 1000) (h1 : (cB (op2 gNe (cKGet1 tbl_LENGTHS (cIx (cVar 0) (cC (.int 0)))) (cLen (cCons (cVar 0) cNil)))) [some (.v d)] S = .ok false S)
    (h2 : (cB (op2 gIn (cIx (cVar 0) (cC (.int 0))) (cTup (cCons (cC (.str [110, 97, 109, 101])) (cCons (cC (.str [102, 117, 110])) (cCons (cC (.str [108, 101, 116])) cNil)))))) [some (.v d)] S = .ok true S) : f_has_form [.v d] S = .ok (.v (.bl false)) S := by
  have q := is_name_ev x (by omega) S
  rw [hx] at q
  refine e_fdef_v (e_seq_nx (e_ifs_f (form_test hd) rfl) (e_seq_nx (e_ifs_f h1 rfl) (e_seq_rt (e_ifs_t h2 (e_ret (e_call (ws := [.v (.str x)]) (e_cons ?_ rfl) rfl q rfl))))))
  subst hd
  exact e_ix rfl rfl (gIx_1 _ _ _)
theorem odd_form : ∀ d ∈ oddL, ∀ S : Sto, f_has_form [.v d] S = .ok (.v (.bl false)) S := by
  intro d hd S
  simp only [oddL, List.mem_cons, List.not_mem_nil, or_false] at hd
  rcases hd with rfl | rfl | rfl | rfl | rfl | rfl | rfl | rfl | rfl | rfl | rfl | rfl | rfl | rfl | rfl | rfl | rfl | rfl | rfl | rfl | rfl | rfl
  · exact e_fdef_v (e_seq_rt (e_ifs_t (e_or_t (e_not (e_b (c := false) (S1 := S) rfl))) rfl))
  · exact e_fdef_v (e_seq_rt (e_ifs_t (e_or_t (e_not (e_b (c := false) (S1 := S) rfl))) rfl))
  · exact e_fdef_v (e_seq_rt (e_ifs_t (e_or_t (e_not (e_b (c := false) (S1 := S) rfl))) rfl))
  · exact e_fdef_v (e_seq_rt (e_ifs_t (e_or_f (e_not (e_b (c := true) (S1 := S) rfl)) (e_or_t (e_b (S1 := S) rfl))) rfl))
  · exact form_len rfl (e_b rfl)
  · exact form_bad rfl (by decide +kernel) (by decide) (e_b rfl) (e_b rfl)
  · exact form_bad rfl (by decide +kernel) (by decide) (e_b rfl) (e_b rfl)
  · exact e_fdef_v (e_seq_nx (e_ifs_f (form_test rfl) rfl) (e_seq_nx (e_ifs_f (S1 := S) (e_b rfl) rfl) (e_seq_nx (e_ifs_f (S1 := S) (e_b rfl) rfl) (e_seq_rt (e_ifs_t (S1 := S) (e_b rfl) (e_ret (e_call (ws := [.v (.bl false)]) rfl rfl (e_fdef_v rfl) rfl)))))))
  · exact e_fdef_v (e_seq_nx (e_ifs_f (form_test rfl) rfl) (e_seq_nx (e_ifs_f (S1 := S) (e_b rfl) rfl) (e_seq_nx (e_ifs_f (S1 := S) (e_b rfl) rfl) (e_seq_rt (e_ifs_t (S1 := S) (e_b rfl) (e_ret (e_call (ws := [.v (.str [49])]) rfl rfl (e_fdef_v rfl) rfl)))))))
  · exact e_fdef_v (e_seq_nx (e_ifs_f (form_test rfl) rfl) (e_seq_nx (e_ifs_f (S1 := S) (e_b rfl) rfl) (e_seq_nx (e_ifs_f (S1 := S) (e_b rfl) rfl) (e_seq_nx (e_ifs_f (S1 := S) (e_b rfl) rfl) rfl))))
  · exact form_len rfl (e_b rfl)
  · exact form_len rfl (e_b rfl)
  · exact form_len rfl (e_b rfl)
  · exact form_len rfl (e_b rfl)
  · exact form_len rfl (e_b rfl)
  · exact e_fdef_v (e_seq_rt (e_ifs_t (e_or_t (e_not (e_b (c := false) (S1 := S) rfl))) rfl))
  · exact form_len rfl (e_b rfl)
  · exact form_len rfl (e_b rfl)
  · exact form_len rfl (e_b rfl)
  · exact form_len rfl (e_b rfl)
  · exact form_bad rfl (by decide +kernel) (by decide) (e_b rfl) (e_b rfl)
  · exact e_fdef_v (e_seq_rt (e_ifs_t (e_or_t (e_not (e_b (c := false) (S1 := S) rfl))) rfl))
/-! ### the rows -/
def rows4 (d : D) (ld : Tx) (e : B) : List D := [.tup [d, .tup []], .tup [.tup [.str [112, 97, 105, 114], encB e, d], .tup [.int 2]], .tup [.tup [.str [102, 117, 110], .str ld, d], .tup [.int 2]], .tup [.tup [.str [108, 101, 116], .str ld, d, d], .tup [.int 2]]]
def rows2 (d : D) (ld : Tx) (e : B) : List D := [.tup [.tup [.str [108, 101, 116], .str ld, encB e, d], .tup [.int 3]], .tup [.tup [.str [97, 112, 112], d, encB e], .tup [.int 1]]]
def row1 (d : D) (e : B) : D := .tup [.tup [.str [97, 112, 112], encB e, .tup [.str [112, 97, 105, 114], d, d]], .tup [.int 2, .int 1]]
theorem row_ev {d r : D} {ld : Tx} {e : B} (hd : ∀ S : Sto, f_has_form [.v d] S = .ok (.v (.bl false)) S) (hl : isNm ld = true) (hg : goodB e) (hh : htB e ≤ 50) (hr : r ∈ rows4 d ld e ++ rows2 d ld e ++ [row1 d e]) :
    ∃ made pl, r = .tup [made, .tup pl] ∧ (∀ S : Sto, f_want_bare 60 [.v made, .v (.tup [])] S = .exc 10 [.tup pl] S) ∧ gEq (.tup [.str [110, 111, 110, 101], .tup pl]) (.tup [.str [110, 111, 110, 101], .tup pl]) = some (.bl true) := by
  have ge : ∀ (m : Nat) (pl : List D) (S : Sto), 50 ≤ m → pl.length ≤ 5 → f_want_bare m [.v (encB e), .v (.tup pl)] S = .ok (.v .non) S := fun m pl S h1 h2 => wb_ev e m pl S hg (by omega) (by omega)
  simp only [rows4, rows2, row1, List.cons_append, List.nil_append, List.mem_cons, List.not_mem_nil, or_false] at hr
  rcases hr with rfl | rfl | rfl | rfl | rfl | rfl | rfl
  · exact ⟨_, _, rfl, fun S => wb_odd (m := 59) (hd S), rfl⟩
  · exact ⟨_, _, rfl, fun S => wb_two_xc2 (m := 59) (k := 1) (k2 := 2) (form_pair _ _ S) rfl rfl rfl (by simp) (ge 59 _ S (by decide) (by simp)) (wb_odd (m := 58) (hd S)), rfl⟩
  · exact ⟨_, _, rfl, fun S => wb_one_xc (m := 59) (k := 2) (form_fun _ _ S hl) rfl rfl (by simp) (wb_odd (m := 58) (hd S)), rfl⟩
  · exact ⟨_, _, rfl, fun S => wb_two_xc1 (m := 59) (k := 2) (k2 := 3) (form_let _ _ _ S hl) rfl rfl (by simp) (wb_odd (m := 58) (hd S)), rfl⟩
  · exact ⟨_, _, rfl, fun S => wb_two_xc2 (m := 59) (k := 2) (k2 := 3) (form_let _ _ _ S hl) rfl rfl rfl (by simp) (ge 59 _ S (by decide) (by simp)) (wb_odd (m := 58) (hd S)), rfl⟩
  · exact ⟨_, _, rfl, fun S => wb_two_xc1 (m := 59) (k := 1) (k2 := 2) (form_app _ _ S) rfl rfl (by simp) (wb_odd (m := 58) (hd S)), rfl⟩
  · exact ⟨_, _, rfl, fun S => wb_two_xc2 (m := 59) (k := 1) (k2 := 2) (form_app _ _ S) rfl rfl rfl (by simp) (ge 59 _ S (by decide) (by simp)) (wb_two_xc1 (m := 58) (k := 1) (k2 := 2) (form_pair _ _ S) rfl rfl (by simp) (wb_odd (m := 57) (hd S))), rfl⟩
theorem said_xc {made : D} {pl : List D} {S : Sto} (h : f_want_bare 60 [.v made, .v (.tup [])] S = .exc 10 [.tup pl] S) : f__law_said [.v made] S = .ok (.v (.tup [.str [110, 111, 110, 101], .tup pl])) S :=
  e_fdef_v (e_try_xc (e_ret_xc (e_call_xc (ws := [.v made]) rfl rfl (put_in_xc h))) rfl)
theorem e_catM {x y : Den W} {δ : Slots} {S S1 S2 : Sto} {w v : W} {ds es : List D} (h1 : x δ S = .ok w S1) (h2 : y δ S1 = .ok v S2) (r1 : rd S2 w = some (.lst ds)) (r2 : rd S2 v = some (.lst es)) (hl : ds.length + es.length ≤ 1000000) : cCatM x y δ S = .ok (.r S2.length) (S2 ++ [.lst (ds ++ es)]) := by
  unfold cCatM
  rw [h1, R.bind_ok, h2, R.bind_ok]
  unfold apCatM
  rw [r1, r2]
  exact if_pos hl
end Fro

set_option maxHeartbeats 8000000
namespace Fro
open PySem PySem.Spec L2
theorem e_fdef_vda {n : Nat} {body : DenS} {ws : List W} {S U T : Sto} {X : Sto} {d : D} {i : Nat} (hs : Src S i) (h1 : Drew S U i) (h2 : Drew (U ++ X) T i) (h : body (slots0 n ws) S = .rt (.v d) T) : ∃ V, Drew S V i ∧ fdef n body ws S = .ok (.v d) V := by
  have hl : U.length = S.length := by obtain ⟨o, _, rfl⟩ := h1; exact List.length_set
  have hU := h1.src hs
  obtain ⟨o, ho, rfl⟩ := h2
  refine ⟨U.set i o, h1.trans ⟨o, ho, rfl⟩, e_fdef h ?_⟩
  rw [List.set_append_left _ _ (src_lt hU)]
  show R.ok (Rv.v d) ((U.set i o ++ X).take S.length) = _
  rw [← hl, ← List.length_set (as := U) (i := i) (a := o), List.take_left]
def oddT (d : D) : Prop := ∀ S : Sto, f_has_form [.v d] S = .ok (.v (.bl false)) S
/-- facts of a drawn term that is looked at -/
theorem later_ok {e : B} (hg : goodB e) (hc : cntQ (inB [] e) ≤ 50) : let q := inB [] e; let l := withoutQ q;
    htQ q ≤ 50 ∧ htQ l ≤ 50 ∧ InnQ q 0 ∧ InnQ l 0 ∧ (frQ q).length + htQ q ≤ 101 ∧ (frQ l).length + htQ l ≤ 51 ∧ goodB (namedQ q) ∧ goodB (namedQ l) := by
  intro q l
  have hc : cntQ q ≤ 50 := hc
  have h1 : htQ q ≤ 50 := Nat.le_trans (ht_cnt q) hc
  have h2 : htQ l ≤ 50 := Nat.le_trans (ht_without q) hc
  have i1 : InnQ q 0 := inn_in e []
  have i2 : InnQ l 0 := by
    have := inn_in (withoutB e) []
    rw [without_in newQ_not] at this
    exact this
  have f1 := frQ_len q
  have f2 := nfht_without q
  have g1 : ∀ x, frP x q → isNm x = true := fun x hx => okB_free (P := fun t => isNm t = true) e hg x ((mem_freeB e).mpr ((fr_in x e []).mp hx).1)
  have g2 : ∀ x, frP x l → isNm x = true := fun x hx => g1 x (fr_without x q hx)
  have k1 : (frQ q).length + htQ q ≤ 101 := by omega
  have k2 : (frQ l).length + htQ l ≤ 51 := by
    have : (frQ (withoutQ q)).length + htQ (withoutQ q) ≤ cntQ q + 1 := f2
    show (frQ (withoutQ q)).length + htQ (withoutQ q) ≤ 51
    omega
  exact ⟨h1, h2, i1, i2, k1, k2, good_out q (frQ q) [] i1 (by simp) g1 (by simp; omega), good_out l (frQ l) [] i2 (by simp) g2 (by simp; omega)⟩
/-- free names and height of a form together -/
theorem nfht : ∀ q : Qb, (frQ q).length + htQ q ≤ cntQ q + 1
  | .fr _ => by simp [frQ, htQ, cntQ]
  | .bd _ => by simp [frQ, htQ, cntQ]
  | .int _ => by simp [frQ, htQ, cntQ]
  | .bl _ => by simp [frQ, htQ, cntQ]
  | .unit => by simp [frQ, htQ, cntQ]
  | .fn a => by
    have := nfht a
    have h := extB_len [] (frQ a)
    simp only [List.length_nil] at h
    simp only [frQ, htQ, cntQ]; omega
  | .app a b => by
    have := nfht a; have := nfht b
    have h := extB_len [] (frQ a)
    have h2 := extB_len (extB [] (frQ a)) (frQ b)
    have p1 := htQ_pos a; have p2 := htQ_pos b
    simp only [List.length_nil] at h
    simp only [frQ, htQ, cntQ]; omega
  | .lt a b => by
    have := nfht a; have := nfht b
    have h := extB_len [] (frQ a)
    have h2 := extB_len (extB [] (frQ a)) (frQ b)
    have p1 := htQ_pos a; have p2 := htQ_pos b
    simp only [List.length_nil] at h
    simp only [frQ, htQ, cntQ]; omega
  | .pr a b => by
    have := nfht a; have := nfht b
    have h := extB_len [] (frQ a)
    have h2 := extB_len (extB [] (frQ a)) (frQ b)
    have p1 := htQ_pos a; have p2 := htQ_pos b
    simp only [List.length_nil] at h
    simp only [frQ, htQ, cntQ]; omega
theorem right_ev {S : Sto} {i : Nat} (hs : Src S i) : ∃ T, Drew S T i ∧ f__law_right [.r i] S = .ok (.v (.bl true)) T := by
  obtain ⟨dn, T1, n0, n4, d1, en⟩ := draw_call hs 4 (by decide) (by decide)
  have s1 := d1.src hs
  obtain ⟨k, rfl⟩ : ∃ k : Nat, dn = k := ⟨dn.toNat, by omega⟩
  obtain ⟨e, T2, er, d2, ge, he⟩ := raw_ev 7 (1 + k) [] T1 i (by omega) s1 (by simp) (by simp; omega)
  have s2 := d2.src s1
  have d12 := d1.trans d2
  have p1 : cAsg (cCall 3 (f__law_raw 7) (cCons (cVar 0) (cCons (cLst cNil) (cCons (op2 gAdd (cC (.int 1)) (cCall 2 f__law_draw (cCons (cVar 0) (cCons (cC (.int 4)) cNil)) [])) cNil))) []) (gN 1) (slots0 10 [.r i]) S = .nx [some (.r i), some (.v (encB e)), none, none, none, none, none, none, none, none] T2 := by
    refine e_set (e_call (ws := [.r i, .v (.lst (stL [])), .v (.int ((1 + k : Nat) : Int))]) (e_cons rfl (e_cons rfl (e_cons (e_op2v (d := .int 1) (e := .int k) rfl (en _ _ (e_cons rfl (e_cons rfl rfl))) ?_) rfl))) rfl er rfl)
    show some (D.int (1 + (k : Int))) = _
    rw [show ((1 + k : Nat) : Int) = 1 + (k : Int) by omega]
  have hq : htQ (inB [] e) ≤ 13 := by rw [ht_in]; omega
  have p2 : cAsg (cCall 2 (f__law_in 60) (cCons (cVar 1) (cCons (cLst cNil) cNil)) []) (gN 2) [some (.r i), some (.v (encB e)), none, none, none, none, none, none, none, none] T2 = .nx [some (.r i), some (.v (encB e)), some (.v (encQ (inB [] e))), none, none, none, none, none, none, none] T2 :=
    e_set (e_call (ws := [.v (encB e), .v (.lst (stL ([] : List Tx).reverse))]) rfl rfl (in_ev e 60 [] T2 (by omega) (by simp; omega)) rfl)
  have t50 : (cB (op2 gGt (cCall 1 (f__law_count 60) (cCons (cVar 2) cNil) []) (cC (.int 50)))) [some (.r i), some (.v (encB e)), some (.v (encQ (inB [] e))), none, none, none, none, none, none, none] T2 = .ok (decide ((50 : Int) < cntQ (inB [] e))) T2 :=
    e_b (e_op2v (d := .int (cntQ (inB [] e))) (e := .int 50) (e_call (ws := [.v (encQ (inB [] e))]) rfl rfl (count_ev (inB [] e) 60 T2 (by omega)) rfl) rfl rfl)
  by_cases c50 : (50 : Int) < cntQ (inB [] e)
  · rw [decide_eq_true c50] at t50
    exact ⟨T2, d12, e_fdef_vd d12 (e_seq_nx p1 (e_seq_nx p2 (e_seq_rt (e_ifs_t t50 rfl))))⟩
  rw [decide_eq_false c50] at t50
  have hc : cntQ (inB [] e) ≤ 50 := by omega
  obtain ⟨q1, q2, i1, i2, f1, f2, g1, g2⟩ := later_ok ge hc
  have p3 : cAsg (cCall 1 (f__law_without 60) (cCons (cVar 2) cNil) []) (gN 3) [some (.r i), some (.v (encB e)), some (.v (encQ (inB [] e))), none, none, none, none, none, none, none] T2 = .nx [some (.r i), some (.v (encB e)), some (.v (encQ (inB [] e))), some (.v (encQ (withoutQ (inB [] e)))), none, none, none, none, none, none] T2 :=
    e_set (e_call (ws := [.v (encQ (inB [] e))]) rfl rfl (lwithout_ev (inB [] e) 60 T2 (by omega) (by omega)) rfl)
  have t1000 : (cB (op2 gGt (cCall 1 (f__law_count 60) (cCons (cVar 3) cNil) []) (cC (.int 1000)))) [some (.r i), some (.v (encB e)), some (.v (encQ (inB [] e))), some (.v (encQ (withoutQ (inB [] e)))), none, none, none, none, none, none] T2 = .ok (decide ((1000 : Int) < cntQ (withoutQ (inB [] e)))) T2 :=
    e_b (e_op2v (d := .int (cntQ (withoutQ (inB [] e)))) (e := .int 1000) (e_call (ws := [.v (encQ (withoutQ (inB [] e)))]) rfl rfl (count_ev (withoutQ (inB [] e)) 60 T2 (by omega)) rfl) rfl rfl)
  by_cases c1000 : (1000 : Int) < cntQ (withoutQ (inB [] e))
  · rw [decide_eq_true c1000] at t1000
    exact ⟨T2, d12, e_fdef_vd d12 (e_seq_nx p1 (e_seq_nx p2 (e_seq_nx (e_ifs_f t50 rfl) (e_seq_nx p3 (e_seq_rt (e_ifs_t t1000 rfl))))))⟩
  rw [decide_eq_false c1000] at t1000
  have hc2 : cntQ (withoutQ (inB [] e)) ≤ 1000 := by omega
  have hsz : szB e ≤ 50 := by rw [← cnt_in e []]; exact hc
  have fq := nfht (inB [] e)
  generalize hl : withoutQ (inB [] e) = l at *
  have hdh : htB (namedQ l) ≤ 50 := by rw [show htB (namedQ l) = htQ l from (sz_out firstL l (frQ l) []).1]; exact q2
  have okl := good_ok g2
  have p4 : cAsg (cCall 1 f__law_named_so (cCons (cVar 3) cNil) []) (gN 4) [some (.r i), some (.v (encB e)), some (.v (encQ (inB [] e))), some (.v (encQ l)), none, none, none, none, none, none] T2 = .nx [some (.r i), some (.v (encB e)), some (.v (encQ (inB [] e))), some (.v (encQ l)), some (.v (encB (namedQ l))), none, none, none, none, none] T2 :=
    e_set (e_call (ws := [.v (encQ l)]) rfl rfl (named_ev (by omega) i2 (by omega) hc2) rfl)
  have nes := ne_same okl (by omega)
  have r1 : f_put_in [.v (encB e)] T2 = .ok (.v (encB (namedQ l))) T2 := by
    have := put_in_named (S := T2) ge (by omega)
    rwa [hl] at this
  have r2 : f_put_in [.v (encB (namedQ (inB [] e)))] T2 = .ok (.v (encB (namedQ l))) T2 := by
    have := put_in_named (e := namedQ (inB [] e)) (S := T2) g1 (by rw [show szB (namedQ (inB [] e)) = cntQ (inB [] e) from (sz_out firstL _ _ []).2]; omega)
    rw [in_named i1 (by omega), hl] at this
    exact this
  have inl : inB [] (namedQ l) = l := in_named i2 (by omega)
  have nl : noLt l := by rw [← hl]; exact noL_without _
  have r3 : f_put_in [.v (encB (namedQ l))] T2 = .ok (.v (encB (namedQ l))) T2 := by
    have nfl : nf (namedQ l) ≤ (frQ l).length := nf_le fun t ht => by
      have := (free_fr (namedQ l) t).mp ((mem_freeB _).mpr ht)
      rwa [inl] at this
    have := put_in_no (e := namedQ l) (S := T2) g2 (by rw [inl]; exact nl) (by omega) (by omega)
    rwa [inl] at this
  have p5 : (cOr (cB (op2 gNe (cCall 1 f_put_in (cCons (cVar 1) cNil) []) (cVar 4))) (cOr (cB (op2 gNe (cCall 1 f_put_in (cCons (cCall 1 f__law_named_so (cCons (cVar 2) cNil) []) cNil) []) (cVar 4))) (cB (op2 gNe (cCall 1 f_put_in (cCons (cVar 4) cNil) []) (cVar 4)))))
      [some (.r i), some (.v (encB e)), some (.v (encQ (inB [] e))), some (.v (encQ l)), some (.v (encB (namedQ l))), none, none, none, none, none] T2 = .ok false T2 :=
    e_or_f (e_b (e_op2v (e_call (ws := [.v (encB e)]) rfl rfl r1 rfl) rfl nes)) (e_or_f (e_b (e_op2v (e_call (ws := [.v (encB (namedQ (inB [] e)))]) (e_cons (e_call (ws := [.v (encQ (inB [] e))]) rfl rfl (named_ev (by omega) i1 (by omega) (by omega)) rfl) rfl) rfl r2 rfl) rfl nes)) (e_b (e_op2v (e_call (ws := [.v (encB (namedQ l))]) rfl rfl r3 rfl) rfl nes)))
  -- the lead
  obtain ⟨dl, T3, hld, d3, el⟩ := one_call s2 (stL [[120], [121], [97, 100, 100]]) (by decide) (by decide)
  obtain ⟨ld, rfl, hld2⟩ := mem_stL hld
  have gl : isNm ld = true := by
    have : ∀ t ∈ ([[120], [121], [97, 100, 100]] : List Tx), isNm t = true := by decide +kernel
    exact this ld hld2
  have s3 := d3.src s2
  have r4 : f_put_in [.v (encB (.lt ld e .unit))] T3 = .ok (.v (encB .unit)) T3 := put_in_named (e := .lt ld e .unit) (S := T3) ⟨gl, ge, trivial⟩ (by simp only [szB]; omega)
  have hin : withoutQ (inB [] (.lt ld e (.pr (.nm ld) (.int 1)))) = .pr l (.int 1) := by
    have : inB [] (.lt ld e (.pr (.nm ld) (.int 1))) = .lt (inB [] e) (.pr (.bd 0) (.int 1)) := by simp [inB]
    rw [this]
    simp only [withoutQ, putB, hl]
    rw [if_pos trivial, lift_0]
  have hnam : namedQ (.pr l (.int 1)) = .pr (namedQ l) (.int 1) := by
    unfold namedQ
    show B.pr (outB firstL _ [] l) (.int 1) = _
    congr 1
    exact out_congr (fun x => by rw [mem_frQ, mem_frQ]; simp [frP]) l []
  have r5 : f_put_in [.v (encB (.lt ld e (.pr (.nm ld) (.int 1))))] T3 = .ok (.v (encB (.pr (namedQ l) (.int 1)))) T3 := by
    have := put_in_named (e := .lt ld e (.pr (.nm ld) (.int 1))) (S := T3) ⟨gl, ge, gl, trivial⟩ (by simp only [szB]; omega)
    rwa [hin, hnam] at this
  have nes2 : gNe (encB (.pr (namedQ l) (.int 1))) (encB (.pr (namedQ l) (.int 1))) = some (.bl false) := ne_same ⟨okl, trivial⟩ (by have : 1 ≤ htB (namedQ l) := htB_pos _; simp only [htB]; omega)
  have p6 : (cB (op2 gNe (cCall 1 f_put_in (cCons (cTup (cCons (cC (.str [108, 101, 116])) (cCons (cVar 5) (cCons (cVar 1) (cCons (cTup (cCons (cC (.str [117, 110, 105, 116])) cNil)) cNil))))) cNil) []) (cTup (cCons (cC (.str [117, 110, 105, 116])) cNil))))
      [some (.r i), some (.v (encB e)), some (.v (encQ (inB [] e))), some (.v (encQ l)), some (.v (encB (namedQ l))), some (.v (.str ld)), none, none, none, none] T3 = .ok false T3 :=
    e_b (e_op2v (d := encB .unit) (e := encB .unit) (e_call (ws := [.v (encB (.lt ld e .unit))]) rfl rfl r4 rfl) rfl rfl)
  have p7 : (cB (op2 gNe (cCall 1 f_put_in (cCons (cTup (cCons (cC (.str [108, 101, 116])) (cCons (cVar 5) (cCons (cVar 1) (cCons (cTup (cCons (cC (.str [112, 97, 105, 114])) (cCons (cTup (cCons (cC (.str [110, 97, 109, 101])) (cCons (cVar 5) cNil))) (cCons (cTup (cCons (cC (.str [105, 110, 116])) (cCons (cC (.int 1)) cNil))) cNil)))) cNil))))) cNil) []) (cTup (cCons (cC (.str [112, 97, 105, 114])) (cCons (cVar 4) (cCons (cTup (cCons (cC (.str [105, 110, 116])) (cCons (cC (.int 1)) cNil))) cNil))))))
      [some (.r i), some (.v (encB e)), some (.v (encQ (inB [] e))), some (.v (encQ l)), some (.v (encB (namedQ l))), some (.v (.str ld)), none, none, none, none] T3 = .ok false T3 :=
    e_b (e_op2v (d := encB (.pr (namedQ l) (.int 1))) (e := encB (.pr (namedQ l) (.int 1))) (e_call (ws := [.v (encB (.lt ld e (.pr (.nm ld) (.int 1))))]) rfl rfl r5 rfl) rfl nes2)
  -- the odd one
  obtain ⟨d, T4, hd, d4, eo⟩ := odd_ev s3
  have s4 := d4.src s3
  have hform := odd_form d hd
  have dU := (d12.trans d3).trans d4
  have l4 : i < T4.length := src_lt s4
  have sV : Src (T4 ++ ([.lst (rows4 d ld e), .lst (rows4 d ld e ++ rows2 d ld e ++ [row1 d e])] : Sto)) i := by
    obtain ⟨o, h1, h2⟩ := s4
    exact ⟨o, by rw [List.getElem?_append_left l4]; exact h1, h2⟩
  obtain ⟨r, T5, hr, d5, e5⟩ := one_callR (j := T4.length + 1) sV (rows4 d ld e ++ rows2 d ld e ++ [row1 d e]) (by rw [List.getElem?_append_right (by omega)]; simp) (by omega) (by simp [rows4]) (by simp [rows4, rows2])
  obtain ⟨made, pl, rfl, hwb, heq⟩ := row_ev hform gl ge (by omega) hr
  obtain ⟨V, dV, eV⟩ := e_fdef_vda (n := 10) (body := b__law_right) (ws := [.r i]) (S := S) (d := .bl true) hs dU d5 (by
    refine e_seq_nx p1 (e_seq_nx p2 (e_seq_nx (e_ifs_f t50 rfl) (e_seq_nx p3 (e_seq_nx (e_ifs_f t1000 rfl) (e_seq_nx p4 (e_seq_nx (e_ifs_f p5 rfl) (e_seq_nx (e_set (el _ _ (e_cons rfl (e_cons rfl rfl)))) (e_seq_nx (e_ifs_f p6 rfl) (e_seq_nx (e_ifs_f p7 rfl) (e_seq_nx (e_set (eo _ _ (e_cons rfl rfl))) ?_))))))))))
    refine e_seq_nx (δ' := [some (.r i), some (.v (encB e)), some (.v (encQ (inB [] e))), some (.v (encQ l)), some (.v (encB (namedQ l))), some (.v (.str ld)), some (.v d), some (.r T4.length), none, none]) (S1 := T4 ++ [.lst (rows4 d ld e)]) (e_set rfl) ?_
    refine e_seq_nx (δ' := [some (.r i), some (.v (encB e)), some (.v (encQ (inB [] e))), some (.v (encQ l)), some (.v (encB (namedQ l))), some (.v (.str ld)), some (.v d), some (.r (T4 ++ [Ob.lst (rows4 d ld e)]).length), none, none]) (S1 := T4 ++ [.lst (rows4 d ld e)] ++ [.lst (rows4 d ld e ++ rows2 d ld e)]) (e_set (e_catM (w := .r T4.length) (v := .v (.lst (rows2 d ld e))) (S2 := T4 ++ [.lst (rows4 d ld e)]) rfl rfl (rd_at (at_last _ _)) rfl (by simp [rows4, rows2]))) ?_
    have hset : (T4 ++ [Ob.lst (rows4 d ld e)] ++ [Ob.lst (rows4 d ld e ++ rows2 d ld e)]).set (T4 ++ [Ob.lst (rows4 d ld e)]).length (.lst (rows4 d ld e ++ rows2 d ld e ++ [row1 d e])) = T4 ++ ([.lst (rows4 d ld e), .lst (rows4 d ld e ++ rows2 d ld e ++ [row1 d e])] : Sto) := by
      rw [set_last, List.append_assoc]
      rfl
    refine e_seq_nx (e_expr (e_append (i := (T4 ++ [Ob.lst (rows4 d ld e)]).length) (ds := rows4 d ld e ++ rows2 d ld e) (d := row1 d e) rfl ⟨_, at_last _ _⟩ rfl (at_last _ _) (by simp [rows4, rows2]))) ?_
    rw [hset]
    have hlen : (T4 ++ [Ob.lst (rows4 d ld e)]).length = T4.length + 1 := by simp
    rw [hlen]
    refine e_seq_nx (δ' := [some (.r i), some (.v (encB e)), some (.v (encQ (inB [] e))), some (.v (encQ l)), some (.v (encB (namedQ l))), some (.v (.str ld)), some (.v d), some (.r (T4.length + 1)), some (.v made), some (.v (.tup pl))]) (e_asg (e5 _ _ (e_cons rfl (e_cons rfl rfl))) rfl) ?_
    exact e_ret (e_op2v (d := .tup [.str [110, 111, 110, 101], .tup pl]) (e := .tup [.str [110, 111, 110, 101], .tup pl]) (e_call (ws := [.v made]) rfl rfl (said_xc (hwb _)) rfl) rfl heq))
  exact ⟨V, dV, eV⟩
theorem rangeD_pos : ∀ (n : Nat) (lo : Int), 0 ≤ lo → ∀ d ∈ rangeD lo n, ∃ k : Int, 0 ≤ k ∧ d = .int k
  | 0, _, _, _, h => by cases h
  | n + 1, lo, hl, d, h => by
    rcases List.mem_cons.mp h with h | h
    · exact ⟨lo, hl, h⟩
    · exact rangeD_pos n (lo + 1) (by omega) d h
theorem law_true (ns : List Int) (hl : ns.length ≤ 63) : f_law [.s ns] [] = .ok (.v (.bl true)) [] := by
  have cnt : ∃ n : Nat, ∀ S : Sto, itR0 (cCons (cBlt gMax2 (cCons (cC (.int 1)) (cCons (cBlt gMin2 (cCons (cC (.int 4)) (cCons (cLen (cCons (cVar 0) cNil)) cNil))) cNil))) cNil) (slots0 6 [.s ns]) S = .ok (rangeD 0 n) S := by
    refine ⟨(max 1 (min 4 (ns.length : Int))).toNat, fun S => e_itR (n := max 1 (min 4 (ns.length : Int))) (e_cons (e_blt (ws := [.v (.int 1), .v (.int (min 4 (ns.length : Int)))]) (e_cons rfl (e_cons (e_blt (ws := [.v (.int 4), .v (.int ns.length)]) (e_cons rfl (e_cons rfl rfl)) rfl ?_) rfl)) rfl ?_) rfl) (by omega) (by omega)⟩
    · show some (D.int _) = some (D.int _)
      congr 2
      by_cases h : (ns.length : Int) < 4
      · first | omega | (simp only [h]; split <;> omega) | (split <;> omega)
      · first | omega | (simp only [h]; split <;> omega) | (split <;> omega)
    · show some (D.int _) = some (D.int _)
      congr 2
      first | omega | (split <;> omega) | (split <;> split <;> omega)
  obtain ⟨n, hcnt⟩ := cnt
  obtain ⟨δ1, S1, eloop, ⟨a1, b1, c1, d1, e1, hδ1⟩, _⟩ := forL_all (dg := gN 1) (b := l1_law)
    (fun rest δ S => (∃ a b c d e, δ = [some (.s ns), a, b, c, d, e]) ∧ ∀ d ∈ rest, ∃ k : Int, 0 ≤ k ∧ d = .int k) (rangeD 0 n) (fun d rest δ S ⟨⟨a, b, c, d4, d5, hδ⟩, hr⟩ => by
      subst hδ
      obtain ⟨k, hk, rfl⟩ := hr d List.mem_cons_self
      obtain ⟨o, es, so⟩ := well_ev ns k hk S
      have hsrc : Src (S ++ [o]) S.length := ⟨o, at_last _ _, so⟩
      obtain ⟨δ3, S3, e3, w, w', hw3, hs3⟩ := forL_all (dg := gN 3) (b := l2_law) (fun _ δ T => ∃ w w', δ = [some (.s ns), w, some (.r S.length), w', d4, d5] ∧ Src T S.length) (rangeD 0 10) (fun d rest δ T ⟨w, w', hδ, hT⟩ => by
          subst hδ
          obtain ⟨T', dr, e⟩ := right_ev hT
          exact ⟨_, _, _, _, rfl, e_ifs_f (e_not (c := true) (e_b (e_call (ws := [.r S.length]) (e_cons rfl rfl) rfl e rfl))) rfl, _, _, rfl, dr.src hT⟩) [some (.s ns), some (.v (.int k)), some (.r S.length), c, d4, d5] (S ++ [o]) ⟨_, _, rfl, hsrc⟩
      subst hw3
      exact ⟨_, _, _, _, rfl, e_seq_nx (δ' := [some (.s ns), some (.v (.int k)), some (.r S.length), c, d4, d5]) (S1 := S ++ [o]) (e_set (e_callM (ws := [.s ns, .v (.int k)]) rfl rfl es rfl)) (e_for rfl e3), ⟨_, _, _, _, _, rfl⟩, fun d hd => hr d (List.mem_cons_of_mem _ hd)⟩) (slots0 6 [.s ns]) [] ⟨⟨_, _, _, _, _, rfl⟩, rangeD_pos n 0 (by decide)⟩
  subst hδ1
  have g : goodB (.lt [120] (.nm [121]) (.fn [121] (.pr (.nm [120]) (.nm [121])))) := by
    have : isNm [120] = true ∧ isNm [121] = true := by decide +kernel
    exact ⟨this.1, this.2, this.2, this.1, this.2⟩
  have q := put_in_named (S := S1) g (by decide)
  have hn : namedQ (withoutQ (inB [] (.lt [120] (.nm [121]) (.fn [121] (.pr (.nm [120]) (.nm [121])))))) = .fn [97] (.pr (.nm [121]) (.nm [97])) := by rfl
  rw [hn] at q
  exact e_fdef (S' := S1) (w := .v (.bl true)) (e_seq_nx (e_for (hcnt _) eloop) (e_seq_nx (δ' := [some (.s ns), a1, b1, c1, some (.v (encB (.nm [120]))), some (.v (encB (.nm [121])))]) (S1 := S1) (e_asg (w := .v (.tup [encB (.nm [120]), encB (.nm [121])])) (S1 := S1) rfl rfl) (e_ret (e_op2v (d := encB (.fn [97] (.pr (.nm [121]) (.nm [97])))) (e := encB (.fn [97] (.pr (.nm [121]) (.nm [97])))) (e_call (ws := [.v (encB (.lt [120] (.nm [121]) (.fn [121] (.pr (.nm [120]) (.nm [121])))))]) rfl rfl q rfl) rfl rfl)))) rfl
end Fro

open PySem PySem.W PyProof.Rows
set_option maxRecDepth 100000 in
set_option maxHeartbeats 0 in
theorem PySem.Challenge.cw_frostkinds_k52_whole_lets_put_in_holds : PySem.Challenge.rw_frostkinds_k52_whole_lets_put_in.Holds := by
  w_on; o_law; k_head; (case hw => w_witness2)
  k_fill
  refine Fro.walk_of (l := PySem.Challenge.rw_frostkinds_k52_whole_lets_put_in) (n := 63) (k := 230) (x := "_law_script") (sp := fun w => Fro.spF _ 1 Fro.f_law) rfl (by decide) rfl ⟨rfl, by decide, by decide⟩ (fun w h Y => PySem.W.kIn_of Y) ?F (fun _ H a ns hl _ hS => Fro.end_sp (Fro.law_true ns hl) hS)
  case F =>
    intro w mg fa h KX G hmg
    refine' Fro.all_mk KX G hmg ?z_all ?z_bool ?z_int ?z_isinstance ?z_len ?z_max ?z_min ?z_range ?z_str ?z_tuple ?a_BARRED ?c_BARRED ?a_MOST_SIGNS ?c_MOST_SIGNS ?a_LETTERS ?c_LETTERS ?a_LENGTHS ?l_LENGTHS ?y_LENGTHS ?o_LENGTHS ?e_LENGTHS ?a_SPOTS ?l_SPOTS ?y_SPOTS ?o_SPOTS ?e_SPOTS ?q0 ?qr ?a_KindError ?a_NoBare ?xm_NoBare ?qs ?qo ?if_KindError ?il_KindError ?ib_KindError ?fb_KindError ?if_NoBare ?il_NoBare ?ib_NoBare ?fb_NoBare ?xl_NoBare ?xk_NoBare ?ra_NoBare ?a__law_well ?l__law_well ?c__law_well ?k__law_well ?a_is_name ?l_is_name ?c_is_name ?k_is_name ?a_is_whole ?l_is_whole ?c_is_whole ?k_is_whole ?a_has_form ?l_has_form ?c_has_form ?k_has_form ?a_want_bare ?l_want_bare ?c_want_bare ?k_want_bare ?lT_want_bare ?ed0_want_bare ?a_letter ?l_letter ?c_letter ?k_letter ?a_first_letters ?l_first_letters ?c_first_letters ?k_first_letters ?a_relettered ?l_relettered ?c_relettered ?k_relettered ?a_free_names ?l_free_names ?c_free_names ?k_free_names ?a_plain_bare ?l_plain_bare ?c_plain_bare ?k_plain_bare ?a_exchanged ?l_exchanged ?c_exchanged ?k_exchanged ?a_away_from ?l_away_from ?c_away_from ?k_away_from ?a_filled ?l_filled ?c_filled ?k_filled ?a_without_lets ?l_without_lets ?c_without_lets ?k_without_lets ?a_put_in ?l_put_in ?c_put_in ?k_put_in ?a__law_draw ?l__law_draw ?c__law_draw ?k__law_draw ?a__law_one ?l__law_one ?c__law_one ?k__law_one ?a__law_raw ?l__law_raw ?c__law_raw ?k__law_raw ?a__law_in ?l__law_in ?c__law_in ?k__law_in ?a__law_lifted ?l__law_lifted ?c__law_lifted ?k__law_lifted ?a__law_put ?l__law_put ?c__law_put ?k__law_put ?a__law_without ?l__law_without ?c__law_without ?k__law_without ?a__law_out ?l__law_out ?c__law_out ?k__law_out ?a__law_frees_of ?l__law_frees_of ?c__law_frees_of ?k__law_frees_of ?a__law_named_so ?l__law_named_so ?c__law_named_so ?k__law_named_so ?a__law_odd ?l__law_odd ?c__law_odd ?k__law_odd ?a__law_count ?l__law_count ?c__law_count ?k__law_count ?a__law_said ?l__law_said ?c__law_said ?k__law_said ?a__law_right ?l__law_right ?c__law_right ?k__law_right ?a_law ?l_law ?c_law ?k_law
    (case z_all => k_is)
    (case z_bool => k_is)
    (case z_int => k_is)
    (case z_isinstance => k_is)
    (case z_len => k_is)
    (case z_max => k_is)
    (case z_min => k_is)
    (case z_range => k_is)
    (case z_str => k_is)
    (case z_tuple => k_is)
    (case a_BARRED => k_is)
    (case c_BARRED => kernel_rfl)
    (case a_MOST_SIGNS => k_is)
    (case c_MOST_SIGNS => kernel_rfl)
    (case a_LETTERS => k_is)
    (case c_LETTERS => kernel_rfl)
    (case a_LENGTHS => k_is)
    (case l_LENGTHS => k_is)
    (case y_LENGTHS => k_keys)
    (case o_LENGTHS => decide)
    (case e_LENGTHS => kernel_rfl)
    (case a_SPOTS => k_is)
    (case l_SPOTS => k_is)
    (case y_SPOTS => k_keys)
    (case o_SPOTS => decide)
    (case e_SPOTS => kernel_rfl)
    (case q0 => kernel_rfl)
    (case qr => kernel_rfl)
    (case a_KindError => k_is)
    (case a_NoBare => k_is)
    (case xm_NoBare => kernel_rfl)
    (case qs => k_is)
    (case qo => k_is)
    (case if_KindError => k_is)
    (case il_KindError => k_is)
    (case ib_KindError => kernel_rfl)
    (case fb_KindError => kernel_rfl)
    (case if_NoBare => k_is)
    (case il_NoBare => k_is)
    (case ib_NoBare => kernel_rfl)
    (case fb_NoBare => kernel_rfl)
    (case xl_NoBare => k_is)
    (case xk_NoBare => kernel_rfl)
    (case ra_NoBare => kernel_rfl)
    (case a__law_well => k_is)
    (case l__law_well => k_is)
    (case c__law_well => k_is)
    (case k__law_well => k_is)
    (case a_is_name => k_is)
    (case l_is_name => k_is)
    (case c_is_name => k_is)
    (case k_is_name => k_is)
    (case a_is_whole => k_is)
    (case l_is_whole => k_is)
    (case c_is_whole => k_is)
    (case k_is_whole => k_is)
    (case a_has_form => k_is)
    (case l_has_form => k_is)
    (case c_has_form => k_is)
    (case k_has_form => k_is)
    (case a_want_bare => k_is)
    (case l_want_bare => k_is)
    (case c_want_bare => k_is)
    (case k_want_bare => k_is)
    (case lT_want_bare => k_is)
    (case ed0_want_bare => kernel_rfl)
    (case a_letter => k_is)
    (case l_letter => k_is)
    (case c_letter => k_is)
    (case k_letter => k_is)
    (case a_first_letters => k_is)
    (case l_first_letters => k_is)
    (case c_first_letters => k_is)
    (case k_first_letters => k_is)
    (case a_relettered => k_is)
    (case l_relettered => k_is)
    (case c_relettered => k_is)
    (case k_relettered => k_is)
    (case a_free_names => k_is)
    (case l_free_names => k_is)
    (case c_free_names => k_is)
    (case k_free_names => k_is)
    (case a_plain_bare => k_is)
    (case l_plain_bare => k_is)
    (case c_plain_bare => k_is)
    (case k_plain_bare => k_is)
    (case a_exchanged => k_is)
    (case l_exchanged => k_is)
    (case c_exchanged => k_is)
    (case k_exchanged => k_is)
    (case a_away_from => k_is)
    (case l_away_from => k_is)
    (case c_away_from => k_is)
    (case k_away_from => k_is)
    (case a_filled => k_is)
    (case l_filled => k_is)
    (case c_filled => k_is)
    (case k_filled => k_is)
    (case a_without_lets => k_is)
    (case l_without_lets => k_is)
    (case c_without_lets => k_is)
    (case k_without_lets => k_is)
    (case a_put_in => k_is)
    (case l_put_in => k_is)
    (case c_put_in => k_is)
    (case k_put_in => k_is)
    (case a__law_draw => k_is)
    (case l__law_draw => k_is)
    (case c__law_draw => k_is)
    (case k__law_draw => k_is)
    (case a__law_one => k_is)
    (case l__law_one => k_is)
    (case c__law_one => k_is)
    (case k__law_one => k_is)
    (case a__law_raw => k_is)
    (case l__law_raw => k_is)
    (case c__law_raw => k_is)
    (case k__law_raw => k_is)
    (case a__law_in => k_is)
    (case l__law_in => k_is)
    (case c__law_in => k_is)
    (case k__law_in => k_is)
    (case a__law_lifted => k_is)
    (case l__law_lifted => k_is)
    (case c__law_lifted => k_is)
    (case k__law_lifted => k_is)
    (case a__law_put => k_is)
    (case l__law_put => k_is)
    (case c__law_put => k_is)
    (case k__law_put => k_is)
    (case a__law_without => k_is)
    (case l__law_without => k_is)
    (case c__law_without => k_is)
    (case k__law_without => k_is)
    (case a__law_out => k_is)
    (case l__law_out => k_is)
    (case c__law_out => k_is)
    (case k__law_out => k_is)
    (case a__law_frees_of => k_is)
    (case l__law_frees_of => k_is)
    (case c__law_frees_of => k_is)
    (case k__law_frees_of => k_is)
    (case a__law_named_so => k_is)
    (case l__law_named_so => k_is)
    (case c__law_named_so => k_is)
    (case k__law_named_so => k_is)
    (case a__law_odd => k_is)
    (case l__law_odd => k_is)
    (case c__law_odd => k_is)
    (case k__law_odd => k_is)
    (case a__law_count => k_is)
    (case l__law_count => k_is)
    (case c__law_count => k_is)
    (case k__law_count => k_is)
    (case a__law_said => k_is)
    (case l__law_said => k_is)
    (case c__law_said => k_is)
    (case k__law_said => k_is)
    (case a__law_right => k_is)
    (case l__law_right => k_is)
    (case c__law_right => k_is)
    (case k__law_right => k_is)
    (case a_law => k_is)
    (case l_law => k_is)
    (case c_law => k_is)
    (case k_law => k_is)

