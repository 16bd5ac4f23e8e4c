import PyProof.Rows.All
import Wide.All
import OpenK.AllK
import Wide.FinOn
import HandS.ForMost
import HandS.IsInst
import HandS.Defaults
import HandS.TupAny
import HandS.Deep
import HandS.Style
import HandS.More
import HandS.Exc
import HandS.ExcInit
import HandS.ExcField
import HandS.Codes
import HandS.Ends
import KE.KExcSuper
import HandS.Nested
import HandS.ClsMeth
import KE.KExcIs
import KE.KIsAll
import HandS.DictComp
import HandS.Conv
import HandS.Rev
import HandS.RaiseMore
import PyProof.ListStr
import PyProof.ReprRoads
import HandS.Text
import HandS.TupLe
import KE.KDictZip
import KE.GoesZip
import KE.GoesMore
import KE.KDictItemsList
import HandS.ListItems
import HandS.Star
import KE.KDictDisplayH
import PyProof.DictTable
import HandS.Small
import KE.KIntText
import PySem.Challenge.RW_frostkinds_k06_whole_kinds_go_together
set_option Elab.async false
set_option linter.all false
set_option maxRecDepth 100000
set_option maxHeartbeats 4000000
/-! Fro: pure data, a store of mutable lists, denotations, and their soundness over the hand layer. -/
namespace Fro
open PySem PySem.Spec L2

/-! ### data -/
abbrev Tx := List Nat
def sx (t : Tx) : Str := ⟨t.toArray⟩
theorem sx_inj {a b : Tx} (h : sx a = sx b) : a = b := by
  have q := congrArg (fun s : Str => s.cps.toList) h
  simpa [sx] using q

inductive Ty where
  | str | tup | lst | dct | int | bl
def Ty.nm : Ty → String
  | .str => "str" | .tup => "tuple" | .lst => "list" | .dct => "dict" | .int => "int" | .bl => "bool"
inductive D where
  | non | bl (b : Bool) | int (i : Int) | str (t : Tx) | tup (ds : List D) | lst (ds : List D) | dct (es : List (Tx × D)) | ty (n : Ty)
inductive Ob where
  | lst (ds : List D) | dct (es : List (Tx × D)) | dead
abbrev Sto := List Ob
inductive W where
  | v (d : D) | r (i : Nat) | s (ns : List Int) | lk (es : List (Tx × D)) | x (c : Nat) (ds : List D)
inductive R (α : Type) where
  | ok (a : α) (S : Sto) | exc (c : Nat) (ds : List D) (S : Sto) | bad
def R.bind {α β : Type} (x : R α) (f : α → Sto → R β) : R β :=
  match x with
  | .ok a S => f a S
  | .exc c ds S => .exc c ds S
  | .bad => .bad
@[simp] theorem R.bind_ok {α β : Type} (a : α) (S : Sto) (f : α → Sto → R β) : (R.ok a S).bind f = f a S := rfl
@[simp] theorem R.bind_exc {α β : Type} (c : Nat) (ds : List D) (S : Sto) (f : α → Sto → R β) : (R.exc c ds S).bind f = R.exc c ds S := rfl
@[simp] theorem R.bind_bad {α β : Type} (f : α → Sto → R β) : (R.bad).bind f = R.bad := rfl

/-! ### what stands for what -/
mutual
inductive Rp (K : PySem.W.Frag) (H : Hp) (M : Addr → Prop) : D → V → Prop
  | non : Rp K H M .non .non
  | bl (b : Bool) : Rp K H M (.bl b) (.bl b)
  | int (i : Int) : Rp K H M (.int i) (.int i)
  | str (t : Tx) : Rp K H M (.str t) (.str (sx t))
  | ty (n : Ty) : Rp K H M (.ty n) (.ty n.nm)
  | tup {a : Addr} {xs : List V} {ds : List D} : SqT K H a xs → RpL K H M ds xs → Rp K H M (.tup ds) (.ref a)
  | lst {a : Addr} {xs : List V} {ds : List D} : H a = some (.lst xs) → ¬ M a → RpL K H M ds xs → Rp K H M (.lst ds) (.ref a)
  | dct {a : Addr} {kvs : List (Key × V)} {es : List (Tx × D)} : Rd H a (.dK kvs) → ¬ M a → RpE K H M es kvs → Rp K H M (.dct es) (.ref a)
inductive RpL (K : PySem.W.Frag) (H : Hp) (M : Addr → Prop) : List D → List V → Prop
  | nil : RpL K H M [] []
  | cons {d : D} {ds : List D} {v : V} {vs : List V} : Rp K H M d v → RpL K H M ds vs → RpL K H M (d :: ds) (v :: vs)
inductive RpE (K : PySem.W.Frag) (H : Hp) (M : Addr → Prop) : List (Tx × D) → List (Key × V) → Prop
  | nil : RpE K H M [] []
  | cons {t : Tx} {d : D} {es : List (Tx × D)} {v : V} {kvs : List (Key × V)} : Rp K H M d v → RpE K H M es kvs → RpE K H M ((t, d) :: es) ((Sum.inr (sx t), v) :: kvs)
end

section
variable {K : PySem.W.Frag} {H H' : Hp} {M M' : Addr → Prop}
theorem sqT_mono {a : Addr} {xs : List V} (ht : ∀ b xs, H b = some (.tup xs) → H' b = some (.tup xs)) (hf : ∀ b o u, H b = some (.frz o u) → H' b = some (.frz o u)) (h : SqT K H a xs) : SqT K H' a xs := by
  rcases h with (h | ⟨o, h⟩) | h
  · exact .inl (.inl (ht _ _ h))
  · exact .inl (.inr ⟨o, hf _ _ _ h⟩)
  · exact .inr h
theorem rd_mono {a : Addr} {u : HO} (hk : ∀ b o, ¬ M b → H b = some o → H' b = some o) (hf : ∀ b o u, H b = some (.frz o u) → H' b = some (.frz o u)) (n : ¬ M a) (h : Rd H a u) : Rd H' a u := by
  rcases h with h | ⟨o, h⟩
  · exact .inl (hk _ _ n h)
  · exact .inr ⟨o, hf _ _ _ h⟩
theorem rd_some {a : Addr} {u : HO} (h : Rd H a u) : ∃ o, H a = some o := by
  rcases h with h | ⟨o, h⟩
  · exact ⟨_, h⟩
  · exact ⟨_, h⟩
theorem Rp.mono (hk : ∀ b o, ¬ M b → H b = some o → H' b = some o) (ht : ∀ b xs, H b = some (.tup xs) → H' b = some (.tup xs)) (hf : ∀ b o u, H b = some (.frz o u) → H' b = some (.frz o u))
    (hm : ∀ b, M' b → M b ∨ H b = none) {d : D} {v : V} (h : Rp K H M d v) : Rp K H' M' d v := by
  have nm : ∀ {a : Addr} {o : HO}, H a = some o → ¬ M a → ¬ M' a := fun {a o} e n z => by
    rcases hm a z with q | q
    · exact n q
    · rw [e] at q; cases q
  exact Rp.rec (motive_1 := fun d v _ => Rp K H' M' d v) (motive_2 := fun ds vs _ => RpL K H' M' ds vs) (motive_3 := fun es kvs _ => RpE K H' M' es kvs)
    .non .bl .int .str .ty (fun a _ q => .tup (sqT_mono ht hf a) q) (fun e n _ q => .lst (hk _ _ n e) (nm e n) q) (fun e n _ q => .dct (rd_mono hk hf n e) (let ⟨_, z⟩ := rd_some e; nm z n) q)
    .nil (fun _ _ a b => .cons a b) .nil (fun _ _ a b => .cons a b) h
theorem RpL.mono (hk : ∀ b o, ¬ M b → H b = some o → H' b = some o) (ht : ∀ b xs, H b = some (.tup xs) → H' b = some (.tup xs)) (hf : ∀ b o u, H b = some (.frz o u) → H' b = some (.frz o u))
    (hm : ∀ b, M' b → M b ∨ H b = none) : ∀ {ds : List D} {vs : List V}, RpL K H M ds vs → RpL K H' M' ds vs
  | _, _, .nil => .nil
  | _, _, .cons a b => .cons (a.mono hk ht hf hm) (RpL.mono hk ht hf hm b)
theorem RpE.mono (hk : ∀ b o, ¬ M b → H b = some o → H' b = some o) (ht : ∀ b xs, H b = some (.tup xs) → H' b = some (.tup xs)) (hf : ∀ b o u, H b = some (.frz o u) → H' b = some (.frz o u))
    (hm : ∀ b, M' b → M b ∨ H b = none) : ∀ {es : List (Tx × D)} {kvs : List (Key × V)}, RpE K H M es kvs → RpE K H' M' es kvs
  | _, _, .nil => .nil
  | _, _, .cons a b => .cons (a.mono hk ht hf hm) (RpE.mono hk ht hf hm b)
theorem RpL.length : ∀ {ds : List D} {vs : List V}, RpL K H M ds vs → ds.length = vs.length
  | _, _, .nil => rfl
  | _, _, .cons _ b => by rw [List.length_cons, List.length_cons, b.length]
theorem RpL.get : ∀ {ds : List D} {vs : List V} (i : Nat) {d : D}, RpL K H M ds vs → ds[i]? = some d → ∃ v, vs[i]? = some v ∧ Rp K H M d v
  | _, _, _, _, .nil, e => by simp at e
  | _, _, 0, _, .cons a _, e => by simp at e; subst e; exact ⟨_, rfl, a⟩
  | _, _, i + 1, _, .cons _ b, e => by
    obtain ⟨v, h1, h2⟩ := RpL.get i b (by simpa using e)
    exact ⟨v, by simpa using h1, h2⟩
theorem RpL.append : ∀ {ds es : List D} {vs us : List V}, RpL K H M ds vs → RpL K H M es us → RpL K H M (ds ++ es) (vs ++ us)
  | _, _, _, _, .nil, h => h
  | _, _, _, _, .cons a b, h => .cons a (b.append h)
theorem RpL.take : ∀ {ds : List D} {vs : List V} (n : Nat), RpL K H M ds vs → RpL K H M (ds.take n) (vs.take n)
  | _, _, 0, _ => .nil
  | _, _, _ + 1, .nil => .nil
  | _, _, n + 1, .cons a b => .cons a (b.take n)
theorem RpL.drop : ∀ {ds : List D} {vs : List V} (n : Nat), RpL K H M ds vs → RpL K H M (ds.drop n) (vs.drop n)
  | _, _, 0, h => h
  | _, _, _ + 1, .nil => .nil
  | _, _, n + 1, .cons _ b => b.drop n
theorem RpL.reverse : ∀ {ds : List D} {vs : List V}, RpL K H M ds vs → RpL K H M ds.reverse vs.reverse
  | _, _, .nil => .nil
  | _, _, .cons a b => by
    rw [List.reverse_cons, List.reverse_cons]
    exact b.reverse.append (.cons a .nil)
theorem RpL.dropLast {ds : List D} {vs : List V} (h : RpL K H M ds vs) : RpL K H M ds.dropLast vs.dropLast := by
  rw [List.dropLast_eq_take, List.dropLast_eq_take, ← h.length]
  exact h.take _
theorem RpL.set : ∀ {ds : List D} {vs : List V} (i : Nat) {d : D} {v : V}, RpL K H M ds vs → Rp K H M d v → RpL K H M (ds.set i d) (vs.set i v)
  | _, _, _, _, _, .nil, _ => .nil
  | _, _, 0, _, _, .cons _ b, h => .cons h b
  | _, _, i + 1, _, _, .cons a b, h => .cons a (b.set i h)
end

/-! ### the store -/
def alive : Ob → Bool
  | .dead => false
  | _ => true
def live (ρ : List Addr) (S : Sto) : Addr → Prop := fun a => ∃ (i : Nat) (o : Ob), ρ[i]? = some a ∧ S[i]? = some o ∧ alive o = true
def RpO (K : PySem.W.Frag) (H : Hp) (M : Addr → Prop) (a : Addr) : Ob → Prop
  | .lst ds => ∃ xs, H a = some (.lst xs) ∧ RpL K H M ds xs
  | .dct es => ∃ kvs, H a = some (.dK kvs) ∧ RpE K H M es kvs
  | .dead => ∃ o, H a = some o
structure Sok (K : PySem.W.Frag) (ρ : List Addr) (S : Sto) (H : Hp) : Prop where
  len : ρ.length = S.length
  nd : ρ.Nodup
  obs : ∀ (i : Nat) (a : Addr) (o : Ob), ρ[i]? = some a → S[i]? = some o → RpO K H (live ρ S) a o
structure Fwd (ρ : List Addr) (S : Sto) (H : Hp) (ρ' : List Addr) (S' : Sto) (H' : Hp) : Prop where
  ext : ∃ more, ρ' = ρ ++ more
  keep : ∀ b o, ¬ live ρ S b → H b = some o → H' b = some o
  tups : ∀ b xs, H b = some (.tup xs) → H' b = some (.tup xs)
  frzs : ∀ b o u, H b = some (.frz o u) → H' b = some (.frz o u)
  new : ∀ b, live ρ' S' b → live ρ S b ∨ H b = none

section
variable {K : PySem.W.Frag} {ρ ρ1 ρ2 : List Addr} {S S1 S2 : Sto} {H H1 H2 : Hp}
theorem Sok.has (h : Sok K ρ S H) {a : Addr} (l : live ρ S a) : (∃ xs, H a = some (.lst xs)) ∨ ∃ kvs, H a = some (.dK kvs) := by
  obtain ⟨i, o, h1, h2, h3⟩ := l
  have q := h.obs i a o h1 h2
  cases o with
  | lst ds => obtain ⟨xs, e, _⟩ := q; exact .inl ⟨xs, e⟩
  | dct es => obtain ⟨xs, e, _⟩ := q; exact .inr ⟨xs, e⟩
  | dead => cases h3
theorem Sok.notNone (h : Sok K ρ S H) {a : Addr} (n : H a = none) : ¬ live ρ S a := fun l => by
  rcases h.has l with ⟨_, e⟩ | ⟨_, e⟩ <;> (rw [n] at e; cases e)
theorem Fwd.refl : Fwd ρ S H ρ S H := ⟨⟨[], by simp⟩, fun _ _ _ e => e, fun _ _ e => e, fun _ _ _ e => e, fun _ l => .inl l⟩
theorem Fwd.trans (a : Fwd ρ S H ρ1 S1 H1) (b : Fwd ρ1 S1 H1 ρ2 S2 H2) : Fwd ρ S H ρ2 S2 H2 where
  ext := by
    obtain ⟨m1, e1⟩ := a.ext
    obtain ⟨m2, e2⟩ := b.ext
    exact ⟨m1 ++ m2, by rw [e2, e1, List.append_assoc]⟩
  keep := fun c o n e => b.keep c o (fun l => by
    rcases a.new c l with q | q
    · exact n q
    · rw [e] at q; cases q) (a.keep c o n e)
  tups := fun c xs e => b.tups c xs (a.tups c xs e)
  frzs := fun c o u e => b.frzs c o u (a.frzs c o u e)
  new := fun c l => by
    rcases b.new c l with q | q
    · exact a.new c q
    · by_cases lv : live ρ S c
      · exact .inl lv
      · cases e : H c with
        | none => exact .inr rfl
        | some o => rw [a.keep c o lv e] at q; cases q
theorem Fwd.rp (f : Fwd ρ S H ρ1 S1 H1) {d : D} {v : V} (h : Rp K H (live ρ S) d v) : Rp K H1 (live ρ1 S1) d v := h.mono f.keep f.tups f.frzs f.new
theorem Fwd.rpL (f : Fwd ρ S H ρ1 S1 H1) {d : List D} {v : List V} (h : RpL K H (live ρ S) d v) : RpL K H1 (live ρ1 S1) d v := h.mono f.keep f.tups f.frzs f.new
theorem Fwd.rpE (f : Fwd ρ S H ρ1 S1 H1) {d : List (Tx × D)} {v : List (Key × V)} (h : RpE K H (live ρ S) d v) : RpE K H1 (live ρ1 S1) d v := h.mono f.keep f.tups f.frzs f.new
theorem Fwd.at (f : Fwd ρ S H ρ1 S1 H1) {i : Nat} {a : Addr} (e : ρ[i]? = some a) : ρ1[i]? = some a := by
  obtain ⟨m, rfl⟩ := f.ext
  have : i < ρ.length := by
    rcases Nat.lt_or_ge i ρ.length with h | h
    · exact h
    · rw [List.getElem?_eq_none h] at e; cases e
  rw [List.getElem?_append_left this]; exact e
end

/-- the script's list -/
def Scr (K : PySem.W.Frag) (H : Hp) (M : Addr → Prop) (a : Addr) (ns : List Int) : Prop :=
  (H a = some (.lst (ns.map V.int)) ∧ ¬ M a) ∨ (∃ o, H a = some (.frz o (.lst (ns.map V.int)))) ∨ SqL K (fun _ => none) a (ns.map V.int)
theorem Scr.sq {K : PySem.W.Frag} {H : Hp} {M : Addr → Prop} {a : Addr} {ns : List Int} (h : Scr K H M a ns) : SqL K H a (ns.map V.int) := by
  rcases h with ⟨h, _⟩ | ⟨o, h⟩ | h
  · exact .inl (.inl h)
  · exact .inl (.inr ⟨o, h⟩)
  · rcases h with (h | ⟨o, h⟩) | h
    · cases h
    · cases h
    · exact .inr h
theorem Scr.of {K : PySem.W.Frag} {H : Hp} {M : Addr → Prop} {a : Addr} {ns : List Int} (h : SqL K H a (ns.map V.int)) (n : ¬ M a) : Scr K H M a ns := by
  rcases h with (h | ⟨o, h⟩) | h
  · exact .inl ⟨h, n⟩
  · exact .inr (.inl ⟨o, h⟩)
  · exact .inr (.inr (.inr h))
/-! ### exceptions of the program -/
/-- the classes and their attributes -/
def xname : Nat → Str
  | 0 => "KindError" | 1 => "NoText" | 2 => "NoKind" | 3 => "NoEnv" | 4 => "NoProgram" | 5 => "NoPlace" | 6 => "NoKinding" | 7 => "NoInstance" | 8 => "NoSolution" | 9 => "NoTerm" | 10 => "NoBare" | 11 => "NoNumber" | 12 => "NoOffer" | _ => ""
def xflds : Nat → List Str
  | 0 => [] | 1 => ["at"] | 2 => ["value"] | 3 => ["name"] | 4 => ["place", "why"] | 5 => ["place"] | 6 => ["place"] | 7 => ["at"] | 8 => ["at"] | 9 => ["place", "why"] | 10 => ["place"] | 11 => ["value"] | 12 => ["at"] | _ => []
/-- at d: the dict of an exception of the class c (at C) with the attributes ds -/
structure XRep (K : PySem.W.Frag) (ρ : List Addr) (S : Sto) (H : Hp) (c : Nat) (ds : List D) (C d : Addr) : Prop where
  cls : PySem.W.nsIn K mainGlobals (xname c) = some (some (.ref C))
  dead : ¬ live ρ S d
  at_ : ∃ vfs : List (Str × V), H d = some (.xd vfs) ∧ ∀ (k : Nat) (n : Str) (e : D), (xflds c)[k]? = some n → ds[k]? = some e → ∃ v, vfs.lookup n = some v ∧ Rp K H (live ρ S) e v
/-- at a: a caught exception of the class at C, its dict at d -/
def xob (a C d : Addr) : HO := .ext fun h => ∃ (oe : Obj) (vs : Array Value), h.get? a = some oe ∧ oe.cls = .ref C ∧ oe.dict = some d ∧ oe.data = .fields vs
theorem XRep.fwd {K : PySem.W.Frag} {ρ ρ1 : List Addr} {S S1 : Sto} {H H1 : Hp} {c : Nat} {ds : List D} {C d : Addr} (h : XRep K ρ S H c ds C d) (f : Fwd ρ S H ρ1 S1 H1) : XRep K ρ1 S1 H1 c ds C d := by
  obtain ⟨vfs, e, q⟩ := h.at_
  refine ⟨h.cls, fun l => ?_, vfs, f.keep _ _ h.dead e, fun k n u h1 h2 => let ⟨v, a, b⟩ := q k n u h1 h2; ⟨v, a, f.rp b⟩⟩
  rcases f.new _ l with z | z
  · exact h.dead z
  · rw [e] at z; cases z
def RpW (K : PySem.W.Frag) (ρ : List Addr) (S : Sto) (H : Hp) : W → V → Prop
  | .v d, x => Rp K H (live ρ S) d x
  | .r i, x => ∃ a, x = .ref a ∧ ρ[i]? = some a
  | .s ns, x => ∃ a, x = .ref a ∧ Scr K H (live ρ S) a ns
  | .lk es, x => ∃ (a : Addr) (o : Obj) (kvs : List (Key × V)), x = .ref a ∧ H a = some (.frz o (.dK kvs)) ∧ ¬ live ρ S a ∧ RpE K H (live ρ S) es kvs
  | .x c ds, x => ∃ (a C d : Addr), x = .ref a ∧ H a = some (xob a C d) ∧ ¬ live ρ S a ∧ XRep K ρ S H c ds C d
inductive RpWs (K : PySem.W.Frag) (ρ : List Addr) (S : Sto) (H : Hp) : List W → List V → Prop
  | nil : RpWs K ρ S H [] []
  | cons {w : W} {ws : List W} {v : V} {vs : List V} : RpW K ρ S H w v → RpWs K ρ S H ws vs → RpWs K ρ S H (w :: ws) (v :: vs)
def RpSt (K : PySem.W.Frag) (ρ : List Addr) (S : Sto) (H : Hp) (δ : List (Option W)) (σ : St) : Prop :=
  δ.length = σ.length ∧ ∀ (i : Nat) (w : W), δ[i]? = some (some w) → ∃ v, σ[i]? = some (some v) ∧ RpW K ρ S H w v
section
variable {K : PySem.W.Frag} {ρ ρ1 : List Addr} {S S1 : Sto} {H H1 : Hp}
theorem Fwd.rw (f : Fwd ρ S H ρ1 S1 H1) {w : W} {v : V} (h : RpW K ρ S H w v) : RpW K ρ1 S1 H1 w v := by
  cases w with
  | v d => exact f.rp h
  | r i => obtain ⟨a, e, q⟩ := h; exact ⟨a, e, f.at q⟩
  | s ns =>
    obtain ⟨a, e, q⟩ := h
    refine ⟨a, e, ?_⟩
    rcases q with ⟨q, n⟩ | ⟨o, q⟩ | q
    · refine .inl ⟨f.keep _ _ n q, fun l => ?_⟩
      rcases f.new _ l with z | z
      · exact n z
      · rw [q] at z; cases z
    · exact .inr (.inl ⟨o, f.frzs _ _ _ q⟩)
    · exact .inr (.inr q)
  | lk es =>
    obtain ⟨a, o, kvs, e, q, n, r⟩ := h
    refine ⟨a, o, kvs, e, f.frzs _ _ _ q, fun l => ?_, f.rpE r⟩
    rcases f.new _ l with z | z
    · exact n z
    · rw [q] at z; cases z
  | x c ds =>
    obtain ⟨a, C, d, e, q, n, r⟩ := h
    refine ⟨a, C, d, e, f.keep _ _ n q, fun l => ?_, r.fwd f⟩
    rcases f.new _ l with z | z
    · exact n z
    · rw [q] at z; cases z
theorem Fwd.rws (f : Fwd ρ S H ρ1 S1 H1) : ∀ {ws : List W} {vs : List V}, RpWs K ρ S H ws vs → RpWs K ρ1 S1 H1 ws vs
  | _, _, .nil => .nil
  | _, _, .cons a b => .cons (f.rw a) (f.rws b)
theorem Fwd.st (f : Fwd ρ S H ρ1 S1 H1) {δ : List (Option W)} {σ : St} (h : RpSt K ρ S H δ σ) : RpSt K ρ1 S1 H1 δ σ :=
  ⟨h.1, fun i w e => let ⟨v, h1, h2⟩ := h.2 i w e; ⟨v, h1, f.rw h2⟩⟩
theorem RpWs.length : ∀ {ws : List W} {vs : List V}, RpWs K ρ S H ws vs → ws.length = vs.length
  | _, _, .nil => rfl
  | _, _, .cons _ b => by rw [List.length_cons, List.length_cons, b.length]
theorem RpWs.append : ∀ {ws ws' : List W} {vs vs' : List V}, RpWs K ρ S H ws vs → RpWs K ρ S H ws' vs' → RpWs K ρ S H (ws ++ ws') (vs ++ vs')
  | _, _, _, _, .nil, h => h
  | _, _, _, _, .cons a b, h => .cons a (b.append h)
/-- a slot is set -/
theorem RpSt.set {δ : List (Option W)} {σ : St} (h : RpSt K ρ S H δ σ) (i : Nat) {w : W} {v : V} (q : RpW K ρ S H w v) : RpSt K ρ S H (δ.set i (some w)) (σ.set i (some v)) := by
  refine ⟨by rw [List.length_set, List.length_set]; exact h.1, fun j u e => ?_⟩
  by_cases hj : i = j
  · subst hj
    by_cases hl : i < δ.length
    · rw [List.getElem?_set_self hl] at e
      cases e
      exact ⟨v, List.getElem?_set_self (by rw [← h.1]; exact hl), q⟩
    · rw [List.getElem?_eq_none (by rw [List.length_set]; omega)] at e
      cases e
  · rw [List.getElem?_set_ne hj] at e ⊢
    exact h.2 j u e
end

theorem ndx {α : Type} {l : List α} (h : l.Nodup) {i j : Nat} {x : α} (a : l[i]? = some x) (b : l[j]? = some x) : i = j :=
  let ⟨_, q1⟩ := List.getElem?_eq_some_iff.mp a
  let ⟨_, q2⟩ := List.getElem?_eq_some_iff.mp b
  (List.getElem_inj h).mp (q1.trans q2.symm)
/-! ### objects laid and changed -/
section
variable {K : PySem.W.Frag} {ρ : List Addr} {S : Sto} {H : Hp} {p : Addr} {o : HO}
/-- a new object that the store does not know -/
theorem Fwd.laid (so : Sok K ρ S H) (hp : H p = none) : Fwd ρ S H ρ S (upd H p o) where
  ext := ⟨[], by simp⟩
  keep := fun b u _ e => by rw [upd_ne (ne_of_none e hp)]; exact e
  tups := fun b u e => by rw [upd_ne (ne_of_none e hp)]; exact e
  frzs := fun b u z e => by rw [upd_ne (ne_of_none e hp)]; exact e
  new := fun b l => .inl l
theorem Sok.deadAt (so : Sok K ρ S H) {i : Nat} {a : Addr} (h1 : ρ[i]? = some a) (h2 : S[i]? = some .dead) : ¬ live ρ S a := fun ⟨j, o, q1, q2, q3⟩ => by
  have e : i = j := ndx so.nd h1 q1
  subst e
  rw [h2] at q2; cases q2; cases q3
theorem Sok.fwd {H1 : Hp} (so : Sok K ρ S H) (f : Fwd ρ S H ρ S H1) (hk : ∀ a, live ρ S a → H1 a = H a) : Sok K ρ S H1 := by
  refine ⟨so.len, so.nd, fun i a o h1 h2 => ?_⟩
  have q := so.obs i a o h1 h2
  cases o with
  | lst ds => obtain ⟨xs, e, r⟩ := q; exact ⟨xs, by rw [hk a ⟨i, _, h1, h2, rfl⟩]; exact e, f.rpL r⟩
  | dct ds => obtain ⟨xs, e, r⟩ := q; exact ⟨xs, by rw [hk a ⟨i, _, h1, h2, rfl⟩]; exact e, f.rpE r⟩
  | dead => obtain ⟨u, e⟩ := q; exact ⟨u, f.keep _ _ (so.deadAt h1 h2) e⟩
theorem Sok.laid (so : Sok K ρ S H) (hp : H p = none) : Sok K ρ S (upd H p o) :=
  so.fwd (Fwd.laid so hp) fun a l => upd_ne fun e => so.notNone hp (e ▸ l)
theorem live_append {ρ' : List Addr} {S' : Sto} (hl : ρ.length = S.length) {b : Addr} (h : live (ρ ++ ρ') (S ++ S') b) : live ρ S b ∨ live ρ' S' b := by
  obtain ⟨i, o, h1, h2, h3⟩ := h
  by_cases hi : i < ρ.length
  · rw [List.getElem?_append_left hi] at h1
    rw [List.getElem?_append_left (by omega)] at h2
    exact .inl ⟨i, o, h1, h2, h3⟩
  · rw [List.getElem?_append_right (by omega)] at h1
    rw [List.getElem?_append_right (by omega)] at h2
    exact .inr ⟨i - ρ.length, o, h1, by rw [hl]; exact h2, h3⟩
theorem live_left {ρ' : List Addr} {S' : Sto} (hl : ρ.length = S.length) {b : Addr} (h : live ρ S b) : live (ρ ++ ρ') (S ++ S') b := by
  obtain ⟨i, o, h1, h2, h3⟩ := h
  have hi : i < ρ.length := by
    rcases Nat.lt_or_ge i ρ.length with z | z
    · exact z
    · rw [List.getElem?_eq_none z] at h1; cases h1
  exact ⟨i, o, by rw [List.getElem?_append_left hi]; exact h1, by rw [List.getElem?_append_left (by omega)]; exact h2, h3⟩
theorem live_one {ob : Ob} {b : Addr} (h : live [p] [ob] b) : b = p := by
  obtain ⟨i, o, h1, _⟩ := h
  cases i with
  | zero => simpa using h1.symm
  | succ i => simp at h1
/-- a new object of the store -/
theorem Fwd.grown (so : Sok K ρ S H) (hp : H p = none) (ob : Ob) : Fwd ρ S H (ρ ++ [p]) (S ++ [ob]) (upd H p o) where
  ext := ⟨[p], rfl⟩
  keep := fun b u _ e => by rw [upd_ne (ne_of_none e hp)]; exact e
  tups := fun b u e => by rw [upd_ne (ne_of_none e hp)]; exact e
  frzs := fun b u z e => by rw [upd_ne (ne_of_none e hp)]; exact e
  new := fun b l => by
    rcases live_append so.len l with q | q
    · exact .inl q
    · rw [live_one q]; exact .inr hp
/-- the addresses of the store have something -/
theorem Sok.notIn (so : Sok K ρ S H) (hp : H p = none) : p ∉ ρ := fun h => by
  obtain ⟨i, hi⟩ := List.getElem?_of_mem h
  have hl : i < S.length := by
    rw [← so.len]
    rcases Nat.lt_or_ge i ρ.length with z | z
    · exact z
    · rw [List.getElem?_eq_none z] at hi; cases hi
  have q := so.obs i p S[i] hi (List.getElem?_eq_getElem hl)
  cases o : S[i] with
  | lst ds => rw [o] at q; obtain ⟨_, e, _⟩ := q; rw [hp] at e; cases e
  | dct ds => rw [o] at q; obtain ⟨_, e, _⟩ := q; rw [hp] at e; cases e
  | dead => rw [o] at q; obtain ⟨_, e⟩ := q; rw [hp] at e; cases e
theorem Sok.grown (so : Sok K ρ S H) (hp : H p = none) (ob : Ob) (hob : RpO K (upd H p o) (live (ρ ++ [p]) (S ++ [ob])) p ob) : Sok K (ρ ++ [p]) (S ++ [ob]) (upd H p o) := by
  have fw : Fwd ρ S H (ρ ++ [p]) (S ++ [ob]) (upd H p o) := Fwd.grown so hp ob
  refine ⟨by rw [List.length_append, List.length_append, so.len]; rfl, ?_, fun i a u h1 h2 => ?_⟩
  · rw [List.nodup_append]
    refine ⟨so.nd, by simp, fun a ha b hb e => ?_⟩
    rw [List.mem_singleton] at hb
    subst hb; subst e
    exact so.notIn hp ha
  · by_cases hi : i < ρ.length
    · rw [List.getElem?_append_left hi] at h1
      rw [List.getElem?_append_left (by rw [← so.len]; exact hi)] at h2
      have q := so.obs i a u h1 h2
      have ne : a ≠ p := fun e => so.notIn hp (e ▸ List.mem_of_getElem? h1)
      cases u with
      | lst ds => obtain ⟨xs, e, r⟩ := q; exact ⟨xs, by rw [upd_ne ne]; exact e, fw.rpL r⟩
      | dct ds => obtain ⟨xs, e, r⟩ := q; exact ⟨xs, by rw [upd_ne ne]; exact e, fw.rpE r⟩
      | dead => obtain ⟨xs, e⟩ := q; exact ⟨xs, by rw [upd_ne ne]; exact e⟩
    · rw [List.getElem?_append_right (by omega)] at h1
      rw [List.getElem?_append_right (by rw [← so.len]; omega)] at h2
      rw [so.len] at h1
      have hz : i - S.length = 0 := by
        cases hz : i - S.length with
        | zero => rfl
        | succ n => rw [hz] at h1; simp at h1
      rw [hz] at h1 h2
      simp at h1 h2
      subst h1; subst h2
      exact hob
/-- an object of the store is changed -/
theorem Fwd.changed (so : Sok K ρ S H) {i : Nat} {a : Addr} {ob ob' : Ob} (h1 : ρ[i]? = some a) (h2 : S[i]? = some ob) (h3 : alive ob = true) : Fwd ρ S H ρ (S.set i ob') (upd H a o) := by
  have lv : live ρ S a := ⟨i, ob, h1, h2, h3⟩
  have nf : ∀ b u, H b = some u → (∀ xs, u ≠ .lst xs) → (∀ kvs, u ≠ .dK kvs) → b ≠ a := fun b u e n1 n2 z => by
    subst z
    rcases so.has lv with ⟨xs, q⟩ | ⟨xs, q⟩
    · rw [e] at q; cases q; exact n1 xs rfl
    · rw [e] at q; cases q; exact n2 xs rfl
  refine ⟨⟨[], by simp⟩, fun b u n e => ?_, fun b xs e => ?_, fun b u z e => ?_, fun b l => ?_⟩
  · have nz : b ≠ a := fun z => n (by rw [z]; exact lv)
    rw [upd_ne nz]; exact e
  · rw [upd_ne (nf b _ e (fun _ z => nomatch z) (fun _ z => nomatch z))]; exact e
  · rw [upd_ne (nf b _ e (fun _ z => nomatch z) (fun _ z => nomatch z))]; exact e
  · obtain ⟨j, u, q1, q2, q3⟩ := l
    by_cases hj : i = j
    · subst hj
      rw [h1] at q1; cases q1
      exact .inl lv
    · rw [List.getElem?_set_ne hj] at q2
      exact .inl ⟨j, u, q1, q2, q3⟩
theorem Sok.changed (so : Sok K ρ S H) {i : Nat} {a : Addr} {ob ob' : Ob} (h1 : ρ[i]? = some a) (h2 : S[i]? = some ob) (h3 : alive ob = true) (hob : RpO K (upd H a o) (live ρ (S.set i ob')) a ob') : Sok K ρ (S.set i ob') (upd H a o) := by
  have fw : Fwd ρ S H ρ (S.set i ob') (upd H a o) := Fwd.changed so h1 h2 h3
  refine ⟨by rw [List.length_set]; exact so.len, so.nd, fun j b u q1 q2 => ?_⟩
  by_cases hj : i = j
  · subst hj
    have hl : i < S.length := by
      rcases Nat.lt_or_ge i S.length with z | z
      · exact z
      · rw [List.getElem?_eq_none z] at h2; cases h2
    rw [List.getElem?_set_self hl] at q2
    rw [h1] at q1
    cases q1; cases q2
    exact hob
  · rw [List.getElem?_set_ne hj] at q2
    have q := so.obs j b u q1 q2
    have ne : b ≠ a := fun e => by
      subst e
      exact hj (ndx so.nd h1 q1)
    cases u with
    | lst ds => obtain ⟨xs, e, r⟩ := q; exact ⟨xs, by rw [upd_ne ne]; exact e, fw.rpL r⟩
    | dct ds => obtain ⟨xs, e, r⟩ := q; exact ⟨xs, by rw [upd_ne ne]; exact e, fw.rpE r⟩
    | dead => obtain ⟨xs, e⟩ := q; exact ⟨xs, by rw [upd_ne ne]; exact e⟩
end
end Fro

namespace Fro
open PySem PySem.Spec L2

/-! ### what is wanted of a result -/
abbrev Slots := List (Option W)
abbrev Den (α : Type) := Slots → Sto → R α
abbrev Rl (α β : Type) := List Addr → Sto → Hp → α → β → Prop
/-- what is wanted of an exception -/
abbrev XP := L2.St → Nat → List D → Sto → List Addr → Hp → Prop
abbrev XP0 : XP := fun _ _ _ _ _ _ => False
def Post {α β : Type} (K : PySem.W.Frag) (rel : Rl α β) (ρ : List Addr) (S : Sto) (H : Hp) (r : R α) (Q : β → Hp → Prop) (E : Nat → List D → Sto → List Addr → Hp → Prop) : Prop :=
  match r with
  | .ok a S' => ∀ (b : β) (ρ' : List Addr) (H' : Hp), Fwd ρ S H ρ' S' H' → Sok K ρ' S' H' → rel ρ' S' H' a b → Q b H'
  | .exc c ds S' => ∀ (ρ' : List Addr) (H' : Hp), Fwd ρ S H ρ' S' H' → Sok K ρ' S' H' → E c ds S' ρ' H'
  | .bad => False
theorem Post.later {α β : Type} {K : PySem.W.Frag} {rel : Rl α β} {ρ ρ1 : List Addr} {S S1 : Sto} {H H1 : Hp} {r : R α} {Q : β → Hp → Prop} {E : Nat → List D → Sto → List Addr → Hp → Prop}
    (f : Fwd ρ S H ρ1 S1 H1) (h : Post K rel ρ S H r Q E) : Post K rel ρ1 S1 H1 r Q E := by
  cases r with
  | ok a S' => exact fun b ρ' H' f' so q => h b ρ' H' (f.trans f') so q
  | exc c ds S' => exact fun ρ' H' f' so => h ρ' H' (f.trans f') so
  | bad => exact h
def tG {α β : Type} (K : PySem.W.Frag) (rel : Rl α β) (E : XP) (den : Den α) : L2.St → Hp → (β → Hp → Prop) → Prop := fun σ H Q =>
  ∃ (δ : Slots) (ρ : List Addr) (S : Sto), RpSt K ρ S H δ σ ∧ Sok K ρ S H ∧ Post K rel ρ S H (den δ S) Q (E σ)
abbrev tE (K : PySem.W.Frag) (E : XP) (den : Den W) : TE := tG K (RpW K) E den
abbrev tT (K : PySem.W.Frag) (E : XP) (den : Den Bool) : TT := tG K (fun _ _ _ a b => a = b) E den
abbrev tA (K : PySem.W.Frag) (E : XP) (den : Den (List W)) : TA := tG K (RpWs K) E den
theorem tG_then {α β γ ε : Type} {K : PySem.W.Frag} {rel : Rl α β} {rel2 : Rl γ ε} {E : XP} {den : Den α} {k : α → Sto → R γ} {δ : Slots} {σ : L2.St} {ρ : List Addr} {S : Sto} {H : Hp} {Q : ε → Hp → Prop} {Q' : β → Hp → Prop}
    (st : RpSt K ρ S H δ σ) (so : Sok K ρ S H) (h : Post K rel2 ρ S H ((den δ S).bind k) Q (E σ))
    (hk : ∀ (a : α) (S1 : Sto) (b : β) (ρ1 : List Addr) (H1 : Hp), Fwd ρ S H ρ1 S1 H1 → RpSt K ρ1 S1 H1 δ σ → Sok K ρ1 S1 H1 → rel ρ1 S1 H1 a b → Post K rel2 ρ1 S1 H1 (k a S1) Q (E σ) → Q' b H1) : tG K rel E den σ H Q' := by
  refine ⟨δ, ρ, S, st, so, ?_⟩
  cases e : den δ S with
  | ok a S1 =>
    rw [e] at h
    exact fun b ρ1 H1 f so1 q => hk a S1 b ρ1 H1 f (f.st st) so1 q (Post.later f h)
  | exc c ds S1 => rw [e] at h; exact h
  | bad => rw [e] at h; exact h

/-! ### statements -/
inductive RS where
  | nx (δ : Slots) (S : Sto) | rt (w : W) (S : Sto) | bk (δ : Slots) (S : Sto) | ct (δ : Slots) (S : Sto) | xc (c : Nat) (ds : List D) (δ : Slots) (S : Sto) | bad
abbrev DenS := Slots → Sto → RS
def R.thenS {α : Type} (r : R α) (δ : Slots) (k : α → Sto → RS) : RS :=
  match r with
  | .ok a S => k a S
  | .exc c ds S => .xc c ds δ S
  | .bad => .bad
@[simp] theorem R.thenS_ok {α : Type} (a : α) (S : Sto) (δ : Slots) (f : α → Sto → RS) : (R.ok a S).thenS δ f = f a S := rfl
@[simp] theorem R.thenS_exc {α : Type} (c : Nat) (ds : List D) (S : Sto) (δ : Slots) (f : α → Sto → RS) : (R.exc c ds S : R α).thenS δ f = .xc c ds δ S := rfl
@[simp] theorem R.thenS_bad {α : Type} (δ : Slots) (f : α → Sto → RS) : (R.bad : R α).thenS δ f = .bad := rfl
def PostS (K : PySem.W.Frag) (ρ : List Addr) (S : Sto) (H : Hp) (r : RS) (D' : Ends) (E : XP) : Prop :=
  match r with
  | .nx δ S' => ∀ (σ : L2.St) (ρ' : List Addr) (H' : Hp), Fwd ρ S H ρ' S' H' → Sok K ρ' S' H' → RpSt K ρ' S' H' δ σ → D'.nx σ H'
  | .rt w S' => ∀ (v : V) (ρ' : List Addr) (H' : Hp), Fwd ρ S H ρ' S' H' → Sok K ρ' S' H' → RpW K ρ' S' H' w v → D'.rt v H'
  | .bk δ S' => ∀ (σ : L2.St) (ρ' : List Addr) (H' : Hp), Fwd ρ S H ρ' S' H' → Sok K ρ' S' H' → RpSt K ρ' S' H' δ σ → D'.bk σ H'
  | .ct δ S' => ∀ (σ : L2.St) (ρ' : List Addr) (H' : Hp), Fwd ρ S H ρ' S' H' → Sok K ρ' S' H' → RpSt K ρ' S' H' δ σ → D'.ct σ H'
  | .xc c ds δ S' => ∀ (σ : L2.St) (ρ' : List Addr) (H' : Hp), Fwd ρ S H ρ' S' H' → Sok K ρ' S' H' → RpSt K ρ' S' H' δ σ → E σ c ds S' ρ' H'
  | .bad => False
theorem PostS.later {K : PySem.W.Frag} {ρ ρ1 : List Addr} {S S1 : Sto} {H H1 : Hp} {r : RS} {D' : Ends} {E : XP} (f : Fwd ρ S H ρ1 S1 H1) (h : PostS K ρ S H r D' E) : PostS K ρ1 S1 H1 r D' E := by
  cases r with
  | nx δ S' => exact fun b ρ' H' f' so q => h b ρ' H' (f.trans f') so q
  | rt δ S' => exact fun b ρ' H' f' so q => h b ρ' H' (f.trans f') so q
  | bk δ S' => exact fun b ρ' H' f' so q => h b ρ' H' (f.trans f') so q
  | ct δ S' => exact fun b ρ' H' f' so q => h b ρ' H' (f.trans f') so q
  | xc c ds δ S' => exact fun b ρ' H' f' so q => h b ρ' H' (f.trans f') so q
  | bad => exact h
def tS (K : PySem.W.Frag) (E : XP) (den : DenS) : TS := fun D' σ H => ∃ (δ : Slots) (ρ : List Addr) (S : Sto), RpSt K ρ S H δ σ ∧ Sok K ρ S H ∧ PostS K ρ S H (den δ S) D' E
theorem tG_thenS {α β : Type} {K : PySem.W.Frag} {rel : Rl α β} {E : XP} {den : Den α} {k : α → Sto → RS} {δ : Slots} {σ : L2.St} {ρ : List Addr} {S : Sto} {H : Hp} {D' : Ends} {Q' : β → Hp → Prop}
    (st : RpSt K ρ S H δ σ) (so : Sok K ρ S H) (h : PostS K ρ S H ((den δ S).thenS δ k) D' E)
    (hk : ∀ (a : α) (S1 : Sto) (b : β) (ρ1 : List Addr) (H1 : Hp), Fwd ρ S H ρ1 S1 H1 → RpSt K ρ1 S1 H1 δ σ → Sok K ρ1 S1 H1 → rel ρ1 S1 H1 a b → PostS K ρ1 S1 H1 (k a S1) D' E → Q' b H1) : tG K rel E den σ H Q' := by
  refine ⟨δ, ρ, S, st, so, ?_⟩
  cases e : den δ S with
  | ok a S1 =>
    rw [e] at h
    exact fun b ρ1 H1 f so1 q => hk a S1 b ρ1 H1 f (f.st st) so1 q (PostS.later f h)
  | exc c ds S1 => rw [e] at h; exact fun ρ1 H1 f so1 => h σ ρ1 H1 f so1 (f.st st)
  | bad => rw [e] at h; exact h

/-! ### weaker readings -/
section
variable {X : Cx}
theorem pe_mono {e : Expr} {t t' : TE} (h : PE X e t) (w : ∀ σ H Q, t' σ H Q → t σ H Q) : PE X e t' := ⟨fun pins s σ H Q I q => h.run pins s σ H Q I (w σ H Q q)⟩
theorem pt_mono {e : Expr} {t t' : TT} (h : PT X e t) (w : ∀ σ H Q, t' σ H Q → t σ H Q) : PT X e t' := ⟨fun pins s σ H Q I q => h.run pins s σ H Q I (w σ H Q q)⟩
theorem pw_mono {e : Expr} {t t' : TT} (h : PW X e t) (w : ∀ σ H Q, t' σ H Q → t σ H Q) : PW X e t' := ⟨fun wh pins s σ H Q I q => h.run wh pins s σ H Q I (w σ H Q q)⟩
theorem pa_mono {es : List Expr} {t t' : TA} (h : PA X es t) (w : ∀ σ H Q, t' σ H Q → t σ H Q) : PA X es t' := ⟨fun pos pins s σ H Q I q => h.run pos pins s σ H Q I (w σ H Q q)⟩
theorem ps_mono {e : Stmt} {t t' : TS} (h : PS X e t) (w : ∀ D' σ H, t' D' σ H → t D' σ H) : PS X e t' := ⟨fun pins s σ H Q I q => h.run pins s σ H Q I (w Q σ H q)⟩
theorem pss_mono {e : List Stmt} {t t' : TS} (h : PSs X e t) (w : ∀ D' σ H, t' D' σ H → t D' σ H) : PSs X e t' := ⟨fun pins s σ H Q I q => h.run pins s σ H Q I (w Q σ H q)⟩
theorem pts_mono {e : List Expr} {t t' : TT} (h : PTs X e t) (w : ∀ σ H Q, t' σ H Q → t σ H Q) : PTs X e t' := ⟨fun pins s σ H Q I q => h.run pins s σ H Q I (w σ H Q q)⟩
end

/-! ### names, constants -/
def cVar (i : Nat) : Den W := fun δ S => match δ[i]? with
  | some (some w) => .ok w S
  | _ => .bad
def cC (d : D) : Den W := fun _ S => .ok (.v d) S
section
variable {X : Cx} {E : XP}
theorem de_of_var {e : Expr} {i : Nat} (h : PE X e (tVar i)) : PE X e (tE X.K E (cVar i)) := pe_mono h fun σ H Q ⟨δ, ρ, S, st, so, p⟩ => by
  unfold cVar at p
  cases q : δ[i]? with
  | none => rw [q] at p; exact p.elim
  | some o =>
    cases o with
    | none => rw [q] at p; exact p.elim
    | some w =>
      rw [q] at p
      obtain ⟨v, h1, h2⟩ := st.2 i w q
      exact ⟨v, h1, p v ρ H Fwd.refl so h2⟩
theorem de_of_c {e : Expr} {d : D} {v : V} (h : PE X e (tC v)) (r : ∀ H M, Rp X.K H M d v) : PE X e (tE X.K E (cC d)) := pe_mono h fun σ H Q ⟨δ, ρ, S, st, so, p⟩ => p v ρ H Fwd.refl so (r H _)
theorem de_var (i : Nat) {x : Str} {pos : Pos} (hN : X.N[i]? = some x := by rfl) (hv : Vis X.env.scope x := by first | exact Or.inl rfl | exact Or.inr (Or.inl rfl) | exact Or.inr (Or.inr rfl)) (hd : (x == ("__debug__" : Str)) = false := by decide)
    (hcd : (x == ("__classdict__" : Str)) = false := by decide) : PE X (.Name x pos) (tE X.K E (cVar i)) := de_of_var (pe_var hN hv hd hcd)
theorem de_int {i j pos} : PE X (.Constant (.int i) j pos) (tE X.K E (cC (.int i))) := de_of_c pe_int fun _ _ => .int i
theorem de_bl {b j pos} : PE X (.Constant (.bool b) j pos) (tE X.K E (cC (.bl b))) := de_of_c pe_bl fun _ _ => .bl b
theorem de_non {j pos} : PE X (.Constant .none j pos) (tE X.K E (cC .non)) := de_of_c pe_non fun _ _ => .non
theorem de_str (t : Tx) {x j pos} (h : x = sx t := by decide +kernel) : PE X (.Constant (.str x) j pos) (tE X.K E (cC (.str t))) := by
  subst h
  exact de_of_c pe_str fun _ _ => .str t
theorem de_glob {x : Str} {d : D} {v : V} {u : Value} {pos : Pos} (hm : X.mg x = some u) (r : RelV v u) (h : ∀ H M, Rp X.K H M d v) (hg : Gl X x := by rfl) (hd : (x == ("__debug__" : Str)) = false := by decide) :
    PE X (.Name x pos) (tE X.K E (cC d)) := de_of_c (pe_glob hg hm r hd) h
theorem de_type {x : Str} (T : Ty) {pos : Pos} (hm : X.mg x = none) (hv : bootBuiltins x = some (.type T.nm)) (hg : Gl X x := by rfl) (hn : x ≠ "__name__" := by decide) (hd : (x == ("__debug__" : Str)) = false := by decide) :
    PE X (.Name x pos) (tE X.K E (cC (.ty T))) := de_of_c (pe_bltn hg hm hv (v := .ty T.nm) rfl hn hd) fun _ _ => .ty T

/-! ### arguments -/
def cNil : Den (List W) := fun _ S => .ok [] S
def cCons (a : Den W) (b : Den (List W)) : Den (List W) := fun δ S => (a δ S).bind fun w S1 => (b δ S1).bind fun ws S2 => .ok (w :: ws) S2
theorem da_nil : PA X [] (tA X.K E cNil) := pa_mono pa_nil fun σ H Q ⟨δ, ρ, S, st, so, p⟩ => p [] ρ H Fwd.refl so .nil
end
end Fro

namespace Fro
open PySem PySem.Spec L2

section
variable {X : Cx} {E : XP}
theorem da_cons {e : Expr} {es : List Expr} {a : Den W} {b : Den (List W)} (ha : PE X e (tE X.K E a)) (hr : PA X es (tA X.K E b)) (hs : starEach (e :: es) X.env = (false, eval e X.env) :: starEach es X.env := by rfl) :
    PA X (e :: es) (tA X.K E (cCons a b)) := pa_mono (pa_cons ha hr hs) fun σ H Q ⟨δ, ρ, S, st, so, p⟩ =>
  tG_then st so p fun w S1 v ρ1 H1 f1 st1 so1 r1 p1 => tG_then st1 so1 p1 fun ws S2 vs ρ2 H2 f2 st2 so2 r2 p2 => p2 (v :: vs) ρ2 H2 Fwd.refl so2 (.cons (f2.rw r1) r2)

/-! ### displays -/
def toD : W → Option D
  | .v d => some d
  | _ => none
def toDs : List W → Option (List D)
  | [] => some []
  | w :: ws => match toD w, toDs ws with
    | some d, some ds => some (d :: ds)
    | _, _ => none
theorem toD_rp {K : PySem.W.Frag} {ρ : List Addr} {S : Sto} {H : Hp} {w : W} {v : V} {d : D} (h : RpW K ρ S H w v) (e : toD w = some d) : Rp K H (live ρ S) d v := by
  cases w with
  | v d' => cases e; exact h
  | r i => cases e
  | s ns => cases e
  | lk es => cases e
  | x c ds => cases e
theorem toDs_rp {K : PySem.W.Frag} {ρ : List Addr} {S : Sto} {H : Hp} : ∀ {ws : List W} {vs : List V} {ds : List D}, RpWs K ρ S H ws vs → toDs ws = some ds → RpL K H (live ρ S) ds vs
  | _, _, ds, .nil, e => by cases e; exact .nil
  | w :: ws, _, ds, .cons a b, e => by
    unfold toDs at e
    cases q1 : toD w with
    | none => rw [q1] at e; simp at e
    | some d =>
      cases q2 : toDs ws with
      | none => rw [q1, q2] at e; simp at e
      | some ds' =>
        rw [q1, q2] at e
        cases e
        exact .cons (toD_rp a q1) (toDs_rp b q2)
theorem le1000 {n : Nat} (h : n ≤ 1000) : n ≤ sizeLine := Nat.le_of_lt (small1000 h)
def cDisp (mk : List D → Sto → R W) (a : Den (List W)) : Den W := fun δ S => (a δ S).bind fun ws S1 => match toDs ws with
  | some ds => if ds.length ≤ 1000 then mk ds S1 else .bad
  | none => .bad
def cTup (a : Den (List W)) : Den W := cDisp (fun ds S => .ok (.v (.tup ds)) S) a
def cLst (a : Den (List W)) : Den W := cDisp (fun ds S => .ok (.v (.lst ds)) S) a
def cLstM (a : Den (List W)) : Den W := cDisp (fun ds S => .ok (.r S.length) (S ++ [.lst ds])) a
theorem disp_then {mk : List D → Sto → R W} {a : Den (List W)} {σ : L2.St} {H : Hp} {Q : VK} {Q' : List V → Hp → Prop} {K : PySem.W.Frag} (h : tE K E (cDisp mk a) σ H Q)
    (hk : ∀ (ds : List D) (S1 : Sto) (vs : List V) (ρ1 : List Addr) (H1 : Hp), Sok K ρ1 S1 H1 → RpL K H1 (live ρ1 S1) ds vs → vs.length ≤ sizeLine → Post K (RpW K) ρ1 S1 H1 (mk ds S1) Q (E σ) → Q' vs H1) : tA K E a σ H Q' := by
  obtain ⟨δ, ρ, S, st, so, p⟩ := h
  refine tG_then st so p fun ws S1 vs ρ1 H1 f1 st1 so1 r1 p1 => ?_
  cases q : toDs ws with
  | none => simp only [q] at p1; exact p1.elim
  | some ds =>
    have rl := toDs_rp r1 q
    by_cases hl : ds.length ≤ 1000
    · simp only [q, if_pos hl] at p1
      exact hk ds S1 vs ρ1 H1 so1 rl (by rw [← rl.length]; exact le1000 hl) p1
    · simp only [q, if_neg hl] at p1
      exact p1.elim
theorem de_tup {es : List Expr} {k : Nat} {pos : Pos} {a : Den (List W)} (h : PA X es (tA X.K E a)) (hd : ∀ t, PA X es t → PE X (.Tuple es k pos) (tTup t) := by exact fun _ h => pe_tup h) : PE X (.Tuple es k pos) (tE X.K E (cTup a)) := pe_mono (hd _ h) fun σ H Q q =>
  disp_then q fun ds S1 vs ρ1 H1 so1 rl hl p1 => ⟨hl, fun p np => p1 (.ref p) ρ1 _ (Fwd.laid so1 np) (so1.laid np) (Rp.tup (SqT.of upd_same) ((Fwd.laid so1 np).rpL rl))⟩
theorem de_lst {es : List Expr} {pos : Pos} {a : Den (List W)} (h : PA X es (tA X.K E a)) (hd : ∀ t, PA X es t → PE X (.List es pos) (tLst t) := by exact fun _ h => pe_lst h) : PE X (.List es pos) (tE X.K E (cLst a)) := pe_mono (hd _ h) fun σ H Q q =>
  disp_then q fun ds S1 vs ρ1 H1 so1 rl hl p1 => ⟨hl, fun p np => p1 (.ref p) ρ1 _ (Fwd.laid so1 np) (so1.laid np) (Rp.lst upd_same (so1.notNone np) ((Fwd.laid so1 np).rpL rl))⟩
theorem de_lstM {es : List Expr} {pos : Pos} {a : Den (List W)} (h : PA X es (tA X.K E a)) (hd : ∀ t, PA X es t → PE X (.List es pos) (tLst t) := by exact fun _ h => pe_lst h) : PE X (.List es pos) (tE X.K E (cLstM a)) := pe_mono (hd _ h) fun σ H Q q =>
  disp_then q fun ds S1 vs ρ1 H1 so1 rl hl p1 => ⟨hl, fun p np => by
    have fw : Fwd ρ1 S1 H1 (ρ1 ++ [p]) (S1 ++ [.lst ds]) (upd H1 p (.lst vs)) := Fwd.grown so1 np _
    refine p1 (.ref p) (ρ1 ++ [p]) _ fw (so1.grown np _ ⟨vs, upd_same, fw.rpL rl⟩) ⟨p, rfl, ?_⟩
    rw [List.getElem?_append_right (by rw [so1.len]; exact Nat.le_refl _), so1.len]
    simp⟩

/-! ### tests -/
def asB (w : W) (S : Sto) : R Bool := match w with
  | .v (.bl b) => .ok b S
  | _ => .bad
def cB (a : Den W) : Den Bool := fun δ S => (a δ S).bind asB
def cAnd (a b : Den Bool) : Den Bool := fun δ S => (a δ S).bind fun c S1 => if c then b δ S1 else .ok false S1
def cOr (a b : Den Bool) : Den Bool := fun δ S => (a δ S).bind fun c S1 => if c then .ok true S1 else b δ S1
def cNot (a : Den Bool) : Den Bool := fun δ S => (a δ S).bind fun c S1 => .ok (!c) S1
def cVal (a : Den Bool) : Den W := fun δ S => (a δ S).bind fun c S1 => .ok (.v (.bl c)) S1
theorem asB_post {K : PySem.W.Frag} {ρ : List Addr} {S : Sto} {H : Hp} {w : W} {v : V} {Q : Bool → Hp → Prop} {Ex} (so : Sok K ρ S H) (r : RpW K ρ S H w v) (p : Post K (fun _ _ _ a b => a = b) ρ S H (asB w S) Q Ex) : ∃ c, v = .bl c ∧ Q c H := by
  cases w with
  | v d =>
    cases d with
    | bl b => cases r; exact ⟨b, rfl, p b ρ H Fwd.refl so rfl⟩
    | _ => exact p.elim
  | r i => exact p.elim
  | s ns => exact p.elim
  | lk es => exact p.elim
  | x c ds => exact p.elim
theorem dt_val {e : Expr} {a : Den W} (h : PE X e (tE X.K E a)) (he : ∀ whole, isTrue e X.env whole = (do let v ← whole; standAt e.pos; holding [v] (truthy v)) := by intro _; rfl) : PT X e (tT X.K E (cB a)) :=
  pt_mono (pt_val h he) fun σ H Q ⟨δ, ρ, S, st, so, p⟩ => tG_then st so p fun w S1 v ρ1 H1 f1 st1 so1 r1 p1 => asB_post so1 r1 p1
theorem dt_not {e : Expr} {pos : Pos} {a : Den Bool} (h : PT X e (tT X.K E a)) : PT X (.UnaryOp .Not e pos) (tT X.K E (cNot a)) :=
  pt_mono (pt_not h) fun σ H Q ⟨δ, ρ, S, st, so, p⟩ => tG_then st so p fun w S1 v ρ1 H1 f1 st1 so1 r1 p1 => by cases r1; exact p1 _ ρ1 H1 Fwd.refl so1 rfl
theorem dw_and1 {e : Expr} {pos : Pos} {a : Den Bool} (h : PT X e (tT X.K E a)) : PW X (.BoolOp .And [e] pos) (tT X.K E a) := pw_and1 h
theorem dw_or1 {e : Expr} {pos : Pos} {a : Den Bool} (h : PT X e (tT X.K E a)) : PW X (.BoolOp .Or [e] pos) (tT X.K E a) := pw_or1 h
theorem dw_and {e e' : Expr} {rest : List Expr} {pos : Pos} {a b : Den Bool} (h : PT X e (tT X.K E a)) (h' : PW X (.BoolOp .And (e' :: rest) pos) (tT X.K E b)) : PW X (.BoolOp .And (e :: e' :: rest) pos) (tT X.K E (cAnd a b)) :=
  pw_mono (pw_and h h') fun σ H Q ⟨δ, ρ, S, st, so, p⟩ => tG_then st so p fun c S1 v ρ1 H1 f1 st1 so1 r1 p1 => by
    cases r1
    cases c with
    | true => rw [if_pos rfl]; exact ⟨δ, ρ1, S1, st1, so1, p1⟩
    | false => rw [if_neg Bool.false_ne_true]; exact p1 _ ρ1 H1 Fwd.refl so1 rfl
theorem dw_or {e e' : Expr} {rest : List Expr} {pos : Pos} {a b : Den Bool} (h : PT X e (tT X.K E a)) (h' : PW X (.BoolOp .Or (e' :: rest) pos) (tT X.K E b)) : PW X (.BoolOp .Or (e :: e' :: rest) pos) (tT X.K E (cOr a b)) :=
  pw_mono (pw_or h h') fun σ H Q ⟨δ, ρ, S, st, so, p⟩ => tG_then st so p fun c S1 v ρ1 H1 f1 st1 so1 r1 p1 => by
    cases r1
    cases c with
    | true => rw [if_pos rfl]; exact p1 _ ρ1 H1 Fwd.refl so1 rfl
    | false => rw [if_neg Bool.false_ne_true]; exact ⟨δ, ρ1, S1, st1, so1, p1⟩
/-- as values -/
def cAndV (a b : Den W) : Den W := fun δ S => (a δ S).bind fun w S1 => (asB w S1).bind fun c S2 => if c then b δ S2 else .ok (.v (.bl false)) S2
def cOrV (a b : Den W) : Den W := fun δ S => (a δ S).bind fun w S1 => (asB w S1).bind fun c S2 => if c then .ok (.v (.bl true)) S2 else b δ S2
def cNotV (a : Den W) : Den W := fun δ S => (a δ S).bind fun w S1 => (asB w S1).bind fun c S2 => .ok (.v (.bl (!c))) S2
theorem asB_then {K : PySem.W.Frag} {α β : Type} {rel : Rl α β} {ρ : List Addr} {S : Sto} {H : Hp} {w : W} {v : V} {k : Bool → Sto → R α} {Q : β → Hp → Prop} {Ex} (r : RpW K ρ S H w v) (p : Post K rel ρ S H ((asB w S).bind k) Q Ex) : ∃ c, v = .bl c ∧ Post K rel ρ S H (k c S) Q Ex := by
  cases w with
  | v d =>
    cases d with
    | bl b => cases r; exact ⟨b, rfl, p⟩
    | _ => exact p.elim
  | r i => exact p.elim
  | s ns => exact p.elim
  | lk es => exact p.elim
  | x c ds => exact p.elim
theorem de_one {op : BoolOp} {e : Expr} {pos : Pos} {a : Den W} (h : PE X e (tE X.K E a)) : PE X (.BoolOp op [e] pos) (tE X.K E a) := pe_one h
theorem de_and {e e' : Expr} {rest : List Expr} {pos : Pos} {a b : Den W} (h : PE X e (tE X.K E a)) (h' : PE X (.BoolOp .And (e' :: rest) pos) (tE X.K E b)) : PE X (.BoolOp .And (e :: e' :: rest) pos) (tE X.K E (cAndV a b)) :=
  pe_mono (pe_and h h') fun σ H Q ⟨δ, ρ, S, st, so, p⟩ => tG_then st so p fun w S1 v ρ1 H1 f1 st1 so1 r1 p1 => by
    obtain ⟨c, rfl, p2⟩ := asB_then r1 p1
    refine ⟨c, rfl, ?_⟩
    cases c with
    | true => rw [if_pos rfl]; exact ⟨δ, ρ1, S1, st1, so1, p2⟩
    | false => rw [if_neg Bool.false_ne_true]; exact p2 _ ρ1 H1 Fwd.refl so1 (.bl false)
theorem de_or {e e' : Expr} {rest : List Expr} {pos : Pos} {a b : Den W} (h : PE X e (tE X.K E a)) (h' : PE X (.BoolOp .Or (e' :: rest) pos) (tE X.K E b)) : PE X (.BoolOp .Or (e :: e' :: rest) pos) (tE X.K E (cOrV a b)) :=
  pe_mono (pe_or h h') fun σ H Q ⟨δ, ρ, S, st, so, p⟩ => tG_then st so p fun w S1 v ρ1 H1 f1 st1 so1 r1 p1 => by
    obtain ⟨c, rfl, p2⟩ := asB_then r1 p1
    refine ⟨c, rfl, ?_⟩
    cases c with
    | true => rw [if_pos rfl]; exact p2 _ ρ1 H1 Fwd.refl so1 (.bl true)
    | false => rw [if_neg Bool.false_ne_true]; exact ⟨δ, ρ1, S1, st1, so1, p2⟩
theorem de_not {e : Expr} {pos : Pos} {a : Den W} (h : PE X e (tE X.K E a)) : PE X (.UnaryOp .Not e pos) (tE X.K E (cNotV a)) :=
  pe_mono (pe_not h) fun σ H Q ⟨δ, ρ, S, st, so, p⟩ => tG_then st so p fun w S1 v ρ1 H1 f1 st1 so1 r1 p1 => by
    obtain ⟨c, rfl, p2⟩ := asB_then r1 p1
    exact ⟨c, rfl, p2 _ ρ1 H1 Fwd.refl so1 (.bl _)⟩
def cIf (t : Den Bool) (a b : Den W) : Den W := fun δ S => (t δ S).bind fun c S1 => if c then a δ S1 else b δ S1
theorem de_if {c e e' : Expr} {pos : Pos} {t : Den Bool} {a b : Den W} (hc : PT X c (tT X.K E t)) (h : PE X e (tE X.K E a)) (h' : PE X e' (tE X.K E b)) : PE X (.IfExp c e e' pos) (tE X.K E (cIf t a b)) :=
  pe_mono (pe_ifExp hc h h') fun σ H Q ⟨δ, ρ, S, st, so, p⟩ => tG_then st so p fun c S1 v ρ1 H1 f1 st1 so1 r1 p1 => by
    cases r1
    cases c with
    | true => rw [if_pos rfl]; exact ⟨δ, ρ1, S1, st1, so1, p1⟩
    | false => rw [if_neg Bool.false_ne_true]; exact ⟨δ, ρ1, S1, st1, so1, p1⟩
/-- code that is never reached -/
theorem de_dead {e : Expr} : PE X e (tE X.K E fun _ _ => .bad) := ⟨fun _ _ _ _ _ _ ⟨_, _, _, _, _, p⟩ => p.elim⟩

/-! ### blocks -/
def cNx : DenS := fun δ S => .nx δ S
def cSeq (a b : DenS) : DenS := fun δ S => match a δ S with
  | .nx δ' S' => b δ' S'
  | r => r
def cBad : DenS := fun _ _ => .bad
theorem ds_dead {s : Stmt} : PS X s (tS X.K E cBad) := ⟨fun _ _ _ _ _ _ ⟨_, _, _, _, _, p⟩ => p.elim⟩
theorem dss_dead {s : List Stmt} : PSs X s (tS X.K E cBad) := ⟨fun _ _ _ _ _ _ ⟨_, _, _, _, _, p⟩ => p.elim⟩
theorem dss_nil : PSs X [] (tS X.K E cNx) := pss_mono pss_nil fun D' σ H ⟨δ, ρ, S, st, so, p⟩ => p σ ρ H Fwd.refl so st
theorem dss_one {s : Stmt} {a : DenS} (h : PS X s (tS X.K E a)) : PSs X [s] (tS X.K E a) := pss_one h
theorem dss_cons {s : Stmt} {r : List Stmt} {a b : DenS} (h : PS X s (tS X.K E a)) (h' : PSs X r (tS X.K E b)) : PSs X (s :: r) (tS X.K E (cSeq a b)) :=
  pss_mono (pss_cons h h') fun D' σ H ⟨δ, ρ, S, st, so, p⟩ => by
    refine ⟨δ, ρ, S, st, so, ?_⟩
    unfold cSeq at p
    cases q : a δ S with
    | nx δ' S' =>
      simp only [q] at p
      exact fun σ' ρ' H' f so' st' => ⟨δ', ρ', S', st', so', PostS.later f p⟩
    | rt w S' => simp only [q] at p; exact p
    | bk w S' => simp only [q] at p; exact p
    | ct w S' => simp only [q] at p; exact p
    | xc c ds w S' => simp only [q] at p; exact p
    | bad => simp only [q] at p; exact p
def cRet (a : Den W) : DenS := fun δ S => (a δ S).thenS δ fun w S1 => .rt w S1
def cRetN : DenS := fun _ S => .rt (.v .non) S
def cExpr (a : Den W) : DenS := fun δ S => (a δ S).thenS δ fun _ S1 => .nx δ S1
def cIfS (t : Den Bool) (a b : DenS) : DenS := fun δ S => (t δ S).thenS δ fun c S1 => if c then a δ S1 else b δ S1
def cBrk : DenS := fun δ S => .bk δ S
def cCt : DenS := fun δ S => .ct δ S
theorem ds_ret {e : Expr} {pos : Pos} {a : Den W} (h : PE X e (tE X.K E a)) : PS X (.Return (some e) pos) (tS X.K E (cRet a)) :=
  ps_mono (ps_ret h) fun D' σ H ⟨δ, ρ, S, st, so, p⟩ => tG_thenS st so p fun w S1 v ρ1 H1 f1 st1 so1 r1 p1 => p1 v ρ1 H1 Fwd.refl so1 r1
theorem ds_retN {pos : Pos} : PS X (.Return none pos) (tS X.K E cRetN) := ps_mono ps_retN fun D' σ H ⟨δ, ρ, S, st, so, p⟩ => p .non ρ H Fwd.refl so .non
theorem ds_expr {e : Expr} {pos : Pos} {a : Den W} (h : PE X e (tE X.K E a)) (hs : swapsWith e none pos.line X.env = pure false := by rfl) : PS X (.Expr e pos) (tS X.K E (cExpr a)) :=
  ps_mono (ps_expr h hs) fun D' σ H ⟨δ, ρ, S, st, so, p⟩ => tG_thenS st so p fun w S1 v ρ1 H1 f1 st1 so1 r1 p1 => p1 σ ρ1 H1 Fwd.refl so1 st1
theorem ds_if {c : Expr} {u u' : List Stmt} {pos : Pos} {t : Den Bool} {a b : DenS} (hc : PT X c (tT X.K E t)) (h : PSs X u (tS X.K E a)) (h' : PSs X u' (tS X.K E b)) : PS X (.If c u u' pos) (tS X.K E (cIfS t a b)) :=
  ps_mono (ps_if hc h h') fun D' σ H ⟨δ, ρ, S, st, so, p⟩ => tG_thenS st so p fun c S1 v ρ1 H1 f1 st1 so1 r1 p1 => by
    cases r1
    cases c with
    | true => rw [if_pos rfl]; exact ⟨δ, ρ1, S1, st1, so1, p1⟩
    | false => rw [if_neg Bool.false_ne_true]; exact ⟨δ, ρ1, S1, st1, so1, p1⟩
theorem ds_pass {pos : Pos} : PS X (.Pass pos) (tS X.K E cNx) := ps_mono ps_pass fun D' σ H ⟨δ, ρ, S, st, so, p⟩ => p σ ρ H Fwd.refl so st
theorem ds_brk {pos : Pos} : PS X (.Break pos) (tS X.K E cBrk) := ps_mono ps_break fun D' σ H ⟨δ, ρ, S, st, so, p⟩ => p σ ρ H Fwd.refl so st
theorem ds_ct {pos : Pos} : PS X (.Continue pos) (tS X.K E cCt) := ps_mono ps_continue fun D' σ H ⟨δ, ρ, S, st, so, p⟩ => p σ ρ H Fwd.refl so st
theorem ds_doc {x j pos pos'} : PS X (.Expr (.Constant (.str x) j pos) pos') (tS X.K E cNx) := ps_mono ps_doc fun D' σ H ⟨δ, ρ, S, st, so, p⟩ => p σ ρ H Fwd.refl so st

/-! ### targets -/
abbrev DenG := W → Slots → Sto → Option (Slots × Sto)
/-- the target's reading is served by a denotation that changes the slots ts alone -/
def GOk (K : PySem.W.Frag) (g : TG) (dg : DenG) (ts : List Nat) : Prop := ∀ (ρ : List Addr) (S : Sto) (H : Hp) (δ : Slots) (σ : L2.St) (w : W) (v : V) (Q : L2.St → Hp → Prop) (δ' : Slots) (S' : Sto),
  RpSt K ρ S H δ σ → Sok K ρ S H → RpW K ρ S H w v → dg w δ S = some (δ', S') →
  (∀ (σ' : L2.St) (ρ' : List Addr) (H' : Hp), Fwd ρ S H ρ' S' H' → Sok K ρ' S' H' → RpSt K ρ' S' H' δ' σ' → σ'.length = σ.length → (∀ j, j ∉ ts → σ'[j]? = σ[j]?) → Q σ' H') → g v σ H Q
def gN (i : Nat) : DenG := fun w δ S => some (δ.set i (some w), S)
theorem gok_name {K : PySem.W.Frag} (i : Nat) : GOk K (gName i) (gN i) [i] := fun ρ S H δ σ w v Q δ' S' st so r e h => by
  cases e
  exact h _ ρ H Fwd.refl so (st.set i r) (by rw [List.length_set]) fun j hj => List.getElem?_set_ne (fun z => hj (by rw [z]; exact List.mem_singleton.mpr rfl))
abbrev DenGs := List D → Slots → Sto → Option (Slots × Sto)
def GsOk (K : PySem.W.Frag) (g : TGs) (dg : DenGs) (ts : List Nat) : Prop := ∀ (ρ : List Addr) (S : Sto) (H : Hp) (δ : Slots) (σ : L2.St) (ds : List D) (vs : List V) (Q : L2.St → Hp → Prop) (δ' : Slots) (S' : Sto),
  RpSt K ρ S H δ σ → Sok K ρ S H → RpL K H (live ρ S) ds vs → dg ds δ S = some (δ', S') →
  (∀ (σ' : L2.St) (ρ' : List Addr) (H' : Hp), Fwd ρ S H ρ' S' H' → Sok K ρ' S' H' → RpSt K ρ' S' H' δ' σ' → σ'.length = σ.length → (∀ j, j ∉ ts → σ'[j]? = σ[j]?) → Q σ' H') → g vs σ H Q
def gsNil : DenGs := fun ds δ S => match ds with
  | [] => some (δ, S)
  | _ => none
def gsCons (a : DenG) (b : DenGs) : DenGs := fun ds δ S => match ds with
  | d :: r => match a (.v d) δ S with
    | some (δ1, S1) => b r δ1 S1
    | none => none
  | [] => none
theorem gsok_nil {K : PySem.W.Frag} : GsOk K gNil gsNil [] := fun ρ S H δ σ ds vs Q δ' S' st so r e h => by
  cases ds with
  | nil => cases e; cases r; exact ⟨rfl, h σ ρ H Fwd.refl so st rfl fun _ _ => rfl⟩
  | cons d r => cases e
theorem gsok_cons {K : PySem.W.Frag} {g : TG} {gs : TGs} {a : DenG} {b : DenGs} {t1 t2 : List Nat} (h1 : GOk K g a t1) (h2 : GsOk K gs b t2) : GsOk K (gCons g gs) (gsCons a b) (t1 ++ t2) := fun ρ S H δ σ ds vs Q δ' S' st so r e h => by
  cases r with
  | nil => cases e
  | @cons d r v vs rd rr =>
    unfold gsCons at e
    cases q : a (.v d) δ S with
    | none => simp only [q] at e; cases e
    | some z =>
      obtain ⟨δ1, S1⟩ := z
      simp only [q] at e
      exact ⟨v, vs, rfl, h1 ρ S H δ σ (.v d) v _ δ1 S1 st so rd q fun σ1 ρ1 H1 f1 so1 st1 l1 k1 => h2 ρ1 S1 H1 δ1 σ1 r vs Q δ' S' st1 so1 (f1.rpL rr) e fun σ2 ρ2 H2 f2 so2 st2 l2 k2 =>
        h σ2 ρ2 H2 (f1.trans f2) so2 st2 (l2.trans l1) fun j hj => (k2 j fun z => hj (List.mem_append_right _ z)).trans (k1 j fun z => hj (List.mem_append_left _ z))⟩
def gT (n : Nat) (b : DenGs) : DenG := fun w δ S => match w with
  | .v (.tup ds) => if ds.length = n then b ds δ S else none
  | _ => none
theorem gok_tup {K : PySem.W.Frag} {n : Nat} {gs : TGs} {b : DenGs} {ts : List Nat} (h : GsOk K gs b ts) : GOk K (gTup K n gs) (gT n b) ts := fun ρ S H δ σ w v Q δ' S' st so r e hq => by
  unfold gT at e
  cases w with
  | r i => cases e
  | s ns => cases e
  | lk es => cases e
  | x c ds => cases e
  | v d =>
    cases d with
    | tup ds =>
      by_cases hl : ds.length = n
      · simp only [if_pos hl] at e
        cases r with
        | tup sq rl => exact ⟨_, _, rfl, sq, by rw [← rl.length]; exact hl, h ρ S H δ σ ds _ Q δ' S' st so rl e hq⟩
      · simp only [if_neg hl] at e; cases e
    | _ => cases e
def cAsg (a : Den W) (dg : DenG) : DenS := fun δ S => (a δ S).thenS δ fun w S1 => match dg w δ S1 with
  | some (δ', S') => .nx δ' S'
  | none => .bad
theorem asg_post {K : PySem.W.Frag} {g : TG} {dg : DenG} {ts : List Nat} (hg : GOk K g dg ts) {ρ : List Addr} {S : Sto} {H : Hp} {δ : Slots} {σ : L2.St} {w : W} {v : V} {D' : Ends} (st : RpSt K ρ S H δ σ) (so : Sok K ρ S H) (r : RpW K ρ S H w v)
    (p : PostS K ρ S H (match dg w δ S with | some (δ', S') => .nx δ' S' | none => .bad) D' E) : g v σ H D'.nx := by
  cases q : dg w δ S with
  | none => rw [q] at p; exact p.elim
  | some z =>
    obtain ⟨δ', S'⟩ := z
    rw [q] at p
    exact hg ρ S H δ σ w v _ δ' S' st so r q fun σ' ρ' H' f so' st' _ _ => p σ' ρ' H' f so' st'
theorem ds_asg {tg e : Expr} {pos : Pos} {a : Den W} {g : TG} {dg : DenG} {ts : List Nat} (he : PE X e (tE X.K E a)) (hp : PG X tg g) (hg : GOk X.K g dg ts) (hs : swapsWithSole [tg] e pos.line X.env = pure false := by rfl) (hw : swappedStores [tg] e X.env = pure none := by rfl)
    (h1 : (assignEach [tg] X.env).map (·.2) = [assign tg X.env] := by rfl) : PS X (.Assign [tg] e pos) (tS X.K E (cAsg a dg)) :=
  ps_mono (ps_asg he hp hs hw h1) fun D' σ H ⟨δ, ρ, S, st, so, p⟩ => tG_thenS st so p fun w S1 v ρ1 H1 f1 st1 so1 r1 p1 => asg_post hg st1 so1 r1 p1
theorem ds_set (i : Nat) {x : Str} {e : Expr} {pos pos' : Pos} {a : Den W} (hN : X.N.Nodup) (he : PE X e (tE X.K E a)) (hx : Loc X.env.scope x := by first | exact Or.inl rfl | exact Or.inr rfl) (hi : X.N[i]? = some x := by rfl)
    (hs : swapsWith e (some (.Name x pos')) pos.line X.env = pure false := by rfl) (hf : X.fn x = true ∨ X.env.scope.names.lookup x = some .local := by first | exact .inl rfl | exact .inr rfl | assumption) : PS X (.Assign [.Name x pos'] e pos) (tS X.K E (cAsg a (gN i))) :=
  ps_mono (ps_set hN hi hx he hs hf) fun D' σ H ⟨δ, ρ, S, st, so, p⟩ => tG_thenS st so p fun w S1 v ρ1 H1 f1 st1 so1 r1 p1 => asg_post (gok_name i) st1 so1 r1 p1
end
end Fro

namespace Fro
open PySem PySem.Spec L2

/-! ### what is walked -/
/-- an iterator that gives the data ds, one a turn, while the heap goes on -/
def Jok (K : PySem.W.Frag) : Rl (List D) It := fun ρ S H ds J => ∀ (i : Nat) (ρ' : List Addr) (S' : Sto) (H' : Hp), Fwd ρ S H ρ' S' H' → Sok K ρ' S' H' →
  (∀ d, ds[i]? = some d → J.go i H' ∧ ∀ x H'', J.yld i H' x H'' → Fwd ρ' S' H' ρ' S' H'' ∧ Sok K ρ' S' H'' ∧ Rp K H'' (live ρ' S') d x) ∧ (ds.length ≤ i → J.stop i H')
abbrev tI (K : PySem.W.Frag) (E : XP) (den : Den (List D)) : TI := tG K (Jok K) E den
theorem jok_list {K : PySem.W.Frag} {ρ : List Addr} {S : Sto} {H : Hp} {a : Addr} {xs : List V} {ds : List D} (h : H a = some (.lst xs)) (n : ¬ live ρ S a) (r : RpL K H (live ρ S) ds xs) : Jok K ρ S H ds (Itl K a) := fun i ρ' S' H' f so => by
  have sq : SqL K H' a xs := SqL.of (f.keep _ _ n h)
  have r' := f.rpL r
  refine ⟨fun d e => ?_, fun hl => ⟨xs, sq, by rw [← r.length]; exact hl⟩⟩
  obtain ⟨v, hv, rv⟩ := r'.get i e
  refine ⟨⟨xs, v, sq, hv⟩, fun x H'' y => ?_⟩
  obtain ⟨rfl, fx⟩ := y
  have ex : v = x := Option.some.inj (hv.symm.trans (fx xs sq))
  subst ex
  exact ⟨Fwd.refl, so, rv⟩
theorem jok_tup {K : PySem.W.Frag} {ρ : List Addr} {S : Sto} {H : Hp} {a : Addr} {xs : List V} {ds : List D} (h : SqT K H a xs) (r : RpL K H (live ρ S) ds xs) : Jok K ρ S H ds (Itt K a) := fun i ρ' S' H' f so => by
  have sq : SqT K H' a xs := sqT_mono f.tups f.frzs h
  have r' := f.rpL r
  refine ⟨fun d e => ?_, fun hl => ⟨xs, sq, by rw [← r.length]; exact hl⟩⟩
  obtain ⟨v, hv, rv⟩ := r'.get i e
  refine ⟨⟨xs, v, sq, hv⟩, fun x H'' y => ?_⟩
  obtain ⟨rfl, fx⟩ := y
  have ex : v = x := Option.some.inj (hv.symm.trans (fx xs sq))
  subst ex
  exact ⟨Fwd.refl, so, rv⟩
def rangeD (lo : Int) : Nat → List D
  | 0 => []
  | n + 1 => .int lo :: rangeD (lo + 1) n
theorem rangeD_length : ∀ (n : Nat) (lo : Int), (rangeD lo n).length = n
  | 0, _ => rfl
  | n + 1, lo => by
    show (rangeD (lo + 1) n).length + 1 = n + 1
    rw [rangeD_length n]
theorem rangeD_get : ∀ (n i : Nat) (lo : Int) (d : D), (rangeD lo n)[i]? = some d → i < n ∧ d = .int (lo + i)
  | 0, _, _, _, e => by simp [rangeD] at e
  | n + 1, 0, lo, d, e => by
    simp [rangeD] at e
    exact ⟨Nat.succ_pos _, by rw [← e]; simp⟩
  | n + 1, i + 1, lo, d, e => by
    have q := rangeD_get n i (lo + 1) d (by simpa [rangeD] using e)
    refine ⟨Nat.succ_lt_succ q.1, ?_⟩
    rw [q.2]
    congr 1
    omega
theorem jok_range {K : PySem.W.Frag} {ρ : List Addr} {S : Sto} {H : Hp} (lo : Int) (n : Nat) : Jok K ρ S H (rangeD lo n) (Itr lo n) := fun i ρ' S' H' f so => by
  refine ⟨fun d e => ?_, fun hl => by rw [rangeD_length] at hl; exact hl⟩
  obtain ⟨h1, rfl⟩ := rangeD_get n i lo d e
  refine ⟨h1, fun x H'' y => ?_⟩
  obtain ⟨rfl, rfl⟩ := y
  exact ⟨Fwd.refl, so, .int _⟩
section
variable {X : Cx} {E : XP} {tg : Expr}
theorem pi_mono {iter : Expr} {t t' : TI} (h : PI X tg iter t) (w : ∀ σ H Q, t' σ H Q → t σ H Q) : PI X tg iter t' := ⟨fun pins s σ H Q I q => h.run pins s σ H Q I (w σ H Q q)⟩
/-- a value that is a list; one that is a tuple -/
def asL (w : W) (S : Sto) : R (List D) := match w with
  | .v (.lst ds) => .ok ds S
  | _ => .bad
def asT (w : W) (S : Sto) : R (List D) := match w with
  | .v (.tup ds) => .ok ds S
  | _ => .bad
def itL (a : Den W) : Den (List D) := fun δ S => (a δ S).bind asL
def itT (a : Den W) : Den (List D) := fun δ S => (a δ S).bind asT
theorem di_list {e : Expr} {a : Den W} (h : PE X e (tE X.K E a)) : PI X tg e (tI X.K E (itL a)) := pi_mono (pi_list h) fun σ H Q ⟨δ, ρ, S, st, so, p⟩ => tG_then st so p fun w S1 v ρ1 H1 f1 st1 so1 r1 p1 => by
  cases w with
  | r i => exact p1.elim
  | s ns => exact p1.elim
  | lk es => exact p1.elim
  | x c ds => exact p1.elim
  | v d =>
    cases d with
    | lst ds =>
      cases r1 with
      | lst e n rl => exact ⟨_, rfl, ⟨_, SqL.of e⟩, p1 _ ρ1 H1 Fwd.refl so1 (jok_list e n rl)⟩
    | _ => exact p1.elim
theorem di_tup {e : Expr} {a : Den W} (h : PE X e (tE X.K E a)) : PI X tg e (tI X.K E (itT a)) := pi_mono (pi_tup h) fun σ H Q ⟨δ, ρ, S, st, so, p⟩ => tG_then st so p fun w S1 v ρ1 H1 f1 st1 so1 r1 p1 => by
  cases w with
  | r i => exact p1.elim
  | s ns => exact p1.elim
  | lk es => exact p1.elim
  | x c ds => exact p1.elim
  | v d =>
    cases d with
    | tup ds =>
      cases r1 with
      | tup e rl => exact ⟨_, rfl, ⟨_, e⟩, p1 _ ρ1 H1 Fwd.refl so1 (jok_tup e rl)⟩
    | _ => exact p1.elim
def asR (ws : List W) (S : Sto) : R (List D) := match ws with
  | [.v (.int n)] => if n < 1000000 then .ok (rangeD 0 n.toNat) S else .bad
  | _ => .bad
def itR (a : Den (List W)) : Den (List D) := fun δ S => (a δ S).bind asR
theorem asR_post {K : PySem.W.Frag} {ρ : List Addr} {S : Sto} {H : Hp} {ws : List W} {vs : List V} {Q : It → Hp → Prop} {Ex} (so : Sok K ρ S H) (r : RpWs K ρ S H ws vs) (p : Post K (Jok K) ρ S H (asR ws S) Q Ex) :
    ∃ n : Int, vs = [.int n] ∧ n < 1000000 ∧ Q (Itr 0 n.toNat) H := by
  unfold asR at p
  split at p
  · rename_i n
    cases r with
    | cons a b =>
      cases b
      cases a
      by_cases h : n < 1000000
      · rw [if_pos h] at p
        exact ⟨n, rfl, h, p _ ρ H Fwd.refl so (jok_range 0 _)⟩
      · rw [if_neg h] at p; exact p.elim
  · exact p.elim
/-- range(n): n from -2^62 on -/
def asR0 (ws : List W) (S : Sto) : R (List D) := match ws with
  | [.v (.int n)] => if 0 ≤ n ∧ n < 1000000 then .ok (rangeD 0 n.toNat) S else .bad
  | _ => .bad
def itR0 (a : Den (List W)) : Den (List D) := fun δ S => (a δ S).bind asR0
theorem di_range {e : Expr} {p pos : Pos} {a : Den (List W)} (hm : X.mg "range" = none) (h : PA X [e] (tA X.K E a)) (hg : Gl X "range" := by rfl) (hs : starEach [e] X.env = [(false, eval e X.env)] := by rfl) :
    PI X tg (.Call (.Name "range" p) [e] [] pos) (tI X.K E (itR0 a)) := pi_mono (pi_range1 hg hm h hs) fun σ H Q ⟨δ, ρ, S, st, so, p⟩ => tG_then st so p fun ws S1 vs ρ1 H1 f1 st1 so1 r1 p1 => by
  unfold asR0 at p1
  split at p1
  · rename_i n
    cases r1 with
    | cons a b =>
      cases b
      cases a
      by_cases h : 0 ≤ n ∧ n < 1000000
      · rw [if_pos h] at p1
        refine ⟨n, rfl, ?_, ?_, p1 _ ρ1 H1 Fwd.refl so1 (jok_range 0 _)⟩
        · have : (0 : Int) ≤ n := h.1
          exact Int.le_trans (by decide) this
        · exact Int.lt_trans h.2 (by decide)
      · rw [if_neg h] at p1; exact p1.elim
  · exact p1.elim

/-! ### for -/
def forL (dg : DenG) (body : DenS) : List D → Slots → Sto → RS
  | [], δ, S => .nx δ S
  | d :: ds, δ, S => match dg (.v d) δ S with
    | none => .bad
    | some (δ1, S1) => match body δ1 S1 with
      | .nx δ2 S2 => forL dg body ds δ2 S2
      | .ct δ2 S2 => forL dg body ds δ2 S2
      | .bk δ2 S2 => .nx δ2 S2
      | r => r
def cFor (it : Den (List D)) (dg : DenG) (body : DenS) : DenS := fun δ S => (it δ S).thenS δ fun ds S1 => forL dg body ds δ S1
theorem ds_for {iter : Expr} {body : List Stmt} {pos : Pos} {it : Den (List D)} {g : TG} {dg : DenG} {ts : List Nat} {b : DenS} (hp : PassesOwn (model X.prog X.w) X.A X.env X.xe) (hc : X.calm = true) (hi : PI X tg iter (tI X.K E it)) (hg : PG X tg g) (hgo : GOk X.K g dg ts)
    (hb : PSs X body (tS X.K E b)) (hs : ∀ x, foldedSetIterable iter X.env x = pure x := by intro _; rfl) : PS X (.For tg iter body [] pos) (tS X.K E (cFor it dg b)) :=
  ps_mono (ps_for hp hc hi hg hb hs) fun D' σ H ⟨δ, ρ, S, st, so, p⟩ => tG_thenS st so p fun ds S1 J ρ1 H1 f1 st1 so1 j1 p1 => by
    refine ⟨fun i m σ' H' => i + m = ds.length ∧ ∃ (δ' : Slots) (ρ' : List Addr) (S' : Sto), Fwd ρ1 S1 H1 ρ' S' H' ∧ RpSt X.K ρ' S' H' δ' σ' ∧ Sok X.K ρ' S' H' ∧ PostS X.K ρ' S' H' (forL dg b (ds.drop i) δ' S') D' E,
      ⟨ds.length, by omega, δ, ρ1, S1, Fwd.refl, st1, so1, by rw [List.drop_zero]; exact p1⟩, fun i m σ' H' hW => ?_⟩
    obtain ⟨em, δ', ρ', S', f', st', so', p'⟩ := hW
    obtain ⟨jg, js⟩ := j1 i ρ' S' H' f' so'
    by_cases hl : i < ds.length
    · have ed : ds.drop i = ds[i] :: ds.drop (i + 1) := List.drop_eq_getElem_cons hl
      rw [ed] at p'
      obtain ⟨g1, g2⟩ := jg ds[i] (List.getElem?_eq_getElem hl)
      refine .inr ⟨g1, fun σ2 H2 => ∃ (δ2 : Slots) (ρ2 : List Addr) (S2 : Sto), Fwd ρ1 S1 H1 ρ2 S2 H2 ∧ RpSt X.K ρ2 S2 H2 δ2 σ2 ∧ Sok X.K ρ2 S2 H2 ∧ PostS X.K ρ2 S2 H2 (forL dg b (ds.drop (i + 1)) δ2 S2) D' E, fun σ2 H2 ⟨δ2, ρ2, S2, a1, a2, a3, a4⟩ => ⟨m - 1, by omega, by omega, δ2, ρ2, S2, a1, a2, a3, a4⟩, fun x H3 y => ?_⟩
      obtain ⟨fy, soy, ry⟩ := g2 x H3 y
      unfold forL at p'
      cases q : dg (.v ds[i]) δ' S' with
      | none => simp only [q] at p'; exact p'.elim
      | some z =>
        obtain ⟨δ3, S3⟩ := z
        simp only [q] at p'
        refine hgo ρ' S' H3 δ' σ' (.v ds[i]) x _ δ3 S3 (fy.st st') soy ry q fun σ4 ρ4 H4 f4 so4 st4 _ _ => ?_
        have p4 := PostS.later (fy.trans f4) p'
        have f14 : Fwd ρ1 S1 H1 ρ4 S3 H4 := f'.trans (fy.trans f4)
        refine ⟨δ3, ρ4, S3, st4, so4, ?_⟩
        cases qb : b δ3 S3 with
        | nx δ5 S5 => simp only [qb] at p4; exact fun σ5 ρ5 H5 f5 so5 st5 => ⟨δ5, ρ5, S5, f14.trans f5, st5, so5, PostS.later f5 p4⟩
        | ct δ5 S5 => simp only [qb] at p4; exact fun σ5 ρ5 H5 f5 so5 st5 => ⟨δ5, ρ5, S5, f14.trans f5, st5, so5, PostS.later f5 p4⟩
        | bk δ5 S5 => simp only [qb] at p4; exact p4
        | rt w S5 => simp only [qb] at p4; exact p4
        | xc c cs w S5 => simp only [qb] at p4; exact p4
        | bad => simp only [qb] at p4; exact p4
    · refine .inl ⟨js (by omega), ?_⟩
      rw [List.drop_eq_nil_of_le (by omega)] at p'
      exact p' σ' ρ' H' Fwd.refl so' st'

/-! ### while -/
def whileN (t : Den Bool) (b : DenS) : Nat → Slots → Sto → RS
  | 0, _, _ => .bad
  | n + 1, δ, S => (t δ S).thenS δ fun c S1 => if c then (match b δ S1 with
      | .nx δ2 S2 => whileN t b n δ2 S2
      | .ct δ2 S2 => whileN t b n δ2 S2
      | .bk δ2 S2 => .nx δ2 S2
      | r => r) else .nx δ S1
def cWhile (n : Nat) (t : Den Bool) (b : DenS) : DenS := fun δ S => whileN t b n δ S
theorem ds_while {c : Expr} {body : List Stmt} {pos : Pos} {t : Den Bool} {b : DenS} (n : Nat) (hp : PassesOwn (model X.prog X.w) X.A X.env X.xe) (hc : PT X c (tT X.K E t)) (hb : PSs X body (tS X.K E b)) : PS X (.While c body [] pos) (tS X.K E (cWhile n t b)) :=
  ps_mono (ps_while hp hc hb) fun D' σ H ⟨δ, ρ, S, st, so, p⟩ => by
    refine ⟨fun m σ' H' => ∃ (δ' : Slots) (ρ' : List Addr) (S' : Sto), RpSt X.K ρ' S' H' δ' σ' ∧ Sok X.K ρ' S' H' ∧ PostS X.K ρ' S' H' (whileN t b m δ' S') D' E, ⟨n, δ, ρ, S, st, so, p⟩, fun m σ' H' hW => ?_⟩
    obtain ⟨δ', ρ', S', st', so', p'⟩ := hW
    cases m with
    | zero => exact p'.elim
    | succ m =>
      unfold whileN at p'
      refine tG_thenS st' so' p' fun c S1 v ρ1 H1 f1 st1 so1 r1 p1 => ?_
      cases r1
      cases c with
      | false => rw [if_neg Bool.false_ne_true]; exact p1 σ' ρ1 H1 Fwd.refl so1 st1
      | true =>
        rw [if_pos rfl]
        refine ⟨fun σ2 H2 => ∃ (δ2 : Slots) (ρ2 : List Addr) (S2 : Sto), RpSt X.K ρ2 S2 H2 δ2 σ2 ∧ Sok X.K ρ2 S2 H2 ∧ PostS X.K ρ2 S2 H2 (whileN t b m δ2 S2) D' E, fun σ2 H2 hN => ⟨m, Nat.lt_succ_self m, hN⟩, δ', ρ1, S1, st1, so1, ?_⟩
        have p2 : PostS X.K ρ1 S1 H1 (match b δ' S1 with
          | .nx δ2 S2 => whileN t b m δ2 S2
          | .ct δ2 S2 => whileN t b m δ2 S2
          | .bk δ2 S2 => .nx δ2 S2
          | r => r) D' E := p1
        cases qb : b δ' S1 with
        | nx δ5 S5 => simp only [qb] at p2; exact fun σ5 ρ5 H5 f5 so5 st5 => ⟨δ5, ρ5, S5, st5, so5, PostS.later f5 p2⟩
        | ct δ5 S5 => simp only [qb] at p2; exact fun σ5 ρ5 H5 f5 so5 st5 => ⟨δ5, ρ5, S5, st5, so5, PostS.later f5 p2⟩
        | bk δ5 S5 => simp only [qb] at p2; exact p2
        | rt w S5 => simp only [qb] at p2; exact p2
        | xc c cs w S5 => simp only [qb] at p2; exact p2
        | bad => simp only [qb] at p2; exact p2
end

/-! ### parts of a store -/
theorem Sok.sub {K : PySem.W.Frag} {ρ ρ1 : List Addr} {S S1 : Sto} {H : Hp} (so : Sok K ρ S H) (hl : ρ1.length = S1.length) (nd : ρ1.Nodup) (hs : ∀ (i : Nat) (a : Addr) (o : Ob), ρ1[i]? = some a → S1[i]? = some o → ∃ j : Nat, ρ[j]? = some a ∧ S[j]? = some o) :
    Sok K ρ1 S1 H ∧ ∀ b, live ρ1 S1 b → live ρ S b := by
  have lv : ∀ b, live ρ1 S1 b → live ρ S b := fun b ⟨i, o, h1, h2, h3⟩ => let ⟨j, q1, q2⟩ := hs i b o h1 h2; ⟨j, o, q1, q2, h3⟩
  refine ⟨⟨hl, nd, fun i a o h1 h2 => ?_⟩, lv⟩
  obtain ⟨j, q1, q2⟩ := hs i a o h1 h2
  have q := so.obs j a o q1 q2
  cases o with
  | lst ds => obtain ⟨xs, e, r⟩ := q; exact ⟨xs, e, r.mono (fun _ _ _ z => z) (fun _ _ z => z) (fun _ _ _ z => z) fun b l => .inl (lv b l)⟩
  | dct ds => obtain ⟨xs, e, r⟩ := q; exact ⟨xs, e, r.mono (fun _ _ _ z => z) (fun _ _ z => z) (fun _ _ _ z => z) fun b l => .inl (lv b l)⟩
  | dead => exact q
theorem Sok.take {K : PySem.W.Frag} {ρ : List Addr} {S : Sto} {H : Hp} (so : Sok K ρ S H) (n : Nat) : Sok K (ρ.take n) (S.take n) H ∧ ∀ b, live (ρ.take n) (S.take n) b → live ρ S b := by
  refine so.sub (by rw [List.length_take, List.length_take, so.len]) (so.nd.sublist (List.take_sublist _ _)) fun i a o h1 h2 => ?_
  rw [List.getElem?_take] at h1 h2
  split at h1
  · rename_i hi
    rw [if_pos hi] at h2
    exact ⟨i, h1, h2⟩
  · cases h1
theorem Rp.weak {K : PySem.W.Frag} {H : Hp} {M M' : Addr → Prop} {d : D} {v : V} (h : Rp K H M d v) (hm : ∀ b, M' b → M b) : Rp K H M' d v := h.mono (fun _ _ _ z => z) (fun _ _ z => z) (fun _ _ _ z => z) fun b l => .inl (hm b l)
theorem RpL.weak {K : PySem.W.Frag} {H : Hp} {M M' : Addr → Prop} {d : List D} {v : List V} (h : RpL K H M d v) (hm : ∀ b, M' b → M b) : RpL K H M' d v := h.mono (fun _ _ _ z => z) (fun _ _ z => z) (fun _ _ _ z => z) fun b l => .inl (hm b l)
theorem RpE.weak {K : PySem.W.Frag} {H : Hp} {M M' : Addr → Prop} {d : List (Tx × D)} {v : List (Key × V)} (h : RpE K H M d v) (hm : ∀ b, M' b → M b) : RpE K H M' d v := h.mono (fun _ _ _ z => z) (fun _ _ z => z) (fun _ _ _ z => z) fun b l => .inl (hm b l)
/-- what the store had in the end is let go; the rest as it is -/
theorem Fwd.cut {ρ ρ' : List Addr} {S S' : Sto} {H H' : Hp} (f : Fwd ρ S H ρ' S' H') (hl : ρ.length = S.length) (hl' : ρ'.length = S'.length) : Fwd ρ S H ρ (S'.take S.length) H' := by
  obtain ⟨more, e⟩ := f.ext
  refine ⟨⟨[], by simp⟩, f.keep, f.tups, f.frzs, fun b l => f.new b ?_⟩
  obtain ⟨i, o, h1, h2, h3⟩ := l
  rw [List.getElem?_take] at h2
  split at h2
  · rename_i hi
    exact ⟨i, o, by rw [e, List.getElem?_append_left (by omega)]; exact h1, h2, h3⟩
  · cases h2
end Fro

/-! Fro, guards: defs that are entered where no repr is under way. -/
namespace Fro
open PySem PySem.Spec L2 PyProof.Rows

/-- room for k calls, and no guarded walk (repr) under way -/
structure Room (k : Nat) (A : Around) : Prop where
  r : L2.Room k A
  g : A.guards = some []
theorem Room.mono {j k : Nat} {A : Around} (h : Room k A) (l : j ≤ k) : Room j A := ⟨h.r.mono l, h.g⟩
theorem Room.deeper {k : Nat} {A : Around} (h : Room (k + 1) A) (env : Env) : Room k (A.deeper env) := ⟨h.r.deeper env, h.g⟩
theorem Room.un {k : Nat} {A : Around} (h : Room k A) : A.units + 16 * k + 200 < cLine := h.r.un

/-- what a def keeps, entered with such room -/
structure FnOk (P : Program) (w : World) (K : PySem.W.Frag) (mg : Str → Option Value) (base : Heap) (CX : CXT) (k : Nat) (f : Addr) (fd : FuncData) (ps : List Str) (sp : Sp) : Prop where
  len : ∀ vs H Q E, sp vs H Q E → vs.length = ps.length
  go : ∀ (A : Around) (outer : List Env) (s : Shared) (H : Hp) (args : Args) (us : List Value) (vs : List V) (Q : VK) (E : XK), Room k A → Env0 P w K mg base A outer s H → BindsTo s fd args (ps.zip us) → Vals vs us → sp vs H Q E →
    codeAny (model P w) A (.call (.ref f) args) (CR CX outer P w H s Q E) s
theorem FnOk.mono {P : Program} {w : World} {K : PySem.W.Frag} {mg : Str → Option Value} {base : Heap} {CX : CXT} {j k : Nat} {f : Addr} {fd : FuncData} {ps : List Str} {sp : Sp} (F : FnOk P w K mg base CX j f fd ps sp) (h : j ≤ k) : FnOk P w K mg base CX k f fd ps sp :=
  ⟨F.len, fun A outer s H args us vs Q E hr e0 hb hv q => F.go A outer s H args us vs Q E (hr.mono h) e0 hb hv q⟩

section
variable {X : Cx} {CX : CXT} {k : Nat} {f : Addr} {fd : FuncData} {ps : List Str} {sp : Sp} {dvs : List V} {ds : List Value} {E : XK} {x : Str} {p pos : Pos} {e : Expr} {es : List Expr} {t : TA}
/-- the def runs at bound arguments -/
theorem call_in {pins : List (Addr × Obj)} {σ : L2.St} {H : Hp} {s : Shared} {Q : VK} {us : List Value} {vs : List V} (F : FnOk X.prog X.w X.K X.mg X.base CX k f fd ps sp) (hr : Room k X.A) (hb : Binds X.K fd ps ds) (hd : Vals dvs ds) (hx : Passes CX X E)
    (I : Inv X pins σ H s) (rv : Vals vs us) (q : sp (vs ++ dvs) H Q E) : wpAny (model X.prog X.w) X.A (PySem.call (.ref f) us) (EP X pins σ Q) X.xe s := by
  have both := rv.append hd
  have n : (us ++ ds).length = ps.length := both.length.symm.trans (F.len _ _ _ _ q)
  have c := F.go X.A X.stack s H ⟨us, []⟩ (us ++ ds) (vs ++ dvs) Q E hr I.env0 (hb s us I.kIn n) both q
  refine wpAny_call (codeAny_mono c fun res s' hres => ?_)
  match res, hres with
  | .error err, hres => exact hx pins σ H s err s' I hres
  | .ok (.ret u), hres => exact I.after hres
  | .ok .next, hres => exact hres.elim
  | .ok .brk, hres => exact hres.elim
  | .ok .cont, hres => exact hres.elim
theorem pe_call (F : FnOk X.prog X.w X.K X.mg X.base CX k f fd ps sp) (hr : Room k X.A) (hg : Gl X x) (hm : X.mg x = some (.ref f)) (hk : PySem.W.keepIn X.K (.ref f) = true) (hb : Binds X.K fd ps ds) (hd : Vals dvs ds) (hx : Passes CX X E)
    (ha : PA X (e :: es) t) (hdb : (x == ("__debug__" : Str)) = false := by decide) (he : starEach (e :: es) X.env = (false, eval e X.env) :: starEach es X.env := by rfl) (hpl : (backTo pos (starEach es X.env)).any (·.1) = false := by rfl) :
    PE X (.Call (.Name x p) (e :: es) [] pos) (tCall sp dvs E t) := ⟨fun pins s σ H Q I h =>
  wpAny_Call_Name_kw (ld_glob I hg hm (PySem.W.callWith_K (h₀ := X.base) I.ok.mod.kin hk (thn (ha.run pos pins s σ H _ I h) fun us s1 ⟨vs, H1, I1, rv, q⟩ => ⟨I1.kIn, call_in F hr hb hd hx I1 rv q⟩) he hpl) hdb)⟩
/-- calls that may raise: E may hang on the slots -/
def tCallS (sp : Sp) (dvs : List V) (E : L2.St → XK) (t : TA) : TE := fun σ H Q => t σ H fun vs H1 => sp (vs ++ dvs) H1 Q (E σ)
theorem call_inS {pins : List (Addr × Obj)} {σ : L2.St} {H : Hp} {s : Shared} {Q : VK} {us : List Value} {vs : List V} (F : FnOk X.prog X.w X.K X.mg X.base CX k f fd ps sp) (hr : Room k X.A) (hb : Binds X.K fd ps ds) (hd : Vals dvs ds)
    (hx : ∀ (pins : List (Addr × Obj)) (H : Hp) (s : Shared) (e : Value) (s' : Shared), Inv X pins σ H s → CX X.stack H s E e s' → X.xe e s')
    (I : Inv X pins σ H s) (rv : Vals vs us) (q : sp (vs ++ dvs) H Q E) : wpAny (model X.prog X.w) X.A (PySem.call (.ref f) us) (EP X pins σ Q) X.xe s := by
  have both := rv.append hd
  have n : (us ++ ds).length = ps.length := both.length.symm.trans (F.len _ _ _ _ q)
  have c := F.go X.A X.stack s H ⟨us, []⟩ (us ++ ds) (vs ++ dvs) Q E hr I.env0 (hb s us I.kIn n) both q
  refine wpAny_call (codeAny_mono c fun res s' hres => ?_)
  match res, hres with
  | .error err, hres => exact hx pins H s err s' I hres
  | .ok (.ret u), hres => exact I.after hres
  | .ok .next, hres => exact hres.elim
  | .ok .brk, hres => exact hres.elim
  | .ok .cont, hres => exact hres.elim
theorem pe_callS {ES : L2.St → XK} (F : FnOk X.prog X.w X.K X.mg X.base CX k f fd ps sp) (hr : Room k X.A) (hg : Gl X x) (hm : X.mg x = some (.ref f)) (hk : PySem.W.keepIn X.K (.ref f) = true) (hb : Binds X.K fd ps ds) (hd : Vals dvs ds)
    (hx : ∀ (σ : L2.St) (pins : List (Addr × Obj)) (H : Hp) (s : Shared) (e : Value) (s' : Shared), Inv X pins σ H s → CX X.stack H s (ES σ) e s' → X.xe e s')
    (ha : PA X (e :: es) t) (hdb : (x == ("__debug__" : Str)) = false := by decide) (he : starEach (e :: es) X.env = (false, eval e X.env) :: starEach es X.env := by rfl) (hpl : (backTo pos (starEach es X.env)).any (·.1) = false := by rfl) :
    PE X (.Call (.Name x p) (e :: es) [] pos) (tCallS sp dvs ES t) := ⟨fun pins s σ H Q I h =>
  wpAny_Call_Name_kw (ld_glob I hg hm (PySem.W.callWith_K (h₀ := X.base) I.ok.mod.kin hk (thn (ha.run pos pins s σ H _ I h) fun us s1 ⟨vs, H1, I1, rv, q⟩ => ⟨I1.kIn, call_inS F hr hb hd (hx σ) I1 rv q⟩) he hpl) hdb)⟩
theorem pe_callS0 {ES : L2.St → XK} (F : FnOk X.prog X.w X.K X.mg X.base CX k f fd ps sp) (hr : Room k X.A) (hg : Gl X x) (hm : X.mg x = some (.ref f)) (hk : PySem.W.keepIn X.K (.ref f) = true) (hb : Binds X.K fd ps ds) (hd : Vals dvs ds)
    (hx : ∀ (σ : L2.St) (pins : List (Addr × Obj)) (H : Hp) (s : Shared) (e : Value) (s' : Shared), Inv X pins σ H s → CX X.stack H s (ES σ) e s' → X.xe e s')
    (hdb : (x == ("__debug__" : Str)) = false := by decide) : PE X (.Call (.Name x p) [] [] pos) (tCallS sp dvs ES tNil) := ⟨fun pins s σ H Q I h =>
  wpAny_Call_Name_kw (ld_glob I hg hm (PySem.W.callWith_K0 I.kIn hk (call_inS (us := []) F hr hb hd (hx σ) I .nil h)) hdb)⟩
theorem pe_call0 (F : FnOk X.prog X.w X.K X.mg X.base CX k f fd ps sp) (hr : Room k X.A) (hg : Gl X x) (hm : X.mg x = some (.ref f)) (hk : PySem.W.keepIn X.K (.ref f) = true) (hb : Binds X.K fd ps ds) (hd : Vals dvs ds) (hx : Passes CX X E)
    (hdb : (x == ("__debug__" : Str)) = false := by decide) : PE X (.Call (.Name x p) [] [] pos) (tCall sp dvs E tNil) := ⟨fun pins s σ H Q I h =>
  wpAny_Call_Name_kw (ld_glob I hg hm (PySem.W.callWith_K0 I.kIn hk (call_in (us := []) F hr hb hd hx I .nil h)) hdb)⟩
end

section
variable {P : Program} {w : World} {K : PySem.W.Frag} {mg : Str → Option Value} {base : Heap}
/-- a def by its body -/
theorem funD_ok {CX : CXT} {x qual : Str} {params : Arguments} {body : List Stmt} {scope : Scope} {dvs : List V} {kws : List (Str × V)} {f : Addr} {fd : FuncData} {N ps : List Str} {k : Nat} {sp : Sp} (F : FunD K x qual params body scope dvs kws f fd) (S : FnScope N ps scope)
    (len : ∀ vs H Q E, sp vs H Q E → vs.length = ps.length)
    (hbody : ∀ (cdv : Value) (A : Around) (outer : List Env) (s : Shared) (H : Hp) (vs : List V) (Q : VK) (E : XK), Room k (A.deeper (envOfC qual scope s.heap.objs.size f cdv)) → sp vs H Q E →
      ∃ t, PSs (cxOf CX P w K mg base N qual scope f cdv A outer s H E) body t ∧ t { nx := fun _ H' => Q .non H', rt := Q } (start N vs) H) : FnOk P w K mg base CX (k + 1) f fd ps sp := by
  obtain ⟨oc, od, dV, kV, doc, pm, an, cdv, ct, osl, rfl, lk, hcd, _⟩ := F.ex
  constructor
  · exact len
  intro A outer s H args us vs Q E room e0 hb rv q
  have all : ∀ b o, base.get? b = some o → s.heap.get? b = some o := fun b o e => (e0.bs b o e).1
  have inK : K.In s.heap := e0.mod.kin.keeps all
  have cells : ∀ y ∈ ps.zip us, scope.names.lookup y.1 = some .local ∨ (scope.names.lookup y.1 = some .cell ∧ ((cellsFrom (s.heap.objs.size + 1) scope.names []).lookup y.1).isSome = true) := by
    intro y hy
    have hin : y.1 ∈ ps := (List.of_mem_zip (a := y.1) (b := y.2) hy).1
    exact (S.par y.1 hin).imp id fun c => ⟨c, PySem.W.cellsFrom_some _ _ _ (.inl c)⟩
  obtain ⟨t, ht, hq⟩ := hbody cdv A outer s H vs Q E (room.deeper _) q
  refine codeAny_call_function room.r.depth (inK _ _ lk) rfl S.co S.gen rfl (PySem.W.codeRec_of inK hcd) (hb _ _ _ _ (wpAny_newFunctionEnv_cells S.kind cells fun env he s1 x => ?_))
  subst he
  have I : Inv (cxOf CX P w K mg base N qual scope f cdv A outer s H E) [] (start N vs) H s1 := inv_start S room.r.hd e0 (len _ _ _ _ q) rv x
  refine ⟨(e0.mod.nolimit.keeps all).keeps x.toInCall.keep, codeAny_func (wpAny_mono (ht.run [] s1 (start N vs) H _ I hq) (fun fl s' hs => ?_) fun _ _ h => h)⟩
  match fl, hs with
  | .ret u, hs => obtain ⟨v, _, H', J, r, z⟩ := hs; exact ⟨v, H', J.os, J.bare, J.base, J.hok, r, z⟩
  | .next, hs => obtain ⟨_, H', J, z⟩ := hs; exact ⟨.non, H', J.os, J.bare, J.base, J.hok, rfl, z⟩
  | .brk, hs => obtain ⟨_, _, _, z⟩ := hs; exact z.elim
  | .cont, hs => obtain ⟨_, _, _, z⟩ := hs; exact z.elim
end

/-! ### the law's own call -/
/-- the law's def at the caller: H tracks the script alone, or nothing -/
theorem law_in {P : Program} {w : World} {K : PySem.W.Frag} {mg mb : Str → Option Value} {k : Nat} {fa a : Addr} {fd : FuncData} {x : Str} {sp : Sp} {s : Shared} {vs : List Value} {H : Hp}
    (inK : K.In s.heap) (hns : s.heap.Ns mainGlobals mg) (hb : s.heap.Ns builtinsNs mb) (hbb : ∀ x : Str, x ≠ "__name__" → mb x = bootBuiltins x) (hlim : s.heap.NoLimit) (hg : s.gens = #[])
    (ha : s.heap.get? a = some { cls := .type "list", data := .seq vs.toArray }) (hr : L2.Room k callerA)
    (F : ∀ base : Heap, K.In base → base.Ns mainGlobals mg → FnOk P w K mg base (CX P w) k fa fd [x] sp) (hbind : ∀ (s : Shared) (u : Value), BindsTo s fd ⟨[u], []⟩ [(x, u)])
    (hok : HOk P w H s.heap) (only : Only H) (one : ∀ b, H b ≠ none → b = a ∧ K.lookup a = none) (q : sp [.ref a] H (fun v _ => v = .bl true) fun _ _ _ => False) :
    codeAny (model P w) callerA (.call (.ref fa) ⟨[.ref a], []⟩) (fun r s' => r = .ok (.ret (.bool true)) ∧ OldK s.heap s'.heap ∧ s'.os = s.os ∧ AllBare s'.gens) s := by
  -- what is no list of the script is not tracked
  have free : ∀ {b : Addr} {o : Obj}, s.heap.get? b = some o → (∃ es ep, o.data = .dict es ep) → H b = none := fun {b o} e ⟨es, ep, d⟩ => Classical.byContradiction fun n => by
    obtain ⟨rfl, _⟩ := one b n
    rw [ha] at e
    cases e
    cases (show Data.seq vs.toArray _ = Data.dict es ep from d)
  have freeK : ∀ {b : Addr} {o : Obj}, K.lookup b = some o → H b = none := fun {b o} e => Classical.byContradiction fun n => by
    obtain ⟨rfl, z⟩ := one b n
    rw [z] at e; cases e
  have ns : ∀ {b : Addr} {m : Str → Option Value}, s.heap.Ns b m → (hidT s.heap H).Ns b m := fun ⟨o, es, ep, e, d, r⟩ => ⟨o, es, ep, hidT_get e (free e ⟨es, ep, d⟩), d, r⟩
  have bIn : K.In (hidT s.heap H) := fun b o e => hidT_get (inK b o e) (freeK e)
  have m : Mod K mg (hidT s.heap H) := by
    obtain ⟨mc, h1, h2⟩ := hlim
    exact ⟨bIn, ns hns, ⟨mb, ns hb, hbb⟩, mc, ns h1, h2⟩
  have e0 : Env0 P w K mg (hidT s.heap H) callerA [] s H := ⟨rfl, m, fun b o e => of_hidT e, Nat.le_of_eq (hidT_size _ _), trivial, (fun b z => by cases z), hok, .of_eq hg⟩
  refine codeAny_mono ((F _ bIn (ns hns)).go callerA [] s H ⟨[.ref a], []⟩ [.ref a] [.ref a] _ _ ⟨hr, rfl⟩ e0 (hbind s (.ref a)) (.cons rfl .nil) q) fun r s' h => ?_
  match r, h with
  | .error err, h => obtain ⟨_, _, _, _, _, _, _, _, _, _, _, _, z⟩ := h; exact z.elim
  | .ok .next, h => exact h.elim
  | .ok .brk, h => exact h.elim
  | .ok .cont, h => exact h.elim
  | .ok (.ret u), h =>
    obtain ⟨v, H', os, bare, un, hok', rv, z⟩ := h
    subst z
    have : u = .bool true := rv
    subst this
    refine ⟨rfl, OldK.of_keep fun b o e => ?_, os, bare⟩
    rcases only b with n | ⟨ob, xs, n⟩
    · exact un.keep b o e n (fun z => by cases z) (by simp)
    · have e1 := (hok b _ n).1
      have e2 := (hok' b _ (un.frzs b ob _ n)).1
      rw [e] at e1
      cases e1
      exact e2
/-- the goal that k_head leaves, from the law's promise -/
theorem walk_of {l : PySem.W.OpenLaw} {n k : Nat} {q : Program} {loose : List Str} {XP : (Str → Option Value) → Heap → Prop} {YP : World → Heap → Prop} {d : DefRec} {K : Params → PySem.W.Frag} {sp : World → Sp} {x : Str}
    (hn : l.most = some n) (hn2 : n ≤ sizeLine) (hdf : d.params.defaults = []) (hr : L2.Room k callerA) (hY : ∀ (w : World) (h : Heap), YP w h → (K w.params).In h)
    (F : ∀ (w : World) (mg : Str → Option Value) (fa : Addr) (h : Heap), (K w.params).In h → h.Ns mainGlobals mg → mg d.name = some (.ref fa) →
      ∃ fd : FuncData, (∀ (s : Shared) (u : Value), BindsTo s fd ⟨[u], []⟩ [(x, u)]) ∧ ∀ base : Heap, (K w.params).In base → base.Ns mainGlobals mg → FnOk l.prog w (K w.params) mg base (CX l.prog w) k fa fd [x] (sp w))
    (hsp : ∀ (w : World) (H : Hp) (a : Addr) (ns : List Int), ns.length ≤ n → Only H → SqL (K w.params) H a (ns.map V.int) → sp w [.ref a] H (fun v _ => v = .bl true) fun _ _ _ => False) :
    PySem.W.WalkO q loose XP YP l.row.toRowW d [] (fun f vs => PySem.call f vs) := by
  refine Att.attach_call hn hdf fun w s₀ s mg mb fa o pm cd doc a vs ns G Y ho hd hcd hmg hobj hints hlen hg => ?_
  have inK := hY w _ Y
  obtain ⟨fd, hb, hF⟩ := F w mg fa _ inK G.T.g hmg
  have hz : ns.length ≤ sizeLine := Nat.le_trans hlen hn2
  have rv := vals_ints hints
  cases hk : (K w.params).lookup a with
  | some o' =>
    have e := inK a o' hk
    rw [hobj] at e
    cases e
    have only : Only fun _ => none := fun _ => .inl rfl
    exact law_in inK G.T.g G.T.b G.T.builtins G.T.nolimit hg hobj hr hF hb (H := fun _ => none) (fun b u z => by cases (show (none : Option HO) = some u from z)) only (fun b z => absurd rfl z)
      (hsp w _ a ns hlen only (.inr ⟨_, vs.toArray, _, hk, rfl, rfl, rfl, by rw [List.size_toArray, hints.length]; exact hz, by simpa using rv⟩))
  | none =>
    let T : HO := .frz { cls := .type "list", data := .seq vs.toArray } (.lst (ns.map V.int))
    have at_ : ∀ b, upd (fun _ => none) a T b = none ∨ (b = a ∧ upd (fun _ => none) a T b = some T) := fun b => by
      by_cases e : b = a
      · subst e; exact .inr ⟨rfl, upd_same⟩
      · exact .inl (upd_ne e)
    have only : Only (upd (fun _ => none) a T) := fun b => (at_ b).imp id fun ⟨_, e⟩ => ⟨_, _, e⟩
    refine law_in inK G.T.g G.T.b G.T.builtins G.T.nolimit hg hobj hr hF hb (H := upd (fun _ => none) a T) (fun b u z => ?_) only (fun b z => ?_) (hsp w _ a ns hlen only (.inl (.inr ⟨_, upd_same⟩)))
    · rcases at_ b with e | ⟨rfl, e⟩
      · rw [e] at z; cases z
      · rw [e] at z
        cases z
        exact ⟨hobj, by rw [List.length_map]; exact hz, vs, _, rv, hobj⟩
    · rcases at_ b with e | ⟨rfl, e⟩
      · exact absurd e z
      · exact ⟨rfl, hk⟩
end Fro

namespace Fro
open PySem PySem.Spec L2

/-! ### defs -/
inductive Rv where
  | v (d : D) | old (i : Nat) | new (ob : Ob)
abbrev FDen := List W → Sto → R Rv
def chk (n : Nat) (fd : FDen) : FDen := fun ws S => if ws.length = n then fd ws S else .bad
def PostF (K : PySem.W.Frag) (ρ : List Addr) (S : Sto) (H : Hp) (r : R Rv) (Q : VK) (E : XK) : Prop :=
  match r with
  | .ok (.v d) S' => ∀ (v : V) (H' : Hp), Fwd ρ S H ρ S' H' → Sok K ρ S' H' → Rp K H' (live ρ S') d v → Q v H'
  | .ok (.old i) S' => ∀ (a : Addr) (H' : Hp), Fwd ρ S H ρ S' H' → Sok K ρ S' H' → ρ[i]? = some a → Q (.ref a) H'
  | .ok (.new ob) S' => ∀ (a : Addr) (H' : Hp), Fwd ρ S H (ρ ++ [a]) (S' ++ [ob]) H' → Sok K (ρ ++ [a]) (S' ++ [ob]) H' → Q (.ref a) H'
  | .exc c ds S' => ∀ (C d : Addr) (H' : Hp), Fwd ρ S H ρ S' H' → Sok K ρ S' H' → XRep K ρ S' H' c ds C d → E (.ref C) (some d) H'
  | .bad => False
/-- what a wish of exceptions wants -/
def XPW (K : PySem.W.Frag) (W : WX) : XP := fun σ c ds S ρ H => ∀ (C d : Addr) (H' : Hp), Fwd ρ S H ρ S H' → Sok K ρ S H' → XRep K ρ S H' c ds C d → W (.ref C) (some d) σ H'
theorem XRep.weak {K : PySem.W.Frag} {ρ ρ1 : List Addr} {S S1 : Sto} {H : Hp} {c : Nat} {ds : List D} {C d : Addr} (h : XRep K ρ S H c ds C d) (l : ∀ b, live ρ1 S1 b → live ρ S b) : XRep K ρ1 S1 H c ds C d :=
  ⟨h.cls, fun z => h.dead (l _ z), let ⟨vfs, e, q⟩ := h.at_; ⟨vfs, e, fun k n u h1 h2 => let ⟨v, a, b⟩ := q k n u h1 h2; ⟨v, a, b.weak l⟩⟩⟩
def spF (K : PySem.W.Frag) (n : Nat) (fd : FDen) : Sp := fun vs H Q E => ∃ (ws : List W) (ρ : List Addr) (S : Sto), RpWs K ρ S H ws vs ∧ Sok K ρ S H ∧ PostF K ρ S H (chk n fd ws S) Q E
def retv (n : Nat) (w : W) (S : Sto) : R Rv := match w with
  | .v d => .ok (.v d) (S.take n)
  | .r i => if i < n then .ok (.old i) (S.take n) else match S[i]? with
    | some ob => .ok (.new ob) (S.take n)
    | none => .bad
  | .s _ => .bad
  | .lk _ => .bad
  | .x _ _ => .bad
def slots0 (n : Nat) (ws : List W) : Slots := ws.map some ++ List.replicate (n - ws.length) none
def endF (n : Nat) (r : RS) : R Rv := match r with
  | .rt w S' => retv n w S'
  | .nx _ S' => .ok (.v .non) (S'.take n)
  | .xc c ds _ S' => .exc c ds (S'.take n)
  | _ => .bad
/-- a def with n slots -/
def fdef (n : Nat) (body : DenS) : FDen := fun ws S => endF S.length (body (slots0 n ws) S)
theorem take_pre {α : Type} {l m : List α} {n : Nat} (h : l.length = n) : (l ++ m).take n = l := by
  subst h
  simp
theorem start_rp {K : PySem.W.Frag} {ρ : List Addr} {S : Sto} {H : Hp} {N : List Str} {ws : List W} {vs : List V} (h : RpWs K ρ S H ws vs) : RpSt K ρ S H (slots0 N.length ws) (L2.start N vs) := by
  refine ⟨by unfold slots0 L2.start; simp [h.length], fun i w e => ?_⟩
  unfold slots0 at e
  have hi : i < ws.length := by
    rcases Nat.lt_or_ge i ws.length with z | z
    · exact z
    · rw [List.getElem?_append_right (by rw [List.length_map]; exact z)] at e
      rw [List.getElem?_replicate] at e
      split at e <;> cases e
  rw [List.getElem?_append_left (by rw [List.length_map]; exact hi), List.getElem?_map] at e
  have e2 : ws[i]? = some w := by
    cases q : ws[i]? with
    | none => rw [q] at e; cases e
    | some u => rw [q] at e; cases e; rfl
  have get : ∀ {ws : List W} {vs : List V} (i : Nat), RpWs K ρ S H ws vs → ws[i]? = some w → ∃ v, vs[i]? = some v ∧ RpW K ρ S H w v := by
    intro ws vs i h
    induction h generalizing i with
    | nil => intro e; simp at e
    | cons a b ih =>
      cases i with
      | zero => intro e; simp at e; subst e; exact ⟨_, rfl, a⟩
      | succ i => intro e; obtain ⟨v, q1, q2⟩ := ih i (by simpa using e); exact ⟨v, by simpa using q1, q2⟩
  obtain ⟨v, q1, q2⟩ := get i h e2
  refine ⟨v, ?_, q2⟩
  unfold L2.start
  have hv : i < vs.length := by rw [← h.length]; exact hi
  rw [List.getElem?_append_left (by rw [List.length_map]; exact hv), List.getElem?_map, q1]
  rfl
section
variable {P : Program} {w : World} {K : PySem.W.Frag} {mg : Str → Option Value} {base : Heap}
theorem end_post {ρ : List Addr} {S : Sto} {H : Hp} {r : RS} {Q : VK} {E : XK} (so : Sok K ρ S H) (p : PostF K ρ S H (endF S.length r) Q E) : PostS K ρ S H r { nx := fun _ H' => Q .non H', rt := Q } (XPW K fun cls d _ H => E cls d H) := by
  have cutS : ∀ {ρ' : List Addr} {S' : Sto} {H' : Hp}, Fwd ρ S H ρ' S' H' → Sok K ρ' S' H' → Fwd ρ S H ρ (S'.take S.length) H' ∧ Sok K ρ (S'.take S.length) H' ∧ ∀ b, live ρ (S'.take S.length) b → live ρ' S' b := fun {ρ' S' H'} f so' => by
    obtain ⟨more, e⟩ := f.ext
    have t := so'.take S.length
    rw [e, take_pre so.len, ← e] at t
    exact ⟨f.cut so.len so'.len, t.1, t.2⟩
  cases r with
  | nx δ S' => exact fun σ ρ' H' f so' st => let ⟨a, b, c⟩ := cutS f so'; p .non H' a b .non
  | bk δ S' => exact p.elim
  | ct δ S' => exact p.elim
  | xc c ds δ S' => exact fun σ ρ' H' f so' st C d H2 f2 so2 xr => let ⟨a, b, l⟩ := cutS (f.trans f2) so2; p C d H2 a b (xr.weak l)
  | bad => exact p
  | rt u S' =>
    intro v ρ' H' f so' r
    obtain ⟨fc, sc, lc⟩ := cutS f so'
    cases u with
    | s ns => exact p.elim
    | lk es => exact p.elim
    | x c ds => exact p.elim
    | v d => exact p v H' fc sc (r.weak lc)
    | r i =>
      obtain ⟨a, rfl, ea⟩ := r
      obtain ⟨more, em⟩ := f.ext
      by_cases hi : i < S.length
      · have p' : PostF K ρ S H (.ok (.old i) (S'.take S.length)) Q E := by
          have : endF S.length (.rt (.r i) S') = .ok (.old i) (S'.take S.length) := by simp only [endF, retv, if_pos hi]
          rw [this] at p; exact p
        refine p' a H' fc sc ?_
        rw [em, List.getElem?_append_left (by rw [so.len]; exact hi)] at ea
        exact ea
      · cases qo : S'[i]? with
        | none =>
          have : endF S.length (.rt (.r i) S') = .bad := by simp only [endF, retv, if_neg hi, qo]
          rw [this] at p; exact p.elim
        | some ob =>
          have p' : PostF K ρ S H (.ok (.new ob) (S'.take S.length)) Q E := by
            have : endF S.length (.rt (.r i) S') = .ok (.new ob) (S'.take S.length) := by simp only [endF, retv, if_neg hi, qo]
            rw [this] at p; exact p
          have hSl : S.length ≤ S'.length := by
            have := so'.len
            rw [em, List.length_append, so.len] at this
            omega
          have sub := so'.sub (ρ1 := ρ ++ [a]) (S1 := S'.take S.length ++ [ob]) (by rw [List.length_append, List.length_append, List.length_take, so.len]; simp; omega) (by
            rw [List.nodup_append]
            refine ⟨so.nd, by simp, fun x hx y hy e => ?_⟩
            rw [List.mem_singleton] at hy
            subst hy; subst e
            obtain ⟨j, hj⟩ := List.getElem?_of_mem hx
            have hjl : j < ρ.length := by
              rcases Nat.lt_or_ge j ρ.length with z | z
              · exact z
              · rw [List.getElem?_eq_none z] at hj; cases hj
            have : j = i := ndx so'.nd (by rw [em, List.getElem?_append_left hjl]; exact hj) ea
            rw [so.len] at hjl
            omega) (fun j x o h1 h2 => by
            by_cases hj : j < ρ.length
            · rw [List.getElem?_append_left hj] at h1
              rw [List.getElem?_append_left (by rw [List.length_take]; rw [so.len] at hj; omega), List.getElem?_take] at h2
              split at h2
              · exact ⟨j, by rw [em, List.getElem?_append_left hj]; exact h1, h2⟩
              · cases h2
            · rw [List.getElem?_append_right (by omega)] at h1
              rw [List.getElem?_append_right (by rw [List.length_take]; rw [so.len] at hj; omega)] at h2
              rw [show (S'.take S.length).length = ρ.length by rw [List.length_take, so.len]; omega] at h2
              have hz : j - ρ.length = 0 := by
                cases hz : j - ρ.length with
                | zero => rfl
                | succ n => rw [hz] at h1; simp at h1
              rw [hz] at h1 h2
              simp at h1 h2
              subst h1; subst h2
              exact ⟨i, ea, qo⟩)
          refine p' a H' ⟨⟨[a], rfl⟩, f.keep, f.tups, f.frzs, fun b l => f.new b (sub.2 b l)⟩ sub.1
end

/-! ### calls -/
def cRes (rv : Rv) (S : Sto) : R W := match rv with
  | .v d => .ok (.v d) S
  | .old i => .ok (.r i) S
  | .new (.lst ds) => .ok (.v (.lst ds)) S
  | .new (.dct es) => .ok (.v (.dct es)) S
  | .new .dead => .bad
def cResM (rv : Rv) (S : Sto) : R W := match rv with
  | .v d => .ok (.v d) S
  | .old i => .ok (.r i) S
  | .new ob => .ok (.r S.length) (S ++ [ob])
def cCall (n : Nat) (f : FDen) (a : Den (List W)) (dws : List W) : Den W := fun δ S => (a δ S).bind fun ws S1 => (chk n f (ws ++ dws) S1).bind cRes
def cCallM (n : Nat) (f : FDen) (a : Den (List W)) (dws : List W) : Den W := fun δ S => (a δ S).bind fun ws S1 => (chk n f (ws ++ dws) S1).bind cResM
theorem res_post {K : PySem.W.Frag} {ρ : List Addr} {S : Sto} {H : Hp} {r : R Rv} {Q : VK} {Ex : Nat → List D → Sto → List Addr → Hp → Prop} {E : XK} (hE : ∀ c ds S' H' C d, Ex c ds S' ρ H' → Sok K ρ S' H' → XRep K ρ S' H' c ds C d → E (.ref C) (some d) H') (so : Sok K ρ S H) (p : Post K (RpW K) ρ S H (r.bind cRes) Q Ex) : PostF K ρ S H r Q E := by
  cases r with
  | bad => exact p
  | exc c ds S' => exact fun C d H' f so' xr => hE _ _ _ _ _ _ (p ρ H' f so') so' xr
  | ok rv S' =>
    cases rv with
    | v d => exact fun v H' f so' r => p v ρ H' f so' r
    | old i => exact fun a H' f so' r => p (.ref a) ρ H' f so' ⟨a, rfl, r⟩
    | new ob =>
      intro a H' f so'
      have hl : ρ.length = S'.length := by
        have := so'.len
        rw [List.length_append, List.length_append] at this
        simpa using this
      have t := so'.take ρ.length
      rw [take_pre rfl, take_pre hl.symm] at t
      have fc : Fwd ρ S H ρ S' H' := ⟨⟨[], by simp⟩, f.keep, f.tups, f.frzs, fun b l => f.new b (live_left hl l)⟩
      have na : ¬ live ρ S' a := fun ⟨i, o, h1, _, _⟩ => by
        have h2 : (ρ ++ [a])[ρ.length]? = some a := by simp
        have hi : i < ρ.length := by
          rcases Nat.lt_or_ge i ρ.length with z | z
          · exact z
          · rw [List.getElem?_eq_none z] at h1; cases h1
        have : i = ρ.length := ndx so'.nd (by rw [List.getElem?_append_left hi]; exact h1) h2
        omega
      have q := so'.obs ρ.length a ob (by simp) (by rw [hl]; simp)
      cases ob with
      | lst ds => obtain ⟨xs, e, rl⟩ := q; exact p (.ref a) ρ H' fc t.1 (Rp.lst e na (rl.weak t.2))
      | dct ds => obtain ⟨xs, e, rl⟩ := q; exact p (.ref a) ρ H' fc t.1 (Rp.dct (.inl e) na (rl.weak t.2))
      | dead => exact p.elim
theorem resM_post {K : PySem.W.Frag} {ρ : List Addr} {S : Sto} {H : Hp} {r : R Rv} {Q : VK} {Ex : Nat → List D → Sto → List Addr → Hp → Prop} {E : XK} (hE : ∀ c ds S' H' C d, Ex c ds S' ρ H' → Sok K ρ S' H' → XRep K ρ S' H' c ds C d → E (.ref C) (some d) H') (so : Sok K ρ S H) (p : Post K (RpW K) ρ S H (r.bind cResM) Q Ex) : PostF K ρ S H r Q E := by
  cases r with
  | bad => exact p
  | exc c ds S' => exact fun C d H' f so' xr => hE _ _ _ _ _ _ (p ρ H' f so') so' xr
  | ok rv S' =>
    cases rv with
    | v d => exact fun v H' f so' r => p v ρ H' f so' r
    | old i => exact fun a H' f so' r => p (.ref a) ρ H' f so' ⟨a, rfl, r⟩
    | new ob =>
      intro a H' f so'
      have hl : ρ.length = S'.length := by
        have := so'.len
        rw [List.length_append, List.length_append] at this
        simpa using this
      exact p (.ref a) (ρ ++ [a]) H' f so' ⟨a, rfl, by rw [← hl]; simp⟩
section
variable {X : Cx}
theorem passF : Passes (CX X.prog X.w) X (fun _ _ _ => False) := fun _ _ _ _ _ _ _ ⟨_, _, _, _, _, _, _, _, _, _, _, _, z⟩ => z.elim
theorem de_call {x : Str} {p pos : Pos} {e : Expr} {es : List Expr} {a : Den (List W)} {den : FDen} {k n : Nat} {f : Addr} {fd : FuncData} {ps : List Str} {ds : List Value} {dvs : List V} {dws : List W} (F : FnOk X.prog X.w X.K X.mg X.base (CX X.prog X.w) k f fd ps (spF X.K n den)) (hr : Room k X.A)
    (hm : X.mg x = some (.ref f)) (hk : PySem.W.keepIn X.K (.ref f) = true) (hb : Binds X.K fd ps ds) (hd : Vals dvs ds) (hw : ∀ ρ S H, RpWs X.K ρ S H dws dvs) (ha : PA X (e :: es) (tA X.K XP0 a)) (hg : Gl X x := by rfl)
    (hdb : (x == ("__debug__" : Str)) = false := by decide) (he : starEach (e :: es) X.env = (false, eval e X.env) :: starEach es X.env := by rfl) (hpl : (backTo pos (starEach es X.env)).any (·.1) = false := by rfl) :
    PE X (.Call (.Name x p) (e :: es) [] pos) (tE X.K XP0 (cCall n den a dws)) := pe_mono (pe_call F hr hg hm hk hb hd passF ha hdb he hpl) fun σ H Q ⟨δ, ρ, S, st, so, q⟩ => tG_then st so q fun ws S1 vs ρ1 H1 f1 st1 so1 r1 p1 => ⟨ws ++ dws, ρ1, S1, r1.append (hw _ _ _), so1, res_post (fun _ _ _ _ _ _ z _ _ => z.elim) so1 p1⟩
theorem de_callM {x : Str} {p pos : Pos} {e : Expr} {es : List Expr} {a : Den (List W)} {den : FDen} {k n : Nat} {f : Addr} {fd : FuncData} {ps : List Str} {ds : List Value} {dvs : List V} {dws : List W} (F : FnOk X.prog X.w X.K X.mg X.base (CX X.prog X.w) k f fd ps (spF X.K n den)) (hr : Room k X.A)
    (hm : X.mg x = some (.ref f)) (hk : PySem.W.keepIn X.K (.ref f) = true) (hb : Binds X.K fd ps ds) (hd : Vals dvs ds) (hw : ∀ ρ S H, RpWs X.K ρ S H dws dvs) (ha : PA X (e :: es) (tA X.K XP0 a)) (hg : Gl X x := by rfl)
    (hdb : (x == ("__debug__" : Str)) = false := by decide) (he : starEach (e :: es) X.env = (false, eval e X.env) :: starEach es X.env := by rfl) (hpl : (backTo pos (starEach es X.env)).any (·.1) = false := by rfl) :
    PE X (.Call (.Name x p) (e :: es) [] pos) (tE X.K XP0 (cCallM n den a dws)) := pe_mono (pe_call F hr hg hm hk hb hd passF ha hdb he hpl) fun σ H Q ⟨δ, ρ, S, st, so, q⟩ => tG_then st so q fun ws S1 vs ρ1 H1 f1 st1 so1 r1 p1 => ⟨ws ++ dws, ρ1, S1, r1.append (hw _ _ _), so1, resM_post (fun _ _ _ _ _ _ z _ _ => z.elim) so1 p1⟩
theorem de_callX {Wx : WX} {x : Str} {p pos : Pos} {e : Expr} {es : List Expr} {a : Den (List W)} {den : FDen} {k n : Nat} {f : Addr} {fd : FuncData} {ps : List Str} {ds : List Value} {dvs : List V} {dws : List W} (F : FnOk X.prog X.w X.K X.mg X.base (CX X.prog X.w) k f fd ps (spF X.K n den)) (hr : Room k X.A) (tk : Takes X Wx)
    (hm : X.mg x = some (.ref f)) (hk : PySem.W.keepIn X.K (.ref f) = true) (hb : Binds X.K fd ps ds) (hd : Vals dvs ds) (hw : ∀ ρ S H, RpWs X.K ρ S H dws dvs) (ha : PA X (e :: es) (tA X.K (XPW X.K Wx) a)) (hg : Gl X x := by rfl)
    (hdb : (x == ("__debug__" : Str)) = false := by decide) (he : starEach (e :: es) X.env = (false, eval e X.env) :: starEach es X.env := by rfl) (hpl : (backTo pos (starEach es X.env)).any (·.1) = false := by rfl) :
    PE X (.Call (.Name x p) (e :: es) [] pos) (tE X.K (XPW X.K Wx) (cCall n den a dws)) := pe_mono (pe_callS (ES := fun σ cls d H => Wx cls d σ H) F hr hg hm hk hb hd (fun σ pins H s e s' I c => tk e s' (XE.of_call I (fun _ _ _ h => h) c)) ha hdb he hpl) fun σ H Q ⟨δ, ρ, S, st, so, q⟩ => tG_then st so q fun ws S1 vs ρ1 H1 f1 st1 so1 r1 p1 => ⟨ws ++ dws, ρ1, S1, r1.append (hw _ _ _), so1, res_post (fun _ _ _ _ _ _ z so xr => z _ _ _ Fwd.refl so xr) so1 p1⟩
theorem de_callMX {Wx : WX} {x : Str} {p pos : Pos} {e : Expr} {es : List Expr} {a : Den (List W)} {den : FDen} {k n : Nat} {f : Addr} {fd : FuncData} {ps : List Str} {ds : List Value} {dvs : List V} {dws : List W} (F : FnOk X.prog X.w X.K X.mg X.base (CX X.prog X.w) k f fd ps (spF X.K n den)) (hr : Room k X.A) (tk : Takes X Wx)
    (hm : X.mg x = some (.ref f)) (hk : PySem.W.keepIn X.K (.ref f) = true) (hb : Binds X.K fd ps ds) (hd : Vals dvs ds) (hw : ∀ ρ S H, RpWs X.K ρ S H dws dvs) (ha : PA X (e :: es) (tA X.K (XPW X.K Wx) a)) (hg : Gl X x := by rfl)
    (hdb : (x == ("__debug__" : Str)) = false := by decide) (he : starEach (e :: es) X.env = (false, eval e X.env) :: starEach es X.env := by rfl) (hpl : (backTo pos (starEach es X.env)).any (·.1) = false := by rfl) :
    PE X (.Call (.Name x p) (e :: es) [] pos) (tE X.K (XPW X.K Wx) (cCallM n den a dws)) := pe_mono (pe_callS (ES := fun σ cls d H => Wx cls d σ H) F hr hg hm hk hb hd (fun σ pins H s e s' I c => tk e s' (XE.of_call I (fun _ _ _ h => h) c)) ha hdb he hpl) fun σ H Q ⟨δ, ρ, S, st, so, q⟩ => tG_then st so q fun ws S1 vs ρ1 H1 f1 st1 so1 r1 p1 => ⟨ws ++ dws, ρ1, S1, r1.append (hw _ _ _), so1, resM_post (fun _ _ _ _ _ _ z so xr => z _ _ _ Fwd.refl so xr) so1 p1⟩
end

/-! ### list comprehensions -/
def wipeD (δ : Slots) : List Nat → Slots
  | [] => δ
  | v :: vs => (wipeD δ vs).set v none
theorem wipeD_length (δ : Slots) : ∀ vs : List Nat, (wipeD δ vs).length = δ.length
  | [] => rfl
  | v :: vs => by
    show ((wipeD δ vs).set v none).length = _
    rw [List.length_set, wipeD_length δ vs]
theorem wipeD_some {δ : Slots} {i : Nat} {w : W} : ∀ {vs : List Nat}, (wipeD δ vs)[i]? = some (some w) → δ[i]? = some (some w) ∧ i ∉ vs
  | [], e => ⟨e, by simp⟩
  | v :: vs, e => by
    have e' : ((wipeD δ vs).set v none)[i]? = some (some w) := e
    by_cases hv : v = i
    · subst hv
      by_cases hl : v < (wipeD δ vs).length
      · rw [List.getElem?_set_self hl] at e'; cases e'
      · rw [List.getElem?_eq_none (by rw [List.length_set]; omega)] at e'; cases e'
    · rw [List.getElem?_set_ne hv] at e'
      obtain ⟨h1, h2⟩ := wipeD_some e'
      exact ⟨h1, fun z => by
        rcases List.mem_cons.mp z with q | q
        · exact hv q.symm
        · exact h2 q⟩
theorem wipe_in {σ : L2.St} {i : Nat} (hl : i < σ.length) : ∀ {vs : List Nat}, i ∈ vs → (wipe σ vs)[i]? = some none
  | v :: vs, h => by
    show ((wipe σ vs).set v none)[i]? = some none
    by_cases hv : v = i
    · subst hv
      exact List.getElem?_set_self (by rw [wipe_length]; exact hl)
    · rw [List.getElem?_set_ne hv]
      rcases List.mem_cons.mp h with q | q
      · exact absurd q.symm hv
      · exact wipe_in hl q
theorem wipe_rp {K : PySem.W.Frag} {ρ : List Addr} {S : Sto} {H : Hp} {δ : Slots} {σ : L2.St} (vs : List Nat) (h : RpSt K ρ S H δ σ) : RpSt K ρ S H (wipeD δ vs) (wipe σ vs) := by
  refine ⟨by rw [wipeD_length, wipe_length]; exact h.1, fun i w e => ?_⟩
  obtain ⟨h1, h2⟩ := wipeD_some e
  obtain ⟨v, q1, q2⟩ := h.2 i w h1
  exact ⟨v, by rw [wipe_out h2]; exact q1, q2⟩
theorem wipe_same {σ σ' : L2.St} {vs ts : List Nat} (ht : ∀ j ∈ ts, j ∈ vs) (hl : σ'.length = (wipe σ vs).length) (hk : ∀ j, j ∉ ts → σ'[j]? = (wipe σ vs)[j]?) : wipe σ' vs = wipe σ vs := by
  apply List.ext_getElem?
  intro j
  by_cases hj : j ∈ vs
  · by_cases hlt : j < σ.length
    · rw [wipe_in hlt hj, wipe_in (by rw [hl, wipe_length]; exact hlt) hj]
    · rw [List.getElem?_eq_none (by rw [wipe_length, hl, wipe_length]; omega), List.getElem?_eq_none (by rw [wipe_length]; omega)]
  · rw [wipe_out hj, hk j fun z => hj (ht j z)]
def R.noexc {α : Type} (r : R α) : R α := match r with
  | .exc _ _ _ => .bad
  | r => r
@[simp] theorem R.noexc_ok {α : Type} (a : α) (S : Sto) : (R.ok a S).noexc = R.ok a S := rfl
def compL (dg : DenG) (tt : Den Bool) (te : Den W) (n : Nat) : List D → Slots → Sto → R Unit
  | [], _, S => .ok () S
  | d :: ds, δ, S => match dg (.v d) δ S with
    | none => .bad
    | some (δ1, S1) => (tt δ1 S1).noexc.bind fun c S2 => if c then (te δ1 S2).noexc.bind fun w S3 => match w, S3[n]? with
        | .v e, some (.lst acc) => if acc.length < 1000000 then compL dg tt te n ds δ (S3.set n (.lst (acc ++ [e]))) else .bad
        | _, _ => .bad
      else compL dg tt te n ds δ S2
def cComp (it : Den (List D)) (dg : DenG) (tt : Den Bool) (te : Den W) (vs : List Nat) : Den W := fun δ S => (it δ S).bind fun ds S1 =>
  (compL dg tt te S1.length ds (wipeD δ vs) (S1 ++ [.lst []])).bind fun _ S2 => if S2.length = S1.length + 1 then (match S2[S1.length]? with
    | some (.lst acc) => .ok (.v (.lst acc)) (S2.take S1.length)
    | _ => .bad) else .bad
def cCompM (it : Den (List D)) (dg : DenG) (tt : Den Bool) (te : Den W) (vs : List Nat) : Den W := fun δ S => (it δ S).bind fun ds S1 =>
  (compL dg tt te S1.length ds (wipeD δ vs) (S1 ++ [.lst []])).bind fun _ S2 => .ok (.r S1.length) S2
section
variable {K : PySem.W.Frag} {E : XP}
theorem comp_post {it : Den (List D)} {g : TG} {dg : DenG} {ts vs : List Nat} {tt : Den Bool} {te : Den W} (hg : GOk K g dg ts) (ht : ∀ j ∈ ts, j ∈ vs) {kf : Sto → Sto → R W} {σ : L2.St} {H : Hp} {Q : VK}
    (hkf : ∀ (ρ1 ρ2 : List Addr) (S1 S2 : Sto) (H1 H2 : Hp) (D' : Addr), Sok K ρ1 S1 H1 → H1 D' = none → Fwd ρ1 S1 H1 ρ2 S2 H2 → Sok K ρ2 S2 H2 → ρ2[S1.length]? = some D' → Post K (RpW K) ρ1 S1 H1 (kf S1 S2) Q (E σ) → Q (.ref D') H2)
    (h : tE K E (fun δ S => (it δ S).bind fun ds S1 => (compL dg tt te S1.length ds (wipeD δ vs) (S1 ++ [.lst []])).bind fun _ S2 => kf S1 S2) σ H Q) : tLc (tI K E it) g (tT K XP0 tt) (tE K XP0 te) vs σ H Q := by
  obtain ⟨δ, ρ, S, st, so, p⟩ := h
  refine tG_then st so p fun ds S1 J ρ1 H1 f1 st1 so1 j1 p1 => fun D' nD => ?_
  have fg : Fwd ρ1 S1 H1 (ρ1 ++ [D']) (S1 ++ [.lst []]) (upd H1 D' (.lst [])) := Fwd.grown so1 nD _
  have sg : Sok K (ρ1 ++ [D']) (S1 ++ [.lst []]) (upd H1 D' (.lst [])) := so1.grown nD _ ⟨[], upd_same, .nil⟩
  refine ⟨fun i m H' => i + m = ds.length ∧ ∃ (ρ' : List Addr) (S' : Sto), Fwd ρ1 S1 H1 ρ' S' H' ∧ ρ'[S1.length]? = some D' ∧ Sok K ρ' S' H' ∧ Post K (RpW K) ρ1 S1 H1 ((compL dg tt te S1.length (ds.drop i) (wipeD δ vs) S').bind fun _ S2 => kf S1 S2) Q (E σ),
    ⟨ds.length, by omega, _, _, fg, by rw [← so1.len]; simp, sg, by rw [List.drop_zero]; exact p1⟩, fun i m H' hW => ?_⟩
  obtain ⟨em, ρ', S', f', ed, so', p'⟩ := hW
  obtain ⟨jg, js⟩ := j1 i ρ' S' H' f' so'
  by_cases hl : i < ds.length
  · have edr : ds.drop i = ds[i] :: ds.drop (i + 1) := List.drop_eq_getElem_cons hl
    rw [edr] at p'
    obtain ⟨g1, g2⟩ := jg ds[i] (List.getElem?_eq_getElem hl)
    refine .inr ⟨g1, fun H2 => ∃ (ρ2 : List Addr) (S2 : Sto), Fwd ρ1 S1 H1 ρ2 S2 H2 ∧ ρ2[S1.length]? = some D' ∧ Sok K ρ2 S2 H2 ∧ Post K (RpW K) ρ1 S1 H1 ((compL dg tt te S1.length (ds.drop (i + 1)) (wipeD δ vs) S2).bind fun _ S2 => kf S1 S2) Q (E σ),
      fun H2 ⟨ρ2, S2, a1, a2, a3, a4⟩ => ⟨m - 1, by omega, by omega, ρ2, S2, a1, a2, a3, a4⟩, fun x H3 y => ?_⟩
    obtain ⟨fy, soy, ry⟩ := g2 x H3 y
    unfold compL at p'
    cases q : dg (.v ds[i]) (wipeD δ vs) S' with
    | none => simp only [q] at p'; exact p'.elim
    | some z =>
      obtain ⟨δ3, S3⟩ := z
      simp only [q] at p'
      have f3 : Fwd ρ1 S1 H1 ρ' S' H3 := f'.trans fy
      refine hg ρ' S' H3 (wipeD δ vs) (wipe σ vs) (.v ds[i]) x _ δ3 S3 (wipe_rp vs (f3.st st1)) soy ry q fun σ4 ρ4 H4 f4 so4 st4 l4 k4 => ?_
      refine ⟨wipe_same ht l4 k4, δ3, ρ4, S3, st4, so4, ?_⟩
      have f14 : Fwd ρ1 S1 H1 ρ4 S3 H4 := f3.trans f4
      have e4 : ρ4[S1.length]? = some D' := f4.at ed
      cases qt : tt δ3 S3 with
      | bad => rw [qt] at p'; exact p'.elim
      | exc c cs S5 => rw [qt] at p'; exact p'.elim
      | ok c S5 =>
        rw [qt] at p'
        intro b ρ5 H5 f5 so5 rb
        cases rb
        have f15 := f14.trans f5
        have e5 := f5.at e4
        cases c with
        | false =>
          rw [if_neg Bool.false_ne_true]
          exact ⟨ρ5, S5, f15, e5, so5, p'⟩
        | true =>
          rw [if_pos rfl]
          refine ⟨δ3, ρ5, S5, f5.st st4, so5, ?_⟩
          have p5 : Post K (RpW K) ρ1 S1 H1 (((te δ3 S5).noexc.bind fun w S3 => match w, S3[S1.length]? with
            | .v e, some (.lst acc) => if acc.length < 1000000 then compL dg tt te S1.length (ds.drop (i + 1)) (wipeD δ vs) (S3.set S1.length (.lst (acc ++ [e]))) else .bad
            | _, _ => .bad).bind fun _ S2 => kf S1 S2) Q (E σ) := p'
          cases qe : te δ3 S5 with
          | bad => rw [qe] at p5; exact p5.elim
          | exc c cs S6 => rw [qe] at p5; exact p5.elim
          | ok w S6 =>
            rw [qe] at p5
            intro y6 ρ6 H6 f6 so6 r6
            have f16 := f15.trans f6
            have e6 := f6.at e5
            cases w with
            | r j => exact p5.elim
            | s ns => exact p5.elim
            | lk es => exact p5.elim
            | x c ds => exact p5.elim
            | v e =>
              cases qn : S6[S1.length]? with
              | none => simp only [R.noexc_ok, R.bind_ok, qn] at p5; exact p5.elim
              | some ob =>
                cases ob with
                | dct es => simp only [R.noexc_ok, R.bind_ok, qn] at p5; exact p5.elim
                | dead => simp only [R.noexc_ok, R.bind_ok, qn] at p5; exact p5.elim
                | lst acc =>
                  simp only [R.noexc_ok, R.bind_ok, qn] at p5
                  obtain ⟨xs, ex, rl⟩ := so6.obs _ _ _ e6 qn
                  by_cases ha : acc.length < 1000000
                  · simp only [if_pos ha] at p5
                    refine ⟨xs, ex, by rw [← rl.length]; exact Nat.lt_trans ha (by decide), ?_⟩
                    have fc : Fwd ρ6 S6 H6 ρ6 (S6.set S1.length (.lst (acc ++ [e]))) (upd H6 D' (.lst (xs ++ [y6]))) := Fwd.changed so6 e6 qn rfl
                    exact ⟨ρ6, _, f16.trans fc, e6, so6.changed e6 qn rfl ⟨_, upd_same, (fc.rpL rl).append (.cons (fc.rp r6) .nil)⟩, p5⟩
                  · simp only [if_neg ha] at p5; exact p5.elim
  · refine .inl ⟨js (by omega), ?_⟩
    rw [List.drop_eq_nil_of_le (by omega)] at p'
    exact hkf ρ1 ρ' S1 S' H1 H' D' so1 nD f' so' ed p'
end
section
variable {X : Cx} {E : XP}
theorem de_comp {elt tg iter : Expr} {ifs : List Expr} {scope : Scope} {own : List (Str × Nat)} {pos : Pos} {it : Den (List D)} {g : TG} {dg : DenG} {ts : List Nat} {tt : Den Bool} {te : Den W} (hc : X.calm = true) (hN : X.N.Nodup) (hi : PI X tg iter (tI X.K E it)) (hgo : GOk X.K g dg ts) (ok : blkC X.N X.env.scope scope own = true)
    (hg : ∀ (s : Shared) (H : Hp) (C : Addr) (cl : List (Str × Addr)) (fp : List Addr), PG (X.blk s H scope (compEnvC scope cl C X.env) fp) tg g) (ht : ∀ (s : Shared) (H : Hp) (C : Addr) (cl : List (Str × Addr)) (fp : List Addr), PTs (X.blk s H scope (compEnvC scope cl C X.env) fp) ifs (tT X.K XP0 tt))
    (he : ∀ (s : Shared) (H : Hp) (C : Addr) (cl : List (Str × Addr)) (fp : List Addr), PE (X.blk s H scope (compEnvC scope cl C X.env) fp) elt (tE X.K XP0 te)) (hs : ∀ x, foldedSetIterable iter X.env x = pure x := by intro _; rfl) (hts : ∀ j ∈ ts, j ∈ own.map (·.2) := by decide) :
    PE X (.ListComp elt [⟨tg, iter, ifs, 0⟩] scope pos) (tE X.K E (cComp it dg tt te (own.map (·.2)))) := pe_mono (pe_lc hc hN hi (blkOk_by ok) hg ht he hs) fun σ H Q h => by
  refine comp_post hgo hts (kf := fun S1 S2 => if S2.length = S1.length + 1 then (match S2[S1.length]? with
    | some (.lst acc) => .ok (.v (.lst acc)) (S2.take S1.length)
    | _ => .bad) else .bad) (fun ρ1 ρ2 S1 S2 H1 H2 D' so1 nD f so2 e p => ?_) h
  by_cases hl : S2.length = S1.length + 1
  · simp only [if_pos hl] at p
    cases q : S2[S1.length]? with
    | none => rw [q] at p; exact p.elim
    | some ob =>
      cases ob with
      | dct es => rw [q] at p; exact p.elim
      | dead => rw [q] at p; exact p.elim
      | lst acc =>
        rw [q] at p
        obtain ⟨xs, ex, rl⟩ := so2.obs _ _ _ e q
        obtain ⟨more, em⟩ := f.ext
        have t := so2.take S1.length
        rw [em, take_pre so1.len, ← em] at t
        refine p (.ref D') ρ1 H2 (f.cut so1.len so2.len) t.1 (Rp.lst ex (fun l => so1.notIn nD ?_) (rl.weak t.2))
        obtain ⟨j, o, h1, _, _⟩ := l
        exact List.mem_of_getElem? h1
  · simp only [if_neg hl] at p; exact p.elim
theorem de_compM {elt tg iter : Expr} {ifs : List Expr} {scope : Scope} {own : List (Str × Nat)} {pos : Pos} {it : Den (List D)} {g : TG} {dg : DenG} {ts : List Nat} {tt : Den Bool} {te : Den W} (hc : X.calm = true) (hN : X.N.Nodup) (hi : PI X tg iter (tI X.K E it)) (hgo : GOk X.K g dg ts) (ok : blkC X.N X.env.scope scope own = true)
    (hg : ∀ (s : Shared) (H : Hp) (C : Addr) (cl : List (Str × Addr)) (fp : List Addr), PG (X.blk s H scope (compEnvC scope cl C X.env) fp) tg g) (ht : ∀ (s : Shared) (H : Hp) (C : Addr) (cl : List (Str × Addr)) (fp : List Addr), PTs (X.blk s H scope (compEnvC scope cl C X.env) fp) ifs (tT X.K XP0 tt))
    (he : ∀ (s : Shared) (H : Hp) (C : Addr) (cl : List (Str × Addr)) (fp : List Addr), PE (X.blk s H scope (compEnvC scope cl C X.env) fp) elt (tE X.K XP0 te)) (hs : ∀ x, foldedSetIterable iter X.env x = pure x := by intro _; rfl) (hts : ∀ j ∈ ts, j ∈ own.map (·.2) := by decide) :
    PE X (.ListComp elt [⟨tg, iter, ifs, 0⟩] scope pos) (tE X.K E (cCompM it dg tt te (own.map (·.2)))) := pe_mono (pe_lc hc hN hi (blkOk_by ok) hg ht he hs) fun σ H Q h => by
  refine comp_post hgo hts (kf := fun S1 S2 => .ok (.r S1.length) S2) (fun ρ1 ρ2 S1 S2 H1 H2 D' so1 nD f so2 e p => ?_) h
  exact p (.ref D') ρ2 H2 f so2 ⟨D', rfl, e⟩
theorem blk_by {N : List Str} {sc scope : Scope} {own : List (Str × Nat)} (h : blkC N sc scope own = true) : blkC N sc scope own = true := h
def cYes : Den Bool := fun _ S => .ok true S
theorem dts_nil : PTs X [] (tT X.K E cYes) := pts_mono pts_nil fun σ H Q ⟨δ, ρ, S, st, so, p⟩ => p true ρ H Fwd.refl so rfl
theorem dts_one {c : Expr} {t : Den Bool} (h : PT X c (tT X.K E t)) : PTs X [c] (tT X.K E t) := pts_one h
end
end Fro

namespace Fro
open PySem PySem.Spec L2

/-! ### what is read of a value -/
def rd (S : Sto) : W → Option D
  | .v d => some d
  | .r i => match S[i]? with
    | some (.lst ds) => some (.lst ds)
    | some (.dct es) => some (.dct es)
    | _ => none
  | .s _ => none
  | .lk es => some (.dct es)
  | .x _ _ => none
inductive Rq (K : PySem.W.Frag) (H : Hp) (M : Addr → Prop) : D → V → Prop
  | of {d : D} {v : V} : Rp K H M d v → Rq K H M d v
  | lst {a : Addr} {xs : List V} {ds : List D} : H a = some (.lst xs) → RpL K H M ds xs → Rq K H M (.lst ds) (.ref a)
  | dct {a : Addr} {kvs : List (Key × V)} {es : List (Tx × D)} : Rd H a (.dK kvs) → RpE K H M es kvs → Rq K H M (.dct es) (.ref a)
section
variable {K : PySem.W.Frag} {ρ : List Addr} {S : Sto} {H : Hp} {M : Addr → Prop} {v : V}
theorem rd_ok {w : W} {d : D} (so : Sok K ρ S H) (r : RpW K ρ S H w v) (e : rd S w = some d) : Rq K H (live ρ S) d v := by
  cases w with
  | v d' => cases e; exact .of r
  | s ns => cases e
  | x c ds => cases e
  | lk es =>
    cases e
    obtain ⟨a, o, kvs, rfl, q, _, r'⟩ := r
    exact .dct (.inr ⟨o, q⟩) r'
  | r i =>
    obtain ⟨a, rfl, ea⟩ := r
    unfold rd at e
    cases q : S[i]? with
    | none => simp only [q] at e; cases e
    | some ob =>
      cases ob with
      | lst ds =>
        simp only [q] at e
        cases e
        obtain ⟨xs, ex, rl⟩ := so.obs i a _ ea q
        exact .lst ex rl
      | dct ds =>
        simp only [q] at e
        cases e
        obtain ⟨xs, ex, rl⟩ := so.obs i a _ ea q
        exact .dct (.inl ex) rl
      | dead => simp only [q] at e; cases e
theorem Rq.int {i : Int} (h : Rq K H M (.int i) v) : v = .int i := by cases h with | of h => cases h; rfl
theorem Rq.bl {i : Bool} (h : Rq K H M (.bl i) v) : v = .bl i := by cases h with | of h => cases h; rfl
theorem Rq.str {i : Tx} (h : Rq K H M (.str i) v) : v = .str (sx i) := by cases h with | of h => cases h; rfl
theorem Rq.non (h : Rq K H M .non v) : v = .non := by cases h with | of h => cases h; rfl
theorem Rq.ty {i : Ty} (h : Rq K H M (.ty i) v) : v = .ty i.nm := by cases h with | of h => cases h; rfl
theorem Rq.tup {ds : List D} (h : Rq K H M (.tup ds) v) : ∃ a xs, v = .ref a ∧ SqT K H a xs ∧ RpL K H M ds xs := by cases h with | of h => cases h with | tup a b => exact ⟨_, _, rfl, a, b⟩
theorem Rq.lstE {ds : List D} (h : Rq K H M (.lst ds) v) : ∃ a xs, v = .ref a ∧ H a = some (.lst xs) ∧ RpL K H M ds xs := by
  cases h with
  | of h => cases h with | lst a n b => exact ⟨_, _, rfl, a, b⟩
  | lst a b => exact ⟨_, _, rfl, a, b⟩
theorem Rq.dctE {es : List (Tx × D)} (h : Rq K H M (.dct es) v) : ∃ a kvs, v = .ref a ∧ Rd H a (.dK kvs) ∧ RpE K H M es kvs := by
  cases h with
  | of h => cases h with | dct a n b => exact ⟨_, _, rfl, a, b⟩
  | dct a b => exact ⟨_, _, rfl, a, b⟩
end

/-! ### operators -/
/-- what follows an operation on data that keeps the store -/
def Nxt (K : PySem.W.Frag) (ρ : List Addr) (S : Sto) (H : Hp) (d : D) (Q : VK) : Prop := ∀ (v : V) (H' : Hp), Fwd ρ S H ρ S H' → Sok K ρ S H' → Rp K H' (live ρ S) d v → Q v H'
def G2 (K : PySem.W.Frag) (r : R2) (g : D → D → Option D) : Prop := ∀ (ρ : List Addr) (S : Sto) (H : Hp) (d e z : D) (x y : V) (Q : VK), Sok K ρ S H → Rq K H (live ρ S) d x → Rq K H (live ρ S) e y → g d e = some z → Nxt K ρ S H z Q → r x y H Q
def ap2 (g : D → D → Option D) (x y : W) (S : Sto) : R W := match rd S x, rd S y with
  | some d, some e => (match g d e with
    | some r => .ok (.v r) S
    | none => .bad)
  | _, _ => .bad
def op2 (g : D → D → Option D) (a b : Den W) : Den W := fun δ S => (a δ S).bind fun x S1 => (b δ S1).bind fun y S2 => ap2 g x y S2
section
variable {K : PySem.W.Frag} {ρ : List Addr} {S : Sto} {H : Hp}
theorem ap2_post {r : R2} {g : D → D → Option D} (hg : G2 K r g) {w u : W} {x y : V} {Q : VK} {Ex} (so : Sok K ρ S H) (rw1 : RpW K ρ S H w x) (rw2 : RpW K ρ S H u y) (p : Post K (RpW K) ρ S H (ap2 g w u S) Q Ex) : r x y H Q := by
  unfold ap2 at p
  cases q1 : rd S w with
  | none => simp only [q1] at p; exact p.elim
  | some d =>
    cases q2 : rd S u with
    | none => simp only [q1, q2] at p; exact p.elim
    | some e =>
      cases q3 : g d e with
      | none => simp only [q1, q2, q3] at p; exact p.elim
      | some z =>
        simp only [q1, q2, q3] at p
        exact hg ρ S H d e z x y Q so (rd_ok so rw1 q1) (rd_ok so rw2 q2) q3 fun v H' f so' rp => p v ρ H' f so' rp
end
section
variable {X : Cx} {E : XP} {e e' : Expr} {pos : Pos} {a b : Den W}
theorem op2_then {r : R2} {g : D → D → Option D} (hg : G2 X.K r g) {σ : L2.St} {H : Hp} {Q : VK} (h : tE X.K E (op2 g a b) σ H Q) : tOp r (tE X.K E a) (tE X.K E b) σ H Q := by
  obtain ⟨δ, ρ, S, st, so, p⟩ := h
  exact tG_then st so p fun w S1 x ρ1 H1 f1 st1 so1 r1 p1 => tG_then st1 so1 p1 fun u S2 y ρ2 H2 f2 st2 so2 r2 p2 => ap2_post hg so2 (f2.rw r1) r2 p2
theorem de_bin {op : Operator} {r : R2} {g : D → D → Option D} (ho : OpR X (binaryOp op) r) (hg : G2 X.K r g) (ha : PE X e (tE X.K E a)) (hb : PE X e' (tE X.K E b)) : PE X (.BinOp e op e' pos) (tE X.K E (op2 g a b)) :=
  pe_mono (pe_op ho ha hb) fun σ H Q h => op2_then hg h
theorem de_cmp {op : CmpOp} {r : R2} {g : D → D → Option D} (ho : OpR X (compareOp op) r) (hg : G2 X.K r g) (ha : PE X e (tE X.K E a)) (hb : PE X e' (tE X.K E b)) (hm : behindInMarks op e' = false := by first | exact nobehind _ (by decide) (by decide) | rfl) : PE X (.Compare e [op] [e'] pos) (tE X.K E (op2 g a b)) :=
  pe_mono (pe_cmpR ho ha hb hm) fun σ H Q h => op2_then hg h
theorem dt_cmp {op : CmpOp} {r : R2} {g : D → D → Option D} (ho : OpR X (compareOp op) r) (hg : G2 X.K r g) (ha : PE X e (tE X.K E a)) (hb : PE X e' (tE X.K E b)) (hm : behindInMarks op e' = false := by first | exact nobehind _ (by decide) (by decide) | rfl) : PT X (.Compare e [op] [e'] pos) (tT X.K E (cB (op2 g a b))) :=
  pt_mono (pt_cmpR ho ha hb hm) fun σ H Q ⟨δ, ρ, S, st, so, p⟩ => op2_then hg (tG_then st so p fun w S1 v ρ1 H1 f1 st1 so1 r1 p1 => asB_post so1 r1 p1)
/-- a op b op' c -/
def cChain (g g' : D → D → Option D) (a b c : Den W) : Den W := fun δ S => (a δ S).bind fun x S1 => (b δ S1).bind fun y S2 => (ap2 g x y S2).bind fun z S3 => (asB z S3).bind fun k S4 => if k then (c δ S4).bind fun u S5 => ap2 g' y u S5 else .ok (.v (.bl false)) S4
theorem chain_then {r r' : R2} {g g' : D → D → Option D} {c : Den W} (hg : G2 X.K r g) (hg' : G2 X.K r' g') {σ : L2.St} {H : Hp} {Q : VK} (h : tE X.K E (cChain g g' a b c) σ H Q) : tChain r r' (tE X.K E a) (tE X.K E b) (tE X.K E c) σ H Q := by
  obtain ⟨δ, ρ, S, st, so, p⟩ := h
  refine tG_then st so p fun w S1 x ρ1 H1 f1 st1 so1 r1 p1 => tG_then st1 so1 p1 fun u S2 y ρ2 H2 f2 st2 so2 r2 p2 => ?_
  have rx := f2.rw r1
  unfold ap2 at p2
  cases q1 : rd S2 w with
  | none => simp only [q1] at p2; exact p2.elim
  | some d =>
    cases q2 : rd S2 u with
    | none => simp only [q1, q2] at p2; exact p2.elim
    | some e =>
      cases q3 : g d e with
      | none => simp only [q1, q2, q3] at p2; exact p2.elim
      | some z =>
        simp only [q1, q2, q3, R.bind_ok] at p2
        refine hg ρ2 S2 H2 d e z x y _ so2 (rd_ok so2 rx q1) (rd_ok so2 r2 q2) q3 fun v H3 f3 so3 rp => ?_
        obtain ⟨k, rfl, p4⟩ := asB_then (w := .v z) rp (Post.later f3 p2)
        refine ⟨k, rfl, ?_⟩
        cases k with
        | false => rw [if_neg Bool.false_ne_true]; exact p4 _ ρ2 H3 Fwd.refl so3 (.bl false)
        | true =>
          rw [if_pos rfl]
          exact tG_then (f3.st st2) so3 p4 fun u2 S5 v5 ρ5 H5 f5 st5 so5 r5 p5 => ap2_post hg' so5 (f5.rw (f3.rw r2)) r5 p5
theorem de_chain {op op' : CmpOp} {r r' : R2} {g g' : D → D → Option D} {e'' : Expr} {c : Den W} (ho : OpR X (compareOp op) r) (ho' : OpR X (compareOp op') r') (hg : G2 X.K r g) (hg' : G2 X.K r' g') (ha : PE X e (tE X.K E a)) (hb : PE X e' (tE X.K E b)) (hc : PE X e'' (tE X.K E c))
    (hm : lastMarks [op, op'] [e', e''] = false := by with_unfolding_all rfl) : PE X (.Compare e [op, op'] [e', e''] pos) (tE X.K E (cChain g g' a b c)) := pe_mono (pe_chain ho ho' ha hb hc hm) fun σ H Q h => chain_then hg hg' h
theorem dt_chain {op op' : CmpOp} {r r' : R2} {g g' : D → D → Option D} {e'' : Expr} {c : Den W} (ho : OpR X (compareOp op) r) (ho' : OpR X (compareOp op') r') (hg : G2 X.K r g) (hg' : G2 X.K r' g') (ha : PE X e (tE X.K E a)) (hb : PE X e' (tE X.K E b)) (hc : PE X e'' (tE X.K E c))
    (hm : lastMarks [op, op'] [e', e''] = false := by with_unfolding_all rfl) : PT X (.Compare e [op, op'] [e', e''] pos) (tT X.K E (cB (cChain g g' a b c))) := pt_mono (pt_chain ho ho' ha hb hc hm) fun σ H Q ⟨δ, ρ, S, st, so, p⟩ => chain_then hg hg' (tG_then st so p fun w S1 v ρ1 H1 f1 st1 so1 r1 p1 => asB_post so1 r1 p1)
end

/-! ### data laid -/
section
variable {K : PySem.W.Frag} {ρ : List Addr} {S : Sto} {H : Hp} {Q : VK}
theorem nxt_lst {ds : List D} {xs : List V} (so : Sok K ρ S H) (r : RpL K H (live ρ S) ds xs) (n : Nxt K ρ S H (.lst ds) Q) (p : Addr) (np : H p = none) : Q (.ref p) (upd H p (.lst xs)) :=
  n _ _ (Fwd.laid so np) (so.laid np) (.lst upd_same (so.notNone np) ((Fwd.laid so np).rpL r))
theorem nxt_tup {ds : List D} {xs : List V} (so : Sok K ρ S H) (r : RpL K H (live ρ S) ds xs) (n : Nxt K ρ S H (.tup ds) Q) (p : Addr) (np : H p = none) : Q (.ref p) (upd H p (.tup xs)) :=
  n _ _ (Fwd.laid so np) (so.laid np) (.tup (SqT.of upd_same) ((Fwd.laid so np).rpL r))
theorem nxt_here {d : D} {v : V} (so : Sok K ρ S H) (r : Rp K H (live ρ S) d v) (n : Nxt K ρ S H d Q) : Q v H := n v H Fwd.refl so r
end

/-! ### ints -/
def gI (g : Int → Int → D) : D → D → Option D := fun d e => match d, e with
  | .int i, .int j => some (g i j)
  | _, _ => none
theorem g2_int {K : PySem.W.Frag} {h : Int → Int → V} {g : Int → Int → D} (hr : ∀ i j H M, Rp K H M (g i j) (h i j)) : G2 K (rI0 h) (gI g) := fun ρ S H d e z x y Q so rx ry q n => by
  unfold gI at q
  split at q
  · cases q
    exact ⟨_, _, rx.int, ry.int, nxt_here so (hr _ _ _ _) n⟩
  · cases q
def gIc (C : Int → Int → Prop) [∀ i j, Decidable (C i j)] (g : Int → Int → D) : D → D → Option D := fun d e => match d, e with
  | .int i, .int j => if C i j then some (g i j) else none
  | _, _ => none
theorem g2_intC {K : PySem.W.Frag} {C C' : Int → Int → Prop} [∀ i j, Decidable (C' i j)] {h : Int → Int → V} {g : Int → Int → D} (hc : ∀ i j, C' i j → C i j) (hr : ∀ i j H M, Rp K H M (g i j) (h i j)) : G2 K (rI C h) (gIc C' g) := fun ρ S H d e z x y Q so rx ry q n => by
  unfold gIc at q
  split at q
  · rename_i i j
    by_cases hC : C' i j
    · rw [if_pos hC] at q
      cases q
      exact ⟨_, _, rx.int, ry.int, hc _ _ hC, nxt_here so (hr _ _ _ _) n⟩
    · rw [if_neg hC] at q; cases q
  · cases q
abbrev gLt := gI fun i j => .bl (decide (i < j))
abbrev gLe := gI fun i j => .bl (decide (i ≤ j))
abbrev gGt := gI fun i j => .bl (decide (j < i))
abbrev gGe := gI fun i j => .bl (decide (j ≤ i))
abbrev gSub := gI fun i j => .int (i - j)
abbrev gDiv := gIc (fun _ j => 0 < j ∧ j < 1073741824) fun i j => .int (i / j)
abbrev gMod := gIc (fun _ j => 0 < j) fun i j => .int (i % j)
abbrev gPow := gIc (fun i j => 0 ≤ j ∧ j ≤ 1000000 ∧ i.natAbs < 18446744073709551616) fun i j => .int (i ^ j.toNat)
section
variable {X : Cx} {K : PySem.W.Frag}
theorem g2_lt : G2 K (rI0 fun i j => .bl (decide (i < j))) gLt := g2_int fun _ _ _ _ => .bl _
theorem g2_le : G2 K (rI0 fun i j => .bl (decide (i ≤ j))) gLe := g2_int fun _ _ _ _ => .bl _
theorem g2_gt : G2 K (rI0 fun i j => .bl (decide (j < i))) gGt := g2_int fun _ _ _ _ => .bl _
theorem g2_ge : G2 K (rI0 fun i j => .bl (decide (j ≤ i))) gGe := g2_int fun _ _ _ _ => .bl _
theorem g2_sub : G2 K (rI0 fun i j => .int (i - j)) gSub := g2_int fun _ _ _ _ => .int _
theorem g2_div : G2 K (rI CDiv fun i j => .int (i / j)) gDiv := g2_intC (fun _ _ h => h) fun _ _ _ _ => .int _
theorem g2_mod : G2 K (rI (fun _ j => 0 < j) fun i j => .int (i % j)) gMod := g2_intC (fun _ _ h => h) fun _ _ _ _ => .int _
theorem g2_pow : G2 K (rI CPow fun i j => .int (i ^ j.toNat)) gPow := g2_intC (fun _ _ h => ⟨h.1, h.2.1, Nat.lt_of_lt_of_le h.2.2 (by decide)⟩) fun _ _ _ _ => .int _
end
theorem lt_line {n : Nat} (h : n ≤ 1000000) : n ≤ sizeLine := Nat.le_trans h (by decide)
theorem sx_length (t : Tx) : (sx t).length = t.length := by simp [sx, Str.length]
theorem sx_append (t u : Tx) : sx t ++ sx u = sx (t ++ u) := by
  show Str.append _ _ = _
  simp [Str.append, sx]

/-! ### + -/
def gAdd : D → D → Option D := fun d e => match d, e with
  | .int i, .int j => some (.int (i + j))
  | .str t, .str u => if t.length + u.length ≤ 1000000 then some (.str (t ++ u)) else none
  | .lst ds, .lst es => if ds.length + es.length ≤ 1000000 then some (.lst (ds ++ es)) else none
  | .tup ds, .tup es => if ds.length + es.length ≤ 1000000 then some (.tup (ds ++ es)) else none
  | _, _ => none
def rAddA (K : PySem.W.Frag) : R2 := fun x y H Q => ((rI0 (fun i j => .int (i + j)) x y H Q ∨ (∃ i j, x = .str i ∧ y = .str j ∧ i.length + j.length ≤ sizeLine ∧ Q (.str (i ++ j)) H)) ∨ rCat x y H Q) ∨ rCatA K x y H Q
theorem op_addA {X : Cx} : OpR X (binaryOp .Add) (rAddA X.K) := ((op_add.or op_add_str).or op_cat).or op_catA
theorem g2_add {K : PySem.W.Frag} : G2 K (rAddA K) gAdd := fun ρ S H d e z x y Q so rx ry q n => by
  unfold gAdd at q
  split at q
  · cases q
    exact .inl (.inl (.inl ⟨_, _, rx.int, ry.int, nxt_here so (.int _) n⟩))
  · rename_i t u
    by_cases h : t.length + u.length ≤ 1000000
    · rw [if_pos h] at q
      cases q
      refine .inl (.inl (.inr ⟨_, _, rx.str, ry.str, by rw [sx_length, sx_length]; exact lt_line h, ?_⟩))
      rw [sx_append]
      exact nxt_here so (.str _) n
    · rw [if_neg h] at q; cases q
  · rename_i ds es
    by_cases h : ds.length + es.length ≤ 1000000
    · rw [if_pos h] at q
      cases q
      obtain ⟨a, xs, rfl, ha, ra⟩ := rx.lstE
      obtain ⟨b, ys, rfl, hb, rb⟩ := ry.lstE
      exact .inl (.inr ⟨a, b, xs, ys, rfl, rfl, ha, hb, by rw [← ra.length, ← rb.length]; exact lt_line h, nxt_lst so (ra.append rb) n⟩)
    · rw [if_neg h] at q; cases q
  · rename_i ds es
    by_cases h : ds.length + es.length ≤ 1000000
    · rw [if_pos h] at q
      cases q
      obtain ⟨a, xs, rfl, ha, ra⟩ := rx.tup
      obtain ⟨b, ys, rfl, hb, rb⟩ := ry.tup
      refine .inr ⟨a, b, xs, ys, rfl, rfl, ha, hb, by rw [← ra.length, ← rb.length]; exact lt_line h, fun e => ?_, fun _ e => ?_, fun _ _ => nxt_tup so (ra.append rb) n⟩
      · subst e
        cases ra
        exact nxt_here so (.tup hb rb) n
      · subst e
        cases rb
        rw [List.append_nil] at n
        exact nxt_here so (.tup ha ra) n
    · rw [if_neg h] at q; cases q
  · cases q

/-! ### times -/
def gMul : D → D → Option D := fun d e => match d, e with
  | .int i, .int j => if (-18446744073709551616 < i ∧ i < 18446744073709551616) ∨ (-18446744073709551616 < j ∧ j < 18446744073709551616) then some (.int (i * j)) else none
  | .lst ds, .int k => if k ≤ 1000 ∧ -1000 ≤ k ∧ ds.length ≤ 1000 then some (.lst (List.replicate k.toNat ds).flatten) else none
  | _, _ => none
def rMulA : R2 := fun x y H Q => rI CMul (fun i j => .int (i * j)) x y H Q ∨ rRep x y H Q
theorem op_mulA {X : Cx} : OpR X (binaryOp .Mult) rMulA := op_mul.or op_rep
theorem rpL_rep {K : PySem.W.Frag} {H : Hp} {M : Addr → Prop} {ds : List D} {xs : List V} (h : RpL K H M ds xs) : ∀ n : Nat, RpL K H M (List.replicate n ds).flatten (List.replicate n xs).flatten
  | 0 => .nil
  | n + 1 => by
    rw [List.replicate_succ, List.replicate_succ, List.flatten_cons, List.flatten_cons]
    exact h.append (rpL_rep h n)
theorem g2_mul {K : PySem.W.Frag} : G2 K rMulA gMul := fun ρ S H d e z x y Q so rx ry q n => by
  unfold gMul at q
  split at q
  · rename_i i j
    split at q
    · rename_i h
      cases q
      exact .inl ⟨_, _, rx.int, ry.int, by
        rcases h with h | h
        · exact .inl ⟨by have := h.1; omega, by have := h.2; omega⟩
        · exact .inr ⟨by have := h.1; omega, by have := h.2; omega⟩, nxt_here so (.int _) n⟩
    · cases q
  · rename_i ds k
    split at q
    · rename_i h
      cases q
      obtain ⟨a, xs, rfl, ha, ra⟩ := rx.lstE
      refine .inr ⟨a, k, xs, rfl, ry.int, ha, by have := h.2.1; omega, by have := h.1; omega, ?_, nxt_lst so (rpL_rep ra _) n⟩
      rw [← ra.length]
      have h1 : k.toNat ≤ 1000 := by have := h.1; omega
      exact lt_line (Nat.le_trans (Nat.mul_le_mul h.2.2 h1) (by decide))
    · cases q
  · cases q
end Fro

namespace Fro
open PySem PySem.Spec L2

/-! ### subscripts -/
def gIx : D → D → Option D := fun d e => match d, e with
  | .tup ds, .int i => atI ds i
  | .lst ds, .int i => atI ds i
  | .str t, .int i => if t.length ≤ 1000000 then (atI t i).map fun c => .str [c] else none
  | _, _ => none
def apIx (x y : W) (S : Sto) : R W := match x, y with
  | .s ns, .v (.int i) => (match atI ns i with
    | some n => .ok (.v (.int n)) S
    | none => .bad)
  | _, _ => ap2 gIx x y S
def cIx (a b : Den W) : Den W := fun δ S => (a δ S).bind fun x S1 => (b δ S1).bind fun y S2 => apIx x y S2
theorem rpL_at {K : PySem.W.Frag} {H : Hp} {M : Addr → Prop} {ds : List D} {xs : List V} {i : Int} {d : D} (h : RpL K H M ds xs) (e : atI ds i = some d) : ∃ v, atI xs i = some v ∧ Rp K H M d v := by
  unfold atI at e ⊢
  rw [← h.length]
  cases q : ixN ds.length i with
  | none => rw [q] at e; cases e
  | some j =>
    rw [q] at e
    exact h.get j e
theorem g2_ix {K : PySem.W.Frag} : G2 K (rIx K) gIx := fun ρ S H d e z x y Q so rx ry q n => by
  unfold gIx at q
  split at q
  · obtain ⟨a, xs, rfl, ha, ra⟩ := rx.tup
    obtain ⟨v, hv, rv⟩ := rpL_at ra q
    exact .inr (.inl ⟨a, xs, _, v, rfl, ry.int, ha, hv, nxt_here so rv n⟩)
  · obtain ⟨a, xs, rfl, ha, ra⟩ := rx.lstE
    obtain ⟨v, hv, rv⟩ := rpL_at ra q
    exact .inl ⟨a, xs, _, v, rfl, ry.int, SqL.of ha, hv, nxt_here so rv n⟩
  · rename_i t i
    by_cases h : t.length ≤ 1000000
    · rw [if_pos h] at q
      cases qc : atI t i with
      | none => rw [qc] at q; cases q
      | some c =>
        rw [qc] at q
        cases q
        exact .inr (.inr ⟨_, i, c, rx.str, ry.int, by rw [sx_length]; exact lt_line h, by simpa [sx] using qc, nxt_here so (.str [c]) n⟩)
    · rw [if_neg h] at q; cases q
  · cases q
theorem apIx_post {K : PySem.W.Frag} {ρ : List Addr} {S : Sto} {H : Hp} {w u : W} {x y : V} {Q : VK} {Ex} (so : Sok K ρ S H) (r1 : RpW K ρ S H w x) (r2 : RpW K ρ S H u y) (p : Post K (RpW K) ρ S H (apIx w u S) Q Ex) : rIx K x y H Q := by
  unfold apIx at p
  split at p
  · rename_i ns i
    obtain ⟨a, rfl, sc⟩ := r1
    cases r2
    cases q : atI ns i with
    | none => rw [q] at p; exact p.elim
    | some m =>
      rw [q] at p
      refine .inl ⟨a, ns.map V.int, i, .int m, rfl, rfl, sc.sq, ?_, p _ ρ H Fwd.refl so (.int m)⟩
      unfold atI at q ⊢
      rw [List.length_map]
      cases qj : ixN ns.length i with
      | none => rw [qj] at q; cases q
      | some j =>
        rw [qj] at q
        show (ns.map V.int)[j]? = some (.int m)
        rw [List.getElem?_map, show ns[j]? = some m from q]
        rfl
  · exact ap2_post g2_ix so r1 r2 p
theorem de_ix {X : Cx} {E : XP} {e e' : Expr} {pos : Pos} {a b : Den W} (ha : PE X e (tE X.K E a)) (hb : PE X e' (tE X.K E b)) (hs : PlainIx e' := by exact fun _ _ => rfl) : PE X (.Subscript e e' pos) (tE X.K E (cIx a b)) :=
  pe_mono (pe_ix ix_seq ha hb hs) fun σ H Q ⟨δ, ρ, S, st, so, p⟩ => tG_then st so p fun w S1 x ρ1 H1 f1 st1 so1 r1 p1 => tG_then st1 so1 p1 fun u S2 y ρ2 H2 f2 st2 so2 r2 p2 => apIx_post so2 (f2.rw r1) r2 p2

/-! ### == -/
mutual
def deq : D → D → Bool
  | .non, .non => true
  | .bl a, .bl b => a == b
  | .bl a, .int j => (if a then 1 else 0) == j
  | .int i, .bl b => i == (if b then 1 else 0)
  | .int i, .int j => i == j
  | .str x, .str y => x == y
  | .lst xs, .lst ys => deqL xs ys
  | .tup xs, .tup ys => deqL xs ys
  | _, _ => false
def deqL : List D → List D → Bool
  | [], [] => true
  | x :: xs, y :: ys => deq x y && deqL xs ys
  | _, _ => false
end
mutual
def okD : D → Bool
  | .non => true
  | .bl _ => true
  | .int _ => true
  | .str t => t.all fun c => decide (c < 1114112)
  | .tup ds => okDL ds
  | .lst ds => okDL ds
  | .dct _ => false
  | .ty _ => false
def okDL : List D → Bool
  | [] => true
  | d :: ds => okD d && okDL ds
end
mutual
def dep : D → Nat
  | .tup ds => depL ds + 1
  | .lst ds => depL ds + 1
  | .non => 0
  | .bl _ => 0
  | .int _ => 0
  | .str _ => 0
  | .dct _ => 0
  | .ty _ => 0
def depL : List D → Nat
  | [] => 0
  | d :: ds => max (dep d) (depL ds)
end
mutual
def py : D → PyData
  | .non => .none
  | .bl b => .bool b
  | .int i => .int i
  | .str t => .str (sx t)
  | .tup ds => .tuple (pyL ds)
  | .lst ds => .list (pyL ds)
  | .dct _ => .none
  | .ty _ => .none
def pyL : List D → List PyData
  | [] => []
  | d :: ds => py d :: pyL ds
end
mutual
theorem py_can : ∀ d : D, okD d = true → (py d).canLay0 = true
  | .non, _ => by simp only [py, PyData.canLay0]
  | .bl _, _ => by simp only [py, PyData.canLay0]
  | .int _, _ => by simp only [py, PyData.canLay0]
  | .str t, h => by
    simp only [okD] at h
    simp only [py, PyData.canLay0, PyData.strOk, sx]
    rw [← Array.all_toList]
    exact h
  | .tup ds, h => by
    simp only [py, PyData.canLay0]
    exact pyL_can ds (by simpa [okD] using h)
  | .lst ds, h => by
    simp only [py, PyData.canLay0]
    exact pyL_can ds (by simpa [okD] using h)
  | .dct _, h => by simp [okD] at h
  | .ty _, h => by simp [okD] at h
theorem pyL_can : ∀ ds : List D, okDL ds = true → PyData.canLayAll0 (pyL ds) = true
  | [], _ => by simp only [pyL, PyData.canLayAll0]
  | d :: ds, h => by
    have h' : okD d = true ∧ okDL ds = true := by simpa [okDL] using h
    simp only [pyL, PyData.canLayAll0, py_can d h'.1, pyL_can ds h'.2, Bool.and_self]
end
mutual
theorem py_dep : ∀ d : D, (py d).depth = dep d
  | .non => by simp only [py, PyData.depth, dep]
  | .bl _ => by simp only [py, PyData.depth, dep]
  | .int _ => by simp only [py, PyData.depth, dep]
  | .str _ => by simp only [py, PyData.depth, dep]
  | .tup ds => by simp only [py, PyData.depth, dep, pyL_dep ds]
  | .lst ds => by simp only [py, PyData.depth, dep, pyL_dep ds]
  | .dct _ => by simp only [py, PyData.depth, dep]
  | .ty _ => by simp only [py, PyData.depth, dep]
theorem pyL_dep : ∀ ds : List D, PyData.depthAll (pyL ds) = depL ds
  | [] => by simp only [pyL, PyData.depthAll, depL]
  | d :: ds => by simp only [pyL, PyData.depthAll, depL, py_dep d, pyL_dep ds]
end
theorem sx_beq (a b : Tx) : (sx a == sx b) = (a == b) := by
  by_cases h : a = b
  · subst h; simp
  · rw [beq_eq_false_iff_ne.mpr h, beq_eq_false_iff_ne.mpr fun e => h (sx_inj e)]
mutual
theorem py_eqv : ∀ d e : D, okD d = true → okD e = true → PyData.eqv (py d) (py e) = deq d e
  | .non, e, _, h => by cases e <;> simp_all [py, PyData.eqv, deq, okD]
  | .bl _, e, _, h => by cases e <;> simp_all [py, PyData.eqv, deq, okD]
  | .int _, e, _, h => by cases e <;> simp_all [py, PyData.eqv, deq, okD]
  | .str t, e, _, h => by
    cases e with
    | str u => simp only [py, PyData.eqv, deq, sx_beq]
    | _ => simp_all [py, PyData.eqv, deq, okD]
  | .tup ds, e, h1, h => by
    cases e with
    | tup es => simp only [py, PyData.eqv, deq]; exact pyL_eqv ds es (by simpa [okD] using h1) (by simpa [okD] using h)
    | _ => simp_all [py, PyData.eqv, deq, okD]
  | .lst ds, e, h1, h => by
    cases e with
    | lst es => simp only [py, PyData.eqv, deq]; exact pyL_eqv ds es (by simpa [okD] using h1) (by simpa [okD] using h)
    | _ => simp_all [py, PyData.eqv, deq, okD]
  | .dct _, _, h, _ => by simp [okD] at h
  | .ty _, _, h, _ => by simp [okD] at h
theorem pyL_eqv : ∀ ds es : List D, okDL ds = true → okDL es = true → PyData.eqvAll (pyL ds) (pyL es) = deqL ds es
  | [], [], _, _ => by simp only [pyL, PyData.eqvAll, deqL]
  | [], _ :: _, _, _ => by simp only [pyL, PyData.eqvAll, deqL]
  | _ :: _, [], _, _ => by simp only [pyL, PyData.eqvAll, deqL]
  | d :: ds, e :: es, h1, h2 => by
    have a1 : okD d = true ∧ okDL ds = true := by simpa [okDL] using h1
    have a2 : okD e = true ∧ okDL es = true := by simpa [okDL] using h2
    simp only [pyL, PyData.eqvAll, deqL, py_eqv d e a1.1 a2.1, pyL_eqv ds es a1.2 a2.2]
end
section
variable {K : PySem.W.Frag} {H : Hp} {M : Addr → Prop}
theorem rp_dp {d : D} {v : V} (h : Rp K H M d v) : okD d = true → Dp K H v (py d) :=
  Rp.rec (motive_1 := fun d v _ => okD d = true → Dp K H v (py d)) (motive_2 := fun ds vs _ => okDL ds = true → DpAll K H vs (pyL ds)) (motive_3 := fun _ _ _ => True)
    (fun _ => by simp only [py]; exact .non) (fun b _ => by simp only [py]; exact .bl b) (fun b _ => by simp only [py]; exact .int b) (fun b _ => by simp only [py]; exact .str _) (fun b h => by simp [okD] at h)
    (fun sq _ ih h => by simp only [py]; exact .tup sq (ih (by simpa [okD] using h))) (fun e n _ ih h => by simp only [py]; exact .lst (SqL.of e) (ih (by simpa [okD] using h))) (fun _ _ _ _ h => by simp [okD] at h)
    (fun _ => by simp only [pyL]; exact .nil) (fun {d ds v vs} _ _ ih1 ih2 h => by
      have a : okD d = true ∧ okDL ds = true := by simpa [okDL] using h
      simp only [pyL]; exact .cons (ih1 a.1) (ih2 a.2)) trivial (fun _ _ _ _ => trivial) h
theorem rpL_dp : ∀ {ds : List D} {vs : List V}, RpL K H M ds vs → okDL ds = true → DpAll K H vs (pyL ds)
  | _, _, .nil, _ => by simp only [pyL]; exact .nil
  | d :: ds, _, .cons a b, h => by
    have q : okD d = true ∧ okDL ds = true := by simpa [okDL] using h
    simp only [pyL]; exact .cons (rp_dp a q.1) (rpL_dp b q.2)
theorem rq_dp {d : D} {v : V} (h : Rq K H M d v) (ok : okD d = true) : Dp K H v (py d) := by
  cases h with
  | of h => exact rp_dp h ok
  | lst e r => simp only [py]; exact .lst (SqL.of e) (rpL_dp r (by simpa [okD] using ok))
  | dct e r => simp [okD] at ok
end
def gEq : D → D → Option D := fun d e => if (okD d && okD e && decide (min (dep d) (dep e) ≤ 64)) = true then some (.bl (deq d e)) else none
def gNe : D → D → Option D := fun d e => if (okD d && okD e && decide (min (dep d) (dep e) ≤ 64)) = true then some (.bl (!deq d e)) else none
def rEqM (K : PySem.W.Frag) (neg : Bool) : R2 := fun x y H Q => ∃ d e, Dp K H x d ∧ Dp K H y e ∧ d.canLay0 = true ∧ e.canLay0 = true ∧ min d.depth e.depth ≤ 64 ∧ Q (.bl (if neg = true then !PyData.eqv d e else PyData.eqv d e)) H
theorem hu64 {A : Around} {k : Nat} (hr : Room k A) : A.units + 64 < cLine := by have := hr.un; omega
section
variable {X : Cx} {k : Nat}
theorem op_eqM (hr : Room k X.A) : OpR X (compareOp .Eq) (rEqM X.K false) := by
  intro pins s σ H x y v u Q I rx ry h
  obtain ⟨d, e, hd, he, sd, se, hm, q⟩ := h
  obtain ⟨as, r1⟩ := Dp.reads I d x v hd rx
  obtain ⟨bs, r2⟩ := Dp.reads I e y u he ry
  exact SeqAt.compareEq_reads r1 r2 sd se (by have := hu64 hr; omega) ⟨.bl _, H, I, rfl, q⟩
theorem op_neM (hr : Room k X.A) : OpR X (compareOp .NotEq) (rEqM X.K true) := by
  intro pins s σ H x y v u Q I rx ry h
  obtain ⟨d, e, hd, he, sd, se, hm, q⟩ := h
  obtain ⟨as, r1⟩ := Dp.reads I d x v hd rx
  obtain ⟨bs, r2⟩ := Dp.reads I e y u he ry
  exact SeqAt.compareNe_reads r1 r2 sd se (by have := hu64 hr; omega) ⟨.bl _, H, I, rfl, q⟩
theorem g2_eq {K : PySem.W.Frag} : G2 K (rEqM K false) gEq := fun ρ S H d e z x y Q so rx ry q n => by
  unfold gEq at q
  split at q
  · rename_i h
    cases q
    simp only [Bool.and_eq_true, decide_eq_true_eq] at h
    refine ⟨py d, py e, rq_dp rx h.1.1, rq_dp ry h.1.2, py_can d h.1.1, py_can e h.1.2, by rw [py_dep, py_dep]; exact h.2, ?_⟩
    rw [if_neg Bool.false_ne_true, py_eqv d e h.1.1 h.1.2]
    exact nxt_here so (.bl _) n
  · cases q
theorem g2_ne {K : PySem.W.Frag} : G2 K (rEqM K true) gNe := fun ρ S H d e z x y Q so rx ry q n => by
  unfold gNe at q
  split at q
  · rename_i h
    cases q
    simp only [Bool.and_eq_true, decide_eq_true_eq] at h
    refine ⟨py d, py e, rq_dp rx h.1.1, rq_dp ry h.1.2, py_can d h.1.1, py_can e h.1.2, by rw [py_dep, py_dep]; exact h.2, ?_⟩
    rw [if_pos rfl, py_eqv d e h.1.1 h.1.2]
    exact nxt_here so (.bl _) n
  · cases q
end

/-! ### in -/
def flatD : D → Bool
  | .non => true
  | .bl _ => true
  | .int _ => true
  | .str _ => true
  | _ => false
def gInB (d e : D) : Option Bool := match e with
  | .tup es => if (flatD d && es.all flatD) = true then some (es.any fun y => deq y d) else none
  | .lst es => if (flatD d && es.all flatD) = true then some (es.any fun y => deq y d) else none
  | .str t => (match d with
    | .str [c] => some (decide (c ∈ t))
    | _ => none)
  | _ => none
def gIn : D → D → Option D := fun d e => (gInB d e).map .bl
def gNotIn : D → D → Option D := fun d e => (gInB d e).map fun b => .bl (!b)
def rInA (K : PySem.W.Frag) (neg : Bool) : R2 := fun x y H Q => rIn K neg x y H Q ∨ ∃ (c : Nat) (z : Str), x = .str ⟨#[c]⟩ ∧ y = .str z ∧ Q (.bl (if neg then !decide (c ∈ z.cps.toList) else decide (c ∈ z.cps.toList))) H
theorem op_inA {X : Cx} : OpR X (compareOp .In) (rInA X.K false) := by
  intro pins s σ H x y v u Q I rx ry h
  rcases h with h | h
  · exact op_in_seq pins s σ H x y v u Q I rx ry h
  · exact op_in_sign pins s σ H x y v u Q I rx ry h
theorem op_notInA {X : Cx} : OpR X (compareOp .NotIn) (rInA X.K true) := by
  intro pins s σ H x y v u Q I rx ry h
  rcases h with h | h
  · exact op_notIn_seq pins s σ H x y v u Q I rx ry h
  · exact op_notIn_sign pins s σ H x y v u Q I rx ry h
section
variable {K : PySem.W.Frag} {H : Hp} {M : Addr → Prop}
theorem rq_flat {d : D} {v : V} (h : Rq K H M d v) (f : flatD d = true) : flatV v = true := by
  cases d with
  | non => rw [h.non]; rfl
  | bl b => rw [h.bl]; rfl
  | int b => rw [h.int]; rfl
  | str b => rw [h.str]; rfl
  | _ => cases f
theorem eqV_deq {d e : D} {v u : V} (h : Rq K H M d v) (h' : Rq K H M e u) (f : flatD d = true) (f' : flatD e = true) : eqV v u = deq d e := by
  cases d with
  | non => cases e with
    | non => rw [h.non, h'.non]; rfl
    | bl b => rw [h.non, h'.bl]; rfl
    | int b => rw [h.non, h'.int]; rfl
    | str b => rw [h.non, h'.str]; rfl
    | _ => cases f'
  | bl c => cases e with
    | non => rw [h.bl, h'.non]; rfl
    | bl b => rw [h.bl, h'.bl]; rfl
    | int b => rw [h.bl, h'.int]; rfl
    | str b => rw [h.bl, h'.str]; rfl
    | _ => cases f'
  | int c => cases e with
    | non => rw [h.int, h'.non]; rfl
    | bl b => rw [h.int, h'.bl]; rfl
    | int b => rw [h.int, h'.int]; rfl
    | str b => rw [h.int, h'.str]; rfl
    | _ => cases f'
  | str c => cases e with
    | non => rw [h.str, h'.non]; rfl
    | bl b => rw [h.str, h'.bl]; rfl
    | int b => rw [h.str, h'.int]; rfl
    | str b => rw [h.str, h'.str]; show (sx c == sx b) = _; rw [sx_beq]; simp only [deq]
    | _ => cases f'
  | _ => cases f
theorem rpL_flat : ∀ {ds : List D} {vs : List V}, RpL K H M ds vs → ds.all flatD = true → vs.all flatV = true
  | _, _, .nil, _ => rfl
  | d :: ds, v :: vs, .cons a b, h => by
    rw [List.all_cons, Bool.and_eq_true] at h ⊢
    exact ⟨rq_flat (.of a) h.1, rpL_flat b h.2⟩
theorem rpL_in {d : D} {x : V} (hx : Rq K H M d x) (fx : flatD d = true) : ∀ {ds : List D} {vs : List V}, RpL K H M ds vs → ds.all flatD = true → inV x vs = ds.any fun y => deq y d
  | _, _, .nil, _ => rfl
  | e :: ds, v :: vs, .cons a b, h => by
    rw [List.all_cons, Bool.and_eq_true] at h
    have ih := rpL_in hx fx b h.2
    unfold inV at ih ⊢
    rw [List.any_cons, List.any_cons, ih, eqV_deq (.of a) hx h.1 fx]
end
theorem in_post {K : PySem.W.Frag} {ρ : List Addr} {S : Sto} {H : Hp} {d e : D} {x y : V} {b : Bool} {Q : VK} (neg : Bool) (rx : Rq K H (live ρ S) d x) (ry : Rq K H (live ρ S) e y) (q : gInB d e = some b) (n : Q (.bl (if neg then !b else b)) H) : rInA K neg x y H Q := by
  unfold gInB at q
  split at q
  · rename_i es
    split at q
    · rename_i h
      cases q
      rw [Bool.and_eq_true] at h
      obtain ⟨a, xs, rfl, ha, ra⟩ := ry.tup
      refine .inl ⟨a, xs, rfl, .inr ha, rq_flat rx h.1, rpL_flat ra h.2, ?_⟩
      rw [rpL_in rx h.1 ra h.2]; exact n
    · cases q
  · rename_i es
    split at q
    · rename_i h
      cases q
      rw [Bool.and_eq_true] at h
      obtain ⟨a, xs, rfl, ha, ra⟩ := ry.lstE
      refine .inl ⟨a, xs, rfl, .inl (SqL.of ha), rq_flat rx h.1, rpL_flat ra h.2, ?_⟩
      rw [rpL_in rx h.1 ra h.2]; exact n
    · cases q
  · split at q
    · rename_i t c
      cases q
      refine .inr ⟨c, _, rx.str, ry.str, ?_⟩
      have e : ∀ t : Tx, decide (c ∈ (sx t).cps.toList) = decide (c ∈ t) := fun t => by
        have e1 : (sx t).cps.toList = t := by simp [sx]
        rw [e1]
      rw [e]
      exact n
    · cases q
  · cases q
theorem g2_in {K : PySem.W.Frag} : G2 K (rInA K false) gIn := fun ρ S H d e z x y Q so rx ry q n => by
  unfold gIn at q
  cases qb : gInB d e with
  | none => rw [qb] at q; cases q
  | some b => rw [qb] at q; cases q; exact in_post false rx ry qb (nxt_here so (.bl b) n)
theorem g2_notIn {K : PySem.W.Frag} : G2 K (rInA K true) gNotIn := fun ρ S H d e z x y Q so rx ry q n => by
  unfold gNotIn at q
  cases qb : gInB d e with
  | none => rw [qb] at q; cases q
  | some b => rw [qb] at q; cases q; exact in_post true rx ry qb (nxt_here so (.bl (!b)) n)

/-! ### is None -/
def isNon : D → Bool
  | .non => true
  | _ => false
def gIs : D → D → Option D := fun d e => match e with
  | .non => some (.bl (isNon d))
  | _ => none
def gIsNot : D → D → Option D := fun d e => match e with
  | .non => some (.bl (!isNon d))
  | _ => none
theorem rq_isNon {K : PySem.W.Frag} {H : Hp} {M : Addr → Prop} {d : D} {v : V} (h : Rq K H M d v) : decide (v = .non) = isNon d := by
  cases d with
  | non => rw [h.non]; rfl
  | bl b => rw [h.bl]; rfl
  | int b => rw [h.int]; rfl
  | str b => rw [h.str]; rfl
  | ty b => rw [h.ty]; rfl
  | tup ds => obtain ⟨_, _, rfl, _⟩ := h.tup; rfl
  | lst ds => obtain ⟨_, _, rfl, _⟩ := h.lstE; rfl
  | dct ds => obtain ⟨_, _, rfl, _⟩ := h.dctE; rfl
theorem g2_is {K : PySem.W.Frag} : G2 K (fun x y H Q => y = .non ∧ Q (.bl (decide (x = .non))) H) gIs := fun ρ S H d e z x y Q so rx ry q n => by
  unfold gIs at q
  split at q
  · cases q
    refine ⟨ry.non, ?_⟩
    rw [rq_isNon rx]; exact nxt_here so (.bl _) n
  · cases q
theorem g2_isNot {K : PySem.W.Frag} : G2 K (fun x y H Q => y = .non ∧ Q (.bl (!decide (x = .non))) H) gIsNot := fun ρ S H d e z x y Q so rx ry q n => by
  unfold gIsNot at q
  split at q
  · cases q
    refine ⟨ry.non, ?_⟩
    rw [rq_isNon rx]; exact nxt_here so (.bl _) n
  · cases q
end Fro

namespace Fro
open PySem PySem.Spec L2

/-! ### built-in functions by data -/
def rdAll (S : Sto) : List W → Option (List D)
  | [] => some []
  | w :: ws => match rd S w, rdAll S ws with
    | some d, some ds => some (d :: ds)
    | _, _ => none
inductive RqL (K : PySem.W.Frag) (H : Hp) (M : Addr → Prop) : List D → List V → Prop
  | nil : RqL K H M [] []
  | cons {d : D} {ds : List D} {v : V} {vs : List V} : Rq K H M d v → RqL K H M ds vs → RqL K H M (d :: ds) (v :: vs)
theorem rdAll_ok {K : PySem.W.Frag} {ρ : List Addr} {S : Sto} {H : Hp} (so : Sok K ρ S H) : ∀ {ws : List W} {vs : List V} {ds : List D}, RpWs K ρ S H ws vs → rdAll S ws = some ds → RqL K H (live ρ S) ds vs
  | _, _, ds, .nil, e => by cases e; exact .nil
  | w :: ws, _, ds, .cons a b, e => by
    unfold rdAll at e
    cases q1 : rd S w with
    | none => rw [q1] at e; simp at e
    | some d =>
      cases q2 : rdAll S ws with
      | none => rw [q1, q2] at e; simp at e
      | some ds' =>
        rw [q1, q2] at e
        cases e
        exact .cons (rd_ok so a q1) (rdAll_ok so b q2)
def GN (K : PySem.W.Frag) (r : List V → Hp → VK → Prop) (g : List D → Option D) : Prop := ∀ (ρ : List Addr) (S : Sto) (H : Hp) (ds : List D) (z : D) (xs : List V) (Q : VK), Sok K ρ S H → RqL K H (live ρ S) ds xs → g ds = some z → Nxt K ρ S H z Q → r xs H Q
def apN (g : List D → Option D) (ws : List W) (S : Sto) : R W := match rdAll S ws with
  | some ds => (match g ds with
    | some r => .ok (.v r) S
    | none => .bad)
  | none => .bad
def cBlt (g : List D → Option D) (a : Den (List W)) : Den W := fun δ S => (a δ S).bind fun ws S1 => apN g ws S1
theorem apN_post {K : PySem.W.Frag} {ρ : List Addr} {S : Sto} {H : Hp} {r : List V → Hp → VK → Prop} {g : List D → Option D} (hg : GN K r g) {ws : List W} {xs : List V} {Q : VK} {Ex} (so : Sok K ρ S H) (rw1 : RpWs K ρ S H ws xs) (p : Post K (RpW K) ρ S H (apN g ws S) Q Ex) : r xs H Q := by
  unfold apN at p
  cases q1 : rdAll S ws with
  | none => simp only [q1] at p; exact p.elim
  | some ds =>
    cases q3 : g ds with
    | none => simp only [q1, q3] at p; exact p.elim
    | some z =>
      simp only [q1, q3] at p
      exact hg ρ S H ds z xs Q so (rdAll_ok so rw1 q1) q3 fun v H' f so' rp => p v ρ H' f so' rp
section
variable {X : Cx} {E : XP} {x : Str} {p pos : Pos} {e : Expr} {es : List Expr} {a : Den (List W)} {r : List V → Hp → VK → Prop} {g : List D → Option D}
theorem de_blt {id : String} (hc : CallR X (.builtin id) r) (hg : GN X.K r g) (hm : X.mg x = none) (hv : bootBuiltins x = some (.builtin id)) (ha : PA X (e :: es) (tA X.K E a)) (hgl : Gl X x := by rfl) (hn : x ≠ "__name__" := by decide) (hdb : (x == ("__debug__" : Str)) = false := by decide)
    (he : starEach (e :: es) X.env = (false, eval e X.env) :: starEach es X.env := by rfl) (hpl : (backTo pos (starEach es X.env)).any (·.1) = false := by rfl) : PE X (.Call (.Name x p) (e :: es) [] pos) (tE X.K E (cBlt g a)) :=
  pe_mono (pe_callB hc hgl hm hv ha hn hdb he hpl) fun σ H Q ⟨δ, ρ, S, st, so, q⟩ => tG_then st so q fun ws S1 vs ρ1 H1 f1 st1 so1 r1 p1 => apN_post hg so1 r1 p1
theorem de_bty {T : String} (hc : CallR X (.type T) r) (hg : GN X.K r g) (hm : X.mg x = none) (hv : bootBuiltins x = some (.type T)) (ha : PA X (e :: es) (tA X.K E a)) (hgl : Gl X x := by rfl) (hn : x ≠ "__name__" := by decide) (hdb : (x == ("__debug__" : Str)) = false := by decide)
    (he : starEach (e :: es) X.env = (false, eval e X.env) :: starEach es X.env := by rfl) (hpl : (backTo pos (starEach es X.env)).any (·.1) = false := by rfl) : PE X (.Call (.Name x p) (e :: es) [] pos) (tE X.K E (cBlt g a)) :=
  pe_mono (pe_callTy hc hgl hm hv ha hn hdb he hpl) fun σ H Q ⟨δ, ρ, S, st, so, q⟩ => tG_then st so q fun ws S1 vs ρ1 H1 f1 st1 so1 r1 p1 => apN_post hg so1 r1 p1
end
/-- len -/
def gLen : List D → Option D := fun ds => match ds with
  | [.lst es] => some (.int es.length)
  | [.tup es] => some (.int es.length)
  | [.str t] => if t.length ≤ 1000000 then some (.int t.length) else none
  | _ => none
def apLen (ws : List W) (S : Sto) : R W := match ws with
  | [.s ns] => .ok (.v (.int ns.length)) S
  | _ => apN gLen ws S
def cLen (a : Den (List W)) : Den W := fun δ S => (a δ S).bind fun ws S1 => apLen ws S1
theorem gn_len {K : PySem.W.Frag} : GN K (fun xs H Q => ∃ x n, xs = [x] ∧ LenV K x H n ∧ Q (.int n) H) gLen := fun ρ S H ds z xs Q so rx q n => by
  unfold gLen at q
  split at q
  · cases q
    cases rx with
    | cons a b =>
      cases b
      obtain ⟨p, ys, rfl, hy, ry⟩ := a.lstE
      exact ⟨_, ys.length, rfl, .inl ⟨ys, SqL.of hy, rfl⟩, by rw [← ry.length]; exact nxt_here so (.int _) n⟩
  · cases q
    cases rx with
    | cons a b =>
      cases b
      obtain ⟨p, ys, rfl, hy, ry⟩ := a.tup
      exact ⟨_, ys.length, rfl, .inr ⟨ys, hy, rfl⟩, by rw [← ry.length]; exact nxt_here so (.int _) n⟩
  · rename_i t
    split at q
    · rename_i h
      cases q
      cases rx with
      | cons a b =>
        cases b
        rw [a.str]
        exact ⟨_, t.length, rfl, ⟨by rw [sx_length]; exact lt_line h, (sx_length t).symm⟩, nxt_here so (.int _) n⟩
    · cases q
  · cases q
theorem de_len {X : Cx} {E : XP} {p pos : Pos} {e : Expr} {a : Den (List W)} (hm : X.mg "len" = none) (ha : PA X [e] (tA X.K E a)) (hgl : Gl X "len" := by rfl)
    (he : starEach [e] X.env = (false, eval e X.env) :: starEach [] X.env := by rfl) (hpl : (backTo pos (starEach [] X.env)).any (·.1) = false := by rfl) : PE X (.Call (.Name "len" p) [e] [] pos) (tE X.K E (cLen a)) :=
  pe_mono (pe_callB call_len hgl hm PySem.boot_len ha (by decide) (by decide) he hpl) fun σ H Q ⟨δ, ρ, S, st, so, q⟩ => tG_then st so q fun ws S1 vs ρ1 H1 f1 st1 so1 r1 p1 => by
    unfold apLen at p1
    split at p1
    · rename_i ns
      cases r1 with
      | cons a b =>
        cases b
        obtain ⟨c, rfl, sc⟩ := a
        exact ⟨_, ns.length, rfl, .inl ⟨_, sc.sq, by rw [List.length_map]⟩, p1 _ ρ1 H1 Fwd.refl so1 (.int _)⟩
    · exact apN_post gn_len so1 r1 p1
/-- isinstance -/
def tyOf : D → Option String
  | .non => some "NoneType"
  | .bl _ => some "bool"
  | .int _ => some "int"
  | .str _ => some "str"
  | .tup _ => some "tuple"
  | .lst _ => some "list"
  | .dct _ => some "dict"
  | .ty _ => none
def isiD (d : D) (T : Ty) : Option Bool := match d, T with
  | .str _, .str => some true
  | .tup _, .tup => some true
  | .lst _, .lst => some true
  | .dct _, .dct => some true
  | .int _, .int => some true
  | .bl _, .bl => some true
  | .bl _, .int => some true
  | .ty _, _ => none
  | _, _ => some false
theorem isiD_kit {d : D} {T : Ty} {b : Bool} (h : isiD d T = some b) : ∃ t, tyOf d = some t ∧ kitB t T.nm = some b := by
  cases d <;> cases T <;> first | (cases h; exact ⟨_, rfl, by decide +kernel⟩) | (cases h)
theorem rq_ty {K : PySem.W.Frag} {H : Hp} {M : Addr → Prop} {d : D} {v : V} {t : String} (h : Rq K H M d v) (e : tyOf d = some t) : TyX K H v (.type t) := by
  cases d with
  | non => cases e; rw [h.non]; exact .base .non
  | bl b => cases e; rw [h.bl]; exact .base (.bl b)
  | int b => cases e; rw [h.int]; exact .base (.int b)
  | str b => cases e; rw [h.str]; exact .base (.str _)
  | ty b => cases e
  | tup ds =>
    cases e
    obtain ⟨a, xs, rfl, sq, _⟩ := h.tup
    rcases sq with (sq | ⟨o, sq⟩) | ⟨o, its, n, l, c, _⟩
    · exact .base (.tup sq)
    · exact .fTuple sq
    · exact .kTuple l c
  | lst ds => cases e; obtain ⟨a, xs, rfl, sq, _⟩ := h.lstE; exact .base (.lst sq)
  | dct ds => cases e; obtain ⟨a, xs, rfl, sq, _⟩ := h.dctE; exact sq.elim (fun q => .base (.dK q)) (fun ⟨_, q⟩ => .fDict q)
def gIsi : List D → Option D := fun ds => match ds with
  | [d, .ty T] => (isiD d T).map .bl
  | _ => none
theorem gn_isi {K : PySem.W.Frag} : GN K (rIsi K) gIsi := fun ρ S H ds z xs Q so rx q n => by
  unfold gIsi at q
  split at q
  · rename_i d T
    cases qb : isiD d T with
    | none => rw [qb] at q; cases q
    | some b =>
      rw [qb] at q
      cases q
      obtain ⟨t, h1, h2⟩ := isiD_kit qb
      cases rx with
      | cons r1 r2 =>
        cases r2 with
        | cons r2 r3 =>
          cases r3
          rw [r2.ty]
          exact ⟨_, _, .type t, .type T.nm, b, rfl, .ty _, rq_ty r1 h1, kit_ty h2, nxt_here so (.bl b) n⟩
  · cases q
/-- all, any -/
def blL : List D → Option (List Bool)
  | [] => some []
  | .bl b :: ds => (blL ds).map (b :: ·)
  | _ :: _ => none
theorem blL_rp {K : PySem.W.Frag} {H : Hp} {M : Addr → Prop} : ∀ {ds : List D} {bs : List Bool} {vs : List V}, blL ds = some bs → RpL K H M ds vs → vs = bs.map V.bl
  | [], bs, _, e, .nil => by cases e; rfl
  | d :: ds, bs, _, e, .cons a b => by
    cases d with
    | bl c =>
      cases a
      unfold blL at e
      cases q : blL ds with
      | none => rw [q] at e; cases e
      | some cs =>
        rw [q] at e
        cases e
        rw [blL_rp q b]
        rfl
    | _ => cases e
def gAll : List D → Option D := fun ds => match ds with
  | [.lst es] => (blL es).map fun bs => .bl (bs.all id)
  | _ => none
def gAny : List D → Option D := fun ds => match ds with
  | [.lst es] => (blL es).map fun bs => .bl (bs.any id)
  | _ => none
theorem gn_all {K : PySem.W.Frag} : GN K (rAll K) gAll := fun ρ S H ds z xs Q so rx q n => by
  unfold gAll at q
  split at q
  · rename_i es
    cases qb : blL es with
    | none => rw [qb] at q; cases q
    | some bs =>
      rw [qb] at q
      cases q
      cases rx with
      | cons r1 r2 =>
        cases r2
        obtain ⟨a, ys, rfl, ha, ra⟩ := r1.lstE
        rw [blL_rp qb ra] at ha
        exact ⟨a, bs, rfl, SqL.of ha, nxt_here so (.bl _) n⟩
  · cases q
theorem gn_any {K : PySem.W.Frag} : GN K (rAny K) gAny := fun ρ S H ds z xs Q so rx q n => by
  unfold gAny at q
  split at q
  · rename_i es
    cases qb : blL es with
    | none => rw [qb] at q; cases q
    | some bs =>
      rw [qb] at q
      cases q
      cases rx with
      | cons r1 r2 =>
        cases r2
        obtain ⟨a, ys, rfl, ha, ra⟩ := r1.lstE
        rw [blL_rp qb ra] at ha
        exact ⟨a, bs, rfl, SqL.of ha, nxt_here so (.bl _) n⟩
  · cases q
/-- int, max, min -/
def gInt : List D → Option D := fun ds => match ds with
  | [.int i] => some (.int i)
  | [.bl b] => some (.int (if b then 1 else 0))
  | _ => none
theorem gn_int {K : PySem.W.Frag} : GN K (fun xs H Q => (∃ i, xs = [.int i] ∧ Q (.int i) H) ∨ ∃ k, xs = [.bl k] ∧ Q (.int (if k then 1 else 0)) H) gInt := fun ρ S H ds z xs Q so rx q n => by
  unfold gInt at q
  split at q
  · cases q
    cases rx with
    | cons r1 r2 => cases r2; exact .inl ⟨_, by rw [r1.int], nxt_here so (.int _) n⟩
  · cases q
    cases rx with
    | cons r1 r2 => cases r2; exact .inr ⟨_, by rw [r1.bl], nxt_here so (.int _) n⟩
  · cases q
def gMax2 : List D → Option D := fun ds => match ds with
  | [.int i, .int j] => some (.int (if j > i then j else i))
  | _ => none
def gMin2 : List D → Option D := fun ds => match ds with
  | [.int i, .int j] => some (.int (if j < i then j else i))
  | _ => none
theorem gn_max2 {K : PySem.W.Frag} : GN K (fun xs H Q => ∃ i j, xs = [.int i, .int j] ∧ Q (.int (if j > i then j else i)) H) gMax2 := fun ρ S H ds z xs Q so rx q n => by
  unfold gMax2 at q
  split at q
  · cases q
    cases rx with
    | cons r1 r2 => cases r2 with
      | cons r2 r3 => cases r3; exact ⟨_, _, by rw [r1.int, r2.int], nxt_here so (.int _) n⟩
  · cases q
theorem gn_min2 {K : PySem.W.Frag} : GN K (fun xs H Q => ∃ i j, xs = [.int i, .int j] ∧ Q (.int (if j < i then j else i)) H) gMin2 := fun ρ S H ds z xs Q so rx q n => by
  unfold gMin2 at q
  split at q
  · cases q
    cases rx with
    | cons r1 r2 => cases r2 with
      | cons r2 r3 => cases r3; exact ⟨_, _, by rw [r1.int, r2.int], nxt_here so (.int _) n⟩
  · cases q

/-! ### methods of lists of the store -/
def isRL (x : W) (S : Sto) : Option (Nat × List D) := match x with
  | .r i => (match S[i]? with
    | some (.lst ds) => some (i, ds)
    | _ => none)
  | _ => none
theorem isRL_ok {K : PySem.W.Frag} {ρ : List Addr} {S : Sto} {H : Hp} {w : W} {v : V} {i : Nat} {ds : List D} (so : Sok K ρ S H) (r : RpW K ρ S H w v) (e : isRL w S = some (i, ds)) : ∃ a xs, w = .r i ∧ v = .ref a ∧ ρ[i]? = some a ∧ S[i]? = some (.lst ds) ∧ H a = some (.lst xs) ∧ RpL K H (live ρ S) ds xs := by
  unfold isRL at e
  split at e
  · rename_i j
    split at e
    · rename_i ds' q
      cases e
      obtain ⟨a, rfl, ea⟩ := r
      obtain ⟨xs, ex, rl⟩ := so.obs i a _ ea q
      exact ⟨a, xs, rfl, rfl, ea, q, ex, rl⟩
    · cases e
  · cases e
def cMth (a : Den W) (k : Nat → Slots → Sto → R W) : Den W := fun δ S => (a δ S).bind fun x S1 => match isRL x S1 with
  | some (i, _) => k i δ S1
  | none => .bad
def apAppend (i : Nat) (y : W) (S : Sto) : R W := match isRL (.r i) S, toD y with
  | some (_, ds), some d => if ds.length < 1000000 then .ok (.v .non) (S.set i (.lst (ds ++ [d]))) else .bad
  | _, _ => .bad
def cAppend (a b : Den W) : Den W := cMth a fun i δ S1 => (b δ S1).bind fun y S2 => apAppend i y S2
def apExtend (i : Nat) (y : W) (S : Sto) : R W := match isRL (.r i) S, rd S y with
  | some (_, ds), some (.lst es) => if ds.length + es.length ≤ 1000000 then .ok (.v .non) (S.set i (.lst (ds ++ es))) else .bad
  | _, _ => .bad
def cExtend (a b : Den W) : Den W := cMth a fun i δ S1 => (b δ S1).bind fun y S2 => apExtend i y S2
def apPop (i : Nat) (S : Sto) : R W := match isRL (.r i) S with
  | some (_, ds) => (match ds[ds.length - 1]? with
    | some d => .ok (.v d) (S.set i (.lst ds.dropLast))
    | none => .bad)
  | _ => .bad
def cPop (a : Den W) : Den W := cMth a fun i _ S1 => apPop i S1
section
variable {K : PySem.W.Frag} {ρ : List Addr} {S : Sto} {H : Hp} {i : Nat} {v : V} {Q : VK} {Ex : Nat → List D → Sto → List Addr → Hp → Prop}
theorem append_post {y : W} {u : V} (so : Sok K ρ S H) (r : RpW K ρ S H (.r i) v) (r2 : RpW K ρ S H y u) (p : Post K (RpW K) ρ S H (apAppend i y S) Q Ex) : rAppend v [u] H Q := by
  unfold apAppend at p
  split at p
  · rename_i j ds d q1 q2
    obtain ⟨a, xs, e1, rfl, ea, es, ex, rl⟩ := isRL_ok so r q1
    cases e1
    split at p
    · rename_i hl
      refine ⟨a, xs, u, rfl, rfl, ex, by rw [← rl.length]; exact Nat.lt_trans hl (by decide), ?_⟩
      have fc : Fwd ρ S H ρ (S.set i (.lst (ds ++ [d]))) (upd H a (.lst (xs ++ [u]))) := Fwd.changed so ea es rfl
      exact p .non ρ _ fc (so.changed ea es rfl ⟨_, upd_same, (fc.rpL rl).append (.cons (fc.rp (toD_rp r2 q2)) .nil)⟩) .non
    · exact p.elim
  · exact p.elim
theorem extend_post {y : W} {u : V} (so : Sok K ρ S H) (r : RpW K ρ S H (.r i) v) (r2 : RpW K ρ S H y u) (p : Post K (RpW K) ρ S H (apExtend i y S) Q Ex) : rExtend v [u] H Q := by
  unfold apExtend at p
  split at p
  · rename_i j ds es0 q1 q2
    obtain ⟨a, xs, e1, rfl, ea, es, ex, rl⟩ := isRL_ok so r q1
    cases e1
    obtain ⟨b, ys, rfl, hb, rb⟩ := (rd_ok so r2 q2).lstE
    split at p
    · rename_i hl
      refine ⟨a, b, xs, ys, rfl, rfl, ex, hb, by rw [← rl.length, ← rb.length]; exact lt_line hl, ?_⟩
      have fc : Fwd ρ S H ρ (S.set i (.lst (ds ++ es0))) (upd H a (.lst (xs ++ ys))) := Fwd.changed so ea es rfl
      exact p .non ρ _ fc (so.changed ea es rfl ⟨_, upd_same, (fc.rpL rl).append (fc.rpL rb)⟩) .non
    · exact p.elim
  · exact p.elim
theorem pop_post (so : Sok K ρ S H) (r : RpW K ρ S H (.r i) v) (p : Post K (RpW K) ρ S H (apPop i S) Q Ex) : rPop v [] H Q := by
  unfold apPop at p
  split at p
  · rename_i j ds q1
    obtain ⟨a, xs, e1, rfl, ea, es, ex, rl⟩ := isRL_ok so r q1
    cases e1
    split at p
    · rename_i d qd
      obtain ⟨y, hy, ry⟩ := rl.get _ qd
      refine ⟨a, xs, y, rfl, rfl, ex, by rw [← rl.length]; exact hy, ?_⟩
      have fc : Fwd ρ S H ρ (S.set i (.lst ds.dropLast)) (upd H a (.lst xs.dropLast)) := Fwd.changed so ea es rfl
      exact p y ρ _ fc (so.changed ea es rfl ⟨_, upd_same, (fc.rpL rl).dropLast⟩) (fc.rp ry)
    · exact p.elim
  · exact p.elim
end
section
variable {X : Cx} {E : XP} {o e : Expr} {apos cpos : Pos} {a b : Den W}
theorem mth_then {k : Nat → Slots → Sto → R W} {σ : L2.St} {H : Hp} {Q : VK} {Q' : VK} (h : tE X.K E (cMth a k) σ H Q)
    (hk : ∀ (δ : Slots) (i : Nat) (S1 : Sto) (v : V) (ρ1 : List Addr) (H1 : Hp), RpSt X.K ρ1 S1 H1 δ σ → Sok X.K ρ1 S1 H1 → RpW X.K ρ1 S1 H1 (.r i) v → tyV X.K "list" v H1 → Post X.K (RpW X.K) ρ1 S1 H1 (k i δ S1) Q (E σ) → Q' v H1) : tE X.K E a σ H Q' := by
  obtain ⟨δ, ρ, S, st, so, p⟩ := h
  refine tG_then st so p fun x S1 v ρ1 H1 f1 st1 so1 r1 p1 => ?_
  cases q : isRL x S1 with
  | none => simp only [q] at p1; exact p1.elim
  | some z =>
    obtain ⟨i, ds⟩ := z
    simp only [q] at p1
    obtain ⟨c, xs, rfl, rfl, ea, es, ex, rl⟩ := isRL_ok so1 r1 q
    exact hk δ i S1 _ ρ1 H1 st1 so1 r1 (.inl ⟨rfl, xs, SqL.of ex⟩) p1
theorem de_append (ha : PE X o (tE X.K E a)) (hb : PE X e (tE X.K E b)) (hs : starEach [e] X.env = (false, eval e X.env) :: starEach [] X.env := by rfl)
    (hd : ∀ to t, PE X o to → PA X [e] t → PE X (.Call (.Attribute o "append" apos) [e] [] cpos) (tBM X.K "list" rAppend to t) := by exact fun _ _ ho h => pe_bm PySem.F.plainAttrs_list PySem.F.slot_list_append PySem.F.type_list_append mt_append ho h) :
    PE X (.Call (.Attribute o "append" apos) [e] [] cpos) (tE X.K E (cAppend a b)) :=
  pe_mono (hd _ _ ha (pa_cons hb pa_nil hs)) fun σ H Q h => mth_then h fun δ i S1 v ρ1 H1 st1 so1 r1 ty p1 => ⟨ty, tG_then st1 so1 p1 fun y S2 u ρ2 H2 f2 st2 so2 r2 p2 => append_post so2 (f2.rw r1) r2 p2⟩
theorem de_extend (ha : PE X o (tE X.K E a)) (hb : PE X e (tE X.K E b)) (hs : starEach [e] X.env = (false, eval e X.env) :: starEach [] X.env := by rfl)
    (hd : ∀ to t, PE X o to → PA X [e] t → PE X (.Call (.Attribute o "extend" apos) [e] [] cpos) (tBM X.K "list" rExtend to t) := by exact fun _ _ ho h => pe_bm PySem.F.plainAttrs_list PySem.F.slot_list_extend PySem.F.type_list_extend mt_extend ho h) :
    PE X (.Call (.Attribute o "extend" apos) [e] [] cpos) (tE X.K E (cExtend a b)) :=
  pe_mono (hd _ _ ha (pa_cons hb pa_nil hs)) fun σ H Q h => mth_then h fun δ i S1 v ρ1 H1 st1 so1 r1 ty p1 => ⟨ty, tG_then st1 so1 p1 fun y S2 u ρ2 H2 f2 st2 so2 r2 p2 => extend_post so2 (f2.rw r1) r2 p2⟩
theorem de_pop (ha : PE X o (tE X.K E a)) (hbase : attributeBase o "pop" X.env (eval o X.env) = eval o X.env := by rfl) (hline : (apos.endLine == cpos.line) = true := by rfl) :
    PE X (.Call (.Attribute o "pop" apos) [] [] cpos) (tE X.K E (cPop a)) :=
  pe_mono (pe_bm0 PySem.F.plainAttrs_list PySem.F.slot_list_pop PySem.F.type_list_pop mt_pop ha hbase hline) fun σ H Q h => mth_then h fun δ i S1 v ρ1 H1 st1 so1 r1 ty p1 => ⟨ty, pop_post so1 r1 p1⟩
end

/-! ### a list's place is stored -/
def gSubD (a b : Den W) : DenG := fun w δ S => match a δ S with
  | .ok x S1 => (match b δ S1 with
    | .ok (.v (.int k)) S2 => (match isRL x S2, toD w with
      | some (i, ds), some d => (match ixN ds.length k with
        | some j => some (δ, S2.set i (.lst (ds.set j d)))
        | none => none)
      | _, _ => none)
    | _ => none)
  | _ => none
theorem gok_sub {K : PySem.W.Frag} {a b : Den W} : GOk K (L2.gSub (tE K XP0 a) (tE K XP0 b) rSetL) (gSubD a b) [] := fun ρ S H δ σ w v Q δ' S' st so r e h => by
  unfold gSubD at e
  cases qa : a δ S with
  | bad => simp only [qa] at e; cases e
  | exc c cs S1 => simp only [qa] at e; cases e
  | ok x S1 =>
    simp only [qa] at e
    refine ⟨δ, ρ, S, st, so, ?_⟩
    rw [qa]
    intro o ρ1 H1 f1 so1 r1
    cases qb : b δ S1 with
    | bad => simp only [qb] at e; cases e
    | exc c cs S2 => simp only [qb] at e; cases e
    | ok y S2 =>
      refine ⟨δ, ρ1, S1, f1.st st, so1, ?_⟩
      rw [qb]
      intro iv ρ2 H2 f2 so2 r2
      cases y with
      | r i => simp only [qb] at e; cases e
      | s ns => simp only [qb] at e; cases e
      | lk es => simp only [qb] at e; cases e
      | x c ds => simp only [qb] at e; cases e
      | v dk =>
        cases dk with
        | int k =>
          simp only [qb] at e
          cases q1 : isRL x S2 with
          | none => simp only [q1] at e; cases e
          | some z =>
            obtain ⟨i, ds⟩ := z
            cases q2 : toD w with
            | none => simp only [q1, q2] at e; cases e
            | some d =>
              cases q3 : ixN ds.length k with
              | none => simp only [q1, q2, q3] at e; cases e
              | some j =>
                simp only [q1, q2, q3] at e
                cases e
                cases r2
                obtain ⟨c, xs, rfl, rfl, ea, es, ex, rl⟩ := isRL_ok so2 (f2.rw r1) q1
                refine ⟨c, xs, k, j, rfl, rfl, ex, by rw [← rl.length]; exact q3, ?_⟩
                have fc : Fwd ρ2 S2 H2 ρ2 (S2.set i (.lst (ds.set j d))) (upd H2 c (.lst (xs.set j v))) := Fwd.changed so2 ea es rfl
                have f12 := f1.trans f2
                have rv := toD_rp (f12.rw r) q2
                exact h σ ρ2 _ (f12.trans fc) (so2.changed ea es rfl ⟨_, upd_same, (fc.rpL rl).set j (fc.rp rv)⟩) ((f12.trans fc).st st) rfl fun _ _ => rfl
        | _ => simp only [qb] at e; cases e

/-! ### slices -/
def cutD {α : Type} (xs : List α) (lo hi : Option Int) : List α := (xs.drop (HT.sIx xs.length 0 lo)).take (HT.sIx xs.length xs.length hi - HT.sIx xs.length 0 lo)
theorem rpL_cut {K : PySem.W.Frag} {H : Hp} {M : Addr → Prop} {ds : List D} {xs : List V} (h : RpL K H M ds xs) (lo hi : Option Int) : RpL K H M (cutD ds lo hi) (cutV xs lo hi) := by
  unfold cutD cutV
  rw [← h.length]
  exact (h.drop _).take _
def slD (d : D) (lo hi : Option Int) : Option D := match d with
  | .lst ds => some (.lst (cutD ds lo hi))
  | .tup ds => some (.tup (cutD ds lo hi))
  | _ => none
def asO (w : W) (S : Sto) : R (Option Int) := match w with
  | .v (.int i) => .ok (some i) S
  | _ => .bad
def cPart (a : Den W) : Den (Option Int) := fun δ S => (a δ S).bind asO
def cNoPart : Den (Option Int) := fun _ S => .ok none S
def apSl (x : W) (lo hi : Option Int) (S : Sto) : R W := match rd S x with
  | some d => (match slD d lo hi with
    | some z => .ok (.v z) S
    | none => .bad)
  | none => .bad
def cSl (a : Den W) (lo hi : Den (Option Int)) : Den W := fun δ S => (a δ S).bind fun x S1 => (lo δ S1).bind fun l S2 => (hi δ S2).bind fun u S3 => apSl x l u S3
abbrev tO (K : PySem.W.Frag) (E : XP) (den : Den (Option Int)) : TO := tG K (fun _ _ _ a b => a = b) E den
def rSlB (K : PySem.W.Frag) : V → Option Int → Option Int → Hp → VK → Prop := fun x lo hi H Q => rSlL K x lo hi H Q ∨ rSlA K x lo hi H Q
section
variable {X : Cx} {E : XP}
theorem po_mono {e : Option Expr} {t t' : TO} (h : PO X e t) (w : ∀ σ H Q, t' σ H Q → t σ H Q) : PO X e t' := ⟨fun pins s σ H Q I q => h.run pins s σ H Q I (w σ H Q q)⟩
theorem dp_none : PO X none (tO X.K E cNoPart) := po_mono po_none fun σ H Q ⟨δ, ρ, S, st, so, p⟩ => p none ρ H Fwd.refl so rfl
theorem dp_some {e : Expr} {a : Den W} (h : PE X e (tE X.K E a)) : PO X (some e) (tO X.K E (cPart a)) := po_mono (po_some h) fun σ H Q ⟨δ, ρ, S, st, so, p⟩ => tG_then st so p fun w S1 v ρ1 H1 f1 st1 so1 r1 p1 => by
  cases w with
  | r i => exact p1.elim
  | s i => exact p1.elim
  | lk es => exact p1.elim
  | x c ds => exact p1.elim
  | v d =>
    cases d with
    | int i => cases r1; exact ⟨i, rfl, p1 _ ρ1 H1 Fwd.refl so1 rfl⟩
    | _ => exact p1.elim
theorem cut_whole {α : Type} {xs : List α} {lo hi : Option Int} (h : HT.sIx xs.length 0 lo = 0 ∧ HT.sIx xs.length xs.length hi = xs.length) : cutD xs lo hi = xs := by
  unfold cutD
  rw [h.1, h.2]
  simp
theorem de_sl {e : Expr} {lo hi : Option Expr} {p2 pos : Pos} {a : Den W} {l u : Den (Option Int)} (ha : PE X e (tE X.K E a)) (hl : PO X lo (tO X.K E l)) (hu : PO X hi (tO X.K E u)) : PE X (.Subscript e (.Slice lo hi none p2) pos) (tE X.K E (cSl a l u)) :=
  pe_mono (pe_slice (sl_list.or sl_tupA) ha hl hu) fun σ H Q ⟨δ, ρ, S, st, so, p⟩ => tG_then st so p fun w S1 x ρ1 H1 f1 st1 so1 r1 p1 => tG_then st1 so1 p1 fun l S2 l' ρ2 H2 f2 st2 so2 r2 p2 => tG_then st2 so2 p2 fun u S3 u' ρ3 H3 f3 st3 so3 r3 p3 => by
    cases r2
    cases r3
    have rx := f3.rw (f2.rw r1)
    unfold apSl at p3
    cases q : rd S3 w with
    | none => simp only [q] at p3; exact p3.elim
    | some d =>
      simp only [q] at p3
      have rq := rd_ok so3 rx q
      cases d with
      | lst ds =>
        obtain ⟨b, xs, rfl, hb, rb⟩ := rq.lstE
        exact .inl ⟨b, xs, rfl, SqL.of hb, nxt_lst so3 (rpL_cut rb l u) fun v H' f so' rp => p3 v ρ3 H' f so' rp⟩
      | tup ds =>
        obtain ⟨b, xs, rfl, hb, rb⟩ := rq.tup
        have nx : Nxt X.K ρ3 S3 H3 (.tup (cutD ds l u)) Q := fun v H' f so' rp => p3 v ρ3 H' f so' rp
        refine .inr ⟨b, xs, rfl, hb, fun hw => ?_, fun _ => nxt_tup so3 (rpL_cut rb l u) nx⟩
        rw [← rb.length] at hw
        rw [cut_whole hw] at nx
        exact nxt_here so3 (.tup hb rb) nx
      | _ => exact p3.elim
end

/-! ### a text's signs -/
def asS (w : W) (S : Sto) : R (List D) := match w with
  | .v (.str t) => .ok (t.map fun c => .str [c]) S
  | _ => .bad
def itS (a : Den W) : Den (List D) := fun δ S => (a δ S).bind asS
theorem jok_str {K : PySem.W.Frag} {ρ : List Addr} {S : Sto} {H : Hp} (t : Tx) : Jok K ρ S H (t.map fun c => .str [c]) (Its (sx t)) := fun i ρ' S' H' f so => by
  refine ⟨fun d e => ?_, fun hl => by rw [List.length_map] at hl; show (sx t).cps.size ≤ i; simpa [sx] using hl⟩
  rw [List.getElem?_map] at e
  cases q : t[i]? with
  | none => rw [q] at e; cases e
  | some c =>
    rw [q] at e
    cases e
    have hi : i < t.length := by
      rcases Nat.lt_or_ge i t.length with z | z
      · exact z
      · rw [List.getElem?_eq_none z] at q; cases q
    refine ⟨by show i < (sx t).cps.size; simpa [sx] using hi, fun x H'' y => ?_⟩
    obtain ⟨rfl, c', hc, rfl⟩ := y
    have e2 : t[i]? = some c' := by simpa [sx] using hc
    rw [q] at e2
    cases e2
    exact ⟨Fwd.refl, so, .str [c]⟩
theorem di_str {X : Cx} {E : XP} {tg e : Expr} {a : Den W} (h : PE X e (tE X.K E a)) : PI X tg e (tI X.K E (itS a)) := pi_mono (pi_str h) fun σ H Q ⟨δ, ρ, S, st, so, p⟩ => tG_then st so p fun w S1 v ρ1 H1 f1 st1 so1 r1 p1 => by
  cases w with
  | r i => exact p1.elim
  | s ns => exact p1.elim
  | lk es => exact p1.elim
  | x c ds => exact p1.elim
  | v d =>
    cases d with
    | str t => cases r1; exact ⟨_, rfl, p1 _ ρ1 H1 Fwd.refl so1 (jok_str t)⟩
    | _ => exact p1.elim

/-! ### data of the written part -/
def kdV : Nat → PySem.W.Frag → Value → D → Bool
  | 0, _, _, _ => false
  | n + 1, K, u, d => match u, d with
    | .none, .non => true
    | .bool b, .bl c => b == c
    | .int i _, .int j => i == j
    | .str x _, .str t => x == sx t
    | .ref a, .tup ds => (match K.lookup a with
      | some o => o.cls == .type "tuple" && (match o.data with
        | .seq its _ => decide (its.size ≤ 1000) && kdL (kdV n K) its.toList ds
        | _ => false)
      | none => false)
    | _, _ => false
where kdL (f : Value → D → Bool) : List Value → List D → Bool
  | [], [] => true
  | u :: us, d :: ds => f u d && kdL f us ds
  | _, _ => false
theorem kdL_ok {K : PySem.W.Frag} {H : Hp} {M : Addr → Prop} {f : Value → D → Bool} (hf : ∀ u d, f u d = true → ∃ v, RelV v u ∧ Rp K H M d v) : ∀ {us : List Value} {ds : List D}, kdV.kdL f us ds = true → ∃ vs, Vals vs us ∧ RpL K H M ds vs
  | [], [], _ => ⟨[], .nil, .nil⟩
  | [], _ :: _, h => by simp [kdV.kdL] at h
  | _ :: _, [], h => by simp [kdV.kdL] at h
  | u :: us, d :: ds, h => by
    have h' : f u d = true ∧ kdV.kdL f us ds = true := by simpa [kdV.kdL] using h
    obtain ⟨v, h1, h2⟩ := hf u d h'.1
    obtain ⟨vs, h3, h4⟩ := kdL_ok hf h'.2
    exact ⟨v :: vs, .cons h1 h3, .cons h2 h4⟩
theorem kdV_ok {K : PySem.W.Frag} {H : Hp} {M : Addr → Prop} : ∀ (n : Nat) (u : Value) (d : D), kdV n K u d = true → ∃ v, RelV v u ∧ Rp K H M d v
  | 0, _, _, h => by simp [kdV] at h
  | n + 1, u, d, h => by
    unfold kdV at h
    split at h
    · exact ⟨.non, rfl, .non⟩
    · rename_i b c
      have e : b = c := by simpa using h
      subst e
      exact ⟨.bl b, rfl, .bl b⟩
    · rename_i i t j
      have e : i = j := by simpa using h
      subst e
      exact ⟨.int i, ⟨_, rfl⟩, .int i⟩
    · rename_i x t s
      have e : x = sx s := by simpa using h
      subst e
      exact ⟨.str _, ⟨_, rfl⟩, .str s⟩
    · rename_i a ds
      cases q : K.lookup a with
      | none => rw [q] at h; cases h
      | some o =>
        rw [q] at h
        simp only [Bool.and_eq_true] at h
        obtain ⟨h1, h2⟩ := h
        have hc : o.cls = .type "tuple" := by simpa using h1
        split at h2
        · rename_i its m hd
          rw [Bool.and_eq_true] at h2
          obtain ⟨vs, r1, r2⟩ := kdL_ok (kdV_ok n) h2.2
          exact ⟨.ref a, rfl, .tup (.inr ⟨o, its, m, q, hc, hd, le1000 (of_decide_eq_true h2.1), r1⟩) r2⟩
        · cases h2
    · cases h
/-- a constant of the module -/
theorem de_const {X : Cx} {E : XP} {x : Str} {d : D} {u : Value} {pos : Pos} (n : Nat) (hm : X.mg x = some u) (h : kdV n X.K u d = true) (hg : Gl X x := by rfl) (hd : (x == ("__debug__" : Str)) = false := by decide) : PE X (.Name x pos) (tE X.K E (cC d)) := by
  obtain ⟨v, hv, _⟩ := kdV_ok (H := fun _ => none) (M := fun _ => False) n u d h
  refine de_glob hm hv (fun H M => ?_) hg hd
  obtain ⟨v', hv', r⟩ := kdV_ok (H := H) (M := M) n u d h
  rw [hv.inj hv']; exact r
end Fro

namespace Fro
open PySem PySem.Spec L2

/-! ### tables of the module, keyed by texts -/
def lkT : List (Tx × D) → Tx → Option D
  | [], _ => none
  | (k, d) :: r, t => if k = t then some d else lkT r t
def kdE (n : Nat) (K : PySem.W.Frag) : List DictEntry → List (Tx × D) → Bool
  | [], [] => true
  | e :: es, (t, d) :: r => (match e.key with
    | .str x _ => x == sx t
    | _ => false) && kdV n K e.val d && kdE n K es r
  | _, _ => false
theorem kdE_find {n : Nat} {K : PySem.W.Frag} : ∀ {es : List DictEntry} {tbl : List (Tx × D)}, kdE n K es tbl = true → ∀ t : Tx,
    (es.any (·.refKey) = false) ∧ ((lkT tbl t = none ∧ es.find? (fun e => e.key.isStr (sx t)) = none) ∨ ∃ d e, lkT tbl t = some d ∧ es.find? (fun e => e.key.isStr (sx t)) = some e ∧ kdV n K e.val d = true)
  | [], [], _, t => ⟨rfl, .inl ⟨rfl, rfl⟩⟩
  | [], _ :: _, h, _ => by simp [kdE] at h
  | _ :: _, [], h, _ => by simp [kdE] at h
  | e :: es, (k, d) :: r, h, t => by
    unfold kdE at h
    simp only [Bool.and_eq_true] at h
    obtain ⟨⟨h1, h2⟩, h3⟩ := h
    obtain ⟨i1, i2⟩ := kdE_find h3 t
    cases qk : e.key with
    | str x tk =>
      rw [qk] at h1
      have ex : x = sx k := by simpa using h1
      subst ex
      have nr : e.refKey = false := by simp [DictEntry.refKey, qk]
      refine ⟨by rw [List.any_cons, nr, i1]; rfl, ?_⟩
      by_cases hk : k = t
      · subst hk
        refine .inr ⟨d, e, by simp [lkT], ?_, h2⟩
        rw [List.find?_cons]
        have : e.key.isStr (sx k) = true := by rw [qk]; simp [Value.isStr]
        rw [this]
      · have hf : e.key.isStr (sx t) = false := by
          rw [qk]
          show (sx k == sx t) = false
          rw [sx_beq]
          exact beq_eq_false_iff_ne.mpr hk
        have hl : lkT ((k, d) :: r) t = lkT r t := by
          show (if k = t then some d else lkT r t) = _
          rw [if_neg hk]
        rw [hl, List.find?_cons, hf]
        exact i2
    | _ => rw [qk] at h1; cases h1
structure KD (K : PySem.W.Frag) (w : World) (a : Addr) (tbl : List (Tx × D)) : Prop where
  ex : ∃ (es : Array DictEntry) (n m : Nat), KDict K w a es n ∧ kdE m K es.toList tbl = true
theorem KD.look {K : PySem.W.Frag} {w : World} {a : Addr} {tbl : List (Tx × D)} (h : KD K w a tbl) (t : Tx) :
    (lkT tbl t = none ∧ PySem.W.nsIn K a (sx t) = some none) ∨ ∃ d u v, lkT tbl t = some d ∧ PySem.W.nsIn K a (sx t) = some (some u) ∧ RelV v u ∧ ∀ H M, Rp K H M d v := by
  obtain ⟨es, n, m, kd, he⟩ := h.ex
  obtain ⟨h1, h2⟩ := kdE_find he t
  have hn : PySem.W.nsIn K a (sx t) = (match es.toList.find? (·.key.isStr (sx t)) with
      | some e => some (some e.val)
      | none => if es.toList.any (·.refKey) then none else some none) := by
    unfold PySem.W.nsIn
    rw [kd.at_]
    rfl
  rw [hn]
  rcases h2 with ⟨q1, q2⟩ | ⟨d, e, q1, q2, q3⟩
  · refine .inl ⟨q1, ?_⟩
    rw [q2, h1]
    rfl
  · obtain ⟨v, hv, _⟩ := kdV_ok (H := fun _ => none) (M := fun _ => False) m e.val d q3
    refine .inr ⟨d, e.val, v, q1, by rw [q2], hv, fun H M => ?_⟩
    obtain ⟨v', hv', r⟩ := kdV_ok (H := H) (M := M) m e.val d q3
    rw [hv.inj hv']; exact r
def apKIn (tbl : List (Tx × D)) (neg : Bool) (x : W) (S : Sto) : R W := match x with
  | .v (.str t) => .ok (.v (.bl (if neg then !(lkT tbl t).isSome else (lkT tbl t).isSome))) S
  | _ => .bad
def cKIn (tbl : List (Tx × D)) (neg : Bool) (a : Den W) : Den W := fun δ S => (a δ S).bind fun x S1 => apKIn tbl neg x S1
def apKGet (tbl : List (Tx × D)) (x : W) (S : Sto) : R W := match x with
  | .v (.str t) => (match lkT tbl t with
    | some d => .ok (.v d) S
    | none => .bad)
  | _ => .bad
def cKGet (tbl : List (Tx × D)) (a : Den W) : Den W := fun δ S => (a δ S).bind fun x S1 => apKGet tbl x S1
section
variable {X : Cx} {E : XP} {e : Expr} {x : Str} {p pos : Pos} {a : Den W} {d : Addr} {tbl : List (Tx × D)}
theorem de_kin (hk : KD X.K X.w d tbl) (hm : X.mg x = some (.ref d)) (ha : PE X e (tE X.K E a)) (hg : Gl X x := by rfl) (hd : (x == ("__debug__" : Str)) = false := by decide) (hmk : behindInMarks .In (.Name x p) = false := by rfl) : PE X (.Compare e [.In] [.Name x p] pos) (tE X.K E (cKIn tbl false a)) := by
  obtain ⟨es, n, m, kd, he⟩ := hk.ex
  refine pe_mono (pe_cmpR (op_in_kd kd) ha (pe_glob hg hm (v := .ref d) rfl hd) hmk) fun σ H Q ⟨δ, ρ, S, st, so, p⟩ => tG_then st so p fun w S1 v ρ1 H1 f1 st1 so1 r1 p1 => ?_
  unfold apKIn at p1
  split at p1
  · rename_i t
    cases r1
    rcases hk.look t with ⟨q1, q2⟩ | ⟨dd, u, vv, q1, q2, q3, q4⟩
    · exact ⟨_, none, rfl, rfl, q2, by rw [q1] at p1; exact p1 _ ρ1 H1 Fwd.refl so1 (.bl false)⟩
    · exact ⟨_, some u, rfl, rfl, q2, by rw [q1] at p1; exact p1 _ ρ1 H1 Fwd.refl so1 (.bl true)⟩
  · exact p1.elim
theorem de_knotin (hk : KD X.K X.w d tbl) (hm : X.mg x = some (.ref d)) (ha : PE X e (tE X.K E a)) (hg : Gl X x := by rfl) (hd : (x == ("__debug__" : Str)) = false := by decide) (hmk : behindInMarks .NotIn (.Name x p) = false := by rfl) : PE X (.Compare e [.NotIn] [.Name x p] pos) (tE X.K E (cKIn tbl true a)) := by
  obtain ⟨es, n, m, kd, he⟩ := hk.ex
  refine pe_mono (pe_cmpR (op_notIn_kd kd) ha (pe_glob hg hm (v := .ref d) rfl hd) hmk) fun σ H Q ⟨δ, ρ, S, st, so, p⟩ => tG_then st so p fun w S1 v ρ1 H1 f1 st1 so1 r1 p1 => ?_
  unfold apKIn at p1
  split at p1
  · rename_i t
    cases r1
    rcases hk.look t with ⟨q1, q2⟩ | ⟨dd, u, vv, q1, q2, q3, q4⟩
    · exact ⟨_, none, rfl, rfl, q2, by rw [q1] at p1; exact p1 _ ρ1 H1 Fwd.refl so1 (.bl true)⟩
    · exact ⟨_, some u, rfl, rfl, q2, by rw [q1] at p1; exact p1 _ ρ1 H1 Fwd.refl so1 (.bl false)⟩
  · exact p1.elim
theorem dt_kin (hk : KD X.K X.w d tbl) (hm : X.mg x = some (.ref d)) (ha : PE X e (tE X.K E a)) (hg : Gl X x := by rfl) (hd : (x == ("__debug__" : Str)) = false := by decide) (hmk : behindInMarks .In (.Name x p) = false := by rfl) : PT X (.Compare e [.In] [.Name x p] pos) (tT X.K E (cB (cKIn tbl false a))) := by
  obtain ⟨es, n, m, kd, he⟩ := hk.ex
  refine pt_mono (pt_cmpR (op_in_kd kd) ha (pe_glob hg hm (v := .ref d) rfl hd) hmk) fun σ H Q ⟨δ, ρ, S, st, so, p⟩ => ?_
  have p' : Post X.K (fun _ _ _ a b => a = b) ρ S H ((a δ S).bind fun w S1 => (apKIn tbl false w S1).bind asB) Q (E σ) := by
    have e : (cB (cKIn tbl false a)) δ S = (a δ S).bind fun w S1 => (apKIn tbl false w S1).bind asB := by
      unfold cB cKIn
      cases a δ S <;> rfl
    rw [e] at p; exact p
  refine tG_then st so p' fun w S1 v ρ1 H1 f1 st1 so1 r1 p1 => ?_
  unfold apKIn at p1
  split at p1
  · rename_i t
    cases r1
    rcases hk.look t with ⟨q1, q2⟩ | ⟨dd, u, vv, q1, q2, q3, q4⟩
    · exact ⟨_, none, rfl, rfl, q2, false, rfl, by rw [q1] at p1; exact p1 _ ρ1 H1 Fwd.refl so1 rfl⟩
    · exact ⟨_, some u, rfl, rfl, q2, true, rfl, by rw [q1] at p1; exact p1 _ ρ1 H1 Fwd.refl so1 rfl⟩
  · exact p1.elim
theorem dt_knotin (hk : KD X.K X.w d tbl) (hm : X.mg x = some (.ref d)) (ha : PE X e (tE X.K E a)) (hg : Gl X x := by rfl) (hd : (x == ("__debug__" : Str)) = false := by decide) (hmk : behindInMarks .NotIn (.Name x p) = false := by rfl) : PT X (.Compare e [.NotIn] [.Name x p] pos) (tT X.K E (cB (cKIn tbl true a))) := by
  obtain ⟨es, n, m, kd, he⟩ := hk.ex
  refine pt_mono (pt_cmpR (op_notIn_kd kd) ha (pe_glob hg hm (v := .ref d) rfl hd) hmk) fun σ H Q ⟨δ, ρ, S, st, so, p⟩ => ?_
  have p' : Post X.K (fun _ _ _ a b => a = b) ρ S H ((a δ S).bind fun w S1 => (apKIn tbl true w S1).bind asB) Q (E σ) := by
    have e : (cB (cKIn tbl true a)) δ S = (a δ S).bind fun w S1 => (apKIn tbl true w S1).bind asB := by
      unfold cB cKIn
      cases a δ S <;> rfl
    rw [e] at p; exact p
  refine tG_then st so p' fun w S1 v ρ1 H1 f1 st1 so1 r1 p1 => ?_
  unfold apKIn at p1
  split at p1
  · rename_i t
    cases r1
    rcases hk.look t with ⟨q1, q2⟩ | ⟨dd, u, vv, q1, q2, q3, q4⟩
    · exact ⟨_, none, rfl, rfl, q2, true, rfl, by rw [q1] at p1; exact p1 _ ρ1 H1 Fwd.refl so1 rfl⟩
    · exact ⟨_, some u, rfl, rfl, q2, false, rfl, by rw [q1] at p1; exact p1 _ ρ1 H1 Fwd.refl so1 rfl⟩
  · exact p1.elim
theorem de_kget (hk : KD X.K X.w d tbl) (hm : X.mg x = some (.ref d)) (ha : PE X e (tE X.K E a)) (hg : Gl X x := by rfl) (hd : (x == ("__debug__" : Str)) = false := by decide) (hs : PlainIx e := by exact fun _ _ => rfl) : PE X (.Subscript (.Name x p) e pos) (tE X.K E (cKGet tbl a)) := by
  obtain ⟨es, n, m, kd, he⟩ := hk.ex
  refine pe_mono (pe_ix ix_kdict (pe_glob hg hm (v := .ref d) rfl hd) ha hs) fun σ H Q ⟨δ, ρ, S, st, so, p⟩ => tG_then st so p fun w S1 v ρ1 H1 f1 st1 so1 r1 p1 => ?_
  unfold apKGet at p1
  split at p1
  · rename_i t
    cases r1
    rcases hk.look t with ⟨q1, q2⟩ | ⟨dd, u, vv, q1, q2, q3, q4⟩
    · simp only [q1] at p1; exact p1.elim
    · simp only [q1] at p1
      exact ⟨d, _, vv, rfl, rfl, ⟨es, n, u, kd.at_, kd.lit, q2, q3⟩, p1 _ ρ1 H1 Fwd.refl so1 (q4 _ _)⟩
  · exact p1.elim
end
end Fro

namespace Fro
open PySem PySem.Spec L2

/-! ### an object of the store is changed no more: it is a value from here on -/
def frz (w : W) (S : Sto) : R W := match w with
  | .r i => (match S[i]? with
    | some (.lst ds) => .ok (.v (.lst ds)) (S.set i .dead)
    | some (.dct es) => .ok (.v (.dct es)) (S.set i .dead)
    | _ => .bad)
  | w => .ok w S
def cFrz (a : Den W) : Den W := fun δ S => (a δ S).bind frz
section
variable {K : PySem.W.Frag} {ρ : List Addr} {S : Sto} {H : Hp}
theorem live_dead {i : Nat} {b : Addr} (h : live ρ (S.set i .dead) b) : live ρ S b ∧ ρ[i]? ≠ some b ∨ live ρ S b := by
  obtain ⟨j, o, h1, h2, h3⟩ := h
  by_cases hj : i = j
  · subst hj
    by_cases hl : i < S.length
    · rw [List.getElem?_set_self hl] at h2; cases h2; cases h3
    · rw [List.getElem?_eq_none (by rw [List.length_set]; omega)] at h2; cases h2
  · rw [List.getElem?_set_ne hj] at h2
    exact .inr ⟨j, o, h1, h2, h3⟩
theorem Fwd.frozen (i : Nat) : Fwd ρ S H ρ (S.set i .dead) H where
  ext := ⟨[], by simp⟩
  keep := fun b u _ e => e
  tups := fun b u e => e
  frzs := fun b u z e => e
  new := fun b l => by
    rcases live_dead l with q | q
    · exact .inl q.1
    · exact .inl q
theorem Sok.frozen (so : Sok K ρ S H) (i : Nat) : Sok K ρ (S.set i .dead) H := by
  have fw : Fwd ρ S H ρ (S.set i .dead) H := Fwd.frozen i
  refine ⟨by rw [List.length_set]; exact so.len, so.nd, fun j a o h1 h2 => ?_⟩
  by_cases hj : i = j
  · subst hj
    by_cases hl : i < S.length
    · rw [List.getElem?_set_self hl] at h2
      cases h2
      have q := so.obs i a S[i] h1 (List.getElem?_eq_getElem hl)
      cases e : S[i] with
      | lst ds => rw [e] at q; obtain ⟨xs, e1, _⟩ := q; exact ⟨_, e1⟩
      | dct ds => rw [e] at q; obtain ⟨xs, e1, _⟩ := q; exact ⟨_, e1⟩
      | dead => rw [e] at q; exact q
    · rw [List.getElem?_eq_none (by rw [List.length_set]; omega)] at h2; cases h2
  · rw [List.getElem?_set_ne hj] at h2
    have q := so.obs j a o h1 h2
    cases o with
    | lst ds => obtain ⟨xs, e, r⟩ := q; exact ⟨xs, e, fw.rpL r⟩
    | dct ds => obtain ⟨xs, e, r⟩ := q; exact ⟨xs, e, fw.rpE r⟩
    | dead => exact q
theorem Sok.frozenAt (so : Sok K ρ S H) {i : Nat} {a : Addr} (h1 : ρ[i]? = some a) (hl : i < S.length) : ¬ live ρ (S.set i .dead) a :=
  (so.frozen i).deadAt h1 (List.getElem?_set_self hl)
theorem frz_post {w : W} {v : V} {Q : VK} {Ex} (so : Sok K ρ S H) (r : RpW K ρ S H w v) (p : Post K (RpW K) ρ S H (frz w S) Q Ex) : Q v H := by
  cases w with
  | v d => exact p v ρ H Fwd.refl so r
  | s ns => exact p v ρ H Fwd.refl so r
  | lk es => exact p v ρ H Fwd.refl so r
  | x c ds => exact p v ρ H Fwd.refl so r
  | r i =>
    obtain ⟨a, rfl, ea⟩ := r
    cases q : S[i]? with
    | none => simp only [frz, q] at p; exact p.elim
    | some ob =>
      have hl : i < S.length := by
        rcases Nat.lt_or_ge i S.length with h | h
        · exact h
        · rw [List.getElem?_eq_none h] at q; cases q
      have fw : Fwd ρ S H ρ (S.set i .dead) H := Fwd.frozen i
      cases ob with
      | dead => simp only [frz, q] at p; exact p.elim
      | lst ds =>
        simp only [frz, q] at p
        obtain ⟨xs, e, rl⟩ := so.obs i a _ ea q
        exact p (.ref a) ρ H fw (so.frozen i) (Rp.lst e (so.frozenAt ea hl) (fw.rpL rl))
      | dct es =>
        simp only [frz, q] at p
        obtain ⟨xs, e, rl⟩ := so.obs i a _ ea q
        exact p (.ref a) ρ H fw (so.frozen i) (Rp.dct (.inl e) (so.frozenAt ea hl) (fw.rpE rl))
end
theorem de_frz {X : Cx} {E : XP} {e : Expr} {a : Den W} (h : PE X e (tE X.K E a)) : PE X e (tE X.K E (cFrz a)) :=
  pe_mono h fun σ H Q ⟨δ, ρ, S, st, so, p⟩ => tG_then st so p fun w S1 v ρ1 H1 f1 st1 so1 r1 p1 => frz_post so1 r1 p1

/-- a slot's object is a value from here on -/
def cFz (i : Nat) (b : DenS) : DenS := fun δ S => match δ[i]? with
  | some (some w) => (frz w S).thenS δ fun w' S1 => b (δ.set i (some w')) S1
  | _ => .bad
theorem fz_rp {K : PySem.W.Frag} {ρ : List Addr} {S : Sto} {H : Hp} {δ : Slots} {σ : L2.St} {i : Nat} {b : DenS} {D' : Ends} {E : XP} (st : RpSt K ρ S H δ σ) (so : Sok K ρ S H) (p : PostS K ρ S H (cFz i b δ S) D' E) :
    ∃ (δ' : Slots) (S' : Sto), RpSt K ρ S' H δ' σ ∧ Sok K ρ S' H ∧ PostS K ρ S' H (b δ' S') D' E := by
  unfold cFz at p
  cases q : δ[i]? with
  | none => simp only [q] at p; exact p.elim
  | some o =>
    cases o with
    | none => simp only [q] at p; exact p.elim
    | some w =>
      simp only [q] at p
      obtain ⟨v, ev, rv⟩ := st.2 i w q
      have hset : ∀ (S' : Sto) (w' : W), Fwd ρ S H ρ S' H → RpW K ρ S' H w' v → RpSt K ρ S' H (δ.set i (some w')) σ := fun S' w' f r => by
        have := (f.st st).set i r
        rw [show σ.set i (some v) = σ from by
          apply List.ext_getElem?
          intro j
          by_cases hj : i = j
          · subst hj
            have hl : i < σ.length := by
              rcases Nat.lt_or_ge i σ.length with h | h
              · exact h
              · rw [List.getElem?_eq_none h] at ev; cases ev
            rw [List.getElem?_set_self hl, ev]
          · rw [List.getElem?_set_ne hj]] at this
        exact this
      cases w with
      | v d => exact ⟨_, S, hset S _ Fwd.refl rv, so, p⟩
      | s ns => exact ⟨_, S, hset S _ Fwd.refl rv, so, p⟩
      | lk es => exact ⟨_, S, hset S _ Fwd.refl rv, so, p⟩
      | x c ds => exact ⟨_, S, hset S _ Fwd.refl rv, so, p⟩
      | r j =>
        obtain ⟨a, rfl, ea⟩ := rv
        cases q2 : S[j]? with
        | none => simp only [frz, q2] at p; exact p.elim
        | some ob =>
          have hl : j < S.length := by
            rcases Nat.lt_or_ge j S.length with h | h
            · exact h
            · rw [List.getElem?_eq_none h] at q2; cases q2
          have fw : Fwd ρ S H ρ (S.set j .dead) H := Fwd.frozen j
          cases ob with
          | dead => simp only [frz, q2] at p; exact p.elim
          | lst ds =>
            simp only [frz, q2] at p
            obtain ⟨xs, e, rl⟩ := so.obs j a _ ea q2
            exact ⟨_, _, hset _ (.v (.lst ds)) fw (Rp.lst e (so.frozenAt ea hl) (fw.rpL rl)), so.frozen j, PostS.later fw p⟩
          | dct es =>
            simp only [frz, q2] at p
            obtain ⟨xs, e, rl⟩ := so.obs j a _ ea q2
            exact ⟨_, _, hset _ (.v (.dct es)) fw (Rp.dct (.inl e) (so.frozenAt ea hl) (fw.rpE rl)), so.frozen j, PostS.later fw p⟩
theorem ds_fz {X : Cx} {E : XP} {s : Stmt} {b : DenS} (i : Nat) (h : PS X s (tS X.K E b)) : PS X s (tS X.K E (cFz i b)) :=
  ps_mono h fun D' σ H ⟨δ, ρ, S, st, so, p⟩ => by
    obtain ⟨δ', S', st', so', p'⟩ := fz_rp st so p
    exact ⟨δ', ρ, S', st', so', p'⟩

/-! ### calls without arguments -/
section
variable {X : Cx}
theorem de_call0 {x : Str} {p pos : Pos} {den : FDen} {k n : Nat} {f : Addr} {fd : FuncData} {ps : List Str} {ds : List Value} {dvs : List V} {dws : List W} (F : FnOk X.prog X.w X.K X.mg X.base (CX X.prog X.w) k f fd ps (spF X.K n den)) (hr : Room k X.A)
    (hm : X.mg x = some (.ref f)) (hk : PySem.W.keepIn X.K (.ref f) = true) (hb : Binds X.K fd ps ds) (hd : Vals dvs ds) (hw : ∀ ρ S H, RpWs X.K ρ S H dws dvs) (hg : Gl X x := by rfl)
    (hdb : (x == ("__debug__" : Str)) = false := by decide) :
    PE X (.Call (.Name x p) [] [] pos) (tE X.K XP0 (cCall n den cNil dws)) := pe_mono (pe_call0 F hr hg hm hk hb hd passF hdb) fun σ H Q ⟨δ, ρ, S, st, so, q⟩ => ⟨dws, ρ, S, hw _ _ _, so, res_post (fun _ _ _ _ _ _ z _ _ => z.elim) so q⟩
theorem de_call0M {x : Str} {p pos : Pos} {den : FDen} {k n : Nat} {f : Addr} {fd : FuncData} {ps : List Str} {ds : List Value} {dvs : List V} {dws : List W} (F : FnOk X.prog X.w X.K X.mg X.base (CX X.prog X.w) k f fd ps (spF X.K n den)) (hr : Room k X.A)
    (hm : X.mg x = some (.ref f)) (hk : PySem.W.keepIn X.K (.ref f) = true) (hb : Binds X.K fd ps ds) (hd : Vals dvs ds) (hw : ∀ ρ S H, RpWs X.K ρ S H dws dvs) (hg : Gl X x := by rfl)
    (hdb : (x == ("__debug__" : Str)) = false := by decide) :
    PE X (.Call (.Name x p) [] [] pos) (tE X.K XP0 (cCallM n den cNil dws)) := pe_mono (pe_call0 F hr hg hm hk hb hd passF hdb) fun σ H Q ⟨δ, ρ, S, st, so, q⟩ => ⟨dws, ρ, S, hw _ _ _, so, resM_post (fun _ _ _ _ _ _ z _ _ => z.elim) so q⟩
theorem de_call0X {Wx : WX} {x : Str} {p pos : Pos} {den : FDen} {k n : Nat} {f : Addr} {fd : FuncData} {ps : List Str} {ds : List Value} {dvs : List V} {dws : List W} (F : FnOk X.prog X.w X.K X.mg X.base (CX X.prog X.w) k f fd ps (spF X.K n den)) (hr : Room k X.A) (tk : Takes X Wx)
    (hm : X.mg x = some (.ref f)) (hk : PySem.W.keepIn X.K (.ref f) = true) (hb : Binds X.K fd ps ds) (hd : Vals dvs ds) (hw : ∀ ρ S H, RpWs X.K ρ S H dws dvs) (hg : Gl X x := by rfl)
    (hdb : (x == ("__debug__" : Str)) = false := by decide) :
    PE X (.Call (.Name x p) [] [] pos) (tE X.K (XPW X.K Wx) (cCall n den cNil dws)) := pe_mono (pe_callS0 (ES := fun σ cls d H => Wx cls d σ H) F hr hg hm hk hb hd (fun σ pins H s e s' I c => tk e s' (XE.of_call I (fun _ _ _ h => h) c)) hdb) fun σ H Q ⟨δ, ρ, S, st, so, q⟩ => ⟨dws, ρ, S, hw _ _ _, so, res_post (fun _ _ _ _ _ _ z so xr => z _ _ _ Fwd.refl so xr) so q⟩
theorem de_call0MX {Wx : WX} {x : Str} {p pos : Pos} {den : FDen} {k n : Nat} {f : Addr} {fd : FuncData} {ps : List Str} {ds : List Value} {dvs : List V} {dws : List W} (F : FnOk X.prog X.w X.K X.mg X.base (CX X.prog X.w) k f fd ps (spF X.K n den)) (hr : Room k X.A) (tk : Takes X Wx)
    (hm : X.mg x = some (.ref f)) (hk : PySem.W.keepIn X.K (.ref f) = true) (hb : Binds X.K fd ps ds) (hd : Vals dvs ds) (hw : ∀ ρ S H, RpWs X.K ρ S H dws dvs) (hg : Gl X x := by rfl)
    (hdb : (x == ("__debug__" : Str)) = false := by decide) :
    PE X (.Call (.Name x p) [] [] pos) (tE X.K (XPW X.K Wx) (cCallM n den cNil dws)) := pe_mono (pe_callS0 (ES := fun σ cls d H => Wx cls d σ H) F hr hg hm hk hb hd (fun σ pins H s e s' I c => tk e s' (XE.of_call I (fun _ _ _ h => h) c)) hdb) fun σ H Q ⟨δ, ρ, S, st, so, q⟩ => ⟨dws, ρ, S, hw _ _ _, so, resM_post (fun _ _ _ _ _ _ z so xr => z _ _ _ Fwd.refl so xr) so q⟩
end

/-! ### a, b = x, y -/
def cPar (is : List Nat) (a : Den (List W)) : DenS := fun δ S => (a δ S).thenS δ fun ws S1 => if ws.length = is.length then .nx ((is.zip ws).foldl (fun δ p => δ.set p.1 (some p.2)) δ) S1 else .bad
section
variable {X : Cx} {E : XP}
theorem ds_par (i j : Nat) {x y : Str} {e e' : Expr} {a : Den (List W)} {px py pt pos : Pos} {kt k2 pt2} (hN : X.N.Nodup) (ha : PA X [e, e'] (tA X.K E a)) (hc : X.calm = true := by rfl) (hi : X.N[i]? = some x := by rfl) (hj : X.N[j]? = some y := by rfl) (hij : i ≠ j := by decide)
    (hx : X.env.scope.names.lookup x = some .local := by rfl) (hy : X.env.scope.names.lookup y = some .local := by rfl)
    (hw : swappedStores [.Tuple [.Name x px, .Name y py] kt pt] (.Tuple [e, e'] k2 pt2) X.env = pure (some [x, y]) := by rfl)
    (hs : swapsWithSole [.Tuple [.Name x px, .Name y py] kt pt] (.Tuple [e, e'] k2 pt2) pos.line X.env = pure false := by rfl) :
    PS X (.Assign [.Tuple [.Name x px, .Name y py] kt pt] (.Tuple [e, e'] k2 pt2) pos) (tS X.K E (cPar [i, j] a)) :=
  ps_mono (ps_par hc hN hi hj hij hx hy ha hw hs) fun D' σ H ⟨δ, ρ, S, st, so, p⟩ => tG_thenS st so p fun ws S1 vs ρ1 H1 f1 st1 so1 r1 p1 => by
    by_cases hl : ws.length = [i, j].length
    · rw [if_pos hl] at p1
      match ws, vs, r1, hl with
      | [w1, w2], _, .cons (v := v1) q1 (.cons (v := v2) q2 .nil), _ => exact ⟨v1, v2, rfl, p1 _ ρ1 H1 Fwd.refl so1 ((st1.set i q1).set j q2)⟩
    · rw [if_neg hl] at p1; exact p1.elim
theorem ds_par3 (i j l : Nat) {x y z : Str} {e e' e'' : Expr} {a : Den (List W)} {px py pz pt pos : Pos} {kt k2 pt2} (hN : X.N.Nodup) (ha : PA X [e, e', e''] (tA X.K E a)) (hc : X.calm = true := by rfl) (hi : X.N[i]? = some x := by rfl) (hj : X.N[j]? = some y := by rfl) (hl : X.N[l]? = some z := by rfl) (hij : i ≠ j := by decide) (hil : i ≠ l := by decide) (hjl : j ≠ l := by decide)
    (hx : X.env.scope.names.lookup x = some .local := by rfl) (hy : X.env.scope.names.lookup y = some .local := by rfl) (hz : X.env.scope.names.lookup z = some .local := by rfl)
    (hw : swappedStores [.Tuple [.Name x px, .Name y py, .Name z pz] kt pt] (.Tuple [e, e', e''] k2 pt2) X.env = pure (some [x, y, z]) := by rfl)
    (hs : swapsWithSole [.Tuple [.Name x px, .Name y py, .Name z pz] kt pt] (.Tuple [e, e', e''] k2 pt2) pos.line X.env = pure false := by rfl) :
    PS X (.Assign [.Tuple [.Name x px, .Name y py, .Name z pz] kt pt] (.Tuple [e, e', e''] k2 pt2) pos) (tS X.K E (cPar [i, j, l] a)) :=
  ps_mono (ps_par3 hc hN hi hj hl hij hil hjl hx hy hz ha hw hs) fun D' σ H ⟨δ, ρ, S, st, so, p⟩ => tG_thenS st so p fun ws S1 vs ρ1 H1 f1 st1 so1 r1 p1 => by
    by_cases hl : ws.length = [i, j, l].length
    · rw [if_pos hl] at p1
      match ws, vs, r1, hl with
      | [w1, w2, w3], _, .cons (v := v1) q1 (.cons (v := v2) q2 (.cons (v := v3) q3 .nil)), _ => exact ⟨v1, v2, v3, rfl, p1 _ ρ1 H1 Fwd.refl so1 (((st1.set i q1).set j q2).set l q3)⟩
    · rw [if_neg hl] at p1; exact p1.elim
end

/-! ### methods of texts -/
def asX (w : W) (S : Sto) : R Tx := match w with
  | .v (.str t) => .ok t S
  | _ => .bad
def ap1 (g : D → Option D) (y : W) (S : Sto) : R W := match rd S y with
  | some e => (match g e with
    | some r => .ok (.v r) S
    | none => .bad)
  | none => .bad
def cM1 (g : Tx → D → Option D) (a b : Den W) : Den W := fun δ S => (a δ S).bind fun w S1 => (asX w S1).bind fun t S2 => (b δ S2).bind fun y S3 => ap1 (g t) y S3
def cM0 (g : Tx → Option D) (a : Den W) : Den W := fun δ S => (a δ S).bind fun w S1 => (asX w S1).bind fun t S2 => match g t with
  | some r => .ok (.v r) S2
  | none => .bad
def GM1 (K : PySem.W.Frag) (r : V → List V → Hp → VK → Prop) (g : Tx → D → Option D) : Prop := ∀ (ρ : List Addr) (S : Sto) (H : Hp) (t : Tx) (e z : D) (y : V) (Q : VK), Sok K ρ S H → Rq K H (live ρ S) e y → g t e = some z → Nxt K ρ S H z Q → r (.str (sx t)) [y] H Q
def GM0 (K : PySem.W.Frag) (r : V → List V → Hp → VK → Prop) (g : Tx → Option D) : Prop := ∀ (ρ : List Addr) (S : Sto) (H : Hp) (t : Tx) (z : D) (Q : VK), Sok K ρ S H → g t = some z → Nxt K ρ S H z Q → r (.str (sx t)) [] H Q
theorem asX_then {K : PySem.W.Frag} {α β : Type} {rel : Rl α β} {ρ : List Addr} {S : Sto} {H : Hp} {w : W} {v : V} {k : Tx → Sto → R α} {Q : β → Hp → Prop} {Ex} (r : RpW K ρ S H w v) (p : Post K rel ρ S H ((asX w S).bind k) Q Ex) : ∃ t, v = .str (sx t) ∧ Post K rel ρ S H (k t S) Q Ex := by
  cases w with
  | v d =>
    cases d with
    | str t => cases r; exact ⟨t, rfl, p⟩
    | _ => exact p.elim
  | r i => exact p.elim
  | s ns => exact p.elim
  | lk es => exact p.elim
  | x c ds => exact p.elim
section
variable {X : Cx} {E : XP} {o e : Expr} {apos pos : Pos} {a b : Den W} {name : Str}
theorem de_m1 {id : String} {r : V → List V → Hp → VK → Prop} {g : Tx → D → Option D} (slot : Slot "str" name id) (ty : typeOf (.builtin id) = pure (.type "method_descriptor")) (rule : MtR X id r) (hg : GM1 X.K r g) (ha : PE X o (tE X.K E a)) (hb : PE X e (tE X.K E b))
    (hs : starEach [e] X.env = [(false, eval e X.env)] := by rfl) (hbase : attributeBase o name X.env (eval o X.env) = eval o X.env := by rfl) (hline : (apos.endLine == pos.line) = true := by rfl) : PE X (.Call (.Attribute o name apos) [e] [] pos) (tE X.K E (cM1 g a b)) :=
  pe_mono (pe_m1 slot ty rule ha hb hs hbase hline) fun σ H Q ⟨δ, ρ, S, st, so, p⟩ => tG_then st so p fun w S1 x ρ1 H1 f1 st1 so1 r1 p1 => by
    obtain ⟨t, rfl, p2⟩ := asX_then r1 p1
    refine ⟨⟨_, rfl⟩, tG_then st1 so1 p2 fun y S2 u ρ2 H2 f2 st2 so2 r2 p3 => ?_⟩
    unfold ap1 at p3
    cases q1 : rd S2 y with
    | none => simp only [q1] at p3; exact p3.elim
    | some d =>
      cases q3 : g t d with
      | none => simp only [q1, q3] at p3; exact p3.elim
      | some z =>
        simp only [q1, q3] at p3
        exact hg ρ2 S2 H2 t d z u Q so2 (rd_ok so2 r2 q1) q3 fun v H' f so' rp => p3 v ρ2 H' f so' rp
theorem de_m0 {id : String} {r : V → List V → Hp → VK → Prop} {g : Tx → Option D} (slot : Slot "str" name id) (ty : typeOf (.builtin id) = pure (.type "method_descriptor")) (rule : MtR X id r) (hg : GM0 X.K r g) (ha : PE X o (tE X.K E a))
    (hbase : attributeBase o name X.env (eval o X.env) = eval o X.env := by rfl) (hline : (apos.endLine == pos.line) = true := by rfl) : PE X (.Call (.Attribute o name apos) [] [] pos) (tE X.K E (cM0 g a)) :=
  pe_mono (pe_m0 slot ty rule ha hbase hline) fun σ H Q ⟨δ, ρ, S, st, so, p⟩ => tG_then st so p fun w S1 x ρ1 H1 f1 st1 so1 r1 p1 => by
    obtain ⟨t, rfl, p2⟩ := asX_then r1 p1
    refine ⟨⟨_, rfl⟩, ?_⟩
    cases q3 : g t with
    | none => simp only [q3] at p2; exact p2.elim
    | some z =>
      simp only [q3] at p2
      exact hg ρ1 S1 H1 t z Q so1 q3 fun v H' f so' rp => p2 v ρ1 H' f so' rp
end
/-- the texts of a row -/
def txs : List D → Option (List Tx)
  | [] => some []
  | .str t :: r => (txs r).map (t :: ·)
  | _ => none
theorem txs_rp {K : PySem.W.Frag} {H : Hp} {M : Addr → Prop} : ∀ {ds : List D} {ts : List Tx} {vs : List V}, txs ds = some ts → RpL K H M ds vs → vs = (ts.map sx).map V.str
  | [], ts, _, e, .nil => by cases e; rfl
  | .str t :: r, ts, _, e, .cons a b => by
    unfold txs at e
    cases q : txs r with
    | none => rw [q] at e; cases e
    | some us =>
      rw [q] at e
      cases e
      cases a
      rw [txs_rp q b]
      rfl
  | .non :: _, _, _, e, _ => by cases e
  | .bl _ :: _, _, _, e, _ => by cases e
  | .int _ :: _, _, _, e, _ => by cases e
  | .tup _ :: _, _, _, e, _ => by cases e
  | .lst _ :: _, _, _, e, _ => by cases e
  | .dct _ :: _, _, _, e, _ => by cases e
  | .ty _ :: _, _, _, e, _ => by cases e
def joinT (s : Tx) : List Tx → Tx
  | [] => []
  | [p] => p
  | p :: q :: r => p ++ (s ++ joinT s (q :: r))
theorem joinT_eq (s : Tx) : ∀ ts : List Tx, TL.joinL s ts = joinT s ts
  | [] => rfl
  | [_] => rfl
  | p :: q :: r => by
    show p ++ (s ++ TL.joinL s (q :: r)) = p ++ (s ++ joinT s (q :: r))
    rw [joinT_eq s (q :: r)]
def gJoin (s : Tx) : D → Option D := fun d => match (match d with
    | .lst ds => txs ds
    | .tup ds => txs ds
    | _ => none) with
  | some ts => if (ts.map List.length).sum + ts.length * s.length ≤ 1000000 then some (.str (joinT s ts)) else none
  | none => none
theorem gm_join {K : PySem.W.Frag} : GM1 K (fun x xs H Q => ∃ a p, ∃ ys : List Str, x = .str a ∧ xs = [.ref p] ∧ (SqL K H p (ys.map V.str) ∨ SqT K H p (ys.map V.str)) ∧
    (ys.map (·.length)).sum + ys.length * a.length ≤ 16777216 ∧ Q (.str (Txt.join a ys)) H) gJoin := fun ρ S H t e z y Q so r q n => by
  have fin : ∀ ts : List Tx, (if (ts.map List.length).sum + ts.length * t.length ≤ 1000000 then some (D.str (joinT t ts)) else none) = some z →
      ((ts.map sx).map (·.length)).sum + (ts.map sx).length * (sx t).length ≤ 16777216 ∧ Q (.str (Txt.join (sx t) (ts.map sx))) H := fun ts h => by
    by_cases hl : (ts.map List.length).sum + ts.length * t.length ≤ 1000000
    · rw [if_pos hl] at h
      cases h
      refine ⟨?_, ?_⟩
      · have e1 : ((ts.map sx).map (·.length)) = ts.map List.length := SX.lens ts
        rw [e1, List.length_map, sx_length]
        omega
      · have e2 : Txt.join (sx t) (ts.map sx) = sx (joinT t ts) := (SX.join_S t ts).trans (congrArg sx (joinT_eq t ts))
        rw [e2]
        exact nxt_here so (.str _) n
    · rw [if_neg hl] at h; cases h
  unfold gJoin at q
  cases e with
  | lst ds =>
    simp only at q
    cases q1 : txs ds with
    | none => rw [q1] at q; cases q
    | some ts =>
      rw [q1] at q
      obtain ⟨h1, h2⟩ := fin ts q
      obtain ⟨a, xs, rfl, ea, rl⟩ := r.lstE
      cases txs_rp q1 rl
      exact ⟨_, a, ts.map sx, rfl, rfl, .inl (SqL.of ea), h1, h2⟩
  | tup ds =>
    simp only at q
    cases q1 : txs ds with
    | none => rw [q1] at q; cases q
    | some ts =>
      rw [q1] at q
      obtain ⟨h1, h2⟩ := fin ts q
      obtain ⟨a, xs, rfl, ea, rl⟩ := r.tup
      cases txs_rp q1 rl
      exact ⟨_, a, ts.map sx, rfl, rfl, .inr ea, h1, h2⟩
  | non => cases q
  | bl _ => cases q
  | int _ => cases q
  | str _ => cases q
  | dct _ => cases q
  | ty _ => cases q
theorem de_join {X : Cx} {E : XP} {o e : Expr} {apos pos : Pos} {a b : Den W} (ha : PE X o (tE X.K E a)) (hb : PE X e (tE X.K E b))
    (hs : starEach [e] X.env = [(false, eval e X.env)] := by rfl) (hbase : attributeBase o "join" X.env (eval o X.env) = eval o X.env := by rfl) (hline : (apos.endLine == pos.line) = true := by rfl) : PE X (.Call (.Attribute o "join" apos) [e] [] pos) (tE X.K E (cM1 gJoin a b)) :=
  de_m1 F.slot_str_join F.type_str_join mt_join gm_join ha hb hs hbase hline
end Fro

namespace Fro
open PySem PySem.Spec L2

section
variable {P : Program} {w : World} {K : PySem.W.Frag} {mg : Str → Option Value} {base : Heap}
theorem fn_denD {x qual : Str} {params : Arguments} {stm : List Stmt} {scope : Scope} {dvs : List V} {kws : List (Str × V)} {f : Addr} {fd : FuncData} {N ps : List Str} {k n m : Nat} {body : DenS} (F : FunD K x qual params stm scope dvs kws f fd) (S : FnScope N ps scope)
    (hb : ∀ (cdv : Value) (A : Around) (outer : List Env) (s : Shared) (H : Hp) (E : XK), Room k (A.deeper (PyProof.Rows.envOfC qual scope s.heap.objs.size f cdv)) → Takes (cxOf (CX P w) P w K mg base N qual scope f cdv A outer s H E) (fun cls d _ H => E cls d H) → PassesOwn (model P w) (cxOf (CX P w) P w K mg base N qual scope f cdv A outer s H E).A (cxOf (CX P w) P w K mg base N qual scope f cdv A outer s H E).env (cxOf (CX P w) P w K mg base N qual scope f cdv A outer s H E).xe →
      PSs (cxOf (CX P w) P w K mg base N qual scope f cdv A outer s H E) stm (tS K (XPW K fun cls d _ H => E cls d H) body)) (hn : ps.length = n := by rfl) (hm : N.length = m := by rfl) :
    FnOk P w K mg base (CX P w) (k + 1) f fd ps (spF K n (fdef m body)) := by
  subst hn; subst hm
  refine funD_ok F S (fun vs H Q E h => ?_) (fun cdv A outer s H vs Q E hr h => ?_)
  · obtain ⟨ws, ρ, S, r, so, p⟩ := h
    by_cases hl : ws.length = ps.length
    · rw [← r.length]; exact hl
    · unfold chk at p; rw [if_neg hl] at p; exact p.elim
  · obtain ⟨ws, ρ, S, r, so, p⟩ := h
    by_cases hl : ws.length = ps.length
    · unfold chk at p
      rw [if_pos hl] at p
      exact ⟨_, hb cdv A outer s H E hr (takes_of rfl rfl rfl rfl) (passes_of rfl), slots0 N.length ws, ρ, S, start_rp r, so, end_post so p⟩
    · unfold chk at p; rw [if_neg hl] at p; exact p.elim
theorem fn_zero {f : Addr} {fd : FuncData} {ps : List Str} {k n : Nat} {den : FDen} (h : den = fun _ _ => .bad) : FnOk P w K mg base (CX P w) k f fd ps (spF K n den) := by
  subst h
  have no : ∀ vs H Q E, ¬ spF K n (fun _ _ => .bad) vs H Q E := fun vs H Q E ⟨ws, ρ, S, r, so, p⟩ => by
    unfold chk at p
    split at p <;> exact p
  exact ⟨fun vs H Q E h => absurd h (no vs H Q E), fun A outer s H args us vs Q E _ _ _ _ h => absurd h (no vs H Q E)⟩
end

/-- the law's own end -/
theorem end_sp {K : PySem.W.Frag} {H : Hp} {a : Addr} {ns : List Int} {fd : FDen} {E : XK} (h : fd [.s ns] [] = .ok (.v (.bl true)) []) (hS : SqL K H a (ns.map V.int)) : spF K 1 fd [.ref a] H (fun v _ => v = .bl true) E := by
  have nl : ∀ b, ¬ live [] [] b := fun b ⟨i, o, h1, _⟩ => by simp at h1
  refine ⟨[.s ns], [], [], .cons ⟨a, rfl, Scr.of hS (nl a)⟩ .nil, ⟨rfl, List.nodup_nil, fun i a o h1 _ => by simp at h1⟩, ?_⟩
  unfold chk
  rw [if_pos (show [W.s ns].length = 1 from rfl), h]
  intro v H' f so r
  cases r
  rfl
theorem dfl_one {K : PySem.W.Frag} {u : Value} {d : D} {v : V} {n : Nat} (h : kdV n K u d = true) (hv : RelV v u) : ∀ ρ S H, RpW K ρ S H (.v d) v := fun ρ S H => by
  obtain ⟨v', hv', r⟩ := kdV_ok (H := H) (M := live ρ S) n u d h
  rw [hv.inj hv']; exact r

/-! ### -x -/
def apNeg (x : W) (S : Sto) : R W := match x with
  | .v (.int i) => .ok (.v (.int (-i))) S
  | _ => .bad
def cNeg (a : Den W) : Den W := fun δ S => (a δ S).bind fun x S1 => apNeg x S1
theorem de_neg {X : Cx} {E : XP} {e : Expr} {pos : Pos} {a : Den W} (h : PE X e (tE X.K E a)) : PE X (.UnaryOp .USub e pos) (tE X.K E (cNeg a)) :=
  pe_mono (pe_un un_neg h) fun σ H Q ⟨δ, ρ, S, st, so, p⟩ => tG_then st so p fun w S1 v ρ1 H1 f1 st1 so1 r1 p1 => by
    unfold apNeg at p1
    split at p1
    · rename_i i
      cases r1
      exact ⟨i, rfl, p1 _ ρ1 H1 Fwd.refl so1 (.int _)⟩
    · exact p1.elim
/-! ### is True -/
def gIsB : D → D → Option D := fun d e => match d, e with
  | .bl a, .bl b => some (.bl (decide (a = b)))
  | _, _ => none
def gIsNotB : D → D → Option D := fun d e => match d, e with
  | .bl a, .bl b => some (.bl (!decide (a = b)))
  | _, _ => none
theorem g2_isB {K : PySem.W.Frag} : G2 K rIsB gIsB := fun ρ S H d e z x y Q so rx ry q n => by
  unfold gIsB at q
  split at q
  · cases q
    exact ⟨_, _, rx.bl, ry.bl, nxt_here so (.bl _) n⟩
  · cases q
theorem g2_isNotB {K : PySem.W.Frag} : G2 K rNotB gIsNotB := fun ρ S H d e z x y Q so rx ry q n => by
  unfold gIsNotB at q
  split at q
  · cases q
    exact ⟨_, _, rx.bl, ry.bl, nxt_here so (.bl _) n⟩
  · cases q
/-! ### xs[::-1] -/
def apRev (x : W) (S : Sto) : R W := match rd S x with
  | some (.lst ds) => .ok (.v (.lst ds.reverse)) S
  | _ => .bad
def cRev (a : Den W) : Den W := fun δ S => (a δ S).bind fun x S1 => apRev x S1
theorem de_rev {X : Cx} {E : XP} {e : Expr} {k : Nat} {p1 p2 p3 pos : Pos} {a : Den W} (h : PE X e (tE X.K E a)) : PE X (.Subscript e (.Slice none none (some (.UnaryOp .USub (.Constant (.int 1) k p1) p2)) p3) pos) (tE X.K E (cRev a)) :=
  pe_mono (pe_revL h) fun σ H Q ⟨δ, ρ, S, st, so, p⟩ => tG_then st so p fun w S1 v ρ1 H1 f1 st1 so1 r1 p1 => by
    unfold apRev at p1
    split at p1
    · rename_i ds q
      obtain ⟨b, xs, rfl, hb, rb⟩ := (rd_ok so1 r1 q).lstE
      exact ⟨b, xs, rfl, SqL.of hb, nxt_lst so1 rb.reverse fun v H' f so' rp => p1 v ρ1 H' f so' rp⟩
    · exact p1.elim
/-! ### name = [..] -/
section
variable {X : Cx} {E : XP}
theorem asg_comp {g : TG} {dg : DenG} {ts vs : List Nat} {it : Den (List D)} {tt : Den Bool} {te : Den W} (i : Nat) (hgo : GOk X.K g dg ts) (hts : ∀ j ∈ ts, j ∈ vs) {D' : Ends} {σ : L2.St} {H : Hp}
    (h : tS X.K E (cAsg (cComp it dg tt te vs) (gN i)) D' σ H) : tAsg (tLc (tI X.K E it) g (tT X.K XP0 tt) (tE X.K XP0 te) vs) (gName i) D' σ H := by
  have hm : ∀ {den : Den W}, tS X.K E (cAsg den (gN i)) D' σ H → tE X.K E den σ H fun x H1 => gName i x σ H1 D'.nx := fun {den} ⟨δ, ρ, S, st, so, p⟩ => tG_thenS st so p fun w S1 v ρ1 H1 f1 st1 so1 r1 p1 => asg_post (gok_name i) st1 so1 r1 p1
  have q := hm h
  refine comp_post hgo hts (kf := fun S1 S2 => if S2.length = S1.length + 1 then (match S2[S1.length]? with
    | some (.lst acc) => .ok (.v (.lst acc)) (S2.take S1.length)
    | _ => .bad) else .bad) (fun ρ1 ρ2 S1 S2 H1 H2 D' so1 nD f so2 e p => ?_) q
  by_cases hl : S2.length = S1.length + 1
  · simp only [if_pos hl] at p
    cases q : S2[S1.length]? with
    | none => rw [q] at p; exact p.elim
    | some ob =>
      cases ob with
      | dct es => rw [q] at p; exact p.elim
      | dead => rw [q] at p; exact p.elim
      | lst acc =>
        rw [q] at p
        obtain ⟨xs, ex, rl⟩ := so2.obs _ _ _ e q
        obtain ⟨more, em⟩ := f.ext
        have t := so2.take S1.length
        rw [em, take_pre so1.len, ← em] at t
        refine p (.ref D') ρ1 H2 (f.cut so1.len so2.len) t.1 (Rp.lst ex (fun l => so1.notIn nD ?_) (rl.weak t.2))
        obtain ⟨j, o, h1, _, _⟩ := l
        exact List.mem_of_getElem? h1
  · simp only [if_neg hl] at p; exact p.elim
theorem ds_setComp (i : Nat) {y : Str} {py : Pos} {elt tg iter : Expr} {ifs : List Expr} {scope : Scope} {own : List (Str × Nat)} {pos spos : Pos} {it : Den (List D)} {g : TG} {dg : DenG} {ts : List Nat} {tt : Den Bool} {te : Den W} (hc : X.calm = true) (hN : X.N.Nodup) (hi : PI X tg iter (tI X.K E it)) (hgo : GOk X.K g dg ts) (ok : blkC X.N X.env.scope scope own = true)
    (hg : ∀ (s : Shared) (H : Hp) (C : Addr) (cl : List (Str × Addr)) (fp : List Addr), PG (X.blk s H scope (compEnvC scope cl C X.env) fp) tg g) (ht : ∀ (s : Shared) (H : Hp) (C : Addr) (cl : List (Str × Addr)) (fp : List Addr), PTs (X.blk s H scope (compEnvC scope cl C X.env) fp) ifs (tT X.K XP0 tt))
    (he : ∀ (s : Shared) (H : Hp) (C : Addr) (cl : List (Str × Addr)) (fp : List Addr), PE (X.blk s H scope (compEnvC scope cl C X.env) fp) elt (tE X.K XP0 te)) (hs : ∀ x, foldedSetIterable iter X.env x = pure x := by intro _; rfl) (hts : ∀ j ∈ ts, j ∈ own.map (·.2) := by decide)
    (hy : X.N[i]? = some y := by rfl) (hyl : X.env.scope.names.lookup y = some .local := by rfl) (hsw : swapsWith (.ListComp elt [⟨tg, iter, ifs, 0⟩] scope pos) (some (.Name y py)) spos.line X.env = pure true := by exact sw_true rfl rfl rfl (by decide +kernel)) :
    PS X (.Assign [.Name y py] (.ListComp elt [⟨tg, iter, ifs, 0⟩] scope pos) spos) (tS X.K E (cAsg (cComp it dg tt te (own.map (·.2))) (gN i))) :=
  ps_mono (ps_setLc hc hN hy hyl hsw hi (blkOk_by ok) hg ht he hs) fun D' σ H h => asg_comp i hgo hts h
end
end Fro

/-! Fro, exceptions: the classes' own __init__, over super().__init__. -/
namespace Fro
open PySem PySem.Spec L2 PyProof.Rows NdefX ClX

/-- an __init__ at f that closes over its class D -/
structure SupFn (P : Program) (K : PySem.W.Frag) (f D : Addr) (F : NF) : Prop where
  lk : ∃ (oc : Value) (od : Option Addr) (doc pm ctv : Value) (sl : Array (Option Value)), K.lookup f = some ⟨oc, od, .func (F.fd doc pm ctv), sl⟩
  cd : PySem.W.codeIn K (.ref F.c) F.qual = true
  file : ∃ (ccl : Value) (cdd : Option Addr) (vs : Array Value) (ccs : Array (Option Value)) (fl : Str) (tf : Tok), K.lookup F.c = some ⟨ccl, cdd, .fields vs, ccs⟩ ∧ vs[2]? = some (.str fl tf) ∧ ((P.main.file : Str) == fl) = true
  cell : ∃ (cc : Addr) (cl : Value) (cld : Option Addr) (csl : Array (Option Value)), F.cl = [(("__class__" : Str), cc)] ∧ K.lookup cc = some ⟨cl, cld, .cell (some (.ref D)), csl⟩
  isC : ∃ cd, PySem.W.clsIn K D = some cd
  sup : (P.main.scope.names.lookup ("super" : Str)).isSome = false
  par : ∃ ar : Arg, (F.params.posonlyargs ++ F.params.args).head? = some ar ∧ ar.arg = ("self" : Str)
  ks : F.scope.names.lookup ("super" : Str) = some .globalImplicit
  kc : F.scope.names.lookup ("__class__" : Str) = some .free

theorem sup_base {X : Cx} {pins : List (Addr × Obj)} {σ : L2.St} {H : Hp} {s : Shared} {f D C a L : Addr} {F : NF} {body : List Stmt} {p0 p1 : Pos} {whole : Sem Value} {E : Value → Shared → Prop} {Q : Value → Shared → Prop} {ox : Obj}
    (I : Inv X pins σ H s) (hE : X.env = envF F f L) (SF : SupFn X.prog X.K f D F) (h0 : X.N[0]? = some ("self" : Str)) (h1 : σ[0]? = some (some (.ref a))) (hkl : F.scope.names.lookup ("self" : Str) = some .local) (hm : X.mg "super" = none)
    (ha : s.heap.get? a = some ox) (hxc : ox.cls = .ref C) (hnc : ∀ c, ox.data ≠ .cls c) (hsub : PySem.W.mroIn X.K C (.ref D) = some true)
    (h : ∀ h', h'.get? s.heap.objs.size = some (PySem.W.ks_superObj D a C) → (∀ y o, s.heap.get? y = some o → h'.get? y = some o) → Q (.ref s.heap.objs.size) { s with heap := h' }) :
    _root_.PySem.wpAt (model X.prog X.w) X.A (.func body X.env) (attributeBase (.Call (.Name "super" p0) [] [] p1) "__init__" X.env whole) Q E s := by
  have kin := I.kIn
  obtain ⟨oc, od, doc, pm, ctv, sl, lk⟩ := SF.lk
  obtain ⟨ccl, cdd, vs, ccs, fl, tf, hcode, hvs, hfile⟩ := SF.file
  obtain ⟨cc, cl, cld, csl, ecl, hcell⟩ := SF.cell
  obtain ⟨cdD, hD⟩ := SF.isC
  obtain ⟨ar, hp, hn⟩ := SF.par
  obtain ⟨oD, hD1, hD2⟩ : ∃ oD, s.heap.get? D = some oD ∧ oD.data = .cls cdD := by
    unfold PySem.W.clsIn at hD
    split at hD
    · rename_i c d cd' sl ho
      cases hD
      exact ⟨_, kin _ _ ho, rfl⟩
    · cases hD
  have hkind := I.ok.kind
  have hfn : X.env.func = some f := by rw [hE]
  have hco : X.env.code = .ref F.c := by rw [hE]
  have hks : X.env.kindOf "super" = some .globalImplicit := by rw [hE]; exact SF.ks
  have hkc : X.env.kindOf "__class__" = some .free := by rw [hE]; exact SF.kc
  have hcl : X.env.cells.lookup ("__class__" : Str) = some cc := by rw [hE]; show F.cl.lookup _ = _; rw [ecl]; rfl
  have hkl' : X.env.kindOf "self" = some .local := by rw [hE]; exact hkl
  obtain ⟨m, hns, hl⟩ := id I.loc
  obtain ⟨u, ru, lu⟩ := hl 0 "self" (.ref a) h0 h1 (.inl (by rw [hE]; exact hkl))
  obtain rfl : u = Value.ref a := ru
  have hv : m "self" = some (.ref a) := by
    rcases lu with ⟨_, e⟩ | ⟨k, _⟩
    · exact e
    · rw [hkl'] at k; rcases k with k | k <;> cases k
  obtain ⟨mb, hb1, hb2⟩ := I.mod.blt
  refine ks_wpAt_super_base (env := X.env) hks hkc (by decide) hfn (kin _ _ lk) rfl hp hco (kin _ _ hcode) rfl hvs hfile SF.sup ?_
  refine PySem.W.ks_loadName_global hkind hks (Calls.loadGlobal_builtin (by rw [I.ok.glob]; exact I.mod.glob.keeps I.bk) hm (by rw [I.ok.blt]; exact hb1.keeps I.bk) ((hb2 _ (by decide +kernel)).trans (show bootBuiltins "super" = some (.type "super") from by first | boot_by_name | rfl | kernel_rfl)) ⟨rfl, ?_⟩)
  refine wpAny_loadName_free hkind hkc hcl ⟨_, kin _ _ hcell, rfl⟩ ?_
  rw [hn]
  refine wpAny_loadName_local hkind hkl' hns hv ?_
  obtain ⟨hh, g, d, t, os⟩ := s
  refine ks_wpAny_isType_cls hD1 hD2 ⟨rfl, ?_⟩
  exact ks_wpAny_call_super hD1 hD2 ha hxc hnc (PySem.W.looks_mroIn kin hsub) fun h' e k => h h' e k
end Fro

namespace Fro
open PySem PySem.Spec L2 PyProof.Rows NdefX ClX

section
variable {X : Cx} {pins : List (Addr × Obj)} {σ : L2.St} {H : Hp} {s : Shared} {f D C a L : Addr} {F : NF} {body : List Stmt} {p0 p1 p2 p3 p4 : Pos} {E : Value → Shared → Prop} {Q : Flow → Shared → Prop} {ox : Obj}
/-- super().__init__(), the next one a def -/
theorem sup_own {pl : Sem Bool} {f2 : Addr} {fd2 : FuncData} {sp2 : Sp} {k : Nat} {Qv : VK} (I : Inv X pins σ H s) (hE : X.env = envF F f L) (SF : SupFn X.prog X.K f D F) (h0 : X.N[0]? = some ("self" : Str)) (h1 : σ[0]? = some (some (.ref a))) (hkl : F.scope.names.lookup ("self" : Str) = some .local) (hm : X.mg "super" = none)
    (ha : s.heap.get? a = some ox) (hxc : ox.cls = .ref C) (hnc : ∀ c, ox.data ≠ .cls c) (hsub : PySem.W.mroIn X.K C (.ref D) = some true)
    (ho : PySem.W.nsIn X.K cStatics "thirdparty.any" = some none) (hm2 : PySem.W.ks_superIn X.K C D "__init__" = some (some (.ref f2))) (ht : PySem.W.typeIn X.K (.ref f2) = some (.type "function")) (hfn : PySem.W.fnIn X.K f2 = true)
    (F2 : L2.FnOk X.prog X.w X.K X.mg X.base CX0 k f2 fd2 ["self"] sp2) (hr : L2.Room k X.A) (hb2 : Binds X.K fd2 ["self"] []) (q : sp2 [.ref a] H Qv (fun _ _ _ => False))
    (hQ : ∀ s' v H', Inv X pins σ H' s' → Qv v H' → Q .next s')
    (hcc : eval (.Call (.Attribute (.Call (.Name "super" p0) [] [] p1) "__init__" p2) [] [] p3) X.env = (do
      let ov ← attributeBase (.Call (.Name "super" p0) [] [] p1) "__init__" X.env (eval (.Call (.Name "super" p0) [] [] p1) X.env)
      standAt p2.atName
      let (f, first) ← holding [ov] (getMethod ov "__init__" pl)
      callWith p3 f first (backTo p3 (starEach [] X.env)) []) := by rfl) :
    _root_.PySem.wpAt (model X.prog X.w) X.A (.func body X.env) (exec (.Expr (.Call (.Attribute (.Call (.Name "super" p0) [] [] p1) "__init__" p2) [] [] p3) p4) X.env) Q E s := by
  refine ks_wpAt_Expr_any (ks_wpAt_MethodCall (sup_base I hE SF h0 h1 hkl hm ha hxc hnc hsub fun h' e k => ?_) hcc) I.quiet
  have I1 : Inv X pins σ H { s with heap := h' } := I.kept (t' := s.toks) k
  have kin := I1.kIn
  obtain ⟨hh, g, d, t, os⟩ := s
  cases hc : PySem.W.clsIn X.K C with
  | none => unfold PySem.W.ks_superIn at hm2; rw [hc] at hm2; cases hm2
  | some cd =>
    unfold PySem.W.ks_superIn at hm2
    rw [hc] at hm2
    obtain ⟨of, hof, hofc⟩ : ∃ of, h'.get? f2 = some of ∧ of.cls = .type "function" := by
      have ht' : (X.K.lookup f2).map (·.cls) = some (.type "function") := ht
      cases z : X.K.lookup f2 with
      | none => rw [z] at ht'; cases ht'
      | some of => rw [z] at ht'; exact ⟨of, kin _ _ z, Option.some.inj ht'⟩
    have IA : PySem.W.InstAt h' a ox C (ox.dict.bind fun d => h'.get? d) → a ≠ C := fun J => PySem.W.ks_ne kin J hc
    have neC : a ≠ C := by
      rintro rfl
      unfold PySem.W.clsIn at hc
      split at hc
      · rename_i c' d' cd' sl' ho'
        have e2 := kin _ _ ho'
        rw [k _ _ ha] at e2
        cases e2
        exact hnc _ rfl
      · cases hc
    refine ks_wpAny_getMethod_super e (PySem.W.looks_opaque kin ho) (l₀ := cd.mro) (fun A Q E s k q => wpAny_bind ((PySem.W.looks_clsIn kin hc) A _ E s k (wpAny_pure q))) rfl kin hm2 hof hofc neC (by decide) ?_
    have k2 : ∀ b o, h'.get? b = some o → (h'.push { cls := .type "method", data := .fields #[.ref f2, .ref a] }).get? b = some o := fun b o z => Heap.get?_push_of_some _ z
    have I2 : Inv X pins σ H ⟨h'.push { cls := .type "method", data := .fields #[.ref f2, .ref a] }, g, d, t + 1, os⟩ := I1.kept (t' := t + 1) k2
    have hq : (h'.push { cls := .type "method", data := .fields #[.ref f2, .ref a] }).get? h'.objs.size = some (PySem.W.methodObj (.ref f2) (.ref a)) := Heap.get?_push_at rfl rfl
    refine PySem.W.callWith_M0 (K := X.K) ⟨hq, I2.kIn⟩ hfn ?_
    refine wpAny_call (PySem.W.method_call hq ?_)
    refine codeAny_mono (F2.run X.A X.stack _ H ⟨[.ref a], []⟩ [.ref a] [.ref a] Qv (fun _ _ _ => False) hr I2.env0 (hb2 _ [.ref a] I2.kIn rfl) (.cons rfl .nil) q) fun r s' hres => ?_
    match r, hres with
    | .error err, hres => exact hres.elim
    | .ok .next, hres => exact hres.elim
    | .ok .brk, hres => exact hres.elim
    | .ok .cont, hres => exact hres.elim
    | .ok (.ret u), hres =>
      obtain ⟨v, H', J, rv, z⟩ := I2.after hres
      exact hQ s' v H' J z
/-- super().__init__(e), the next one ValueError's -/
theorem sup_blt {pl : Sem Bool} {e : Expr} {ta : TA} (I : Inv X pins σ H s) (hE : X.env = envF F f L) (SF : SupFn X.prog X.K f D F) (h0 : X.N[0]? = some ("self" : Str)) (h1 : σ[0]? = some (some (.ref a))) (hkl : F.scope.names.lookup ("self" : Str) = some .local) (hm : X.mg "super" = none)
    (ea : H a = some (exo a C none)) (T : OexC X.K C) (hsub : PySem.W.mroIn X.K C (.ref D) = some true) (hB : PySem.W.subIn X.K (.ref C) (.type "ValueError") = some true)
    (ho : PySem.W.nsIn X.K cStatics "thirdparty.any" = some none) (hm2 : PySem.W.ks_superIn X.K C D "__init__" = some (some (.builtin "ValueError.__init__")))
    (hA : PA X [e] ta) (q : ta σ H fun vs H1 => vs.length ≤ 1000 ∧ H1 = H)
    (hQ : ∀ s', Inv X pins σ H s' → Q .next s')
    (hx : ∀ u s, X.xe u s → E u s)
    (hs : swapsWith (.Call (.Attribute (.Call (.Name "super" p0) [] [] p1) "__init__" p2) [e] [] p3) none p4.line X.env = pure false := by rfl)
    (he : starEach [e] X.env = [(false, eval e X.env)] := by rfl)
    (hcc : eval (.Call (.Attribute (.Call (.Name "super" p0) [] [] p1) "__init__" p2) [e] [] p3) X.env = (do
      let ov ← attributeBase (.Call (.Name "super" p0) [] [] p1) "__init__" X.env (eval (.Call (.Name "super" p0) [] [] p1) X.env)
      standAt p2.atName
      let (f, first) ← holding [ov] (getMethod ov "__init__" pl)
      callWith p3 f first (backTo p3 (starEach [e] X.env)) []) := by rfl) :
    _root_.PySem.wpAt (model X.prog X.w) X.A (.func body X.env) (exec (.Expr (.Call (.Attribute (.Call (.Name "super" p0) [] [] p1) "__init__" p2) [e] [] p3) p4) X.env) Q E s := by
  obtain ⟨nm, qn, N, bs, bm, sn, sub, ab, col, dd, k0, k1, k2, k3, k5, hC, hbm⟩ := T.cls
  obtain ⟨t1, hget⟩ := exo_at I.hok ea
  refine ks_wpAt_Expr_any (ks_wpAt_MethodCall (sup_base I hE SF h0 h1 hkl hm hget rfl (fun c z => nomatch z) hsub fun h' e' k => ?_) hcc) I.quiet hs
  have I1 : Inv X pins σ H { s with heap := h' } := I.kept (t' := s.toks) k
  have kin := I1.kIn
  obtain ⟨hh, g, d, t, os⟩ := s
  cases hc : PySem.W.clsIn X.K C with
  | none => unfold PySem.W.ks_superIn at hm2; rw [hc] at hm2; cases hm2
  | some cd =>
    unfold PySem.W.ks_superIn at hm2
    rw [hc] at hm2
    have hget' := k _ _ hget
    have J : PySem.W.InstAt h' a ({ cls := .ref C, dict := none, data := .fields #[.ref t1, .none, .none, .none, .bool false, .none] } : Obj) C none := ⟨hget', rfl, rfl, trivial⟩
    have hI : PySem.W.Looks (model X.prog X.w) h' (isInstance (.ref a) (.type "ValueError")) true := J.type.andThen (PySem.W.looks_subIn kin hB)
    refine PySem.W.kxs_getMethod PySem.W.kxs_ValueError e' (PySem.W.looks_opaque kin ho) (l₀ := cd.mro) (fun A Q E s k q => wpAny_bind ((PySem.W.looks_clsIn kin hc) A _ E s k (wpAny_pure q))) rfl kin hm2 hI (PySem.W.ks_ne kin J hc) (by decide) ?_
    have kp : ∀ b o, h'.get? b = some o → (h'.push (PySem.W.kxs_mw "ValueError.__init__" a)).get? b = some o := fun b o z => Heap.get?_push_of_some _ z
    have hu : (h'.push (PySem.W.kxs_mw "ValueError.__init__" a)).get? h'.objs.size = some (PySem.W.kxs_mw "ValueError.__init__" a) := Heap.get?_push_at rfl rfl
    have I2 : Inv X ((h'.objs.size, PySem.W.kxs_mw "ValueError.__init__" a) :: pins) σ H ⟨h'.push (PySem.W.kxs_mw "ValueError.__init__" a), g, d, t + 1, os⟩ := pin_new (s := ⟨h', g, d, t, os⟩) (t' := t + 1) I1 kp (Nat.le_refl _) hu (fun v z => nomatch z)
    show wpAny _ _ (callWith p3 (.ref h'.objs.size) [] (backTo p3 (starEach [e] X.env)) []) _ _ _
    rw [he]
    refine PySem.W.kxs_callWith (i := "ValueError.__init__") (x := a) (by rfl) (PySem.Calls.evalArgs_plain ?_)
    have hrun := hA.run p3 _ _ σ H _ I2 q
    rw [he] at hrun
    refine wpAny_mono hrun (fun us s1 hz => ?_) fun u s1 z => hx u s1 z
    obtain ⟨vs, H1, I3, rv, hl, eH⟩ := hz
    subst eH
    refine ⟨pin_at I3, ?_⟩
    obtain ⟨t3, hget3⟩ := exo_at I3.hok ea
    obtain ⟨h3, g3, d3, tk3, os3⟩ := s1
    have hu3 := pin_at I3
    refine wpAny_call (codeAny_of_tree ?_)
    show wpAny _ X.A.in1 (callAny (.ref h'.objs.size) ⟨us, []⟩) _ _ _
    simp only [callAny]
    refine wpAny_bind (wpAny_load hu3 ?_)
    simp only [PySem.W.kxs_mw, show (Value.type "method-wrapper" == Value.type "method" || Value.type "method-wrapper" == Value.type "builtin_function_or_method" || Value.type "method-wrapper" == Value.type "method-wrapper") = true by decide, if_true]
    refine PySem.W.KFB.if_so (by decide) ?_
    refine wpAny_bind (PySem.W.check_bound_init PySem.F.excBase_ValueError.toExcCallFacts (I3.kIn _ _ hC) hget3 rfl ?_)
    refine wpAny_bind (wpAny_pure (wpAny_pure ?_))
    refine ⟨plainId_quiet PySem.F.excBase_ValueError.init.plain _, codeAny_builtin PySem.F.excBase_ValueError.initEntry ?_⟩
    have hlen : us.length ≤ sizeLine := by
      rw [← Paired.length rv, sizeLine_eq]
      omega
    refine PySem.W.exc_init_tree (cls := .ref C) (t0 := t3) (dv := none) (c2 := .none) (c3 := .none) (b4 := .bool false) hget3 hlen fun h4 k4 hx4 _ => ?_
    have J4 := (unpin I3).write (t' := tk3) (x := a) (e := a) (o := exo a C none) (by rw [ea]; exact True.intro) (.inl rfl) k4 ⟨_, hx4⟩ (exo_ok hx4)
    have eu : upd H1 a (exo a C none) = H1 := by
      funext b
      by_cases hb : b = a
      · rw [hb, upd_same, ea]
      · rw [upd_ne hb]
    rw [eu] at J4
    exact hQ _ J4
end
end Fro

namespace Fro
open PySem PySem.Spec L2 PyProof.Rows NdefX ClX

section
variable {P : Program} {w : World} {K : PySem.W.Frag} {mg : Str → Option Value} {base : Heap} {f D : Addr} {F : NF} {N ps : List Str} {k : Nat} {sp : Sp}
/-- an __init__ over super(), by its body -/
theorem sup_fn (SF : SupFn P K f D F) (S : NScope N ps ["__class__"] F.scope) (hb : ∀ (doc pm ctv : Value) (us : List Value), us.length = ps.length → bindArgs (F.fd doc pm ctv) ⟨us, []⟩ = pure (ps.zip us)) (len : ∀ vs H Q E, sp vs H Q E → vs.length = ps.length)
    (hbody : ∀ (A : Around) (outer : List Env) (s : Shared) (H : Hp) (vs : List V) (Q : VK) (E : XK), L2.Room k (A.deeper (envF F f s.heap.objs.size)) → sp vs H Q E → ∀ s1, Inv (ncx CX0 P w K mg base N F f A outer s H E) [] (startF N vs [some (.ref D)]) H s1 →
      _root_.PySem.wpAt (model P w) (ncx CX0 P w K mg base N F f A outer s H E).A (.func F.body (ncx CX0 P w K mg base N F f A outer s H E).env) (execs F.body (ncx CX0 P w K mg base N F f A outer s H E).env) (SP (ncx CX0 P w K mg base N F f A outer s H E) [] { nx := fun _ H' => Q .non H', rt := Q }) (ncx CX0 P w K mg base N F f A outer s H E).xe s1) :
    ∃ fd, Binds K fd ps [] ∧ L2.FnOk P w K mg base CX0 (k + 1) f fd ps sp := by
  obtain ⟨oc, od, doc, pm, ctv, sl, lk⟩ := SF.lk
  refine ⟨F.fd doc pm ctv, fun s us _ hl => .of_eq (by rw [List.append_nil] at hl ⊢; exact hb doc pm ctv us hl), len, fun A outer s H args us vs Q E hr e0 hbd r hsp => ?_⟩
  have hl := len _ _ _ _ hsp
  have all : ∀ b o, base.get? b = some o → s.heap.get? b = some o := fun b o e => (e0.bs b o e).1
  have inK : K.In s.heap := e0.mod.kin.keeps all
  have lim : s.heap.NoLimit := e0.mod.nolimit.keeps all
  obtain ⟨cc, cl, cld, csl, ecl, hcell⟩ := SF.cell
  have C : CellsAt F.cl ["__class__"] [some (.ref D)] s.heap H := by
    rw [ecl]
    have one : ∀ y c, List.lookup y [(("__class__" : Str), cc)] = some c → y = ("__class__" : Str) ∧ c = cc := fun y c e => by
      unfold List.lookup at e
      split at e
      · rename_i q; cases e; exact ⟨by simpa using q, rfl⟩
      · cases e
    have ic : s.heap.IsCell cc (some (.ref D)) := ⟨_, inK _ _ hcell, rfl⟩
    refine ⟨rfl, fun y c e => ?_, fun x y c e1 e2 => (one x c e1).1.trans (one y c e2).1.symm, fun i y e => ?_⟩
    · obtain ⟨_, rfl⟩ := one y c e
      exact ⟨(e0.bs _ _ (e0.mod.kin _ _ hcell)).2, _, ic⟩
    · cases i with
      | succ i => simp at e
      | zero =>
        simp at e
        subst e
        exact ⟨cc, by simp [List.lookup], fun v z => by simp at z; subst z; exact ⟨_, rfl, ic⟩⟩
  refine codeAny_call_function hr.depth (inK _ _ lk) rfl S.co S.gen rfl (PySem.W.codeRec_of inK SF.cd) (hbd _ _ _ _ ?_)
  refine wpAny_newFunctionEnv S.nocell (fun ⟨n, _⟩ hy => S.par n (List.of_mem_zip hy).1) (fun h₁ hns hsb => ⟨lim.fresh _ hsb, ?_⟩) S.kind
  show codeAny _ _ (.func F.body (envF F f s.heap.objs.size)) _ _
  refine ks_codeAny_funcAt ?_
  have kp : ∀ b o, s.heap.get? b = some o → h₁.get? b = some o := fun b o e => hsb.extBut b o (Nat.ne_of_lt (Heap.lt_size e)) (Heap.get?_push_of_some _ e)
  have I : Inv (ncx CX0 P w K mg base N F f A outer s H E) [] (startF N vs [some (.ref D)]) H { s with heap := h₁, toks := s.toks + (ps.zip us).length } := inv_startN S hr.hd e0 hl r C hns kp
  refine _root_.PySem.wpAt_mono (hbody A outer s H vs Q E (hr.deeper _) hsp _ I) (fun fl s' hs => ?_) fun e s' hs => hs
  have fin : ∀ {σ' : L2.St} {H' : Hp} {v : V} {u : Value}, Inv (ncx CX0 P w K mg base N F f A outer s H E) [] σ' H' s' → L2.RelV v u → Q v H' → CE outer P w H s Q u s' :=
    fun {σ' H' v u} J rv q => ⟨v, H', J.os, J.bare, J.base, J.hok, rv, q⟩
  cases fl with
  | ret u =>
    obtain ⟨v, σ', H', J, rv, q⟩ := hs
    exact fin J rv q
  | next =>
    obtain ⟨σ', H', J, q⟩ := hs
    exact fin (v := V.non) (u := Value.none) J rfl q
  | brk =>
    obtain ⟨_, _, _, q⟩ := hs
    exact False.elim q
  | cont =>
    obtain ⟨_, _, _, q⟩ := hs
    exact False.elim q
end

/-- what the written part says of a class C under KindError (at D0) -/
structure KeC (K : PySem.W.Frag) (D0 C : Addr) : Prop where
  ox : OexC K C
  mro : PySem.W.mroIn K C (.ref D0) = some true
  ve : PySem.W.subIn K (.ref C) (.type "ValueError") = some true
  up : PySem.W.ks_superIn K C D0 "__init__" = some (some (.builtin "ValueError.__init__"))
def spKe (K : PySem.W.Frag) (D0 : Addr) : Sp := fun vs H Q _ => ∃ a C, vs = [.ref a] ∧ H a = some (exo a C none) ∧ KeC K D0 C ∧ Q .non H
/-- the tree of super().__init__(es) -/
def SupTree (p0 p1 p2 p3 : Pos) (es : List Expr) (pl : Env → Sem Bool) : Prop := ∀ env : Env, eval (.Call (.Attribute (.Call (.Name "super" p0) [] [] p1) "__init__" p2) es [] p3) env = (do
      let ov ← attributeBase (.Call (.Name "super" p0) [] [] p1) "__init__" env (eval (.Call (.Name "super" p0) [] [] p1) env)
      standAt p2.atName
      let (f, first) ← holding [ov] (getMethod ov "__init__" (pl env))
      callWith p3 f first (backTo p3 (starEach es env)) [])
/-- KindError.__init__ -/
theorem ke_init {P : Program} {w : World} {K : PySem.W.Frag} {mg : Str → Option Value} {base : Heap} {f D0 : Addr} {F : NF} {x : Str} {j : Nat} {p0 p1 p2 p3 p4 p5 : Pos} {pl : Env → Sem Bool} (SF : SupFn P K f D0 F) (S : NScope ["self", "__class__"] ["self"] ["__class__"] F.scope)
    (hb : ∀ (doc pm ctv : Value) (us : List Value), us.length = 1 → bindArgs (F.fd doc pm ctv) ⟨us, []⟩ = pure ([("self" : Str)].zip us))
    (hbody : F.body = [.Expr (.Call (.Attribute (.Call (.Name "super" p0) [] [] p1) "__init__" p2) [.Constant (.str x) j p5] [] p3) p4]) (hcc : SupTree p0 p1 p2 p3 [.Constant (.str x) j p5] pl)
    (hm : mg "super" = none) (ho : PySem.W.nsIn K cStatics "thirdparty.any" = some none) :
    ∃ fd, Binds K fd ["self"] [] ∧ L2.FnOk P w K mg base CX0 1 f fd ["self"] (spKe K D0) := by
  refine sup_fn SF S hb (fun vs H Q E ⟨a, C, e, _⟩ => by rw [e]; rfl) fun A outer s H vs Q E hr hsp s1 I => ?_
  obtain ⟨a, C, rfl, ea, T, q⟩ := hsp
  rw [hbody]
  refine ks_wpAt_execs_cons ?_
  refine sup_blt (X := ncx CX0 P w K mg base ["self", "__class__"] F f A outer s H E) (ta := tCons (tC (.str x)) tNil) (L := s.heap.objs.size) (H := H) (σ := startF ["self", "__class__"] [.ref a] [some (.ref D0)]) (C := C) (pins := []) I rfl SF rfl rfl (S.par _ (by simp)) hm ea T.ox T.mro T.ve ho T.up (pa_cons pe_str pa_nil) ?_ (fun s' J => ?_) (fun _ _ z => z) rfl rfl (hcc _)
  · exact ⟨by simp, rfl⟩
  · exact _root_.PySem.wpAt_of_wpAny (wpAny_execs_nil ⟨_, H, J, q⟩)

/-- what an __init__ that keeps its parameters promises -/
def spX (C : Addr) (fl : List Str) : Sp := fun vs H Q _ => ∃ a ws, vs = .ref a :: ws ∧ ws.length = fl.length ∧ H a = some (exo a C none) ∧ ∀ d, H d = none → d ≠ a → Q .non (upd (upd H d (exd d (fl.zip ws).reverse)) a (exo a C (some d)))
theorem exo_eq {a C C' : Addr} {d : Option Addr} (h : exo a C d = exo a C' d) : True := trivial
section
variable {P : Program} {w : World} {K : PySem.W.Frag} {mg : Str → Option Value} {base : Heap} {f f0 C D0 : Addr} {F : NF} {fd0 : FuncData} {p0 p1 p2 p3 p4 : Pos} {pl : Env → Sem Bool}
/-- C.__init__(self, a): super().__init__(); self.a = a -/
theorem x_init1 {n1 : Str} {q1 q2 q3 q4 : Pos} (SF : SupFn P K f C F) (S : NScope ["self", n1, "__class__"] ["self", n1] ["__class__"] F.scope)
    (hb : ∀ (doc pm ctv : Value) (us : List Value), us.length = 2 → bindArgs (F.fd doc pm ctv) ⟨us, []⟩ = pure ([("self" : Str), n1].zip us))
    (hbody : F.body = [.Expr (.Call (.Attribute (.Call (.Name "super" p0) [] [] p1) "__init__" p2) [] [] p3) p4, .Assign [.Attribute (.Name "self" q1) n1 q2] (.Name n1 q3) q4]) (hcc : SupTree p0 p1 p2 p3 [] pl)
    (hm : mg "super" = none) (ho : PySem.W.nsIn K cStatics "thirdparty.any" = some none) (T : KeC K D0 C) (hself : PySem.W.mroIn K C (.ref C) = some true) (hup : PySem.W.ks_superIn K C C "__init__" = some (some (.ref f0)))
    (ht : PySem.W.typeIn K (.ref f0) = some (.type "function")) (hfn : PySem.W.fnIn K f0 = true) (hb0 : Binds K fd0 ["self"] []) (F0 : L2.FnOk P w K mg base CX0 1 f0 fd0 ["self"] (spKe K D0))
    (hn1 : PySem.W.findIn K (.ref C) n1 = some none) (hd1 : (n1 == ("__debug__" : Str)) = false := by decide) (hc1 : (n1 == ("__classdict__" : Str)) = false := by decide) :
    ∃ fd, Binds K fd ["self", n1] [] ∧ L2.FnOk P w K mg base CX0 2 f fd ["self", n1] (spX C [n1]) := by
  refine sup_fn SF S hb (fun vs H Q E ⟨a, ws, e, hl, _⟩ => by rw [e]; simp [hl]) fun A outer s H vs Q E hr hsp s1 I => ?_
  obtain ⟨a, ws, rfl, hl, ea, q⟩ := hsp
  obtain ⟨v, rfl⟩ : ∃ v, ws = [v] := by
    match ws, hl with
    | [v], _ => exact ⟨v, rfl⟩
  rw [hbody]
  obtain ⟨t1, hget⟩ := exo_at I.hok ea
  refine ks_wpAt_execs_cons ?_
  refine sup_own (X := ncx CX0 P w K mg base ["self", n1, "__class__"] F f A outer s H E) (C := C) (D := C) (L := s.heap.objs.size) (σ := startF ["self", n1, "__class__"] [.ref a, v] [some (.ref C)]) (Qv := fun _ H' => H' = H) (sp2 := spKe K D0) I rfl SF rfl rfl (S.par _ (by simp)) hm hget rfl (fun c z => nomatch z) hself ho hup ht hfn F0 hr hb0 ⟨a, C, rfl, ea, T, rfl⟩ (fun s' u H' J eH => ?_) (hcc _)
  subst eH
  refine _root_.PySem.wpAt_of_wpAny ?_
  have W : PSs (ncx CX0 P w K mg base ["self", n1, "__class__"] F f A outer s H' E) [.Assign [.Attribute (.Name "self" q1) n1 q2] (.Name n1 q3) q4] (tOst K n1 (tVar 0) (tVar 1)) :=
    pss_one (ps_ost (pe_var rfl (.inl (S.par _ (by simp))) (by decide) (by decide)) (pe_var rfl (.inl (S.par _ (by simp))) hd1 hc1))
  refine W.run [] s' _ H' _ J ?_
  exact ⟨v, rfl, .ref a, rfl, a, C, rfl, T.ox, hn1, .inl ⟨ea, fun d nd ne => q d nd ne⟩⟩
/-- .. with two parameters -/
theorem x_init2 {n1 n2 : Str} {q1 q2 q3 q4 r1 r2 r3 r4 : Pos} (SF : SupFn P K f C F) (S : NScope ["self", n1, n2, "__class__"] ["self", n1, n2] ["__class__"] F.scope)
    (hb : ∀ (doc pm ctv : Value) (us : List Value), us.length = 3 → bindArgs (F.fd doc pm ctv) ⟨us, []⟩ = pure ([("self" : Str), n1, n2].zip us))
    (hbody : F.body = [.Expr (.Call (.Attribute (.Call (.Name "super" p0) [] [] p1) "__init__" p2) [] [] p3) p4, .Assign [.Attribute (.Name "self" q1) n1 q2] (.Name n1 q3) q4, .Assign [.Attribute (.Name "self" r1) n2 r2] (.Name n2 r3) r4]) (hcc : SupTree p0 p1 p2 p3 [] pl)
    (hm : mg "super" = none) (ho : PySem.W.nsIn K cStatics "thirdparty.any" = some none) (T : KeC K D0 C) (hself : PySem.W.mroIn K C (.ref C) = some true) (hup : PySem.W.ks_superIn K C C "__init__" = some (some (.ref f0)))
    (ht : PySem.W.typeIn K (.ref f0) = some (.type "function")) (hfn : PySem.W.fnIn K f0 = true) (hb0 : Binds K fd0 ["self"] []) (F0 : L2.FnOk P w K mg base CX0 1 f0 fd0 ["self"] (spKe K D0))
    (hn1 : PySem.W.findIn K (.ref C) n1 = some none) (hn2 : PySem.W.findIn K (.ref C) n2 = some none) (hd1 : (n1 == ("__debug__" : Str)) = false := by decide) (hc1 : (n1 == ("__classdict__" : Str)) = false := by decide) (hd2 : (n2 == ("__debug__" : Str)) = false := by decide) (hc2 : (n2 == ("__classdict__" : Str)) = false := by decide) :
    ∃ fd, Binds K fd ["self", n1, n2] [] ∧ L2.FnOk P w K mg base CX0 2 f fd ["self", n1, n2] (spX C [n1, n2]) := by
  refine sup_fn SF S hb (fun vs H Q E ⟨a, ws, e, hl, _⟩ => by rw [e]; simp [hl]) fun A outer s H vs Q E hr hsp s1 I => ?_
  obtain ⟨a, ws, rfl, hl, ea, q⟩ := hsp
  obtain ⟨v, u, rfl⟩ : ∃ v u, ws = [v, u] := by
    match ws, hl with
    | [v, u], _ => exact ⟨v, u, rfl⟩
  rw [hbody]
  obtain ⟨t1, hget⟩ := exo_at I.hok ea
  refine ks_wpAt_execs_cons ?_
  refine sup_own (X := ncx CX0 P w K mg base ["self", n1, n2, "__class__"] F f A outer s H E) (C := C) (D := C) (L := s.heap.objs.size) (σ := startF ["self", n1, n2, "__class__"] [.ref a, v, u] [some (.ref C)]) (Qv := fun _ H' => H' = H) (sp2 := spKe K D0) I rfl SF rfl rfl (S.par _ (by simp)) hm hget rfl (fun c z => nomatch z) hself ho hup ht hfn F0 hr hb0 ⟨a, C, rfl, ea, T, rfl⟩ (fun s' z H' J eH => ?_) (hcc _)
  subst eH
  refine _root_.PySem.wpAt_of_wpAny ?_
  have W : PSs (ncx CX0 P w K mg base ["self", n1, n2, "__class__"] F f A outer s H' E) [.Assign [.Attribute (.Name "self" q1) n1 q2] (.Name n1 q3) q4, .Assign [.Attribute (.Name "self" r1) n2 r2] (.Name n2 r3) r4] (tSeq (tOst K n1 (tVar 0) (tVar 1)) (tOst K n2 (tVar 0) (tVar 2))) :=
    pss_cons (ps_ost (pe_var rfl (.inl (S.par _ (by simp))) (by decide) (by decide)) (pe_var rfl (.inl (S.par _ (by simp))) hd1 hc1)) (pss_one (ps_ost (pe_var rfl (.inl (S.par _ (by simp))) (by decide) (by decide)) (pe_var rfl (.inl (S.par _ (by simp))) hd2 hc2)))
  refine W.run [] s' _ H' _ J ?_
  refine ⟨v, rfl, .ref a, rfl, a, C, rfl, T.ox, hn1, .inl ⟨ea, fun d nd ne => ?_⟩⟩
  refine ⟨u, rfl, .ref a, rfl, a, C, rfl, T.ox, hn2, .inr ⟨d, [(n1, v)], upd_same, by rw [upd_ne ne, upd_same], by simp, ?_⟩⟩
  have e : upd (upd (upd H' d (exd d [(n1, v)])) a (exo a C (some d))) d (exd d ((n2, u) :: [(n1, v)])) = upd (upd H' d (exd d ([n1, n2].zip [v, u]).reverse)) a (exo a C (some d)) := by
    funext b
    by_cases hd : b = d
    · rw [hd, upd_same, upd_ne ne, upd_same]; rfl
    · rw [upd_ne hd]
      by_cases ha : b = a
      · rw [ha, upd_same, upd_same]
      · rw [upd_ne ha, upd_ne ha, upd_ne hd, upd_ne hd]
  have q' := q d nd ne
  rw [← e] at q'
  exact q'
end
end Fro

/-! Fro, exceptions: raise, try, what a caught one has. -/
namespace Fro
open PySem PySem.Spec L2 PyProof.Rows NdefX ClX

/-! ### raise -/
/-- the class c stands at C, its __init__ at fI -/
structure XCls (P : Program) (w : World) (K : PySem.W.Frag) (mg : Str → Option Value) (base : Heap) (c : Nat) (C fI : Addr) : Prop where
  gC : mg (xname c) = some (.ref C)
  ns : PySem.W.nsIn K mainGlobals (xname c) = some (some (.ref C))
  ox : OexC K C
  iC : PySem.W.findIn K (.ref C) "__init__" = some (some (.ref fI))
  tI : PySem.W.typeIn K (.ref fI) = some (.type "function")
  F : ∃ fd, Binds K fd ("self" :: xflds c) [] ∧ L2.FnOk P w K mg base CX0 2 fI fd ("self" :: xflds c) (spX C (xflds c))
def cRaise (c : Nat) (a : Den (List W)) : DenS := fun δ S => (a δ S).thenS δ fun ws S1 => match toDs ws with
  | some ds => if ds.length = (xflds c).length then .xc c ds δ S1 else .bad
  | none => .bad
theorem xflds_nodup (c : Nat) : (xflds c).Nodup := by
  unfold xflds
  split <;> decide +kernel
theorem xflds_len (c : Nat) : (xflds c).length ≤ 2 := by
  unfold xflds
  split <;> decide
theorem zipV_look : ∀ {ps : List Str} {us : List V} {i : Nat} {x : Str} {u : V}, ps.Nodup → ps[i]? = some x → us[i]? = some u → (ps.zip us).reverse.lookup x = some u
  | [], _, _, _, _, _, h, _ => by simp at h
  | _ :: _, [], _, _, _, _, _, h => by simp at h
  | p :: ps, v :: us, 0, x, u, nd, h1, h2 => by
    simp at h1 h2
    subst h1
    subst h2
    have hn : (ps.zip us).reverse.lookup p = none := by
      cases e : (ps.zip us).reverse.lookup p with
      | none => rfl
      | some w => exact absurd (List.of_mem_zip (List.mem_reverse.mp (PySem.mem_of_lookup e))).1 (List.nodup_cons.mp nd).1
    rw [List.zip_cons_cons, List.reverse_cons, List.lookup_append, hn]
    simp [List.lookup]
  | p :: ps, v :: us, i + 1, x, u, nd, h1, h2 => by
    have e : (ps.zip us).reverse.lookup x = some u := zipV_look (i := i) (List.nodup_cons.mp nd).2 (by simpa using h1) (by simpa using h2)
    rw [List.zip_cons_cons, List.reverse_cons, List.lookup_append, e] <;> rfl
section
variable {X : Cx} {Wx : WX}
theorem ds_raise {c : Nat} {C fI : Addr} {x : Str} {e : Expr} {es : List Expr} {p pos pos' : Pos} {a : Den (List W)} (T : XCls X.prog X.w X.K X.mg X.base c C fI) (hr : Room 3 X.A) (tk : Takes X Wx) (hc : X.calm = true) (ha : PA X (e :: es) (tA X.K (XPW X.K Wx) a)) (hx : xname c = x := by rfl) (hg : Gl X x := by rfl)
    (hdb : (x == ("__debug__" : Str)) = false := by decide) (he : starEach (e :: es) X.env = (false, eval e X.env) :: starEach es X.env := by rfl) (hpl : (backTo pos (starEach es X.env)).any (·.1) = false := by rfl) :
    PS X (.Raise (some (.Call (.Name x p) (e :: es) [] pos)) none pos') (tS X.K (XPW X.K Wx) (cRaise c a)) := by
  subst hx
  obtain ⟨fd, hb, F⟩ := T.F
  refine ps_mono (ps_raise hc tk (pmk_oex (dvs := []) (ds := []) T.ox T.iC T.tI F hr.r hb .nil (fun _ _ _ _ _ _ _ z => z.elim) hg T.gC ha hdb he hpl)) fun D' σ H ⟨δ, ρ, S, st, so, p⟩ => ?_
  refine tG_thenS st so p fun ws S1 vs ρ1 H1 f1 st1 so1 r1 p1 => ?_
  cases q : toDs ws with
  | none => simp only [q] at p1; exact p1.elim
  | some ds =>
    simp only [q] at p1
    by_cases hl : ds.length = (xflds c).length
    · rw [if_pos hl] at p1
      have rl := toDs_rp r1 q
      have hv : vs.length = (xflds c).length := by rw [← rl.length]; exact hl
      refine ⟨by rw [hv]; exact Nat.le_trans (xflds_len c) (by decide), fun b nb => ?_⟩
      refine ⟨b, vs ++ [], rfl, by rw [List.append_nil]; exact hv, upd_same, fun d nd ne => ⟨rfl, d, ((xflds c).zip vs).reverse, upd_same, ?_, ?_, ?_⟩⟩
      · rw [upd_ne ne, upd_same, List.append_nil]
      · rw [upd_ne ne] at nd; exact nd
      · rw [upd_ne ne] at nd
        rw [List.append_nil]
        have eH : upd (del (upd (upd (upd H1 b (exo b C none)) d (exd d ((xflds c).zip vs).reverse)) b (exo b C (some d))) b) d (.xd ((xflds c).zip vs).reverse) = upd H1 d (.xd ((xflds c).zip vs).reverse) := by
          funext y
          by_cases hd : y = d
          · rw [hd, upd_same, upd_same]
          · rw [upd_ne hd, upd_ne hd]
            by_cases hb' : y = b
            · rw [hb', del_same, nb]
            · rw [del_ne hb', upd_ne hb', upd_ne hd, upd_ne hb']
        rw [eH]
        have fw : Fwd ρ1 S1 H1 ρ1 S1 (upd H1 d (.xd ((xflds c).zip vs).reverse)) := Fwd.laid so1 nd
        refine p1 σ ρ1 H1 Fwd.refl so1 st1 C d _ fw (so1.laid nd) ⟨T.ns, so1.notNone nd, _, upd_same, fun k n u h1 h2 => ?_⟩
        obtain ⟨v, hv1, hv2⟩ := rl.get k h2
        exact ⟨v, zipV_look (xflds_nodup c) h1 hv1, fw.rp hv2⟩
    · rw [if_neg hl] at p1; exact p1.elim
end

/-! ### what is caught -/
section
variable {X : Cx} {pins : List (Addr × Obj)} {σ : L2.St} {H : Hp} {s : Shared} {a C d : Addr}
/-- the context of an except suite -/
abbrev suT (X : Cx) (a : Addr) (pn : List (Addr × Obj)) : Cx := { X with A := X.A.mark (some (.ref a)), calm := false, pn := pn, xe := fun _ _ => False }
theorem xob_ok {P : Program} {w : World} {h : Heap} {oe : Obj} {vs : Array Value} (he : h.get? a = some oe) (h1 : oe.cls = .ref C) (h2 : oe.dict = some d) (h3 : oe.data = .fields vs) : ObjOk P w H h a (xob a C d) :=
  ⟨⟨oe, vs, he, h1, h2, h3⟩, ⟨oe, he⟩, fun g1 g2 ⟨o, us, e, q1, q2, q3⟩ k => ⟨o, us, k _ e, q1, q2, q3⟩⟩
theorem xob_at {P : Program} {w : World} {h : Heap} (hok : HOk P w H h) (e : H a = some (xob a C d)) : ∃ (oe : Obj) (vs : Array Value), h.get? a = some oe ∧ oe.cls = .ref C ∧ oe.dict = some d ∧ oe.data = .fields vs := (hok a _ e).1
theorem xob_own {x : Addr} : xob a C d ≠ .own x := fun z => by
  have z' : HO.ext _ = HO.own x := z
  cases z'
/-- an exception that is caught is tracked from here on -/
theorem inv_caught (I : Inv X pins σ H s) {oe : Obj} {vs : Array Value} (he : s.heap.get? a = some oe) (h1 : oe.cls = .ref C) (h2 : oe.dict = some d) (h3 : oe.data = .fields vs) (na : H a = none) (n0 : X.s_0.heap.get? a = none) (nL : a ≠ X.env.locals) (np : ∀ p ∈ X.pn ++ pins, p.1 ≠ a) :
    Inv (suT X a (X.pn ++ pins)) [] σ (upd H a (xob a C d)) s := by
  have ne0 : ∀ {b : Addr} {o : Obj}, X.s_0.heap.get? b = some o → b ≠ a := fun {b o} e z => by rw [z, n0] at e; cases e
  have neH : ∀ {b : Addr} {o : HO}, H b = some o → b ≠ a := fun {b o} e z => by rw [z, na] at e; cases e
  refine ⟨⟨I.ok.mod, I.ok.kind, I.ok.glob, I.ok.blt, I.ok.above, I.ok.inj, I.ok.has, I.ok.cab, (fun z => absurd (show false = true from z) Bool.false_ne_true), I.ok.frames, I.ok.stk, I.ok.exf, I.ok.bs, I.ok.bsz, I.ok.noex, I.ok.exfs, I.ok.funs, I.ok.frf⟩, I.os, I.bare,
    ⟨I.base.keep, I.base.slot, fun b o e n x => by rw [upd_ne (ne0 e)]; exact I.base.free b o e n x, I.base.there, fun b xs e => ?_, fun b o xs e => ?_, fun b ps e => ?_⟩, I.loc, I.cell, ?_, fun x c e => ?_, fun p hp => ?_, fun b o e => ?_, I.len⟩
  · have q := I.base.tups b xs e
    rw [upd_ne (neH q)]; exact q
  · have q := I.base.frzs b o xs e
    rw [upd_ne (neH q)]; exact q
  · obtain ⟨more, q⟩ := I.base.tbls b ps e
    exact ⟨more, by rw [upd_ne (neH q)]; exact q⟩
  · rw [upd_ne (Ne.symm nL)]; exact I.free
  · have nc : c ≠ a := fun z => by
      obtain ⟨v, o, ho, hd⟩ := I.cell x c e
      rw [z, he] at ho
      cases ho
      rw [h3] at hd; cases hd
    rw [upd_ne nc]; exact I.freeC x c e
  · have hp' : p ∈ X.pn ++ pins := by simpa using hp
    obtain ⟨e, n, q⟩ := I.pin p hp'
    exact ⟨e, by rw [upd_ne (np p hp')]; exact n, q⟩
  · by_cases hb : b = a
    · subst hb
      rw [upd_same] at e
      cases e
      exact xob_ok he h1 h2 h3
    · rw [upd_ne hb] at e
      exact (I.hok b o e).stay (fun _ _ _ z => z) (fun c hc => by rw [upd_ne (neH hc)]; exact hc) (fun c xs hc => by rw [upd_ne (neH hc)]; exact hc)
theorem inv_uncaught {a : Addr} {pn' : List (Addr × Obj)} (I : Inv (suT X a (X.pn ++ pins)) pn' σ H s) (ok : X.Ok) : Inv X pins σ H s :=
  ⟨ok, I.os, I.bare, I.base, I.loc, I.cell, I.free, I.freeC, fun p hp => I.pin p (List.mem_append_left _ hp), I.hok, I.len⟩
end

/-! ### try .. except .., several clauses, with names or without -/
abbrev Hd := Value × Option Nat × TS
def endsAs (i : Option Nat) (D : Ends) : Ends := match i with
  | none => D
  | some i => { nx := fun σ' H' => D.nx (σ'.set i none) H', rt := D.rt, bk := fun σ' H' => D.bk (σ'.set i none) H', ct := fun σ' H' => D.ct (σ'.set i none) H' }
def setAs (i : Option Nat) (σ : L2.St) (a : Addr) : L2.St := match i with
  | none => σ
  | some i => σ.set i (some (.ref a))
/-- what the clauses wish of an exception of the body -/
def wT (K : PySem.W.Frag) (Wout : WX) (D : Ends) : List Hd → WX
  | [] => Wout
  | (c, i, ts) :: r => fun cls d σ H => ∃ b, PySem.W.exmOne K cls c = some b ∧ (b = true → ∃ C dd, cls = .ref C ∧ d = some dd ∧ ∀ a, H a = none → ts (endsAs i D) (setAs i σ a) (upd H a (xob a C dd))) ∧ (b = false → wT K Wout D r cls d σ H)
inductive HsOk (X : Cx) : List ExceptHandler → List Hd → Prop
  | nil : HsOk X [] []
  | plain {x : Str} {c : Value} {ts : TS} {b₀ : Stmt} {suite : List Stmt} {np pos' : Pos} {hds : List ExceptHandler} {l : List Hd} (hc : Names X x c)
      (hsu : ∀ (a : Addr) (pn : List (Addr × Obj)), PSs (suT X a pn) (b₀ :: suite) ts) (r : HsOk X hds l) :
      HsOk X (.ExceptHandler (some (.Name x np)) none (b₀ :: suite) pos' :: hds) ((c, none, ts) :: l)
  | as_ {x n : Str} {i : Nat} {c : Value} {ts : TS} {b₀ : Stmt} {suite : List Stmt} {np pos' : Pos} {hds : List ExceptHandler} {l : List Hd} (hc : Names X x c) (hN : X.N.Nodup) (hi : X.N[i]? = some n) (hln : X.env.kindOf n = some .local)
      (hsu : ∀ (a : Addr) (pn : List (Addr × Obj)), PSs (suT X a pn) (b₀ :: suite) ts) (r : HsOk X hds l) :
      HsOk X (.ExceptHandler (some (.Name x np)) (some n) (b₀ :: suite) pos' :: hds) ((c, some i, ts) :: l)
section
variable {X : Cx} {body : List Stmt} {h₀ : ExceptHandler} {hds : List ExceptHandler} {l : List Hd} {pos : Pos} {tb : WX → TS} {Wout : WX}
theorem ps_tryT (hs : X.stack = X.env :: X.outer) (hf : X.env.frame = some X.env.locals) (hex : X.ex = []) (tk : Takes X Wout)
    (hb : ∀ (W : WX) (pn : List (Addr × Obj)) (xe : Value → Shared → Prop), Takes (X.tr pn xe) W → PassesOwn (model X.prog X.w) X.A X.env xe → PSs (X.tr pn xe) body (tb W))
    (hh : HsOk X (h₀ :: hds) l) : PS X (.Try body (h₀ :: hds) [] [] pos) (fun D σ H => tb (wT X.K Wout D l) D σ H) := by
  refine ⟨fun pins s σ H D I h => ?_⟩
  have ok := I.ok
  have hfr : X.A.frames = some (X.env :: X.outer) := by rw [ok.frames, hs]
  refine wpAny_Try_except ?_
  refine wpAny_mono ((hb (wT X.K Wout D l) (X.pn ++ pins) (fun e s₁ => wpAny (model X.prog X.w) X.A (noteFrame e X.env) (fun _ s₂ => wpAny (model X.prog X.w) X.A (setFlight e none) (fun _ s₃ =>
    wpAny (model X.prog X.w) X.A (handleBy e X.env (h₀ :: hds)) (SP X pins D) X.xe s₃) X.xe s₂) X.xe s₁) (fun u s' xx => ?_) PassesOwn.looking).run [] s σ H D (I.toTry _) h) (fun f s1 hsp => ?_) (fun e s1 he => he)
  · -- the catch
    obtain ⟨a, B, sI, pins', σ', H', cls, d, rfl, J', nb, up, sky, na, os, ag, w⟩ := xx
    have J : Inv X pins σ' H' sI := J'.ofTry ok
    have sky' : Sky B (X.env :: X.outer) a (Zc cls d) X.env.locals s'.heap := by rw [← hs]; exact sky
    show wpAny (model X.prog X.w) X.A (noteFrame (.ref a) X.env) _ _ _
    refine Sky.land Zc.steady hfr hf sky' fun h3 fl3 up3 => ?_
    have J3 : Inv X pins σ' H' { s' with heap := h3 } := J.landed nb fl3.1 (up.trans up3) os ag
    obtain ⟨oe3, vs3, he3, hz3, hd3⟩ := fl3.there
    have Bn : B.get? a = none := fl3.2.1
    have notFr : ∀ {h : Heap} {o : Obj} {vs : Array Value}, h.FunFrames B (X.env :: X.outer) → h.get? a = some o → o.data = .fields vs → a ∉ frs (X.env :: X.outer) := fun {h o vs} ff e dd hm => by
      obtain ⟨_, o', e', hnf⟩ := ff.mem hm
      rw [e] at e'; cases e'
      exact hnf _ dd
    have nfr := notFr fl3.2.2.1 he3 hd3
    have nL : a ≠ X.env.locals := fun z => nfr (List.mem_filterMap.mpr ⟨X.env, List.mem_cons_self, by rw [hf, z]⟩)
    have nF : a ∉ X.fs := fun hm => by
      obtain ⟨e, he, q⟩ := List.mem_filterMap.mp hm
      exact nfr (List.mem_filterMap.mpr ⟨e, List.mem_cons_of_mem _ he, q⟩)
    have notSI : ∀ {o : Obj}, sI.heap.get? a ≠ some o := fun {o} e => by
      have z := nb a o e (by rw [hs]; exact nfr)
      rw [Bn] at z; cases z
    have n0 : X.s_0.heap.get? a = none := by
      cases e : X.s_0.heap.get? a with
      | none => rfl
      | some o =>
        obtain ⟨o', z⟩ := J.base.there a o e (by rw [hex]; simp)
        exact absurd z notSI
    have np : ∀ p ∈ X.pn ++ pins, p.1 ≠ a := fun p hp z => by
      obtain ⟨e, _⟩ := J.pin p hp
      rw [z] at e
      exact notSI e
    have go : ∀ {hds' : List ExceptHandler} {l' : List Hd}, HsOk X hds' l' → wT X.K Wout D l' cls d σ' H' →
        wpAny (model X.prog X.w) X.A (handleBy (.ref a) X.env hds') (SP X pins D) X.xe { s' with heap := h3 } := by
      intro hds' l' hk
      have test : ∀ {x : Str} {c : Value} {np' : Pos} {Q : Value → Shared → Prop} {E : Value → Shared → Prop}, Names X x c → Q c { s' with heap := h3 } → wpAny (model X.prog X.w) (X.A.mark (some (.ref a))) (eval (.Name x np') X.env) Q E { s' with heap := h3 } := fun {x c np' Q E} hc q => by
        obtain ⟨hg, hdbg, hm | ⟨hm, hv, hnn⟩⟩ := hc
        · exact ld_glob (X := X.suite a ((a, oe3) :: (X.pn ++ pins))) (J3.suite he3 hd3 na nL nF) hg hm q hdbg
        · exact ld_blt (X := X.suite a ((a, oe3) :: (X.pn ++ pins))) (J3.suite he3 hd3 na nL nF) hg hm hv q hnn hdbg
      have LT : PySem.W.Looks (model X.prog X.w) h3 (typeOf (.ref a)) cls := fun A Q E s k q => wpAny_typeOf_ref (k _ _ he3) (by rw [hz3.1]; exact q)
      induction hk with
      | nil =>
        intro w
        refine wpAny_handleBy_nil ?_
        obtain ⟨k1, k2, k3, oe, vs, T, oT, ts', he, hz, hd, h1, hr⟩ := id fl3
        unfold PySem.passOn
        refine wpAny_bind (wpAny_field he hd h1 ?_)
        rw [if_neg (show ¬ ((Value.ref T == Value.none) = true) from by simp)]
        have fin : wpAny (model X.prog X.w) X.A (setFlight (.ref a) X.env.frame) (fun _ s4 => wpAny (model X.prog X.w) X.A (throw (.ref a) : Sem Flow) (SP X pins D) X.xe s4) X.xe { s' with heap := h3 } := by
          rw [hf]
          refine HandSPX.setFlight_upZ fl3 fun h4 hh4 up4 => wpAny_throw (tk _ _ ?_)
          exact ⟨a, B, sI, pins, σ', H', cls, d, rfl, J, nb, (up.trans up3).trans up4, .inr (.inr (by rw [hs]; exact hh4)), na, os, ag, w⟩
        first
          | exact wpAny_bind (wpAny_pure (wpAny_bind fin))
          | exact wpAny_bind fin
      | @plain x c ts b₀ suite np' pos' hds2 l2 hc hsu r ih =>
        intro w
        obtain ⟨b, hb1, hyes, hno⟩ := w
        refine wpAny_handleBy_cons (codeAny_handlers_test ?_) (by intro q; cases q)
        have LM := PySem.W.exm_one (M := model X.prog X.w) (J3.kIn) LT hb1
        refine test hc (LM.here ?_)
        cases b with
        | true =>
          obtain ⟨C, dd, rfl, rfl, hq⟩ := hyes rfl
          refine codeAny_handlers_suite ?_
          refine HandSPX.lands_againZ fl3 fun h4 fl4 up4 => ?_
          have J4 : Inv X pins σ' H' { s' with heap := h4 } := J.landed nb fl4.1 ((up.trans up3).trans up4) os ag
          obtain ⟨oe4, vs4, he4, hz4, hd4⟩ := fl4.there
          have S4 := inv_caught J4 he4 hz4.1 hz4.2 hd4 na n0 nL np
          refine wpAny_mono ((hsu a (X.pn ++ pins)).run [] _ _ _ _ S4 (hq a na)) (fun f s6 hsp => ?_) (fun _ _ z => False.elim z)
          cases f with
          | next =>
            obtain ⟨σ6, H6, S6, q6⟩ := hsp
            exact ⟨_, _, inv_uncaught S6 ok, q6⟩
          | brk =>
            obtain ⟨σ6, H6, S6, q6⟩ := hsp
            exact ⟨_, _, inv_uncaught S6 ok, q6⟩
          | cont =>
            obtain ⟨σ6, H6, S6, q6⟩ := hsp
            exact ⟨_, _, inv_uncaught S6 ok, q6⟩
          | ret u =>
            obtain ⟨v6, σ6, H6, S6, r6, q6⟩ := hsp
            exact ⟨_, _, _, inv_uncaught S6 ok, r6, q6⟩
        | false =>
          show wpAny _ X.A (handleBy (.ref a) X.env hds2) _ _ _
          exact ih (hno rfl)
      | @as_ x n i c ts b₀ suite np' pos' hds2 l2 hc hN hi hln hsu r ih =>
        intro w
        obtain ⟨b, hb1, hyes, hno⟩ := w
        refine wpAny_handleBy_cons (codeAny_handlers_test ?_) (by intro q; cases q)
        have LM := PySem.W.exm_one (M := model X.prog X.w) (J3.kIn) LT hb1
        refine test hc (LM.here ?_)
        cases b with
        | true =>
          obtain ⟨C, dd, rfl, rfl, hq⟩ := hyes rfl
          refine codeAny_handlers_suite_as ?_
          refine HandSPX.lands_againZ fl3 fun h4 fl4 up4 => ?_
          have J4 : Inv X pins σ' H' { s' with heap := h4 } := J.landed nb fl4.1 ((up.trans up3).trans up4) os ag
          obtain ⟨oe4, vs4, he4, hz4, hd4⟩ := fl4.there
          have S4 := inv_caught J4 he4 hz4.1 hz4.2 hd4 na n0 nL np
          refine store_ok (X := suT X a (X.pn ++ pins)) (v := .ref a) S4 hN hi (.inl hln) rfl (fun s5 S5 => ?_) (.inr hln)
          refine wpAny_mono ((hsu a (X.pn ++ pins)).run [] s5 _ _ _ S5 (hq a na)) (fun f s6 hsp => ?_) (fun _ _ z => False.elim z)
          have end_ : ∀ {σ6 : L2.St} {H6 : Hp} {Q : Shared → Prop}, Inv (suT X a (X.pn ++ pins)) [] σ6 H6 s6 → (∀ s7, Inv X pins (σ6.set i none) H6 s7 → Q s7) →
              wpAny (model X.prog X.w) X.A (do bindName X.env n .none; unbindBehindTheSuite X.env n pos') (fun _ s7 => Q s7) X.xe s6 := fun {σ6 H6 Q} S6 hq => gone_ok (inv_uncaught S6 ok) hN hi hln hq
          cases f with
          | next =>
            obtain ⟨σ6, H6, S6, q6⟩ := hsp
            exact end_ S6 fun s7 J7 => ⟨_, _, J7, q6⟩
          | brk =>
            obtain ⟨σ6, H6, S6, q6⟩ := hsp
            exact end_ S6 fun s7 J7 => ⟨_, _, J7, q6⟩
          | cont =>
            obtain ⟨σ6, H6, S6, q6⟩ := hsp
            exact end_ S6 fun s7 J7 => ⟨_, _, J7, q6⟩
          | ret u =>
            obtain ⟨v6, σ6, H6, S6, r6, q6⟩ := hsp
            exact end_ S6 fun s7 J7 => ⟨_, _, _, J7, r6, q6⟩
        | false =>
          show wpAny _ X.A (handleBy (.ref a) X.env hds2) _ _ _
          exact ih (hno rfl)
    exact go hh w
  · cases f with
    | next =>
      obtain ⟨σ', H', J', q⟩ := hsp
      exact wpAny_execs_nil ⟨σ', H', J'.ofTry ok, q⟩
    | brk =>
      obtain ⟨σ', H', J', q⟩ := hsp
      exact ⟨σ', H', J'.ofTry ok, q⟩
    | cont =>
      obtain ⟨σ', H', J', q⟩ := hsp
      exact ⟨σ', H', J'.ofTry ok, q⟩
    | ret u =>
      obtain ⟨v, σ', H', J', r, q⟩ := hsp
      exact ⟨v, σ', H', J'.ofTry ok, r, q⟩
end
end Fro

namespace Fro
open PySem PySem.Spec L2 PyProof.Rows NdefX ClX

/-- is the class c under the class h -/
def subx (c h : Nat) : Bool := h == 0 || c == h
/-- behind an except suite -/
def outS (i : Option Nat) (r : RS) : RS := match r with
  | .nx δ S => .nx (match i with | some i => δ.set i none | none => δ) S
  | .bk δ S => .bk (match i with | some i => δ.set i none | none => δ) S
  | .ct δ S => .ct (match i with | some i => δ.set i none | none => δ) S
  | .rt w S => .rt w S
  | _ => .bad
def inS (i : Option Nat) (c : Nat) (ds : List D) (δ : Slots) : Slots := match i with
  | some i => δ.set i (some (.x c ds))
  | none => δ
def hand : List (Nat × Option Nat × DenS) → Nat → List D → Slots → Sto → RS
  | [], c, ds, δ, S => .xc c ds δ S
  | (h, i, su) :: r, c, ds, δ, S => if subx c h then outS i (su (inS i c ds δ) S) else hand r c ds δ S
def cTry (body : DenS) (hs : List (Nat × Option Nat × DenS)) : DenS := fun δ S => match body δ S with
  | .xc c ds δ' S' => hand hs c ds δ' S'
  | r => r
/-- the clause's class: what it takes -/
def XM (K : PySem.W.Frag) (h : Nat) (c : Value) : Prop := ∀ (k : Nat) (C : Addr), PySem.W.nsIn K mainGlobals (xname k) = some (some (.ref C)) → PySem.W.exmOne K (.ref C) c = some (subx k h)
inductive HdD (X : Cx) : List ExceptHandler → List Hd → List (Nat × Option Nat × DenS) → Prop
  | nil : HdD X [] [] []
  | plain {x : Str} {c : Value} {h : Nat} {su : DenS} {b₀ : Stmt} {suite : List Stmt} {np pos' : Pos} {hds : List ExceptHandler} {l : List Hd} {m : List (Nat × Option Nat × DenS)} (xm : XM X.K h c) (hc : X.mg x = some c)
      (hsu : ∀ (a : Addr) (pn : List (Addr × Obj)), PSs (suT X a pn) (b₀ :: suite) (tS X.K XP0 su)) (r : HdD X hds l m) (hg : Gl X x := by rfl) (hd : (x == ("__debug__" : Str)) = false := by decide) :
      HdD X (.ExceptHandler (some (.Name x np)) none (b₀ :: suite) pos' :: hds) ((c, none, tS X.K XP0 su) :: l) ((h, none, su) :: m)
  | as_ {x n : Str} (i : Nat) {c : Value} {h : Nat} {su : DenS} {b₀ : Stmt} {suite : List Stmt} {np pos' : Pos} {hds : List ExceptHandler} {l : List Hd} {m : List (Nat × Option Nat × DenS)} (xm : XM X.K h c) (hc : X.mg x = some c) (hN : X.N.Nodup)
      (hsu : ∀ (a : Addr) (pn : List (Addr × Obj)), PSs (suT X a pn) (b₀ :: suite) (tS X.K XP0 su)) (r : HdD X hds l m) (hi : X.N[i]? = some n := by rfl) (hln : X.env.kindOf n = some .local := by rfl) (hg : Gl X x := by rfl) (hd : (x == ("__debug__" : Str)) = false := by decide) :
      HdD X (.ExceptHandler (some (.Name x np)) (some n) (b₀ :: suite) pos' :: hds) ((c, some i, tS X.K XP0 su) :: l) ((h, some i, su) :: m)
theorem HdD.ok {X : Cx} {hds : List ExceptHandler} {l : List Hd} {m : List (Nat × Option Nat × DenS)} (h : HdD X hds l m) : HsOk X hds l := by
  induction h with
  | nil => exact .nil
  | plain xm hc hsu r hg hd ih => exact .plain ⟨hg, hd, .inl hc⟩ hsu ih
  | as_ i xm hc hN hsu r hi hln hg hd ih => exact .as_ ⟨hg, hd, .inl hc⟩ hN hi hln hsu ih
theorem st_unset {K : PySem.W.Frag} {ρ : List Addr} {S : Sto} {H : Hp} {δ : Slots} {σ : L2.St} (st : RpSt K ρ S H δ σ) (i : Nat) : RpSt K ρ S H (δ.set i none) (σ.set i none) := by
  refine ⟨by rw [List.length_set, List.length_set]; exact st.1, fun j w e => ?_⟩
  by_cases hj : i = j
  · subst hj
    by_cases hl : i < δ.length
    · rw [List.getElem?_set_self hl] at e; cases e
    · rw [List.getElem?_eq_none (by rw [List.length_set]; omega)] at e; cases e
  · rw [List.getElem?_set_ne hj] at e ⊢
    exact st.2 j w e
theorem out_post {K : PySem.W.Frag} {ρ : List Addr} {S : Sto} {H : Hp} {i : Option Nat} {r : RS} {D' : Ends} {E : XP} (p : PostS K ρ S H (outS i r) D' E) : PostS K ρ S H r (endsAs i D') XP0 := by
  cases i with
  | none =>
    cases r with
    | nx δ S' => exact p
    | bk δ S' => exact p
    | ct δ S' => exact p
    | rt w S' => exact p
    | xc c ds δ S' => exact p.elim
    | bad => exact p
  | some i =>
    cases r with
    | nx δ S' => exact fun σ ρ' H' f so st => p _ ρ' H' f so (st_unset st i)
    | bk δ S' => exact fun σ ρ' H' f so st => p _ ρ' H' f so (st_unset st i)
    | ct δ S' => exact fun σ ρ' H' f so st => p _ ρ' H' f so (st_unset st i)
    | rt w S' => exact p
    | xc c ds δ S' => exact p.elim
    | bad => exact p
theorem hand_wish {X : Cx} {hds : List ExceptHandler} {l : List Hd} {m : List (Nat × Option Nat × DenS)} (hh : HdD X hds l m) {Wx : WX} {ρ : List Addr} {S : Sto} {H : Hp} {c : Nat} {ds : List D} {δ : Slots} {σ : L2.St} {D' : Ends} {C d : Addr} (st : RpSt X.K ρ S H δ σ) (so : Sok X.K ρ S H) (xr : XRep X.K ρ S H c ds C d)
    (p : PostS X.K ρ S H (hand m c ds δ S) D' (XPW X.K Wx)) : wT X.K Wx D' l (.ref C) (some d) σ H := by
  induction hh with
  | nil => exact p σ ρ H Fwd.refl so st C d H Fwd.refl so xr
  | @plain x cv h su b₀ suite np pos' hds l m xm hc hsu r hg hd ih =>
    refine ⟨subx c h, xm c C xr.cls, fun e => ⟨C, d, rfl, rfl, fun a na => ?_⟩, fun e => ?_⟩
    · unfold hand at p
      rw [if_pos e] at p
      have fw : Fwd ρ S H ρ S (upd H a (xob a C d)) := Fwd.laid so na
      exact ⟨δ, ρ, S, fw.st st, so.laid na, PostS.later fw (out_post p)⟩
    · unfold hand at p
      rw [if_neg (by rw [e]; decide)] at p
      exact ih p
  | @as_ x n i cv h su b₀ suite np pos' hds l m xm hc hN hsu r hi hln hg hd ih =>
    refine ⟨subx c h, xm c C xr.cls, fun e => ⟨C, d, rfl, rfl, fun a na => ?_⟩, fun e => ?_⟩
    · unfold hand at p
      rw [if_pos e] at p
      have fw : Fwd ρ S H ρ S (upd H a (xob a C d)) := Fwd.laid so na
      exact ⟨δ.set i (some (.x c ds)), ρ, S, (fw.st st).set i ⟨a, C, d, rfl, upd_same, so.notNone na, xr.fwd fw⟩, so.laid na, PostS.later fw (out_post p)⟩
    · unfold hand at p
      rw [if_neg (by rw [e]; decide)] at p
      exact ih p
section
variable {X : Cx} {Wx : WX}
theorem ds_try {body : List Stmt} {h₀ : ExceptHandler} {hds : List ExceptHandler} {l : List Hd} {m : List (Nat × Option Nat × DenS)} {pos : Pos} {b : DenS} (tk : Takes X Wx)
    (hb : ∀ (W' : WX) (pn : List (Addr × Obj)) (xe : Value → Shared → Prop), Takes (X.tr pn xe) W' → PassesOwn (model X.prog X.w) X.A X.env xe → PSs (X.tr pn xe) body (tS X.K (XPW X.K W') b))
    (hh : HdD X (h₀ :: hds) l m) (hs : X.stack = X.env :: X.outer := by rfl) (hf : X.env.frame = some X.env.locals := by rfl) (hex : X.ex = [] := by rfl) : PS X (.Try body (h₀ :: hds) [] [] pos) (tS X.K (XPW X.K Wx) (cTry b m)) := by
  refine ps_mono (ps_tryT (tb := fun W' => tS X.K (XPW X.K W') b) hs hf hex tk hb hh.ok) fun D' σ H ⟨δ, ρ, S, st, so, p⟩ => ?_
  refine ⟨δ, ρ, S, st, so, ?_⟩
  unfold cTry at p
  cases q : b δ S with
  | nx δ' S' => simp only [q] at p; exact p
  | rt δ' S' => simp only [q] at p; exact p
  | bk δ' S' => simp only [q] at p; exact p
  | ct δ' S' => simp only [q] at p; exact p
  | bad => simp only [q] at p; exact p
  | xc c ds δ' S' =>
    simp only [q] at p
    exact fun σ' ρ' H' f so' st' C d H2 f2 so2 xr => hand_wish hh (f2.st st') so2 xr (PostS.later (f.trans f2) p)
/-! ### e.f -/
/-- what is read of the classes -/
structure XRead (K : PySem.W.Frag) (c : Nat) (C : Addr) : Prop where
  xf : XfC K C
  no : ∀ n, n ∈ xflds c → PySem.W.findIn K (.ref C) n = some none
def XReads (K : PySem.W.Frag) : Prop := ∀ (c : Nat) (C : Addr), PySem.W.nsIn K mainGlobals (xname c) = some (some (.ref C)) → XRead K c C
def apXat (n : Str) (w : W) (S : Sto) : R W := match w with
  | .x c ds => match (xflds c).findIdx? (· == n) with
    | some k => match ds[k]? with
      | some d => .ok (.v d) S
      | none => .bad
    | none => .bad
  | _ => .bad
def cXat (n : Str) (a : Den W) : Den W := fun δ S => (a δ S).bind fun w S1 => apXat n w S1
theorem de_xat {E : XP} {e : Expr} {n : Str} {pos : Pos} {a : Den W} (R : XReads X.K) (h : PE X e (tE X.K E a)) (hb : attributeBase e n X.env (eval e X.env) = eval e X.env := by rfl) : PE X (.Attribute e n pos) (tE X.K E (cXat n a)) := by
  refine ⟨fun pins s σ H Q I ⟨δ, ρ, S, st, so, p⟩ => ?_⟩
  refine attr_of hb (thn (h.run pins s σ H (fun v H1 => ∃ w ρ1 S1, Sok X.K ρ1 S1 H1 ∧ RpW X.K ρ1 S1 H1 w v ∧ Post X.K (RpW X.K) ρ1 S1 H1 (apXat n w S1) Q (E σ)) I ?_) fun u s1 hh => ?_)
  · exact tG_then st so p fun w S1 v ρ1 H1 f1 st1 so1 r1 p1 => ⟨w, ρ1, S1, so1, r1, p1⟩
  · obtain ⟨x, H1, I1, rx, w, ρ1, S1, so1, rw1, p1⟩ := hh
    cases w with
    | v d => exact p1.elim
    | r i => exact p1.elim
    | s ns => exact p1.elim
    | lk es => exact p1.elim
    | x c ds =>
      obtain ⟨b, C, d, rfl, eb, nb, xr⟩ := rw1
      obtain rfl : u = Value.ref b := rx
      unfold apXat at p1
      cases q : (xflds c).findIdx? (· == n) with
      | none => simp only [q] at p1; exact p1.elim
      | some k =>
        simp only [q] at p1
        cases qd : ds[k]? with
        | none => simp only [qd] at p1; exact p1.elim
        | some dk =>
          simp only [qd] at p1
          obtain ⟨hk, hn⟩ : (xflds c)[k]? = some n ∧ n ∈ xflds c := by
            obtain ⟨hlt, hp, _⟩ := List.findIdx?_eq_some_iff_getElem.mp q
            have : (xflds c)[k] = n := by simpa using hp
            exact ⟨by rw [List.getElem?_eq_getElem hlt, this], this ▸ List.getElem_mem hlt⟩
          obtain ⟨vfs, ed, hv⟩ := xr.at_
          obtain ⟨v, lv, rv⟩ := hv k n dk hk qd
          have T := R c C xr.cls
          obtain ⟨oe, vs, ho, h1, h2, h3⟩ := xob_at I1.hok eb
          have hx : ObjOk X.prog X.w H1 s1.heap d (.xd vfs) := I1.hok d _ ed
          obtain ⟨mA, hns, hr⟩ := hx
          obtain ⟨od, hod, hl⟩ := lookIn_ns hns
          obtain ⟨u, hu, ru⟩ := RelO.some_of (v := v) (o := mA n) (by rw [← lv]; exact hr n)
          have J : PySem.W.InstAt s1.heap b oe C (some od) := ⟨ho, h1, by unfold PySem.W.notCls; rw [h3] <;> rfl, by rw [h2]; exact hod⟩
          exact HandSPX.exc_get I1.kIn J T.xf.ga T.xf.gg T.xf.exC (PySem.W.findObj_own T.xf.hdC (T.no n hn) rfl (by rw [hl, hu])) (handed_of ru) ⟨v, H1, I1.tok _, ru, p1 v ρ1 H1 Fwd.refl so1 rv⟩
end
end Fro

/-! Fro, exceptions: what the head's facts give. -/
namespace Fro
open PySem PySem.Spec L2 PyProof.Rows NdefX ClX

/-- the first statement of a class -/
def clsStm (s : Stmt) : Stmt := match s with
  | .ClassDef _ _ _ b _ _ _ _ _ _ _ => b.headD (.Pass ⟨0, 0, 0, 0⟩)
  | s => s
abbrev nfI (st : Stmt) (qual : Str) (cc cd : Addr) : NF := ⟨"__init__", qual, defArgs st, defBody st, defScope st, [("__class__", cc)], cd⟩
def fileB (P : Program) (K : PySem.W.Frag) (cd : Addr) : Bool := match K.lookup cd with
  | some ⟨_, _, .fields vs, _⟩ => (match (vs[2]? : Option Value) with
    | some (.str fl _) => (P.main.file : Str) == fl
    | _ => false)
  | _ => false
def cellB (K : PySem.W.Frag) (cc D : Addr) : Bool := match K.lookup cc with
  | some ⟨_, _, .cell (some (.ref d)), _⟩ => d == D
  | _ => false
def iniB (P : Program) (K : PySem.W.Frag) (D cc cd : Addr) (qual : Str) : Bool :=
  PySem.W.codeIn K (.ref cd) qual && (fileB P K cd && (cellB K cc D && ((PySem.W.clsIn K D).isSome && !(P.main.scope.names.lookup ("super" : Str)).isSome)))
theorem sup_mk {P : Program} {K : PySem.W.Frag} {st : Stmt} {qual : Str} {f D cc cd : Addr} {oc : Value} {od : Option Addr} {doc pm ctv : Value} {sl : Array (Option Value)} {ar : Arg} (lk : K.lookup f = some ⟨oc, od, .func ((nfI st qual cc cd).fd doc pm ctv), sl⟩) (hb : iniB P K D cc cd qual = true)
    (hp : ((defArgs st).posonlyargs ++ (defArgs st).args).head? = some ar := by rfl) (ha : ar.arg = ("self" : Str) := by rfl) (ks : (defScope st).names.lookup ("super" : Str) = some .globalImplicit := by rfl) (kc : (defScope st).names.lookup ("__class__" : Str) = some .free := by rfl) : SupFn P K f D (nfI st qual cc cd) := by
  unfold iniB at hb
  simp only [Bool.and_eq_true] at hb
  obtain ⟨h1, h2, h3, h4, h5⟩ := hb
  refine ⟨⟨_, _, _, _, _, _, lk⟩, h1, ?_, ?_, Option.isSome_iff_exists.mp h4, by simpa using h5, ⟨ar, hp, ha⟩, ks, kc⟩
  · unfold fileB at h2
    split at h2
    · rename_i vs _ e
      split at h2
      · rename_i fl t e2
        exact ⟨_, _, _, _, _, _, e, e2, h2⟩
      · cases h2
    · cases h2
  · unfold cellB at h3
    split at h3
    · rename_i d _ e
      obtain rfl : d = D := by simpa using h3
      exact ⟨cc, _, _, _, rfl, e⟩
    · cases h3
/-- a class under KindError, at D0 -/
def keB (K : PySem.W.Frag) (D0 C : Addr) : Bool :=
  decide (PySem.W.findIn K (.ref C) "__setattr__" = some (some (.builtin "object.__setattr__"))) && (decide (PySem.W.subIn K (.ref C) (.type "BaseException") = some true) && (decide (PySem.W.typeIn K (.ref C) = some (.type "type")) && (PySem.W.keepIn K (.ref C) &&
    (decide (PySem.W.mroIn K C (.ref D0) = some true) && (decide (PySem.W.subIn K (.ref C) (.type "ValueError") = some true) && decide (PySem.W.ks_superIn K C D0 "__init__" = some (some (.builtin "ValueError.__init__"))))))))
theorem ke_mk {K : PySem.W.Frag} {D0 C N : Addr} {nm q : Str} {bs bm : List Value} {sn : List Str} {sub : List Value} {ab : Bool} {col : Option Bool} {dd : Option Addr} {k0 k1 k2 k3 k5 : Option Value} (lk : K.lookup C = some (excClassObj nm q C N bs bm true sn sub ab col dd k0 k1 k2 k3 k5 "ValueError.__new__")) (hr : PySem.HandSPX.refsVE bm = true) (h : keB K D0 C = true) : KeC K D0 C := by
  unfold keB at h
  simp only [Bool.and_eq_true, decide_eq_true_eq] at h
  obtain ⟨h1, h2, h3, h4, h5, h6, h7⟩ := h
  exact ⟨⟨⟨_, _, _, _, _, _, _, _, _, _, _, _, _, _, _, lk, hr⟩, h1, h2, h3, h4⟩, h5, h6, h7⟩
/-- a class that is raised: its own facts -/
def raB (K : PySem.W.Frag) (C f0 : Addr) (fl : List Str) : Bool :=
  decide (PySem.W.mroIn K C (.ref C) = some true) && (decide (PySem.W.ks_superIn K C C "__init__" = some (some (.ref f0))) && fl.all fun n => decide (PySem.W.findIn K (.ref C) n = some none))
def fnB (K : PySem.W.Frag) (f : Addr) : Bool := decide (PySem.W.typeIn K (.ref f) = some (.type "function")) && PySem.W.fnIn K f
/-- all clauses: what a class in a clause takes -/
def xmB (K : PySem.W.Frag) (h : Nat) (c : Value) : Bool := (List.range 14).all fun k => match PySem.W.nsIn K mainGlobals (xname k) with
  | some (some (.ref C)) => decide (PySem.W.exmOne K (.ref C) c = some (subx k h))
  | _ => true
theorem xname_top (k : Nat) (h : 13 ≤ k) : xname k = "" := by
  unfold xname
  split <;> first | (exfalso; omega) | rfl
theorem xflds_top (k : Nat) (h : 13 ≤ k) : xflds k = [] := by
  unfold xflds
  split <;> first | (exfalso; omega) | rfl
def noneB (K : PySem.W.Frag) : Bool := match PySem.W.nsIn K mainGlobals "" with
  | some (some _) => false
  | _ => true
theorem xm_mk {K : PySem.W.Frag} {h : Nat} {c : Value} (hn : noneB K = true) (hb : xmB K h c = true) : XM K h c := fun k C e => by
  by_cases hk : 13 ≤ k
  · rw [xname_top k hk] at e
    unfold noneB at hn
    rw [e] at hn
    cases hn
  · have q := List.all_eq_true.mp hb k (List.mem_range.mpr (by omega))
    rw [e] at q
    exact of_decide_eq_true q
def xrB (K : PySem.W.Frag) : Bool := (List.range 14).all fun k => match PySem.W.nsIn K mainGlobals (xname k) with
  | some (some (.ref C)) => xfB K C && (xflds k).all fun n => decide (PySem.W.findIn K (.ref C) n = some none)
  | _ => true
theorem xr_mk {K : PySem.W.Frag} (hn : noneB K = true) (hb : xrB K = true) : XReads K := fun k C e => by
  by_cases hk : 13 ≤ k
  · rw [xname_top k hk] at e
    unfold noneB at hn
    rw [e] at hn
    cases hn
  · have q := List.all_eq_true.mp hb k (List.mem_range.mpr (by omega))
    rw [e] at q
    obtain ⟨q1, q2⟩ := Bool.and_eq_true_iff.mp q
    exact ⟨xfB_ok q1, fun n hm => of_decide_eq_true (List.all_eq_true.mp q2 n hm)⟩
end Fro
namespace Fro
open PySem PySem.Spec L2 PyProof.Rows NdefX ClX
theorem fnB_ty {K : PySem.W.Frag} {f : Addr} (h : fnB K f = true) : PySem.W.typeIn K (.ref f) = some (.type "function") := of_decide_eq_true (Bool.and_eq_true_iff.mp h).1
theorem fnB_fn {K : PySem.W.Frag} {f : Addr} (h : fnB K f = true) : PySem.W.fnIn K f = true := (Bool.and_eq_true_iff.mp h).2
theorem raB_self {K : PySem.W.Frag} {C f0 : Addr} {fl : List Str} (h : raB K C f0 fl = true) : PySem.W.mroIn K C (.ref C) = some true := of_decide_eq_true (Bool.and_eq_true_iff.mp h).1
theorem raB_up {K : PySem.W.Frag} {C f0 : Addr} {fl : List Str} (h : raB K C f0 fl = true) : PySem.W.ks_superIn K C C "__init__" = some (some (.ref f0)) := of_decide_eq_true (Bool.and_eq_true_iff.mp (Bool.and_eq_true_iff.mp h).2).1
theorem raB_no {K : PySem.W.Frag} {C f0 : Addr} {fl : List Str} (h : raB K C f0 fl = true) {n : Str} (hn : n ∈ fl) : PySem.W.findIn K (.ref C) n = some none := of_decide_eq_true (List.all_eq_true.mp (Bool.and_eq_true_iff.mp (Bool.and_eq_true_iff.mp h).2).2 n hn)
end Fro

namespace Fro
open PySem PySem.Spec L2

/-! ### dicts keyed by texts, as data -/
def hasE (es : List (Tx × D)) (t : Tx) : Bool := es.any fun e => e.1 == t
def putE (es : List (Tx × D)) (t : Tx) (d : D) : List (Tx × D) := if hasE es t = true then es.map fun e => if e.1 = t then (e.1, d) else e else es ++ [(t, d)]
def mergeE (es more : List (Tx × D)) : List (Tx × D) := more.foldl (fun acc e => putE acc e.1 e.2) es
section
variable {K : PySem.W.Frag} {H : Hp} {M : Addr → Prop}
theorem key_dec (t u : Tx) : decide ((Sum.inr (sx t) : Key) = Sum.inr (sx u)) = (t == u) := by
  by_cases h : t = u
  · subst h; simp
  · have : (Sum.inr (sx t) : Key) ≠ Sum.inr (sx u) := fun e => h (sx_inj (Sum.inr.inj e))
    rw [decide_eq_false this, beq_eq_false_iff_ne.mpr h]
theorem rpE_get : ∀ {es : List (Tx × D)} {kvs : List (Key × V)} (t : Tx), RpE K H M es kvs → (lkT es t = none ∧ valV kvs (Sum.inr (sx t)) = none) ∨ ∃ d v, lkT es t = some d ∧ valV kvs (Sum.inr (sx t)) = some v ∧ Rp K H M d v
  | _, _, t, .nil => .inl ⟨rfl, rfl⟩
  | _, _, t, .cons (t := u) (d := d) (es := es) (v := v) a b => by
    by_cases h : u = t
    · subst h
      exact .inr ⟨d, v, if_pos rfl, valV_pos rfl, a⟩
    · have hk : ¬ ((Sum.inr (sx u), v) : Key × V).1 = Sum.inr (sx t) := fun e => h (sx_inj (Sum.inr.inj e))
      rw [valV_neg hk, show lkT ((u, d) :: es) t = lkT es t from if_neg h]
      exact rpE_get t b
theorem rpE_len : ∀ {es : List (Tx × D)} {kvs : List (Key × V)}, RpE K H M es kvs → es.length = kvs.length
  | _, _, .nil => rfl
  | _, _, .cons _ b => by rw [List.length_cons, List.length_cons, rpE_len b]
theorem rpE_has : ∀ {es : List (Tx × D)} {kvs : List (Key × V)} (t : Tx), RpE K H M es kvs → (kvs.any fun kv => decide (kv.1 = Sum.inr (sx t))) = hasE es t
  | _, _, t, .nil => rfl
  | _, _, t, .cons (t := u) a b => by
    have ih := rpE_has t b
    unfold hasE at ih ⊢
    rw [List.any_cons, List.any_cons, ih, key_dec]
theorem rpE_map : ∀ {es : List (Tx × D)} {kvs : List (Key × V)} (t : Tx) {d : D} {v : V}, RpE K H M es kvs → Rp K H M d v → RpE K H M (es.map fun e => if e.1 = t then (e.1, d) else e) (kvs.map fun kv => if kv.1 = Sum.inr (sx t) then (kv.1, v) else kv)
  | _, _, t, d, v, .nil, _ => .nil
  | _, _, t, d, v, .cons (t := u) (d := d') (v := v') a b, r => by
    rw [List.map_cons, List.map_cons]
    have ih := rpE_map t b r
    by_cases h : u = t
    · subst h
      rw [if_pos rfl, if_pos rfl]
      exact .cons r ih
    · rw [if_neg h, if_neg (fun e => h (sx_inj (Sum.inr.inj e)))]
      exact .cons a ih
theorem rpE_snoc : ∀ {es : List (Tx × D)} {kvs : List (Key × V)} (t : Tx) {d : D} {v : V}, RpE K H M es kvs → Rp K H M d v → RpE K H M (es ++ [(t, d)]) (kvs ++ [(Sum.inr (sx t), v)])
  | _, _, t, d, v, .nil, r => .cons r .nil
  | _, _, t, d, v, .cons a b, r => .cons a (rpE_snoc t b r)
theorem rpE_put {es : List (Tx × D)} {kvs : List (Key × V)} (t : Tx) {d : D} {v : V} (h : RpE K H M es kvs) (r : Rp K H M d v) : RpE K H M (putE es t d) (putK kvs (Sum.inr (sx t)) v) := by
  unfold putE putK
  rw [rpE_has t h]
  by_cases q : hasE es t = true
  · rw [if_pos q, if_pos q]; exact rpE_map t h r
  · rw [if_neg q, if_neg q]; exact rpE_snoc t h r
theorem rpE_merge : ∀ {more : List (Tx × D)} {mkv : List (Key × V)} {es : List (Tx × D)} {kvs : List (Key × V)}, RpE K H M more mkv → RpE K H M es kvs → RpE K H M (mergeE es more) (mergeK kvs mkv)
  | _, _, es, kvs, .nil, h => h
  | _, _, es, kvs, .cons (t := t) (d := d) (es := r) (v := v) (kvs := rk) a b, h => by
    show RpE K H M (mergeE (putE es t d) r) (mergeK (putK kvs (Sum.inr (sx t)) v) rk)
    exact rpE_merge b (rpE_put t h a)
theorem rpE_atI : ∀ {es : List (Tx × D)} {kvs : List (Key × V)} (i : Nat) {e : Tx × D}, RpE K H M es kvs → es[i]? = some e → ∃ v, kvs[i]? = some (Sum.inr (sx e.1), v) ∧ Rp K H M e.2 v
  | _, _, _, _, .nil, e => by simp at e
  | _, _, 0, _, .cons a _, e => by simp at e; subst e; exact ⟨_, rfl, a⟩
  | _, _, i + 1, _, .cons _ b, e => by
    obtain ⟨v, h1, h2⟩ := rpE_atI i b (by simpa using e)
    exact ⟨v, by simpa using h1, h2⟩
end

/-! ### d.get(k, x); d[k] -/
def apDGet2 (x y z : W) (S : Sto) : R W := match rd S x, y with
  | some (.dct es), .v (.str t) => (match lkT es t with
    | some d => .ok (.v d) S
    | none => .ok z S)
  | _, _ => .bad
def isDct (x : W) (S : Sto) : Bool := match rd S x with
  | some (.dct _) => true
  | _ => false
def cDGet2 (a b c : Den W) : Den W := fun δ S => (a δ S).bind fun x S1 => if isDct x S1 = true then (b δ S1).bind fun y S2 => (c δ S2).bind fun z S3 => apDGet2 x y z S3 else .bad
def apDIx (x y : W) (S : Sto) : R W := match rd S x, y with
  | some (.dct es), .v (.str t) => (match lkT es t with
    | some d => .ok (.v d) S
    | none => .bad)
  | _, _ => .bad
def cDIx (a b : Den W) : Den W := fun δ S => (a δ S).bind fun x S1 => (b δ S1).bind fun y S2 => apDIx x y S2
def apDIn (neg : Bool) (y x : W) (S : Sto) : R W := match rd S x, y with
  | some (.dct es), .v (.str t) => .ok (.v (.bl (if neg then !(lkT es t).isSome else (lkT es t).isSome))) S
  | _, _ => .bad
def cDIn (neg : Bool) (b a : Den W) : Den W := fun δ S => (b δ S).bind fun y S1 => (a δ S1).bind fun x S2 => apDIn neg y x S2
section
variable {K : PySem.W.Frag} {ρ : List Addr} {S : Sto} {H : Hp}
theorem isDct_ok {x : W} {v : V} (so : Sok K ρ S H) (r : RpW K ρ S H x v) (h : isDct x S = true) : ∃ a, v = .ref a ∧ IsD H a := by
  unfold isDct at h
  cases q : rd S x with
  | none => simp only [q] at h; cases h
  | some d =>
    cases d with
    | dct es =>
      obtain ⟨a, kvs, rfl, hd, _⟩ := (rd_ok so r q).dctE
      exact ⟨a, rfl, .inl ⟨kvs, hd⟩⟩
    | _ => simp only [q] at h; cases h
theorem dGet_at {x : W} {v : V} {es : List (Tx × D)} (so : Sok K ρ S H) (r : RpW K ρ S H x v) (q : rd S x = some (.dct es)) (t : Tx) :
    ∃ a, v = .ref a ∧ ((lkT es t = none ∧ DGet H a (.str (sx t)) none) ∨ ∃ d u, lkT es t = some d ∧ DGet H a (.str (sx t)) (some u) ∧ Rp K H (live ρ S) d u) := by
  obtain ⟨a, kvs, rfl, hd, re⟩ := (rd_ok so r q).dctE
  refine ⟨a, rfl, ?_⟩
  rcases rpE_get t re with ⟨h1, h2⟩ | ⟨d, u, h1, h2, h3⟩
  · exact .inl ⟨h1, .inl ⟨kvs, Sum.inr (sx t), hd, rfl, h2.symm⟩⟩
  · exact .inr ⟨d, u, h1, .inl ⟨kvs, Sum.inr (sx t), hd, rfl, h2.symm⟩, h3⟩
end
section
variable {X : Cx} {E : XP} {k : Nat} {o e f : Expr} {apos cpos pos : Pos} {a b c : Den W}
theorem hu1 {A : Around} (hr : Room k A) : A.units + 1 < cLine := by have := hr.un; omega
theorem de_dget2 (hr : Room k X.A) (ho : PE X o (tE X.K E a)) (he : PE X e (tE X.K E b)) (hf : PE X f (tE X.K E c)) (m : M2 X o "get" apos e f cpos := by exact ⟨rfl, rfl, rfl, rfl⟩) : PE X (.Call (.Attribute o "get" apos) [e, f] [] cpos) (tE X.K E (cDGet2 a b c)) :=
  pe_mono (pe_dget2 (hu1 hr) ho he hf m) fun σ H Q ⟨δ, ρ, S, st, so, p⟩ => tG_then st so p fun x S1 v ρ1 H1 f1 st1 so1 r1 p1 => by
    by_cases hd : isDct x S1 = true
    · rw [if_pos hd] at p1
      obtain ⟨a, rfl, ia⟩ := isDct_ok so1 r1 hd
      refine ⟨a, rfl, ia, tG_then st1 so1 p1 fun y S2 u ρ2 H2 f2 st2 so2 r2 p2 => tG_then st2 so2 p2 fun z S3 w ρ3 H3 f3 st3 so3 r3 p3 => ?_⟩
      have rx := f3.rw (f2.rw r1)
      have ry := f3.rw r2
      unfold apDGet2 at p3
      split at p3
      · rename_i es t q
        obtain ⟨a', ea, h⟩ := dGet_at so3 rx q t
        cases ea
        cases ry
        rcases h with ⟨h1, h2⟩ | ⟨d, u, h1, h2, h3⟩
        · rw [h1] at p3
          exact ⟨none, h2, p3 w ρ3 H3 Fwd.refl so3 r3⟩
        · rw [h1] at p3
          exact ⟨some u, h2, p3 u ρ3 H3 Fwd.refl so3 h3⟩
      · exact p3.elim
    · rw [if_neg hd] at p1; exact p1.elim
theorem de_dix (hr : Room k X.A) (ho : PE X o (tE X.K E a)) (he : PE X e (tE X.K E b)) (hs : PlainIx e := by exact fun _ _ => rfl) : PE X (.Subscript o e pos) (tE X.K E (cDIx a b)) :=
  pe_mono (pe_dget (hu1 hr) ho he hs) fun σ H Q ⟨δ, ρ, S, st, so, p⟩ => tG_then st so p fun x S1 v ρ1 H1 f1 st1 so1 r1 p1 => tG_then st1 so1 p1 fun y S2 u ρ2 H2 f2 st2 so2 r2 p2 => by
    have rx := f2.rw r1
    unfold apDIx at p2
    split at p2
    · rename_i es t q
      obtain ⟨a', rfl, h⟩ := dGet_at so2 rx q t
      cases r2
      rcases h with ⟨h1, h2⟩ | ⟨d, u, h1, h2, h3⟩
      · rw [h1] at p2; exact p2.elim
      · rw [h1] at p2
        exact ⟨a', u, rfl, h2, p2 u ρ2 H2 Fwd.refl so2 h3⟩
    · exact p2.elim
theorem din_post {K : PySem.W.Frag} {ρ : List Addr} {S : Sto} {H : Hp} {y x : W} {u v : V} {Q : VK} {Ex} (neg : Bool) (so : Sok K ρ S H) (ry : RpW K ρ S H y u) (rx : RpW K ρ S H x v) (p : Post K (RpW K) ρ S H (apDIn neg y x S) Q Ex) : ∃ a o, v = .ref a ∧ DGet H a u o ∧ Q (.bl (if neg then !o.isSome else o.isSome)) H := by
  unfold apDIn at p
  split at p
  · rename_i es t q
    obtain ⟨a', rfl, h⟩ := dGet_at so rx q t
    cases ry
    rcases h with ⟨h1, h2⟩ | ⟨d, u, h1, h2, h3⟩
    · refine ⟨a', none, rfl, h2, p _ ρ H Fwd.refl so ?_⟩
      rw [h1]
      exact .bl _
    · refine ⟨a', some u, rfl, h2, p _ ρ H Fwd.refl so ?_⟩
      rw [h1]
      exact .bl _
  · exact p.elim
theorem de_din (hr : Room k X.A) (he : PE X e (tE X.K E b)) (ho : PE X o (tE X.K E a)) (hm : behindInMarks .In o = false := by rfl) : PE X (.Compare e [.In] [o] pos) (tE X.K E (cDIn false b a)) :=
  pe_mono (pe_cmp (pc_din (hu1 hr) he ho) hm) fun σ H Q ⟨δ, ρ, S, st, so, p⟩ => tG_then st so p fun y S1 u ρ1 H1 f1 st1 so1 r1 p1 => tG_then st1 so1 p1 fun x S2 v ρ2 H2 f2 st2 so2 r2 p2 => din_post false so2 (f2.rw r1) r2 p2
theorem de_dnotin (hr : Room k X.A) (he : PE X e (tE X.K E b)) (ho : PE X o (tE X.K E a)) (hm : behindInMarks .NotIn o = false := by rfl) : PE X (.Compare e [.NotIn] [o] pos) (tE X.K E (cDIn true b a)) :=
  pe_mono (pe_cmp (pc_dnotin (hu1 hr) he ho) hm) fun σ H Q ⟨δ, ρ, S, st, so, p⟩ => tG_then st so p fun y S1 u ρ1 H1 f1 st1 so1 r1 p1 => tG_then st1 so1 p1 fun x S2 v ρ2 H2 f2 st2 so2 r2 p2 => din_post true so2 (f2.rw r1) r2 p2
end
end Fro

namespace Fro
open PySem PySem.Spec L2

/-! ### {k: v, ..} -/
abbrev Prs := List (Den W × Den W)
def oneP (x y : W) (S : Sto) : R (Tx × D) := match x, y with
  | .v (.str t), .v d => .ok (t, d) S
  | _, _ => .bad
def pairsD : Prs → Den (List (Tx × D))
  | [] => fun _ S => .ok [] S
  | (a, b) :: r => fun δ S => (a δ S).bind fun x S1 => (b δ S1).bind fun y S2 => (oneP x y S2).bind fun e S3 => (pairsD r δ S3).bind fun es S4 => .ok (e :: es) S4
def endDict (n : Nat) (es : List (Tx × D)) (S1 : Sto) : R W := match S1[n]? with
  | some (.dct []) => if es.length ≤ 15 ∧ S1.length = n + 1 then .ok (.v (.dct (mergeE [] es))) (S1.take n) else .bad
  | _ => .bad
def cDict (ps : Prs) : Den W := fun δ S => (pairsD ps δ (S ++ [.dct []])).bind fun es S1 => endDict S.length es S1
theorem RpE.app : ∀ {K : PySem.W.Frag} {H : Hp} {M : Addr → Prop} {es : List (Tx × D)} {kvs : List (Key × V)}, RpE K H M es kvs → ∀ {fs : List (Tx × D)} {kvs' : List (Key × V)}, RpE K H M fs kvs' → RpE K H M (es ++ fs) (kvs ++ kvs')
  | _, _, _, _, _, .nil, _, _, h => h
  | _, _, _, _, _, .cons a b, _, _, h => .cons a (b.app h)
section
variable {K : PySem.W.Frag} {E : XP}
/-- what follows is kept at the place where it was wanted -/
theorem tG_thenB {α β γ ε : Type} {rel : Rl α β} {rel2 : Rl γ ε} {den : Den α} {k : α → Sto → R γ} {δ : Slots} {σ : L2.St} {ρ0 ρ : List Addr} {S0 S : Sto} {H0 H : Hp} {Q : ε → Hp → Prop} {Q' : β → Hp → Prop} (f0 : Fwd ρ0 S0 H0 ρ S H)
    (st : RpSt K ρ S H δ σ) (so : Sok K ρ S H) (h : Post K rel2 ρ0 S0 H0 ((den δ S).bind k) Q (E σ))
    (hk : ∀ (a : α) (S1 : Sto) (b : β) (ρ1 : List Addr) (H1 : Hp), Fwd ρ S H ρ1 S1 H1 → RpSt K ρ1 S1 H1 δ σ → Sok K ρ1 S1 H1 → rel ρ1 S1 H1 a b → Post K rel2 ρ0 S0 H0 (k a S1) Q (E σ) → Q' b H1) : tG K rel E den σ H Q' := by
  refine ⟨δ, ρ, S, st, so, ?_⟩
  cases e : den δ S with
  | ok a S1 =>
    rw [e] at h
    exact fun b ρ1 H1 f so1 q => hk a S1 b ρ1 H1 f (f.st st) so1 q h
  | exc c ds S1 => rw [e] at h; exact fun ρ1 H1 f so1 => h ρ1 H1 (f0.trans f) so1
  | bad => rw [e] at h; exact h
theorem pairs_bind {a b : Den W} {r : Prs} {k : List (Tx × D) → Sto → R W} {δ : Slots} {S : Sto} : ((pairsD ((a, b) :: r) δ S).bind k) = ((a δ S).bind fun x S1 => (b δ S1).bind fun y S2 => (oneP x y S2).bind fun e S3 => (pairsD r δ S3).bind fun es S4 => k (e :: es) S4) := by
  show R.bind (R.bind (a δ S) _) k = _
  cases a δ S with
  | bad => rfl
  | exc c ds S1 => rfl
  | ok x S1 =>
    show R.bind (R.bind (b δ S1) _) k = R.bind (b δ S1) _
    cases b δ S1 with
    | bad => rfl
    | exc c ds S1 => rfl
    | ok y S2 =>
      show R.bind (R.bind (oneP x y S2) _) k = R.bind (oneP x y S2) _
      cases oneP x y S2 with
      | bad => rfl
      | exc c ds S1 => rfl
      | ok e S3 =>
        show R.bind (R.bind (pairsD r δ S3) _) k = R.bind (pairsD r δ S3) _
        cases pairsD r δ S3 <;> rfl
theorem pairs_then {ρ0 : List Addr} {S0 : Sto} {H0 : Hp} : ∀ {ps : Prs} {k : List (Tx × D) → Sto → R W} {δ : Slots} {σ : L2.St} {ρ : List Addr} {S : Sto} {H : Hp} {Q : VK} {Q' : List (V × V) → Hp → Prop}, Fwd ρ0 S0 H0 ρ S H → RpSt K ρ S H δ σ → Sok K ρ S H → Post K (RpW K) ρ0 S0 H0 ((pairsD ps δ S).bind k) Q (E σ) →
    (∀ (es : List (Tx × D)) (S1 : Sto) (kvs : List (Key × V)) (ρ1 : List Addr) (H1 : Hp), Fwd ρ S H ρ1 S1 H1 → Sok K ρ1 S1 H1 → RpE K H1 (live ρ1 S1) es kvs → Post K (RpW K) ρ0 S0 H0 (k es S1) Q (E σ) → Q' (kvs.map fun kv => (kV kv.1, kv.2)) H1) →
    tPairs (ps.map fun p => (tE K E p.1, tE K E p.2)) σ H Q'
  | [], k, δ, σ, ρ, S, H, Q, Q', f0, st, so, p, h => h [] S [] ρ H Fwd.refl so .nil p
  | (a, b) :: r, k, δ, σ, ρ, S, H, Q, Q', f0, st, so, p, h => by
    rw [pairs_bind] at p
    rw [List.map_cons]
    refine tG_thenB f0 st so p fun x S1 v ρ1 H1 f1 st1 so1 r1 p1 => tG_thenB (f0.trans f1) st1 so1 p1 fun y S2 u ρ2 H2 f2 st2 so2 r2 p2 => ?_
    have rx := f2.rw r1
    unfold oneP at p2
    split at p2
    · rename_i t d
      cases rx
      refine pairs_then (f0.trans (f1.trans f2)) st2 so2 p2 fun es S3 kvs ρ3 H3 f3 so3 re p3 => ?_
      exact h ((t, d) :: es) S3 ((Sum.inr (sx t), u) :: kvs) ρ3 H3 (f1.trans (f2.trans f3)) so3 (.cons (f3.rp r2) re) p3
    · exact p2.elim
/-- an object that no one of the store is may be written at -/
theorem Sok.wrote {ρ : List Addr} {S : Sto} {H : Hp} {p : Addr} {o u : HO} (so : Sok K ρ S H) (n : ¬ live ρ S p) (hu : H p = some u) (hk : ∀ d v, Rp K H (live ρ S) d v → Rp K (upd H p o) (live ρ S) d v) : Sok K ρ S (upd H p o) := by
  have hkL : ∀ {ds : List D} {vs : List V}, RpL K H (live ρ S) ds vs → RpL K (upd H p o) (live ρ S) ds vs := fun {ds vs} h => by
    induction ds generalizing vs with
    | nil => cases h; exact .nil
    | cons d ds ih => cases h with | cons a b => exact .cons (hk _ _ a) (ih b)
  have hkE : ∀ {ds : List (Tx × D)} {vs : List (Key × V)}, RpE K H (live ρ S) ds vs → RpE K (upd H p o) (live ρ S) ds vs := fun {ds vs} h => by
    induction ds generalizing vs with
    | nil => cases h; exact .nil
    | cons d ds ih => cases h with | cons a b => exact .cons (hk _ _ a) (ih b)
  refine ⟨so.len, so.nd, fun i a ob h1 h2 => ?_⟩
  have q := so.obs i a ob h1 h2
  cases ob with
  | lst ds =>
    obtain ⟨xs, e, r⟩ := q
    have ne : a ≠ p := fun z => n (z ▸ ⟨i, _, h1, h2, rfl⟩)
    exact ⟨xs, by rw [upd_ne ne]; exact e, hkL r⟩
  | dct ds =>
    obtain ⟨xs, e, r⟩ := q
    have ne : a ≠ p := fun z => n (z ▸ ⟨i, _, h1, h2, rfl⟩)
    exact ⟨xs, by rw [upd_ne ne]; exact e, hkE r⟩
  | dead =>
    obtain ⟨z, e⟩ := q
    by_cases ne : a = p
    · rw [ne]; exact ⟨o, upd_same⟩
    · exact ⟨z, by rw [upd_ne ne]; exact e⟩
theorem dict_post {ps : Prs} {σ : L2.St} {H : Hp} {Q : VK} (h : tE K E (cDict ps) σ H Q) : tDisp (ps.map fun p => (tE K E p.1, tE K E p.2)) σ H Q := fun p np => by
  obtain ⟨δ, ρ, S, st, so, ps'⟩ := h
  have fg : Fwd ρ S H (ρ ++ [p]) (S ++ [.dct []]) (upd H p (.dK [])) := Fwd.grown so np _
  have sg : Sok K (ρ ++ [p]) (S ++ [.dct []]) (upd H p (.dK [])) := so.grown np _ ⟨[], upd_same, .nil⟩
  have ep : (ρ ++ [p])[S.length]? = some p := by rw [← so.len]; simp
  refine pairs_then fg (fg.st st) sg ps' fun es S1 kvs ρ1 H1 f1 so1 re p1 => ?_
  have e1 : ρ1[S.length]? = some p := f1.at ep
  unfold endDict at p1
  split at p1
  · rename_i q
    split at p1
    · rename_i hc
      obtain ⟨xs, ex, rx⟩ := so1.obs _ _ _ e1 q
      cases rx
      refine ⟨ex, kvs, rfl, by rw [← rpE_len re]; exact hc.1, ?_⟩
      have fc : Fwd ρ1 S1 H1 ρ1 (S1.set S.length (.dct (mergeE [] es))) (upd H1 p (.dK (mergeK [] kvs))) := Fwd.changed so1 e1 q rfl
      have rm : RpE K (upd H1 p (.dK (mergeK [] kvs))) (live ρ1 (S1.set S.length (.dct (mergeE [] es)))) (mergeE [] es) (mergeK [] kvs) := fc.rpE (rpE_merge re .nil)
      have sc : Sok K ρ1 (S1.set S.length (.dct (mergeE [] es))) (upd H1 p (.dK (mergeK [] kvs))) := so1.changed e1 q rfl ⟨_, upd_same, rm⟩
      have ff : Fwd ρ S H ρ1 (S1.set S.length (.dct (mergeE [] es))) (upd H1 p (.dK (mergeK [] kvs))) := fg.trans (f1.trans fc)
      obtain ⟨more, em⟩ := ff.ext
      have t := sc.take S.length
      have ecut : (S1.set S.length (.dct (mergeE [] es))).take S.length = S1.take S.length := by
        apply List.ext_getElem?
        intro j
        by_cases hj : j < S.length
        · rw [List.getElem?_take_of_lt hj, List.getElem?_take_of_lt hj, List.getElem?_set_ne (by omega)]
        · rw [List.getElem?_eq_none (by rw [List.length_take]; omega), List.getElem?_eq_none (by rw [List.length_take]; omega)]
      rw [em, take_pre so.len, ← em] at t
      have fcut := ff.cut so.len sc.len
      rw [ecut] at t fcut
      have np' : ¬ live ρ (S1.take S.length) p := fun l => so.notIn np (by
        obtain ⟨j, o, h1, _, _⟩ := l
        exact List.mem_of_getElem? h1)
      exact p1 (.ref p) ρ _ fcut t.1 (Rp.dct (.inl upd_same) np' (rm.weak t.2))
    · exact p1.elim
  · exact p1.elim
end
section
variable {X : Cx} {E : XP} {pos : Pos}
theorem de_dict {keys : List (Option Expr)} {values : List Expr} {ps : Prs} (h : PPs X pos keys values (ps.map fun p => (tE X.K E p.1, tE X.K E p.2))) (hall : keys.all (·.isSome) = true := by rfl) (hl : keys.length = values.length := by rfl) (h0 : keys ≠ [] := by exact fun z => nomatch z) (h15 : keys.length ≤ 15 := by decide) :
    PE X (.Dict keys values pos) (tE X.K E (cDict ps)) := pe_mono (pe_disp h hall hl h0 h15) fun σ H Q z => dict_post z
theorem dd_nil : PPs X pos [] [] (([] : Prs).map fun p => (tE X.K E p.1, tE X.K E p.2)) := pps_nil
theorem dd_cons {k v : Expr} {ks : List (Option Expr)} {vs : List Expr} {a b : Den W} {r : Prs} (hk : PE X k (tE X.K E a)) (hv : PE X v (tE X.K E b)) (hr : PPs X pos ks vs (r.map fun p => (tE X.K E p.1, tE X.K E p.2))) : PPs X pos (some k :: ks) (v :: vs) (((a, b) :: r).map fun p => (tE X.K E p.1, tE X.K E p.2)) := pps_cons hk hv hr
def cDict0 : Den W := fun _ S => .ok (.v (.dct [])) S
def cDict0M : Den W := fun _ S => .ok (.r S.length) (S ++ [.dct []])
end
end Fro

namespace Fro
open PySem PySem.Spec L2

/-! ### a dict that is walked is locked -/
section
variable {K : PySem.W.Frag} {H : Hp} {M : Addr → Prop} {a : Addr} {kvs : List (Key × V)} {od : Obj}
/-- what stands for data stands for it when a dict is locked, or let go -/
theorem Rp.swap {H' : Hp} (hne : ∀ b, b ≠ a → H' b = H b) (h1 : Rd H a (.dK kvs)) (h2 : Rd H' a (.dK kvs)) (h3 : ∀ xs, H a ≠ some (.tup xs)) (h4 : ∀ o xs, H a ≠ some (.frz o (.tup xs))) (h5 : ∀ xs, H a ≠ some (.lst xs)) {d : D} {v : V} (h : Rp K H M d v) : Rp K H' M d v := by
  have hT : ∀ {b : Addr} {xs : List V}, SqT K H b xs → SqT K H' b xs := fun {b xs} q => by
    rcases q with (q | ⟨o, q⟩) | q
    · exact .inl (.inl ((hne b fun z => h3 xs (z ▸ q)).trans q))
    · exact .inl (.inr ⟨o, (hne b fun z => h4 o xs (z ▸ q)).trans q⟩)
    · exact .inr q
  have uq : ∀ {ks : List (Key × V)}, Rd H a (.dK ks) → ks = kvs := fun {ks} q => by
    rcases q with q | ⟨o, q⟩ <;> rcases h1 with h | ⟨o', h⟩ <;> (first | (rw [h] at q; cases q; rfl) | (rw [h] at q; cases q))
  have hD : ∀ {b : Addr} {ks : List (Key × V)}, Rd H b (.dK ks) → Rd H' b (.dK ks) := fun {b ks} q => by
    by_cases hb : b = a
    · subst hb
      rw [uq q]; exact h2
    · rcases q with q | ⟨o, q⟩
      · exact .inl ((hne b hb).trans q)
      · exact .inr ⟨o, (hne b hb).trans q⟩
  exact Rp.rec (motive_1 := fun d v _ => Rp K H' M d v) (motive_2 := fun ds vs _ => RpL K H' M ds vs) (motive_3 := fun es kvs _ => RpE K H' M es kvs)
    .non .bl .int .str .ty (fun q _ z => .tup (hT q) z) (fun {b xs ds} e n _ z => .lst ((hne b fun y => h5 xs (y ▸ e)).trans e) n z) (fun e n _ z => .dct (hD e) n z)
    .nil (fun _ _ x y => .cons x y) .nil (fun _ _ x y => .cons x y) h
theorem RpE.of {H H' : Hp} {M M' : Addr → Prop} (hk : ∀ d v, Rp K H M d v → Rp K H' M' d v) : ∀ {es : List (Tx × D)} {kvs : List (Key × V)}, RpE K H M es kvs → RpE K H' M' es kvs
  | _, _, .nil => .nil
  | _, _, .cons a b => .cons (hk _ _ a) (RpE.of hk b)
theorem rp_lock (h : H a = some (.dK kvs)) {d : D} {v : V} (r : Rp K H M d v) : Rp K (upd H a (.frz od (.dK kvs))) M d v :=
  r.swap (fun b hb => upd_ne hb) (.inl h) (.inr ⟨od, upd_same⟩) (fun xs z => by rw [h] at z; cases z) (fun o xs z => by rw [h] at z; cases z) (fun xs z => by rw [h] at z; cases z)
theorem rp_unlock (h : H a = some (.frz od (.dK kvs))) {d : D} {v : V} (r : Rp K H M d v) : Rp K (upd H a (.dK kvs)) M d v :=
  r.swap (fun b hb => upd_ne hb) (.inr ⟨od, h⟩) (.inl upd_same) (fun xs z => by rw [h] at z; cases z) (fun o xs z => by rw [h] at z; cases z) (fun xs z => by rw [h] at z; cases z)
end
/-- a locked dict is a dict -/
def unlk : W → W
  | .lk es => .v (.dct es)
  | w => w
def unlkS (δ : Slots) : Slots := δ.map fun o => o.map unlk
section
variable {K : PySem.W.Frag} {ρ : List Addr} {S : Sto} {H : Hp} {a : Addr} {kvs : List (Key × V)} {od : Obj}
theorem unlk_rp {w : W} {v : V} (h : RpW K ρ S H w v) : RpW K ρ S H (unlk w) v := by
  cases w with
  | lk es => obtain ⟨b, o, ks, rfl, q, n, r⟩ := h; exact Rp.dct (.inr ⟨o, q⟩) n r
  | _ => exact h
theorem rw_lock (h : H a = some (.dK kvs)) {w : W} {v : V} (r : RpW K ρ S H w v) : RpW K ρ S (upd H a (.frz od (.dK kvs))) w v := by
  cases w with
  | v d => exact rp_lock h r
  | r i => exact r
  | s ns =>
    obtain ⟨b, rfl, q⟩ := r
    refine ⟨b, rfl, ?_⟩
    rcases q with ⟨q, n⟩ | ⟨o, q⟩ | q
    · exact .inl ⟨by rw [upd_ne (fun z => by rw [z, h] at q; cases q)]; exact q, n⟩
    · exact .inr (.inl ⟨o, by rw [upd_ne (fun z => by rw [z, h] at q; cases q)]; exact q⟩)
    · exact .inr (.inr q)
  | x c ds =>
    obtain ⟨b, C, d, rfl, q, n, xr⟩ := r
    obtain ⟨vfs, e, g⟩ := xr.at_
    exact ⟨b, C, d, rfl, by rw [upd_ne (fun z => by rw [z, h] at q; cases (Option.some.inj q))]; exact q, n, xr.cls, xr.dead, vfs, by rw [upd_ne (fun z => by rw [z, h] at e; cases e)]; exact e, fun k m u h1 h2 => let ⟨v, h3, h4⟩ := g k m u h1 h2; ⟨v, h3, rp_lock h h4⟩⟩
  | lk es =>
    obtain ⟨b, o, ks, rfl, q, n, r⟩ := r
    exact ⟨b, o, ks, rfl, by rw [upd_ne (fun z => by rw [z, h] at q; cases q)]; exact q, n, RpE.of (fun _ _ => rp_lock h) r⟩
theorem rw_unlock (h : H a = some (.frz od (.dK kvs))) {w : W} {v : V} (r : RpW K ρ S H w v) : RpW K ρ S (upd H a (.dK kvs)) (unlk w) v := by
  cases w with
  | v d => exact rp_unlock h r
  | r i => exact r
  | s ns =>
    obtain ⟨b, rfl, q⟩ := r
    refine ⟨b, rfl, ?_⟩
    rcases q with ⟨q, n⟩ | ⟨o, q⟩ | q
    · exact .inl ⟨by rw [upd_ne (fun z => by rw [z, h] at q; cases q)]; exact q, n⟩
    · exact .inr (.inl ⟨o, by rw [upd_ne (fun z => by rw [z, h] at q; cases q)]; exact q⟩)
    · exact .inr (.inr q)
  | x c ds =>
    obtain ⟨b, C, d, rfl, q, n, xr⟩ := r
    obtain ⟨vfs, e, g⟩ := xr.at_
    exact ⟨b, C, d, rfl, by rw [upd_ne (fun z => by rw [z, h] at q; cases (Option.some.inj q))]; exact q, n, xr.cls, xr.dead, vfs, by rw [upd_ne (fun z => by rw [z, h] at e; cases e)]; exact e, fun k m u h1 h2 => let ⟨v, h3, h4⟩ := g k m u h1 h2; ⟨v, h3, rp_unlock h h4⟩⟩
  | lk es =>
    have r' := unlk_rp r
    exact rp_unlock h r'
theorem sok_lock (so : Sok K ρ S H) (n : ¬ live ρ S a) (h : H a = some (.dK kvs)) : Sok K ρ S (upd H a (.frz od (.dK kvs))) := so.wrote n h fun _ _ => rp_lock h
theorem sok_unlock (so : Sok K ρ S H) (n : ¬ live ρ S a) (h : H a = some (.frz od (.dK kvs))) : Sok K ρ S (upd H a (.dK kvs)) := so.wrote n h fun _ _ => rp_unlock h
theorem st_lock {δ : Slots} {σ : L2.St} (h : H a = some (.dK kvs)) (st : RpSt K ρ S H δ σ) : RpSt K ρ S (upd H a (.frz od (.dK kvs))) δ σ := ⟨st.1, fun i w e => let ⟨v, h1, h2⟩ := st.2 i w e; ⟨v, h1, rw_lock h h2⟩⟩
theorem unlkS_at {δ : Slots} {i : Nat} {w : W} (e : (unlkS δ)[i]? = some (some w)) : ∃ w', δ[i]? = some (some w') ∧ w = unlk w' := by
  unfold unlkS at e
  rw [List.getElem?_map] at e
  cases q : δ[i]? with
  | none => rw [q] at e; cases e
  | some o =>
    rw [q] at e
    cases o with
    | none => cases e
    | some w' => cases e; exact ⟨w', rfl, rfl⟩
theorem st_unlock {δ : Slots} {σ : L2.St} (h : H a = some (.frz od (.dK kvs))) (st : RpSt K ρ S H δ σ) : RpSt K ρ S (upd H a (.dK kvs)) (unlkS δ) σ := ⟨by unfold unlkS; rw [List.length_map]; exact st.1, fun i w e => by
  obtain ⟨w', e', rfl⟩ := unlkS_at e
  obtain ⟨v, h1, h2⟩ := st.2 i w' e'
  exact ⟨v, h1, rw_unlock h h2⟩⟩
theorem st_unlk {δ : Slots} {σ : L2.St} (st : RpSt K ρ S H δ σ) : RpSt K ρ S H (unlkS δ) σ := ⟨by unfold unlkS; rw [List.length_map]; exact st.1, fun i w e => by
  obtain ⟨w', e', rfl⟩ := unlkS_at e
  obtain ⟨v, h1, h2⟩ := st.2 i w' e'
  exact ⟨v, h1, unlk_rp h2⟩⟩
/-- there and back -/
theorem fwd_locked {ρ1 : List Addr} {S1 : Sto} {H1 : Hp} (h : H a = some (.dK kvs)) (n : ¬ live ρ S a) (f : Fwd ρ S (upd H a (.frz od (.dK kvs))) ρ1 S1 H1) : H1 a = some (.frz od (.dK kvs)) ∧ ¬ live ρ1 S1 a ∧ Fwd ρ S H ρ1 S1 (upd H1 a (.dK kvs)) := by
  have h1 : H1 a = some (.frz od (.dK kvs)) := f.frzs _ _ _ upd_same
  refine ⟨h1, fun l => ?_, ⟨f.ext, fun b o nb e => ?_, fun b xs e => ?_, fun b o u e => ?_, fun b l => ?_⟩⟩
  · rcases f.new _ l with z | z
    · exact n z
    · rw [upd_same] at z; cases z
  · by_cases hb : b = a
    · subst hb
      rw [h] at e
      rw [upd_same]; exact e
    · rw [upd_ne hb]
      exact f.keep b o nb (by rw [upd_ne hb]; exact e)
  · have hb : b ≠ a := fun z => by rw [z, h] at e; cases e
    rw [upd_ne hb]
    exact f.tups b xs (by rw [upd_ne hb]; exact e)
  · have hb : b ≠ a := fun z => by rw [z, h] at e; cases e
    rw [upd_ne hb]
    exact f.frzs b o u (by rw [upd_ne hb]; exact e)
  · rcases f.new b l with z | z
    · exact .inl z
    · by_cases hb : b = a
      · subst hb
        rw [upd_same] at z; cases z
      · rw [upd_ne hb] at z; exact .inr z
/-- the slot of a dict, locked -/
theorem st_slot {δ : Slots} {σ : L2.St} {i : Nat} {es : List (Tx × D)} {v : V} (st : RpSt K ρ S H δ σ) (e : σ[i]? = some (some v)) (r : RpW K ρ S H (.lk es) v) : RpSt K ρ S H (δ.set i (some (.lk es))) σ := by
  have q := st.set i r
  rw [show σ.set i (some v) = σ from by
    apply List.ext_getElem?
    intro j
    by_cases hj : i = j
    · subst hj
      have hl : i < σ.length := by
        rcases Nat.lt_or_ge i σ.length with h | h
        · exact h
        · rw [List.getElem?_eq_none h] at e; cases e
      rw [List.getElem?_set_self hl, e]
    · rw [List.getElem?_set_ne hj]] at q
  exact q
end
def okLk (r : R W) : R W := match r with
  | .ok w S => .ok (unlk w) S
  | _ => .bad
/-- an expression that walks the dict in slot i -/
def cLk (i : Nat) (den : Den W) : Den W := fun δ S => match δ[i]? with
  | some (some (.v (.dct es))) => okLk (den (δ.set i (some (.lk es))) S)
  | some (some (.lk _)) => okLk (den δ S)
  | _ => .bad
def okLkS (r : RS) : RS := match r with
  | .nx δ S => .nx (unlkS δ) S
  | .rt w S => .rt (unlk w) S
  | .bk δ S => .bk (unlkS δ) S
  | .ct δ S => .ct (unlkS δ) S
  | _ => .bad
def cLkS (i : Nat) (den : DenS) : DenS := fun δ S => match δ[i]? with
  | some (some (.v (.dct es))) => okLkS (den (δ.set i (some (.lk es))) S)
  | some (some (.lk _)) => okLkS (den δ S)
  | _ => .bad
section
variable {X : Cx} {E : XP}
theorem lk_here {den : Den W} {δ : Slots} {σ : L2.St} {ρ : List Addr} {S : Sto} {H : Hp} {Q : VK} {Ex} (p : Post X.K (RpW X.K) ρ S H (okLk (den δ S)) Q Ex) : Post X.K (RpW X.K) ρ S H (den δ S) Q (E σ) := by
  cases q : den δ S with
  | bad => rw [q] at p; exact p
  | exc c ds S1 => rw [q] at p; exact p.elim
  | ok w S1 => rw [q] at p; exact fun v ρ1 H1 f so r => p v ρ1 H1 f so (unlk_rp r)
theorem de_lk (i : Nat) {e : Expr} {den : Den W} (h : PE X e (tE X.K E den)) : PE X e (tE X.K E (cLk i den)) := ⟨fun pins s σ H Q I ⟨δ, ρ, S, st, so, p⟩ => by
  unfold cLk at p
  split at p
  · rename_i es q
    obtain ⟨v, ev, rv⟩ := st.2 i _ q
    cases rv with
    | dct hd n re =>
      rename_i a kvs
      rcases hd with hd | ⟨o, hd⟩
      · refine (pe_lock h).run pins s σ H Q I ⟨a, _, hd, trivial, fun od => ⟨δ.set i (some (.lk es)), ρ, S, st_slot (st_lock hd st) ev ⟨a, od, kvs, rfl, upd_same, n, RpE.of (fun _ _ => rp_lock hd) re⟩, sok_lock so n hd, ?_⟩⟩
        cases qd : den (δ.set i (some (.lk es))) S with
        | bad => rw [qd] at p; exact p.elim
        | exc c ds S1 => rw [qd] at p; exact p.elim
        | ok w S1 =>
          rw [qd] at p
          intro v1 ρ1 H1 f so1 r
          obtain ⟨h1, n1, ff⟩ := fwd_locked hd n f
          exact ⟨h1, p v1 ρ1 _ ff (sok_unlock so1 n1 h1) (rw_unlock h1 r)⟩
      · exact h.run pins s σ H Q I ⟨_, ρ, S, st_slot st ev ⟨a, o, kvs, rfl, hd, n, re⟩, so, lk_here p⟩
  · exact h.run pins s σ H Q I ⟨δ, ρ, S, st, so, lk_here p⟩
  · exact p.elim⟩
theorem lkS_here {den : DenS} {δ : Slots} {ρ : List Addr} {S : Sto} {H : Hp} {D' : Ends} (p : PostS X.K ρ S H (okLkS (den δ S)) D' E) : PostS X.K ρ S H (den δ S) D' E := by
  cases q : den δ S with
  | bad => rw [q] at p; exact p
  | xc c ds δ1 S1 => rw [q] at p; exact p.elim
  | rt w S1 => rw [q] at p; exact fun v ρ1 H1 f so r => p v ρ1 H1 f so (unlk_rp r)
  | nx δ1 S1 => rw [q] at p; exact fun v ρ1 H1 f so r => p v ρ1 H1 f so (st_unlk r)
  | bk δ1 S1 => rw [q] at p; exact fun v ρ1 H1 f so r => p v ρ1 H1 f so (st_unlk r)
  | ct δ1 S1 => rw [q] at p; exact fun v ρ1 H1 f so r => p v ρ1 H1 f so (st_unlk r)
theorem ds_lk (i : Nat) {s : Stmt} {den : DenS} (h : PS X s (tS X.K E den)) : PS X s (tS X.K E (cLkS i den)) := ⟨fun pins s σ H D' I ⟨δ, ρ, S, st, so, p⟩ => by
  unfold cLkS at p
  split at p
  · rename_i es q
    obtain ⟨v, ev, rv⟩ := st.2 i _ q
    cases rv with
    | dct hd n re =>
      rename_i a kvs
      rcases hd with hd | ⟨o, hd⟩
      · refine (ps_lock h).run pins s σ H D' I ⟨a, _, hd, trivial, fun od => ⟨δ.set i (some (.lk es)), ρ, S, st_slot (st_lock hd st) ev ⟨a, od, kvs, rfl, upd_same, n, RpE.of (fun _ _ => rp_lock hd) re⟩, sok_lock so n hd, ?_⟩⟩
        cases qd : den (δ.set i (some (.lk es))) S with
        | bad => rw [qd] at p; exact p.elim
        | xc c ds δ1 S1 => rw [qd] at p; exact p.elim
        | rt w S1 =>
          rw [qd] at p
          intro v1 ρ1 H1 f so1 r
          obtain ⟨h1, n1, ff⟩ := fwd_locked hd n f
          exact ⟨h1, p v1 ρ1 _ ff (sok_unlock so1 n1 h1) (rw_unlock h1 r)⟩
        | nx δ1 S1 =>
          rw [qd] at p
          intro v1 ρ1 H1 f so1 r
          obtain ⟨h1, n1, ff⟩ := fwd_locked hd n f
          exact ⟨h1, p v1 ρ1 _ ff (sok_unlock so1 n1 h1) (st_unlock h1 r)⟩
        | bk δ1 S1 =>
          rw [qd] at p
          intro v1 ρ1 H1 f so1 r
          obtain ⟨h1, n1, ff⟩ := fwd_locked hd n f
          exact ⟨h1, p v1 ρ1 _ ff (sok_unlock so1 n1 h1) (st_unlock h1 r)⟩
        | ct δ1 S1 =>
          rw [qd] at p
          intro v1 ρ1 H1 f so1 r
          obtain ⟨h1, n1, ff⟩ := fwd_locked hd n f
          exact ⟨h1, p v1 ρ1 _ ff (sok_unlock so1 n1 h1) (st_unlock h1 r)⟩
      · exact h.run pins s σ H D' I ⟨_, ρ, S, st_slot st ev ⟨a, o, kvs, rfl, hd, n, re⟩, so, lkS_here p⟩
  · exact h.run pins s σ H D' I ⟨δ, ρ, S, st, so, lkS_here p⟩
  · exact p.elim⟩
end

/-! ### items, values, keys of a locked dict -/
def itemsD (es : List (Tx × D)) : List D := es.map fun e => .tup [.str e.1, e.2]
def valsD (es : List (Tx × D)) : List D := es.map fun e => e.2
def keysD (es : List (Tx × D)) : List D := es.map fun e => .str e.1
def asLk (g : List (Tx × D) → List D) (w : W) (S : Sto) : R (List D) := match w with
  | .lk es => .ok (g es) S
  | _ => .bad
def itI (a : Den W) : Den (List D) := fun δ S => (a δ S).bind (asLk itemsD)
def itV (a : Den W) : Den (List D) := fun δ S => (a δ S).bind (asLk valsD)
def itK (a : Den W) : Den (List D) := fun δ S => (a δ S).bind (asLk keysD)
section
variable {K : PySem.W.Frag} {ρ : List Addr} {S : Sto} {H : Hp} {a : Addr} {kvs : List (Key × V)} {o : Obj} {es : List (Tx × D)}
theorem jok_items (h : H a = some (.frz o (.dK kvs))) (r : RpE K H (live ρ S) es kvs) : Jok K ρ S H (itemsD es) (Iti a o kvs) := fun i ρ' S' H' f so => by
  have h' := f.frzs _ _ _ h
  have r' := f.rpE r
  refine ⟨fun d e => ?_, fun hl => ⟨h', by rw [← rpE_len r]; unfold itemsD at hl; rw [List.length_map] at hl; exact hl⟩⟩
  unfold itemsD at e
  rw [List.getElem?_map] at e
  cases q : es[i]? with
  | none => rw [q] at e; cases e
  | some en =>
    rw [q] at e
    cases e
    obtain ⟨v, hv, rv⟩ := rpE_atI i r' q
    have hi : i < kvs.length := (List.getElem?_eq_some_iff.mp hv).1
    refine ⟨⟨h', hi⟩, fun x H'' y => ?_⟩
    obtain ⟨T, k, u, e1, rfl, nT, rfl⟩ := y
    rw [hv] at e1
    cases e1
    have fl : Fwd ρ' S' H' ρ' S' (upd H' T (.tup [kV (Sum.inr (sx en.1)), v])) := Fwd.laid so nT
    exact ⟨fl, so.laid nT, .tup (SqT.of upd_same) (.cons (.str _) (.cons (fl.rp rv) .nil))⟩
theorem jok_vals (h : H a = some (.frz o (.dK kvs))) (r : RpE K H (live ρ S) es kvs) : Jok K ρ S H (valsD es) (Itd a o kvs) := fun i ρ' S' H' f so => by
  have h' := f.frzs _ _ _ h
  have r' := f.rpE r
  refine ⟨fun d e => ?_, fun hl => ⟨h', by rw [← rpE_len r]; unfold valsD at hl; rw [List.length_map] at hl; exact hl⟩⟩
  unfold valsD at e
  rw [List.getElem?_map] at e
  cases q : es[i]? with
  | none => rw [q] at e; cases e
  | some en =>
    rw [q] at e
    cases e
    obtain ⟨v, hv, rv⟩ := rpE_atI i r' q
    have hi : i < kvs.length := (List.getElem?_eq_some_iff.mp hv).1
    refine ⟨⟨h', hi⟩, fun x H'' y => ?_⟩
    obtain ⟨rfl, k, e1⟩ := y
    rw [hv] at e1
    cases e1
    exact ⟨Fwd.refl, so, rv⟩
theorem jok_keys (h : H a = some (.frz o (.dK kvs))) (r : RpE K H (live ρ S) es kvs) : Jok K ρ S H (keysD es) (Itk a o kvs) := fun i ρ' S' H' f so => by
  have h' := f.frzs _ _ _ h
  have r' := f.rpE r
  refine ⟨fun d e => ?_, fun hl => ⟨h', by rw [← rpE_len r]; unfold keysD at hl; rw [List.length_map] at hl; exact hl⟩⟩
  unfold keysD at e
  rw [List.getElem?_map] at e
  cases q : es[i]? with
  | none => rw [q] at e; cases e
  | some en =>
    rw [q] at e
    cases e
    obtain ⟨v, hv, rv⟩ := rpE_atI i r' q
    have hi : i < kvs.length := (List.getElem?_eq_some_iff.mp hv).1
    refine ⟨⟨h', hi⟩, fun x H'' y => ?_⟩
    obtain ⟨rfl, k, u, e1, rfl⟩ := y
    rw [hv] at e1
    cases e1
    exact ⟨Fwd.refl, so, .str _⟩
end
section
variable {X : Cx} {E : XP} {tg e : Expr} {a : Den W} {apos cpos tpos : Pos}
theorem di_items {elts : List Expr} {kk : Nat} (h : PE X e (tE X.K E a)) (hbase : attributeBase e "items" X.env (eval e X.env) = eval e X.env := by rfl) (hline : (apos.endLine == cpos.line) = true := by rfl) :
    PI X (.Tuple elts kk tpos) (.Call (.Attribute e "items" apos) [] [] cpos) (tI X.K E (itI a)) := pi_mono (pi_items h hbase hline) fun σ H Q ⟨δ, ρ, S, st, so, p⟩ => tG_then st so p fun w S1 v ρ1 H1 f1 st1 so1 r1 p1 => by
  cases w with
  | lk es => obtain ⟨d, o, kvs, rfl, q, n, re⟩ := r1; exact ⟨d, o, kvs, rfl, q, p1 _ ρ1 H1 Fwd.refl so1 (jok_items q re)⟩
  | _ => exact p1.elim
theorem di_vals (h : PE X e (tE X.K E a)) (hbase : attributeBase e "values" X.env (eval e X.env) = eval e X.env := by rfl) (hline : (apos.endLine == cpos.line) = true := by rfl) :
    PI X tg (.Call (.Attribute e "values" apos) [] [] cpos) (tI X.K E (itV a)) := pi_mono (pi_values h hbase hline) fun σ H Q ⟨δ, ρ, S, st, so, p⟩ => tG_then st so p fun w S1 v ρ1 H1 f1 st1 so1 r1 p1 => by
  cases w with
  | lk es => obtain ⟨d, o, kvs, rfl, q, n, re⟩ := r1; exact ⟨d, o, kvs, rfl, q, p1 _ ρ1 H1 Fwd.refl so1 (jok_vals q re)⟩
  | _ => exact p1.elim
theorem di_keys (h : PE X e (tE X.K E a)) : PI X tg e (tI X.K E (itK a)) := pi_mono (pi_keys h) fun σ H Q ⟨δ, ρ, S, st, so, p⟩ => tG_then st so p fun w S1 v ρ1 H1 f1 st1 so1 r1 p1 => by
  cases w with
  | lk es => obtain ⟨d, o, kvs, rfl, q, n, re⟩ := r1; exact ⟨d, o, rfl, .inl ⟨kvs, q, p1 _ ρ1 H1 Fwd.refl so1 (jok_keys q re)⟩⟩
  | _ => exact p1.elim
theorem de_dict0 {pos : Pos} : PE X (.Dict [] [] pos) (tE X.K E cDict0) := pe_mono pe_dnewK fun σ H Q ⟨δ, ρ, S, st, so, p⟩ => fun d hd => p (.ref d) ρ _ (Fwd.laid so hd) (so.laid hd) (Rp.dct (.inl upd_same) (so.notNone hd) .nil)
theorem de_dict0M {pos : Pos} : PE X (.Dict [] [] pos) (tE X.K E cDict0M) := pe_mono pe_dnewK fun σ H Q ⟨δ, ρ, S, st, so, p⟩ => fun d hd => p (.ref d) (ρ ++ [d]) _ (Fwd.grown so hd _) (so.grown hd _ ⟨[], upd_same, .nil⟩) ⟨d, rfl, by rw [← so.len]; simp⟩
end
end Fro

namespace Fro
open PySem PySem.Spec L2

/-! ### what is never reached -/
def cNever : Den W := fun _ _ => .bad
theorem de_never {X : Cx} {E : XP} {e : Expr} : PE X e (tE X.K E cNever) := ⟨fun pins s σ H Q I ⟨δ, ρ, S, st, so, p⟩ => p.elim⟩

/-! ### a comprehension's turns, within another one -/
section
variable {K : PySem.W.Frag} {E : XP}
theorem comp_turns {g : TG} {dg : DenG} {ts vs : List Nat} {tt : Den Bool} {te : Den W} (hg : GOk K g dg ts) (ht : ∀ j ∈ ts, j ∈ vs) {kf : Sto → R W} {σ : L2.St} {Q : VK} {n : Nat} {D' : Addr} {ρ1 ρ4 : List Addr} {S1 S4 : Sto} {H1 H4 : Hp} {δ : Slots} {ds : List D} {J : It} {Ex} {Nx : Hp → Prop}
    (f4 : Fwd ρ1 S1 H1 ρ4 S4 H4) (ed4 : ρ4[n]? = some D') (so4 : Sok K ρ4 S4 H4) (st4 : RpSt K ρ4 S4 H4 δ σ) (j4 : Jok K ρ4 S4 H4 ds J)
    (p4 : Post K (RpW K) ρ1 S1 H1 ((compL dg tt te n ds (wipeD δ vs) S4).bind fun _ S2 => kf S2) Q Ex)
    (hend : ∀ (ρ' : List Addr) (S' : Sto) (H' : Hp), Fwd ρ1 S1 H1 ρ' S' H' → Fwd ρ4 S4 H4 ρ' S' H' → ρ'[n]? = some D' → Sok K ρ' S' H' → Post K (RpW K) ρ1 S1 H1 (kf S') Q Ex → Nx H') :
    ∃ W1 : Nat → Nat → Hp → Prop, (∃ m, W1 0 m H4) ∧ ∀ j k H, W1 j k H → (J.stop j H ∧ Nx H) ∨ (J.go j H ∧ ∃ Nx1 : Hp → Prop, (∀ H', Nx1 H' → ∃ k', k' < k ∧ W1 (j + 1) k' H') ∧ ∀ x H', J.yld j H x H' → g x (wipe σ vs) H' fun σ3 H5 => wipe σ3 vs = wipe σ vs ∧ (tT K XP0 tt) σ3 H5 fun b H6 =>
      if b = true then (tE K XP0 te) σ3 H6 fun y H7 => ∃ acc, H7 D' = some (.lst acc) ∧ acc.length < sizeLine ∧ Nx1 (upd H7 D' (.lst (acc ++ [y]))) else Nx1 H6) := by
  refine ⟨fun i m H' => i + m = ds.length ∧ ∃ (ρ' : List Addr) (S' : Sto), Fwd ρ1 S1 H1 ρ' S' H' ∧ Fwd ρ4 S4 H4 ρ' S' H' ∧ ρ'[n]? = some D' ∧ Sok K ρ' S' H' ∧ Post K (RpW K) ρ1 S1 H1 ((compL dg tt te n (ds.drop i) (wipeD δ vs) S').bind fun _ S2 => kf S2) Q Ex,
    ⟨ds.length, by omega, ρ4, S4, f4, Fwd.refl, ed4, so4, by rw [List.drop_zero]; exact p4⟩, fun i m H' hW => ?_⟩
  obtain ⟨em, ρ', S', f', fz, ed, so', p'⟩ := hW
  obtain ⟨jg, js⟩ := j4 i ρ' S' H' fz so'
  by_cases hl : i < ds.length
  · have edr : ds.drop i = ds[i] :: ds.drop (i + 1) := List.drop_eq_getElem_cons hl
    rw [edr] at p'
    obtain ⟨g1, g2⟩ := jg ds[i] (List.getElem?_eq_getElem hl)
    refine .inr ⟨g1, fun H2 => ∃ (ρ2 : List Addr) (S2 : Sto), Fwd ρ1 S1 H1 ρ2 S2 H2 ∧ Fwd ρ4 S4 H4 ρ2 S2 H2 ∧ ρ2[n]? = some D' ∧ Sok K ρ2 S2 H2 ∧ Post K (RpW K) ρ1 S1 H1 ((compL dg tt te n (ds.drop (i + 1)) (wipeD δ vs) S2).bind fun _ S2 => kf S2) Q Ex,
      fun H2 ⟨ρ2, S2, a1, a0, a2, a3, a4⟩ => ⟨m - 1, by omega, by omega, ρ2, S2, a1, a0, a2, a3, a4⟩, fun x H3 y => ?_⟩
    obtain ⟨fy, soy, ry⟩ := g2 x H3 y
    unfold compL at p'
    cases q : dg (.v ds[i]) (wipeD δ vs) S' with
    | none => simp only [q] at p'; exact p'.elim
    | some z =>
      obtain ⟨δ3, S3⟩ := z
      simp only [q] at p'
      have f3 : Fwd ρ1 S1 H1 ρ' S' H3 := f'.trans fy
      have f3z : Fwd ρ4 S4 H4 ρ' S' H3 := fz.trans fy
      refine hg ρ' S' H3 (wipeD δ vs) (wipe σ vs) (.v ds[i]) x _ δ3 S3 (wipe_rp vs (f3z.st st4)) soy ry q fun σ4 ρ5 H5 f5 so5 st5 l5 k5 => ?_
      refine ⟨wipe_same ht l5 k5, δ3, ρ5, S3, st5, so5, ?_⟩
      have e5 : ρ5[n]? = some D' := f5.at ed
      cases qt : tt δ3 S3 with
      | bad => rw [qt] at p'; exact p'.elim
      | exc c cs S5 => rw [qt] at p'; exact p'.elim
      | ok c S6 =>
        rw [qt] at p'
        intro b ρ6 H6 f6 so6 rb
        cases rb
        have e6 := f6.at e5
        cases c with
        | false =>
          rw [if_neg Bool.false_ne_true]
          exact ⟨ρ6, S6, (f3.trans f5).trans f6, (f3z.trans f5).trans f6, e6, so6, p'⟩
        | true =>
          rw [if_pos rfl]
          refine ⟨δ3, ρ6, S6, f6.st st5, so6, ?_⟩
          have p5 : Post K (RpW K) ρ1 S1 H1 (((te δ3 S6).noexc.bind fun w S3 => match w, S3[n]? with
            | .v e, some (.lst acc) => if acc.length < 1000000 then compL dg tt te n (ds.drop (i + 1)) (wipeD δ vs) (S3.set n (.lst (acc ++ [e]))) else .bad
            | _, _ => .bad).bind fun _ S2 => kf S2) Q Ex := p'
          cases qe : te δ3 S6 with
          | bad => rw [qe] at p5; exact p5.elim
          | exc c cs S6 => rw [qe] at p5; exact p5.elim
          | ok w S7 =>
            rw [qe] at p5
            intro y7 ρ7 H7 f7 so7 r7
            have e7 := f7.at e6
            cases w with
            | v e =>
              cases qn : S7[n]? with
              | none => simp only [R.noexc_ok, R.bind_ok, qn] at p5; exact p5.elim
              | some ob =>
                cases ob with
                | lst acc =>
                  simp only [R.noexc_ok, R.bind_ok, qn] at p5
                  obtain ⟨xs, ex, rl⟩ := so7.obs _ _ _ e7 qn
                  by_cases ha : acc.length < 1000000
                  · simp only [if_pos ha] at p5
                    refine ⟨xs, ex, by rw [← rl.length]; exact Nat.lt_trans ha (by decide), ?_⟩
                    have fc : Fwd ρ7 S7 H7 ρ7 (S7.set n (.lst (acc ++ [e]))) (upd H7 D' (.lst (xs ++ [y7]))) := Fwd.changed so7 e7 qn rfl
                    exact ⟨ρ7, _, ((f3.trans f5).trans (f6.trans f7)).trans fc, ((f3z.trans f5).trans (f6.trans f7)).trans fc, e7, so7.changed e7 qn rfl ⟨_, upd_same, (fc.rpL rl).append (.cons (fc.rp r7) .nil)⟩, p5⟩
                  · simp only [if_neg ha] at p5; exact p5.elim
                | _ => simp only [R.noexc_ok, R.bind_ok, qn] at p5; exact p5.elim
            | _ => exact p5.elim
  · refine .inl ⟨js (by omega), ?_⟩
    rw [List.drop_eq_nil_of_le (by omega)] at p'
    exact hend ρ' S' H' f' fz ed so' p'
end
/-! ### two fors -/
def comp2L (dg : DenG) (tt : Den Bool) (it1 : Den (List D)) (dg1 : DenG) (tt1 : Den Bool) (te : Den W) (vs1 : List Nat) (n : Nat) : List D → Slots → Sto → R Unit
  | [], _, S => .ok () S
  | d :: ds, δ, S => match dg (.v d) δ S with
    | none => .bad
    | some (δ1, S1) => (tt δ1 S1).noexc.bind fun c S2 => if c then (it1 δ1 S2).noexc.bind fun es S3 => (compL dg1 tt1 te n es (wipeD δ1 vs1) S3).bind fun _ S4 => comp2L dg tt it1 dg1 tt1 te vs1 n ds δ S4
      else comp2L dg tt it1 dg1 tt1 te vs1 n ds δ S2
def endComp (n : Nat) (S2 : Sto) : R W := if S2.length = n + 1 then (match S2[n]? with
    | some (.lst acc) => .ok (.v (.lst acc)) (S2.take n)
    | _ => .bad) else .bad
def cComp2 (it : Den (List D)) (dg : DenG) (tt : Den Bool) (it1 : Den (List D)) (dg1 : DenG) (tt1 : Den Bool) (te : Den W) (vs vs1 : List Nat) : Den W := fun δ S => (it δ S).bind fun ds S1 =>
  (comp2L dg tt it1 dg1 tt1 te vs1 S1.length ds (wipeD δ vs) (S1 ++ [.lst []])).bind fun _ S2 => endComp S1.length S2
theorem endComp_post {K : PySem.W.Frag} {ρ1 ρ2 : List Addr} {S1 S2 : Sto} {H1 H2 : Hp} {D' : Addr} {Q : VK} {Ex} (so1 : Sok K ρ1 S1 H1) (nD : H1 D' = none) (f : Fwd ρ1 S1 H1 ρ2 S2 H2) (so2 : Sok K ρ2 S2 H2) (e : ρ2[S1.length]? = some D') (p : Post K (RpW K) ρ1 S1 H1 (endComp S1.length S2) Q Ex) : Q (.ref D') H2 := by
  unfold endComp at p
  by_cases hl : S2.length = S1.length + 1
  · simp only [if_pos hl] at p
    cases q : S2[S1.length]? with
    | none => rw [q] at p; exact p.elim
    | some ob =>
      cases ob with
      | lst acc =>
        rw [q] at p
        obtain ⟨xs, ex, rl⟩ := so2.obs _ _ _ e q
        obtain ⟨more, em⟩ := f.ext
        have t := so2.take S1.length
        rw [em, take_pre so1.len, ← em] at t
        refine p (.ref D') ρ1 H2 (f.cut so1.len so2.len) t.1 (Rp.lst ex (fun l => so1.notIn nD ?_) (rl.weak t.2))
        obtain ⟨j, o, h1, _, _⟩ := l
        exact List.mem_of_getElem? h1
      | _ => rw [q] at p; exact p.elim
  · simp only [if_neg hl] at p; exact p.elim
section
variable {K : PySem.W.Frag} {E : XP}
theorem comp2_post {it it1 : Den (List D)} {g g1 : TG} {dg dg1 : DenG} {ts ts1 vs vs1 : List Nat} {tt tt1 : Den Bool} {te : Den W} (hg : GOk K g dg ts) (ht : ∀ j ∈ ts, j ∈ vs) (hg1 : GOk K g1 dg1 ts1) (ht1 : ∀ j ∈ ts1, j ∈ vs1) {σ : L2.St} {H : Hp} {Q : VK}
    (h : tE K E (cComp2 it dg tt it1 dg1 tt1 te vs vs1) σ H Q) : tLc2 (tI K E it) g (tT K XP0 tt) (tI K XP0 it1) g1 (tT K XP0 tt1) (tE K XP0 te) vs vs1 σ H Q := by
  obtain ⟨δ, ρ, S, st, so, p⟩ := h
  refine tG_then st so p fun ds S1 J ρ1 H1 f1 st1 so1 j1 p1 => fun D' nD => ?_
  have fg : Fwd ρ1 S1 H1 (ρ1 ++ [D']) (S1 ++ [.lst []]) (upd H1 D' (.lst [])) := Fwd.grown so1 nD _
  have sg : Sok K (ρ1 ++ [D']) (S1 ++ [.lst []]) (upd H1 D' (.lst [])) := so1.grown nD _ ⟨[], upd_same, .nil⟩
  refine ⟨fun i m H' => i + m = ds.length ∧ ∃ (ρ' : List Addr) (S' : Sto), Fwd ρ1 S1 H1 ρ' S' H' ∧ ρ'[S1.length]? = some D' ∧ Sok K ρ' S' H' ∧ Post K (RpW K) ρ1 S1 H1 ((comp2L dg tt it1 dg1 tt1 te vs1 S1.length (ds.drop i) (wipeD δ vs) S').bind fun _ S2 => endComp S1.length S2) Q (E σ),
    ⟨ds.length, by omega, _, _, fg, by rw [← so1.len]; simp, sg, by rw [List.drop_zero]; exact p1⟩, fun i m H' hW => ?_⟩
  obtain ⟨em, ρ', S', f', ed, so', p'⟩ := hW
  obtain ⟨jg, js⟩ := j1 i ρ' S' H' f' so'
  by_cases hl : i < ds.length
  · have edr : ds.drop i = ds[i] :: ds.drop (i + 1) := List.drop_eq_getElem_cons hl
    rw [edr] at p'
    obtain ⟨g1', g2⟩ := jg ds[i] (List.getElem?_eq_getElem hl)
    refine .inr ⟨g1', fun H2 => ∃ (ρ2 : List Addr) (S2 : Sto), Fwd ρ1 S1 H1 ρ2 S2 H2 ∧ ρ2[S1.length]? = some D' ∧ Sok K ρ2 S2 H2 ∧ Post K (RpW K) ρ1 S1 H1 ((comp2L dg tt it1 dg1 tt1 te vs1 S1.length (ds.drop (i + 1)) (wipeD δ vs) S2).bind fun _ S2 => endComp S1.length S2) Q (E σ),
      fun H2 ⟨ρ2, S2, a1, a2, a3, a4⟩ => ⟨m - 1, by omega, by omega, ρ2, S2, a1, a2, a3, a4⟩, fun x H3 y => ?_⟩
    obtain ⟨fy, soy, ry⟩ := g2 x H3 y
    unfold comp2L at p'
    cases q : dg (.v ds[i]) (wipeD δ vs) S' with
    | none => simp only [q] at p'; exact p'.elim
    | some z =>
      obtain ⟨δ3, S3⟩ := z
      simp only [q] at p'
      have f3 : Fwd ρ1 S1 H1 ρ' S' H3 := f'.trans fy
      refine hg ρ' S' H3 (wipeD δ vs) (wipe σ vs) (.v ds[i]) x _ δ3 S3 (wipe_rp vs (f3.st st1)) soy ry q fun σ4 ρ4 H4 f4 so4 st4 l4 k4 => ?_
      refine ⟨wipe_same ht l4 k4, δ3, ρ4, S3, st4, so4, ?_⟩
      have f14 : Fwd ρ1 S1 H1 ρ4 S3 H4 := f3.trans f4
      have e4 : ρ4[S1.length]? = some D' := f4.at ed
      cases qt : tt δ3 S3 with
      | bad => rw [qt] at p'; exact p'.elim
      | exc c cs S5 => rw [qt] at p'; exact p'.elim
      | ok c S5 =>
        rw [qt] at p'
        intro b ρ5 H5 f5 so5 rb
        cases rb
        have f15 := f14.trans f5
        have e5 := f5.at e4
        cases c with
        | false =>
          rw [if_neg Bool.false_ne_true]
          exact ⟨ρ5, S5, f15, e5, so5, p'⟩
        | true =>
          rw [if_pos rfl]
          refine ⟨δ3, ρ5, S5, f5.st st4, so5, ?_⟩
          have p5 : Post K (RpW K) ρ1 S1 H1 (((it1 δ3 S5).noexc.bind fun es S3 => (compL dg1 tt1 te S1.length es (wipeD δ3 vs1) S3).bind fun _ S4 => comp2L dg tt it1 dg1 tt1 te vs1 S1.length (ds.drop (i + 1)) (wipeD δ vs) S4).bind fun _ S2 => endComp S1.length S2) Q (E σ) := p'
          cases qi : it1 δ3 S5 with
          | bad => rw [qi] at p5; exact p5.elim
          | exc c cs S6 => rw [qi] at p5; exact p5.elim
          | ok es S6 =>
            rw [qi] at p5
            intro J1 ρ6 H6 f6 so6 j6
            have p6 : Post K (RpW K) ρ1 S1 H1 ((compL dg1 tt1 te S1.length es (wipeD δ3 vs1) S6).bind fun _ S4 => ((comp2L dg tt it1 dg1 tt1 te vs1 S1.length (ds.drop (i + 1)) (wipeD δ vs) S4).bind fun _ S2 => endComp S1.length S2)) Q (E σ) := by
              have e : ∀ r : R Unit, ((r.bind fun _ S4 => comp2L dg tt it1 dg1 tt1 te vs1 S1.length (ds.drop (i + 1)) (wipeD δ vs) S4).bind fun _ S2 => endComp S1.length S2) = r.bind fun _ S4 => ((comp2L dg tt it1 dg1 tt1 te vs1 S1.length (ds.drop (i + 1)) (wipeD δ vs) S4).bind fun _ S2 => endComp S1.length S2) := fun r => by cases r <;> rfl
              rw [← e]; exact p5
            exact comp_turns hg1 ht1 (f15.trans f6) (f6.at e5) so6 (f6.st (f5.st st4)) j6 p6 fun ρ7 S7 H7 f7 _ e7 so7 p7 => ⟨ρ7, S7, f7, e7, so7, p7⟩
  · refine .inl ⟨js (by omega), ?_⟩
    rw [List.drop_eq_nil_of_le (by omega)] at p'
    exact endComp_post so1 nD f' so' ed p'
end
section
variable {X : Cx} {E : XP}
theorem de_comp2 {elt tg iter tg1 iter1 : Expr} {ifs ifs1 : List Expr} {scope : Scope} {own : List (Str × Nat)} {pos : Pos} {it it1 : Den (List D)} {g g1 : TG} {dg dg1 : DenG} {ts ts1 vs1 : List Nat} {tt tt1 : Den Bool} {te : Den W} (hc : X.calm = true) (hN : X.N.Nodup) (hi : PI X tg iter (tI X.K E it)) (hgo : GOk X.K g dg ts) (hgo1 : GOk X.K g1 dg1 ts1) (ok : blkC X.N X.env.scope scope own = true)
    (hg : ∀ (s : Shared) (H : Hp) (C : Addr) (cl : List (Str × Addr)) (fp : List Addr), PG (X.blk s H scope (compEnvC scope cl C X.env) fp) tg g) (ht : ∀ (s : Shared) (H : Hp) (C : Addr) (cl : List (Str × Addr)) (fp : List Addr), PTs (X.blk s H scope (compEnvC scope cl C X.env) fp) ifs (tT X.K XP0 tt))
    (hi1 : ∀ (s : Shared) (H : Hp) (C : Addr) (cl : List (Str × Addr)) (fp : List Addr), PI (X.blk s H scope (compEnvC scope cl C X.env) fp) tg1 iter1 (tI X.K XP0 it1))
    (hg1 : ∀ (s : Shared) (H : Hp) (C : Addr) (cl : List (Str × Addr)) (fp : List Addr), PG (X.blk s H scope (compEnvC scope cl C X.env) fp) tg1 g1) (ht1 : ∀ (s : Shared) (H : Hp) (C : Addr) (cl : List (Str × Addr)) (fp : List Addr), PTs (X.blk s H scope (compEnvC scope cl C X.env) fp) ifs1 (tT X.K XP0 tt1))
    (he : ∀ (s : Shared) (H : Hp) (C : Addr) (cl : List (Str × Addr)) (fp : List Addr), PE (X.blk s H scope (compEnvC scope cl C X.env) fp) elt (tE X.K XP0 te)) (hs : ∀ x, foldedSetIterable iter X.env x = pure x := by intro _; rfl) (hs1 : ∀ env x, foldedSetIterable iter1 env x = pure x := by intro _ _; rfl) (hts : ∀ j ∈ ts, j ∈ own.map (·.2) := by decide) (hts1 : ∀ j ∈ ts1, j ∈ vs1 := by decide) (hv : ∀ i ∈ vs1, i ∈ own.map (·.2) := by decide) :
    PE X (.ListComp elt [⟨tg, iter, ifs, 0⟩, ⟨tg1, iter1, ifs1, 0⟩] scope pos) (tE X.K E (cComp2 it dg tt it1 dg1 tt1 te (own.map (·.2)) vs1)) :=
  pe_mono (pe_lc2 hc hN hi (blkOk_by ok) hv hg ht hi1 hg1 ht1 he hs hs1) fun σ H Q h => comp2_post hgo hts hgo1 hts1 h
end
end Fro

namespace Fro
open PySem PySem.Spec L2

/-! ### {k: v for ..} -/
def dputL (n : Nat) (k w : W) (S : Sto) : Option Sto := match k, w, S[n]? with
  | .v (.str t), .v e, some (.dct acc) => if acc.length < 1000000 then some (S.set n (.dct (putE acc t e))) else none
  | _, _, _ => none
def dcompL (dg : DenG) (tt : Den Bool) (tk tv : Den W) (n : Nat) : List D → Slots → Sto → R Unit
  | [], _, S => .ok () S
  | d :: ds, δ, S => match dg (.v d) δ S with
    | none => .bad
    | some (δ1, S1) => (tt δ1 S1).noexc.bind fun c S2 => if c then (tk δ1 S2).noexc.bind fun k S3 => (tv δ1 S3).noexc.bind fun w S4 => match dputL n k w S4 with
        | some S5 => dcompL dg tt tk tv n ds δ S5
        | none => .bad
      else dcompL dg tt tk tv n ds δ S2
def endDComp (n : Nat) (S2 : Sto) : R W := if S2.length = n + 1 then (match S2[n]? with
    | some (.dct acc) => .ok (.v (.dct acc)) (S2.take n)
    | _ => .bad) else .bad
def cDComp (it : Den (List D)) (dg : DenG) (tt : Den Bool) (tk tv : Den W) (vs : List Nat) : Den W := fun δ S => (it δ S).bind fun ds S1 =>
  (dcompL dg tt tk tv S1.length ds (wipeD δ vs) (S1 ++ [.dct []])).bind fun _ S2 => endDComp S1.length S2
section
variable {K : PySem.W.Frag} {E : XP}
theorem dput_ok {n : Nat} {k w : W} {S S' : Sto} {ρ : List Addr} {H : Hp} {D' : Addr} {y z : V} (so : Sok K ρ S H) (e : ρ[n]? = some D') (rk : RpW K ρ S H k y) (rv : RpW K ρ S H w z) (h : dputL n k w S = some S') :
    ∃ (kvs : List (Key × V)) (kk : Key), y = kV kk ∧ H D' = some (.dK kvs) ∧ kvs.length < sizeLine ∧ Fwd ρ S H ρ S' (upd H D' (.dK (putK kvs kk z))) ∧ Sok K ρ S' (upd H D' (.dK (putK kvs kk z))) := by
  unfold dputL at h
  split at h
  · rename_i t d acc q
    split at h
    · rename_i ha
      cases h
      obtain ⟨kvs, ex, re⟩ := so.obs _ _ _ e q
      cases rk
      have fc : Fwd ρ S H ρ (S.set n (.dct (putE acc t d))) (upd H D' (.dK (putK kvs (Sum.inr (sx t)) z))) := Fwd.changed so e q rfl
      exact ⟨kvs, Sum.inr (sx t), rfl, ex, by rw [← rpE_len re]; exact Nat.lt_trans ha (by decide), fc, so.changed e q rfl ⟨_, upd_same, rpE_put t (fc.rpE re) (fc.rp rv)⟩⟩
    · cases h
  · cases h
theorem dcomp_post {it : Den (List D)} {g : TG} {dg : DenG} {ts vs : List Nat} {tt : Den Bool} {tk tv : Den W} (hg : GOk K g dg ts) (ht : ∀ j ∈ ts, j ∈ vs) {σ : L2.St} {H : Hp} {Q : VK}
    (h : tE K E (cDComp it dg tt tk tv vs) σ H Q) : tDc (tI K E it) g (tT K XP0 tt) (tE K XP0 tk) (tE K XP0 tv) vs σ H Q := by
  obtain ⟨δ, ρ, S, st, so, p⟩ := h
  refine tG_then st so p fun ds S1 J ρ1 H1 f1 st1 so1 j1 p1 => fun D' nD => ?_
  have fg : Fwd ρ1 S1 H1 (ρ1 ++ [D']) (S1 ++ [.dct []]) (upd H1 D' (.dK [])) := Fwd.grown so1 nD _
  have sg : Sok K (ρ1 ++ [D']) (S1 ++ [.dct []]) (upd H1 D' (.dK [])) := so1.grown nD _ ⟨[], upd_same, .nil⟩
  refine ⟨fun i m H' => i + m = ds.length ∧ ∃ (ρ' : List Addr) (S' : Sto), Fwd ρ1 S1 H1 ρ' S' H' ∧ ρ'[S1.length]? = some D' ∧ Sok K ρ' S' H' ∧ Post K (RpW K) ρ1 S1 H1 ((dcompL dg tt tk tv S1.length (ds.drop i) (wipeD δ vs) S').bind fun _ S2 => endDComp S1.length S2) Q (E σ),
    ⟨ds.length, by omega, _, _, fg, by rw [← so1.len]; simp, sg, by rw [List.drop_zero]; exact p1⟩, fun i m H' hW => ?_⟩
  obtain ⟨em, ρ', S', f', ed, so', p'⟩ := hW
  obtain ⟨jg, js⟩ := j1 i ρ' S' H' f' so'
  by_cases hl : i < ds.length
  · have edr : ds.drop i = ds[i] :: ds.drop (i + 1) := List.drop_eq_getElem_cons hl
    rw [edr] at p'
    obtain ⟨g1, g2⟩ := jg ds[i] (List.getElem?_eq_getElem hl)
    refine .inr ⟨g1, fun H2 => ∃ (ρ2 : List Addr) (S2 : Sto), Fwd ρ1 S1 H1 ρ2 S2 H2 ∧ ρ2[S1.length]? = some D' ∧ Sok K ρ2 S2 H2 ∧ Post K (RpW K) ρ1 S1 H1 ((dcompL dg tt tk tv S1.length (ds.drop (i + 1)) (wipeD δ vs) S2).bind fun _ S2 => endDComp S1.length S2) Q (E σ),
      fun H2 ⟨ρ2, S2, a1, a2, a3, a4⟩ => ⟨m - 1, by omega, by omega, ρ2, S2, a1, a2, a3, a4⟩, fun x H3 y => ?_⟩
    obtain ⟨fy, soy, ry⟩ := g2 x H3 y
    unfold dcompL at p'
    cases q : dg (.v ds[i]) (wipeD δ vs) S' with
    | none => simp only [q] at p'; exact p'.elim
    | some z =>
      obtain ⟨δ3, S3⟩ := z
      simp only [q] at p'
      have f3 : Fwd ρ1 S1 H1 ρ' S' H3 := f'.trans fy
      refine hg ρ' S' H3 (wipeD δ vs) (wipe σ vs) (.v ds[i]) x _ δ3 S3 (wipe_rp vs (f3.st st1)) soy ry q fun σ4 ρ4 H4 f4 so4 st4 l4 k4 => ?_
      refine ⟨wipe_same ht l4 k4, δ3, ρ4, S3, st4, so4, ?_⟩
      have f14 : Fwd ρ1 S1 H1 ρ4 S3 H4 := f3.trans f4
      have e4 : ρ4[S1.length]? = some D' := f4.at ed
      cases qt : tt δ3 S3 with
      | bad => rw [qt] at p'; exact p'.elim
      | exc c cs S5 => rw [qt] at p'; exact p'.elim
      | ok c S5 =>
        rw [qt] at p'
        intro b ρ5 H5 f5 so5 rb
        cases rb
        have f15 := f14.trans f5
        have e5 := f5.at e4
        cases c with
        | false =>
          rw [if_neg Bool.false_ne_true]
          exact ⟨ρ5, S5, f15, e5, so5, p'⟩
        | true =>
          rw [if_pos rfl]
          refine ⟨δ3, ρ5, S5, f5.st st4, so5, ?_⟩
          have p5 : Post K (RpW K) ρ1 S1 H1 (((tk δ3 S5).noexc.bind fun k S3 => (tv δ3 S3).noexc.bind fun w S4 => match dputL S1.length k w S4 with
            | some S5 => dcompL dg tt tk tv S1.length (ds.drop (i + 1)) (wipeD δ vs) S5
            | none => .bad).bind fun _ S2 => endDComp S1.length S2) Q (E σ) := p'
          cases qk : tk δ3 S5 with
          | bad => rw [qk] at p5; exact p5.elim
          | exc c cs S6 => rw [qk] at p5; exact p5.elim
          | ok k S6 =>
            rw [qk] at p5
            intro y6 ρ6 H6 f6 so6 r6
            refine ⟨δ3, ρ6, S6, f6.st (f5.st st4), so6, ?_⟩
            have p6 : Post K (RpW K) ρ1 S1 H1 (((tv δ3 S6).noexc.bind fun w S4 => match dputL S1.length k w S4 with
              | some S5 => dcompL dg tt tk tv S1.length (ds.drop (i + 1)) (wipeD δ vs) S5
              | none => .bad).bind fun _ S2 => endDComp S1.length S2) Q (E σ) := p5
            cases qv : tv δ3 S6 with
            | bad => rw [qv] at p6; exact p6.elim
            | exc c cs S7 => rw [qv] at p6; exact p6.elim
            | ok w S7 =>
              rw [qv] at p6
              intro y7 ρ7 H7 f7 so7 r7
              have p7 : Post K (RpW K) ρ1 S1 H1 ((match dputL S1.length k w S7 with
                | some S5 => dcompL dg tt tk tv S1.length (ds.drop (i + 1)) (wipeD δ vs) S5
                | none => .bad).bind fun _ S2 => endDComp S1.length S2) Q (E σ) := p6
              cases qd : dputL S1.length k w S7 with
              | none => rw [qd] at p7; exact p7.elim
              | some S8 =>
                rw [qd] at p7
                have e7 := f7.at (f6.at e5)
                obtain ⟨kvs, kk, ek, eh, el, fc, sc⟩ := dput_ok so7 e7 (f7.rw r6) r7 qd
                exact ⟨kvs, kk, ek, eh, el, ρ7, S8, ((f15.trans f6).trans f7).trans fc, e7, sc, p7⟩
  · refine .inl ⟨js (by omega), ?_⟩
    rw [List.drop_eq_nil_of_le (by omega)] at p'
    have pe : Post K (RpW K) ρ1 S1 H1 (endDComp S1.length S') Q (E σ) := p'
    unfold endDComp at pe
    by_cases hl2 : S'.length = S1.length + 1
    · simp only [if_pos hl2] at pe
      cases q : S'[S1.length]? with
      | none => rw [q] at pe; exact pe.elim
      | some ob =>
        cases ob with
        | dct acc =>
          rw [q] at pe
          obtain ⟨xs, ex, rl⟩ := so'.obs _ _ _ ed q
          obtain ⟨more, em⟩ := f'.ext
          have t := so'.take S1.length
          rw [em, take_pre so1.len, ← em] at t
          refine pe (.ref D') ρ1 H' (f'.cut so1.len so'.len) t.1 (Rp.dct (.inl ex) (fun l => so1.notIn nD ?_) (rl.weak t.2))
          obtain ⟨j, o, h1, _, _⟩ := l
          exact List.mem_of_getElem? h1
        | _ => rw [q] at pe; exact pe.elim
    · simp only [if_neg hl2] at pe; exact pe.elim
end
section
variable {X : Cx} {E : XP}
theorem de_dcomp {kx vx tg iter : Expr} {ifs : List Expr} {scope : Scope} {own : List (Str × Nat)} {pos : Pos} {it : Den (List D)} {g : TG} {dg : DenG} {ts : List Nat} {tt : Den Bool} {tk tv : Den W} (hc : X.calm = true) (hN : X.N.Nodup) (hi : PI X tg iter (tI X.K E it)) (hgo : GOk X.K g dg ts) (ok : blkC X.N X.env.scope scope own = true)
    (hg : ∀ (s : Shared) (H : Hp) (C : Addr) (cl : List (Str × Addr)) (fp : List Addr), PG (X.blk s H scope (compEnvC scope cl C X.env) fp) tg g) (ht : ∀ (s : Shared) (H : Hp) (C : Addr) (cl : List (Str × Addr)) (fp : List Addr), PTs (X.blk s H scope (compEnvC scope cl C X.env) fp) ifs (tT X.K XP0 tt))
    (hk : ∀ (s : Shared) (H : Hp) (C : Addr) (cl : List (Str × Addr)) (fp : List Addr), PE (X.blk s H scope (compEnvC scope cl C X.env) fp) kx (tE X.K XP0 tk))
    (he : ∀ (s : Shared) (H : Hp) (C : Addr) (cl : List (Str × Addr)) (fp : List Addr), PE (X.blk s H scope (compEnvC scope cl C X.env) fp) vx (tE X.K XP0 tv)) (hs : ∀ x, foldedSetIterable iter X.env x = pure x := by intro _; rfl) (hts : ∀ j ∈ ts, j ∈ own.map (·.2) := by decide) :
    PE X (.DictComp kx vx [⟨tg, iter, ifs, 0⟩] scope pos) (tE X.K E (cDComp it dg tt tk tv (own.map (·.2)))) :=
  pe_mono (pe_dc hc hN hi (blkOk_by ok) hg ht hk he hs) fun σ H Q h => dcomp_post hgo hts h
end
end Fro

namespace Fro
open PySem PySem.Spec L2 PyProof.Rows

/-! ### name = {.. for ..} -/
section
variable {X : Cx} {E : XP}
theorem swD_true {kx vx : Expr} {gs : List Comprehension} {scope : Scope} {pos py : Pos} {y : Str} {l : Nat} {env : Env} (hk : env.scope.kind = .function) (hy : env.scope.names.lookup y = some .local) (hl : (py.line == pos.line) = true) (ha : (scope.names.any fun (n, k) => n == y && (k == .local || k == .cell)) = false) :
    swapsWith (.DictComp kx vx gs scope pos) (some (.Name y py)) l env = pure true := by
  have k1 : env.blockKind = .function := by unfold Env.blockKind; rw [hk]; rfl
  have k2 : env.kindOf y = some .local := hy
  unfold swapsWith
  simp only [k1, k2, ha, Expr.pos, hl]
  rfl
theorem ps_setDc {i : Nat} {y : Str} {py : Pos} {kx vx tg iter : Expr} {ifs : List Expr} {scope : Scope} {own : List (Str × Nat)} {pos spos : Pos} {wi : TI} {g : TG} {tt : TT} {tk tv : TE} (hc : X.calm = true) (hN : X.N.Nodup) (hy : X.N[i]? = some y) (hyl : X.env.scope.names.lookup y = some .local) (hsw : swapsWith (.DictComp kx vx [⟨tg, iter, ifs, 0⟩] scope pos) (some (.Name y py)) spos.line X.env = pure true) (hi : PI X tg iter wi) (ok : BlkOk X.N X.env.scope scope own)
    (hg : ∀ (s : Shared) (H : Hp) (C : Addr) (cl : List (Str × Addr)) (fp : List Addr), PG (X.blk s H scope (compEnvC scope cl C X.env) fp) tg g) (ht : ∀ (s : Shared) (H : Hp) (C : Addr) (cl : List (Str × Addr)) (fp : List Addr), PTs (X.blk s H scope (compEnvC scope cl C X.env) fp) ifs tt) (hk : ∀ (s : Shared) (H : Hp) (C : Addr) (cl : List (Str × Addr)) (fp : List Addr), PE (X.blk s H scope (compEnvC scope cl C X.env) fp) kx tk) (he : ∀ (s : Shared) (H : Hp) (C : Addr) (cl : List (Str × Addr)) (fp : List Addr), PE (X.blk s H scope (compEnvC scope cl C X.env) fp) vx tv) (hs : ∀ x, foldedSetIterable iter X.env x = pure x) :
    PS X (.Assign [.Name y py] (.DictComp kx vx [⟨tg, iter, ifs, 0⟩] scope pos) spos) (tAsg (tDc wi g tt tk tv (own.map (·.2))) (gName i)) := by
  refine ⟨fun pins s σ H D I h => ?_⟩
  rw [exec_Assign_Name_used _ _ _ _ hsw]
  refine wpAny_bind (wpAny_standAt (wpAny_bind ?_))
  show wpAny _ X.A (do let _ ← comprehension (.DictComp kx vx [⟨tg, iter, ifs, 0⟩] scope pos) scope X.env (firstIterPos [⟨tg, iter, ifs, 0⟩] pos) newDict false (eval iter X.env) (some (assign (.Name y py) X.env))) _ _ s
  have h' : tDc wi g tt tk tv (own.map (·.2)) σ H (fun x H1 => gName i x σ H1 D.nx) := h
  refine wpAny_bind (thn (dc_core (Qf := fun _ s' => SP X pins D .next s') hc hN I hi ok hg ht hk he hs h' fun L C s' m H' I' q hn f => ?_) fun _ s' hq => wpAny_pure (wpAny_pure hq))
  show wpAny _ _ (assign (.Name y py) X.env (.ref L)) _ _ _
  refine wpAny_assign_Name (store_ok2 (v := V.ref L) I' hN hy (.inl hyl) rfl (fun s2 I2 ⟨a, sb, ha⟩ => ?_) (.inr hyl))
  obtain ⟨g0, g1, g2, g3, g4, g5⟩ := f
  have haC : C ≠ a := by
    rcases ha with z | z
    · rw [z]; exact g1
    · exact fun e => g4 y a z e.symm
  exact ⟨m, hn.sameBut sb haC, fun h3 sb3 => ⟨_, H', I2.turned (t' := s2.toks) (fun b o hb e => (sb3.2 b hb).trans e) g0 g1 g3 g4 g5, q⟩⟩
theorem ds_setDComp (i : Nat) {y : Str} {py : Pos} {kx vx tg iter : Expr} {ifs : List Expr} {scope : Scope} {own : List (Str × Nat)} {pos spos : Pos} {it : Den (List D)} {g : TG} {dg : DenG} {ts : List Nat} {tt : Den Bool} {tk tv : Den W} (hc : X.calm = true) (hN : X.N.Nodup) (hi : PI X tg iter (tI X.K E it)) (hgo : GOk X.K g dg ts) (ok : blkC X.N X.env.scope scope own = true)
    (hg : ∀ (s : Shared) (H : Hp) (C : Addr) (cl : List (Str × Addr)) (fp : List Addr), PG (X.blk s H scope (compEnvC scope cl C X.env) fp) tg g) (ht : ∀ (s : Shared) (H : Hp) (C : Addr) (cl : List (Str × Addr)) (fp : List Addr), PTs (X.blk s H scope (compEnvC scope cl C X.env) fp) ifs (tT X.K XP0 tt)) (hk : ∀ (s : Shared) (H : Hp) (C : Addr) (cl : List (Str × Addr)) (fp : List Addr), PE (X.blk s H scope (compEnvC scope cl C X.env) fp) kx (tE X.K XP0 tk)) (he : ∀ (s : Shared) (H : Hp) (C : Addr) (cl : List (Str × Addr)) (fp : List Addr), PE (X.blk s H scope (compEnvC scope cl C X.env) fp) vx (tE X.K XP0 tv))
    (hs : ∀ x, foldedSetIterable iter X.env x = pure x := by intro _; rfl) (hts : ∀ j ∈ ts, j ∈ own.map (·.2) := by decide) (hy : X.N[i]? = some y := by rfl) (hyl : X.env.scope.names.lookup y = some .local := by rfl) (hsw : swapsWith (.DictComp kx vx [⟨tg, iter, ifs, 0⟩] scope pos) (some (.Name y py)) spos.line X.env = pure true := by exact swD_true rfl rfl rfl (by decide +kernel)) :
    PS X (.Assign [.Name y py] (.DictComp kx vx [⟨tg, iter, ifs, 0⟩] scope pos) spos) (tS X.K E (cAsg (cDComp it dg tt tk tv (own.map (·.2))) (gN i))) :=
  ps_mono (ps_setDc hc hN hy hyl hsw hi (blkOk_by ok) hg ht hk he hs) fun D' σ H ⟨δ, ρ, S, st, so, p⟩ => dcomp_post hgo hts (tG_thenS st so p fun w S1 v ρ1 H1 f1 st1 so1 r1 p1 => asg_post (gok_name i) st1 so1 r1 p1)
end

/-! ### calls of built-in classes -/
theorem CallR.or {X : Cx} {f : Value} {r r' : List V → Hp → VK → Prop} (h : CallR X f r) (h' : CallR X f r') : CallR X f fun xs H Q => r xs H Q ∨ r' xs H Q := fun pins s σ H xs us Q I rx q => q.elim (h pins s σ H xs us Q I rx) (h' pins s σ H xs us Q I rx)
def signs (t : Tx) : List D := t.map fun c => .str [c]
def gTuple : List D → Option D := fun ds => match ds with
  | [.lst xs] => some (.tup xs)
  | [.tup xs] => some (.tup xs)
  | _ => none
def gList : List D → Option D := fun ds => match ds with
  | [.lst xs] => some (.lst xs)
  | [.tup xs] => some (.lst xs)
  | [.str t] => if t.length ≤ 1000000 then some (.lst (signs t)) else none
  | _ => none
def txI (i : Int) : Tx := (Str.ofString (toString i)).cps.toList
theorem sx_txI (i : Int) : sx (txI i) = Str.ofString (toString i) := by
  unfold sx txI
  simp
def tTrue : Tx := [84, 114, 117, 101]
def tFalse : Tx := [70, 97, 108, 115, 101]
def gStr : List D → Option D := fun ds => match ds with
  | [.int i] => if i.natAbs < 18446744073709551616 then some (.str (txI i)) else none
  | [.bl b] => some (.str (if b then tTrue else tFalse))
  | [.str t] => some (.str t)
  | _ => none
def gIntT : List D → Option D := fun ds => match ds with
  | [.int i] => some (.int i)
  | [.bl b] => some (.int (if b then 1 else 0))
  | [.str t] => if t.length ≤ 640 then (PySem.intText? (sx t)).map .int else none
  | _ => none
section
variable {X : Cx} {K : PySem.W.Frag}
theorem rql1 {H : Hp} {M : Addr → Prop} {d : D} {xs : List V} (h : RqL K H M [d] xs) : ∃ v, xs = [v] ∧ Rq K H M d v := by
  cases h with
  | cons a b => cases b; exact ⟨_, rfl, a⟩
theorem gn_tuple : GN K (fun xs H Q => ∃ p ys, xs = [.ref p] ∧ ((SqL K H p ys ∧ ∀ l, H l = none → Q (.ref l) (upd H l (.tup ys))) ∨ (SqT K H p ys ∧ Q (.ref p) H))) gTuple := fun ρ S H ds z xs Q so rx q n => by
  unfold gTuple at q
  split at q
  · obtain ⟨v, rfl, r⟩ := rql1 rx
    cases q
    obtain ⟨a, ys, rfl, ha, ra⟩ := r.lstE
    exact ⟨a, ys, rfl, .inl ⟨SqL.of ha, nxt_tup so ra n⟩⟩
  · obtain ⟨v, rfl, r⟩ := rql1 rx
    cases q
    obtain ⟨a, ys, rfl, ha, ra⟩ := r.tup
    exact ⟨a, ys, rfl, .inr ⟨ha, nxt_here so (.tup ha ra) n⟩⟩
  · cases q
/-- list(text) -/
theorem call_list_text : X.calm = true → CallR X (.type "list") (fun xs H Q => ∃ t : Tx, xs = [.str (sx t)] ∧ t.length ≤ 1000000 ∧ ∀ l, H l = none → Q (.ref l) (upd H l (.lst (t.map fun c => V.str ⟨#[c]⟩)))) := fun hc => by
  intro pins s σ H xs us Q I r h
  obtain ⟨t, rfl, hl, q⟩ := h
  obtain ⟨u, rfl, tk, rfl⟩ := vals1 r
  have hz : (sx t).cps.size = t.length := by simp [sx]
  refine PySem.call_list_str (I.ok.hd hc) (sx t) tk (fun h' tk' acc c' kp e it => ?_) (by rw [hz]; exact lt_line hl)
  have hv : Vals (t.map fun c => V.str ⟨#[c]⟩) acc.toList := by
    have ha : acc.toList.length = t.length := by rw [Array.length_toList, it.1, hz]
    have key : ∀ (t : Tx) (l : List Value), l.length = t.length → (∀ (j : Nat) (v : Value), l[j]? = some v → ∃ c u, t[j]? = some c ∧ v = Value.str ⟨#[c]⟩ u) → Vals (t.map fun c => V.str ⟨#[c]⟩) l := by
      intro t
      induction t with
      | nil =>
        intro l hl _
        cases l with
        | nil => exact .nil
        | cons a b => cases hl
      | cons c t ih =>
        intro l hl hh
        cases l with
        | nil => cases hl
        | cons a b =>
          obtain ⟨c', u, e1, e2⟩ := hh 0 a rfl
          cases e1
          subst e2
          exact .cons ⟨u, rfl⟩ (ih b (by simpa using hl) fun j v hj => by simpa using hh (j + 1) v (by simpa using hj))
    refine key t acc.toList ha fun j v hj => ?_
    obtain ⟨c, u, e1, e2⟩ := it.2 j v (by simpa using hj)
    exact ⟨c, u, by simpa [sx] using e1, e2⟩
  exact ⟨.ref s.heap.objs.size, _, I.laid (t' := tk') kp (Nat.le_refl _) (show ObjOk X.prog X.w _ h' _ (.lst _) from ⟨by rw [List.length_map]; exact lt_line hl, acc.toList, c', hv, by simpa using e⟩), rfl, q _ (I.hok.fresh (Nat.le_refl _))⟩
def rListA (K : PySem.W.Frag) : List V → Hp → VK → Prop := fun xs H Q => (∃ p ys, xs = [.ref p] ∧ (SqL K H p ys ∨ SqT K H p ys) ∧ ∀ l, H l = none → Q (.ref l) (upd H l (.lst ys))) ∨ ∃ t : Tx, xs = [.str (sx t)] ∧ t.length ≤ 1000000 ∧ ∀ l, H l = none → Q (.ref l) (upd H l (.lst (t.map fun c => V.str ⟨#[c]⟩)))
theorem call_listA (hc : X.calm = true) : CallR X (.type "list") (rListA X.K) := call_list_of.or (call_list_text hc)
theorem rp_signs {H : Hp} {M : Addr → Prop} : ∀ t : Tx, RpL K H M (signs t) (t.map fun c => V.str ⟨#[c]⟩)
  | [] => .nil
  | c :: t => .cons (.str [c]) (rp_signs t)
theorem gn_list : GN K (rListA K) gList := fun ρ S H ds z xs Q so rx q n => by
  unfold gList at q
  split at q
  · obtain ⟨v, rfl, r⟩ := rql1 rx
    cases q
    obtain ⟨a, ys, rfl, ha, ra⟩ := r.lstE
    exact .inl ⟨a, ys, rfl, .inl (SqL.of ha), nxt_lst so ra n⟩
  · obtain ⟨v, rfl, r⟩ := rql1 rx
    cases q
    obtain ⟨a, ys, rfl, ha, ra⟩ := r.tup
    exact .inl ⟨a, ys, rfl, .inr ha, nxt_lst so ra n⟩
  · obtain ⟨v, rfl, r⟩ := rql1 rx
    split at q
    · rename_i hl
      cases q
      refine .inr ⟨_, by rw [r.str], hl, nxt_lst so (rp_signs _) n⟩
    · cases q
  · cases q
theorem call_str_bl : CallR X (.type "str") (fun xs H Q => ∃ b : Bool, xs = [.bl b] ∧ Q (.str (if b then "True" else "False")) H) := by
  intro pins s σ H xs us Q I r h
  obtain ⟨b, rfl, q⟩ := h
  obtain ⟨u, rfl, r1⟩ := vals1 r
  cases r1
  exact PySem.P.str_of_bool ⟨.str _, H, I.tok _, ⟨_, rfl⟩, q⟩
def rStrA : List V → Hp → VK → Prop := fun xs H Q => ((∃ i : Int, xs = [.int i] ∧ i.natAbs.log2 < 1920 ∧ Q (.str (toString i)) H) ∨ ∃ b : Bool, xs = [.bl b] ∧ Q (.str (if b then "True" else "False")) H) ∨ ∃ a, xs = [.str a] ∧ Q (.str a) H
theorem call_strA : CallR X (.type "str") rStrA := (call_str_int.or call_str_bl).or SkE.call_str_str
theorem gn_str : GN K rStrA gStr := fun ρ S H ds z xs Q so rx q n => by
  unfold gStr at q
  split at q
  · obtain ⟨v, rfl, r⟩ := rql1 rx
    rename_i i
    split at q
    · rename_i hl
      cases q
      refine .inl (.inl ⟨i, by rw [r.int], ?_, ?_⟩)
      · by_cases h0 : i.natAbs = 0
        · rw [h0]; decide
        · exact Nat.lt_of_lt_of_le ((Nat.log2_lt h0).mpr (show i.natAbs < 2 ^ 64 from hl)) (show 64 ≤ 1920 by decide)
      · have := nxt_here so (.str (txI i)) n
        rw [sx_txI] at this
        exact this
    · cases q
  · obtain ⟨v, rfl, r⟩ := rql1 rx
    rename_i b
    cases q
    refine .inl (.inr ⟨b, by rw [r.bl], ?_⟩)
    have := nxt_here so (.str (if b then tTrue else tFalse)) n
    cases b with
    | true => exact this
    | false => exact this
  · obtain ⟨v, rfl, r⟩ := rql1 rx
    cases q
    exact .inr ⟨_, by rw [r.str], nxt_here so (.str _) n⟩
  · cases q
def rIntA : List V → Hp → VK → Prop := fun xs H Q => ((∃ i, xs = [.int i] ∧ Q (.int i) H) ∨ ∃ k, xs = [.bl k] ∧ Q (.int (if k then 1 else 0)) H) ∨ ∃ a n, xs = [.str a] ∧ PySem.intText? a = some n ∧ a.length ≤ 640 ∧ Q (.int n) H
theorem call_intA : CallR X (.type "int") rIntA := CallR.or call_int1 call_int_str
theorem gn_intT : GN K rIntA gIntT := fun ρ S H ds z xs Q so rx q n => by
  unfold gIntT at q
  split at q
  · obtain ⟨v, rfl, r⟩ := rql1 rx
    cases q
    exact .inl (.inl ⟨_, by rw [r.int], nxt_here so (.int _) n⟩)
  · obtain ⟨v, rfl, r⟩ := rql1 rx
    cases q
    exact .inl (.inr ⟨_, by rw [r.bl], nxt_here so (.int _) n⟩)
  · obtain ⟨v, rfl, r⟩ := rql1 rx
    rename_i t
    split at q
    · rename_i hl
      cases qi : PySem.intText? (sx t) with
      | none => rw [qi] at q; cases q
      | some m =>
        rw [qi] at q
        cases q
        exact .inr ⟨_, m, by rw [r.str], qi, by rw [sx_length]; exact hl, nxt_here so (.int _) n⟩
    · cases q
  · cases q
end
/-! ### max of a list -/
def intL : List D → Option (List Int)
  | [] => some []
  | .int i :: r => (intL r).map (i :: ·)
  | _ => none
def maxI : Int → List Int → Int
  | m, [] => m
  | m, n :: r => maxI (if m < n then n else m) r
def minI : Int → List Int → Int
  | m, [] => m
  | m, n :: r => minI (if n < m then n else m) r
def gMaxL : List D → Option D := fun ds => match ds with
  | [.lst xs] => (match intL xs with
    | some (n :: ns) => some (.int (maxI n ns))
    | _ => none)
  | _ => none
theorem maxI_ge : ∀ (m : Int) (ns : List Int), m ≤ maxI m ns ∧ ∀ y ∈ ns, y ≤ maxI m ns
  | m, [] => ⟨Int.le_refl _, fun y h => by cases h⟩
  | m, n :: r => by
    have ih := maxI_ge (if m < n then n else m) r
    show m ≤ maxI (if m < n then n else m) r ∧ ∀ y ∈ n :: r, y ≤ maxI (if m < n then n else m) r
    have h1 : m ≤ (if m < n then n else m) := by split <;> omega
    have h2 : n ≤ (if m < n then n else m) := by split <;> omega
    refine ⟨Int.le_trans h1 ih.1, fun y hy => ?_⟩
    rcases List.mem_cons.mp hy with rfl | hy
    · exact Int.le_trans h2 ih.1
    · exact ih.2 y hy
theorem maxI_mem : ∀ (m : Int) (ns : List Int), maxI m ns ∈ m :: ns
  | m, [] => List.mem_cons_self
  | m, n :: r => by
    have ih := maxI_mem (if m < n then n else m) r
    show maxI (if m < n then n else m) r ∈ m :: n :: r
    rcases List.mem_cons.mp ih with h | h
    · rw [h]
      split
      · exact List.mem_cons_of_mem _ List.mem_cons_self
      · exact List.mem_cons_self
    · exact List.mem_cons_of_mem _ (List.mem_cons_of_mem _ h)
theorem intL_rp {K : PySem.W.Frag} {H : Hp} {M : Addr → Prop} : ∀ {ds : List D} {ns : List Int} {vs : List V}, intL ds = some ns → RpL K H M ds vs → vs = ns.map V.int
  | [], _, _, e, .nil => by cases e; rfl
  | .int i :: r, ns, _, e, .cons a b => by
    unfold intL at e
    cases q : intL r with
    | none => rw [q] at e; cases e
    | some ms =>
      rw [q] at e
      cases e
      cases a
      rw [intL_rp q b]
      rfl
  | .non :: _, _, _, e, _ => by cases e
  | .bl _ :: _, _, _, e, _ => by cases e
  | .str _ :: _, _, _, e, _ => by cases e
  | .tup _ :: _, _, _, e, _ => by cases e
  | .lst _ :: _, _, _, e, _ => by cases e
  | .dct _ :: _, _, _, e, _ => by cases e
  | .ty _ :: _, _, _, e, _ => by cases e
theorem gn_maxL {K : PySem.W.Frag} : GN K (rMax K) gMaxL := fun ρ S H ds z xs Q so rx q n => by
  unfold gMaxL at q
  split at q
  · rename_i ys
    obtain ⟨v, rfl, r⟩ := rql1 rx
    split at q
    · rename_i m ms qi
      cases q
      obtain ⟨a, us, rfl, ha, ra⟩ := r.lstE
      rw [intL_rp qi ra] at ha
      refine ⟨a, m :: ms, rfl, SqL.of ha, by simp, fun k hk hmax => ?_⟩
      have e : k = maxI m ms := by
        have h1 := hmax _ (maxI_mem m ms)
        have h2 := maxI_ge m ms
        have h3 : k ≤ maxI m ms := by
          rcases List.mem_cons.mp hk with rfl | hk
          · exact h2.1
          · exact h2.2 k hk
        omega
      rw [e]
      exact nxt_here so (.int _) n
    · cases q
  · cases q
/-! ### texts -/
def gStarts : Tx → D → Option D := fun t d => match d with
  | .str u => some (.bl (u.isPrefixOf t))
  | _ => none
theorem starts_eq (t u : Tx) : Txt.startswith (sx t) (sx u) = u.isPrefixOf t := by
  unfold Txt.startswith Builtin.Str.subAt
  rw [sx_length, sx_length]
  have e : ((sx t).cps.extract 0 (0 + u.length) == (sx u).cps) = (t.take u.length == u) := by
    have h1 : (sx t).cps.extract 0 (0 + u.length) = (t.take u.length).toArray := by
      simp [sx]
    rw [h1]
    show ((t.take u.length).toArray == u.toArray) = _
    by_cases h : t.take u.length = u
    · rw [h]; simp
    · rw [beq_eq_false_iff_ne.mpr h]
      exact beq_eq_false_iff_ne.mpr fun z => h (by simpa using congrArg Array.toList z)
  rw [e]
  by_cases h : u.isPrefixOf t = true
  · have hp := List.isPrefixOf_iff_prefix.mp h
    rw [h]
    have h1 := hp.length_le
    have h2 := List.prefix_iff_eq_take.mp hp
    rw [← h2]
    simp
    omega
  · have hf : u.isPrefixOf t = false := Bool.eq_false_iff.mpr h
    rw [hf]
    by_cases h2 : t.take u.length = u
    · exact absurd (List.isPrefixOf_iff_prefix.mpr (List.prefix_iff_eq_take.mpr h2.symm)) h
    · rw [beq_eq_false_iff_ne.mpr h2, Bool.and_false]
theorem gm_starts {K : PySem.W.Frag} : GM1 K (fun x xs H Q => ∃ a b, x = .str a ∧ xs = [.str b] ∧ Q (.bl (Txt.startswith a b)) H) gStarts := fun ρ S H t e z y Q so ry q n => by
  unfold gStarts at q
  split at q
  · cases q
    refine ⟨_, _, rfl, by rw [ry.str], ?_⟩
    rw [starts_eq]
    exact nxt_here so (.bl _) n
  · cases q
section
variable {X : Cx} {E : XP} {o e : Expr} {apos pos : Pos} {a b : Den W}
theorem de_starts (ha : PE X o (tE X.K E a)) (hb : PE X e (tE X.K E b)) (hs : starEach [e] X.env = [(false, eval e X.env)] := by rfl) (hbase : attributeBase o "startswith" X.env (eval o X.env) = eval o X.env := by rfl) (hline : (apos.endLine == pos.line) = true := by rfl) :
    PE X (.Call (.Attribute o "startswith" apos) [e] [] pos) (tE X.K E (cM1 gStarts a b)) := de_m1 F.slot_str_startswith F.type_str_startswith mt_startswith gm_starts ha hb hs hbase hline
end
/-- a part of a text -/
def apSlT (x : W) (lo hi : Option Int) (S : Sto) : R W := match x with
  | .v (.str t) => if t.length ≤ 1000000 then .ok (.v (.str (cutD t lo hi))) S else .bad
  | _ => .bad
def cSlT (a : Den W) (lo hi : Den (Option Int)) : Den W := fun δ S => (a δ S).bind fun x S1 => (lo δ S1).bind fun l S2 => (hi δ S2).bind fun u S3 => apSlT x l u S3
theorem de_slT {X : Cx} {E : XP} {e : Expr} {lo hi : Option Expr} {p2 pos : Pos} {a : Den W} {l u : Den (Option Int)} (ha : PE X e (tE X.K E a)) (hl : PO X lo (tO X.K E l)) (hu : PO X hi (tO X.K E u)) : PE X (.Subscript e (.Slice lo hi none p2) pos) (tE X.K E (cSlT a l u)) :=
  pe_mono (pe_slice sl_str ha hl hu) fun σ H Q ⟨δ, ρ, S, st, so, p⟩ => tG_then st so p fun w S1 x ρ1 H1 f1 st1 so1 r1 p1 => tG_then st1 so1 p1 fun l S2 l' ρ2 H2 f2 st2 so2 r2 p2 => tG_then st2 so2 p2 fun u S3 u' ρ3 H3 f3 st3 so3 r3 p3 => by
    cases r2
    cases r3
    have rx := f3.rw (f2.rw r1)
    unfold apSlT at p3
    split at p3
    · rename_i t
      split at p3
      · rename_i hl
        cases rx
        refine ⟨_, rfl, by rw [sx_length]; exact lt_line hl, p3 _ ρ3 H3 Fwd.refl so3 ?_⟩
        have e : cutS (sx t) l u = sx (cutD t l u) := by
          unfold cutS cutD
          rw [sx_length]
          simp [sx]
        rw [e]
        exact Rp.str _
      · exact p3.elim
    · exact p3.elim
end Fro

namespace Fro
open PySem PySem.Spec L2

/-! ### xs.index(y) -/
def idxD (d : D) : List D → Option Nat
  | [] => none
  | e :: r => if deq e d = true then some 0 else (idxD d r).map (· + 1)
def gIndex : D → D → Option D := fun d e => match d with
  | .lst ds => if (flatD e && ds.all flatD) = true then (idxD e ds).map fun j => .int j else none
  | _ => none
def isLst (x : W) (S : Sto) : Bool := match rd S x with
  | some (.lst _) => true
  | _ => false
def cIndex (a b : Den W) : Den W := fun δ S => (a δ S).bind fun x S1 => if isLst x S1 = true then (b δ S1).bind fun y S2 => ap2 gIndex x y S2 else .bad
theorem idxD_ok {K : PySem.W.Frag} {H : Hp} {M : Addr → Prop} {d : D} {y : V} (hy : Rq K H M d y) (fy : flatD d = true) : ∀ {ds : List D} {vs : List V} {j : Nat}, RpL K H M ds vs → ds.all flatD = true → idxD d ds = some j → ∃ z, vs[j]? = some z ∧ eqV z y = true ∧ ∀ (m : Nat) (z' : V), m < j → vs[m]? = some z' → eqV z' y = false
  | _, _, _, .nil, _, e => by cases e
  | e :: ds, v :: vs, j, .cons a b, h, q => by
    rw [List.all_cons, Bool.and_eq_true] at h
    have ev := eqV_deq (.of a) hy h.1 fy
    unfold idxD at q
    by_cases hd : deq e d = true
    · rw [if_pos hd] at q
      cases q
      exact ⟨v, rfl, by rw [ev, hd], fun m z' hm => by omega⟩
    · rw [if_neg hd] at q
      cases qi : idxD d ds with
      | none => rw [qi] at q; cases q
      | some k =>
        rw [qi] at q
        cases q
        obtain ⟨z, h1, h2, h3⟩ := idxD_ok hy fy b h.2 qi
        refine ⟨z, by simpa using h1, h2, fun m z' hm hz => ?_⟩
        cases m with
        | zero =>
          have : v = z' := by simpa using hz
          subst this
          rw [ev]
          exact Bool.eq_false_iff.mpr hd
        | succ m => exact h3 m z' (by have hm2 : m + 1 < k + 1 := hm; omega) (by simpa using hz)
theorem index_post {K : PySem.W.Frag} {ρ : List Addr} {S : Sto} {H : Hp} {x y : W} {v u : V} {Q : VK} {Ex} (so : Sok K ρ S H) (rx : RpW K ρ S H x v) (ry : RpW K ρ S H y u) (p : Post K (RpW K) ρ S H (ap2 gIndex x y S) Q Ex) : rIndex K v [u] H Q := by
  unfold ap2 at p
  cases q1 : rd S x with
  | none => simp only [q1] at p; exact p.elim
  | some d =>
    cases q2 : rd S y with
    | none => simp only [q1, q2] at p; exact p.elim
    | some e =>
      cases q3 : gIndex d e with
      | none => simp only [q1, q2, q3] at p; exact p.elim
      | some z =>
        simp only [q1, q2, q3] at p
        unfold gIndex at q3
        split at q3
        · rename_i ds
          split at q3
          · rename_i hf
            rw [Bool.and_eq_true] at hf
            cases qi : idxD e ds with
            | none => rw [qi] at q3; cases q3
            | some j =>
              rw [qi] at q3
              cases q3
              have ry' := rd_ok so ry q2
              obtain ⟨a, ys, rfl, ha, ra⟩ := (rd_ok so rx q1).lstE
              obtain ⟨zz, h1, h2, h3⟩ := idxD_ok ry' hf.1 ra hf.2 qi
              exact ⟨a, ys, u, j, zz, rfl, rfl, SqL.of ha, rq_flat ry' hf.1, rpL_flat ra hf.2, h1, h2, h3, p _ ρ H Fwd.refl so (.int _)⟩
          · cases q3
        · cases q3
section
variable {X : Cx} {E : XP} {o e : Expr} {apos cpos : Pos} {a b : Den W}
theorem de_index (ha : PE X o (tE X.K E a)) (hb : PE X e (tE X.K E b)) (hs : starEach [e] X.env = (false, eval e X.env) :: starEach [] X.env := by rfl)
    (hd : ∀ to t, PE X o to → PA X [e] t → PE X (.Call (.Attribute o "index" apos) [e] [] cpos) (tBM X.K "list" (rIndex X.K) to t) := by exact fun _ _ ho h => pe_bm PySem.F.plainAttrs_list PySem.F.slot_list_index PySem.F.type_list_index mt_index ho h) :
    PE X (.Call (.Attribute o "index" apos) [e] [] cpos) (tE X.K E (cIndex a b)) :=
  pe_mono (hd _ _ ha (pa_cons hb pa_nil hs)) fun σ H Q ⟨δ, ρ, S, st, so, p⟩ => tG_then st so p fun x S1 v ρ1 H1 f1 st1 so1 r1 p1 => by
    by_cases hl : isLst x S1 = true
    · rw [if_pos hl] at p1
      have ty : tyV X.K "list" v H1 := by
        unfold isLst at hl
        cases q : rd S1 x with
        | none => simp only [q] at hl; cases hl
        | some d =>
          cases d with
          | lst ds =>
            obtain ⟨c, ys, rfl, hc, _⟩ := (rd_ok so1 r1 q).lstE
            exact .inl ⟨rfl, ys, SqL.of hc⟩
          | _ => simp only [q] at hl; cases hl
      exact ⟨ty, tG_then st1 so1 p1 fun y S2 u ρ2 H2 f2 st2 so2 r2 p2 => index_post so2 (f2.rw r1) r2 p2⟩
    · rw [if_neg hl] at p1; exact p1.elim
end

/-! ### range(a, b, c), range(a, b) -/
def rangeC (c : Int) : Int → Nat → List D
  | _, 0 => []
  | lo, n + 1 => .int lo :: rangeC c (lo + c) n
theorem rangeC_length (c : Int) : ∀ (n : Nat) (lo : Int), (rangeC c lo n).length = n
  | 0, _ => rfl
  | n + 1, lo => by
    show (rangeC c (lo + c) n).length + 1 = n + 1
    rw [rangeC_length c n]
theorem rangeC_get (c : Int) : ∀ (n i : Nat) (lo : Int) (d : D), (rangeC c lo n)[i]? = some d → i < n ∧ d = .int (lo + i * c)
  | 0, i, lo, d, e => by simp [rangeC] at e
  | n + 1, 0, lo, d, e => by
    have : D.int lo = d := by simpa [rangeC] using e
    exact ⟨Nat.succ_pos _, by rw [← this]; simp⟩
  | n + 1, i + 1, lo, d, e => by
    obtain ⟨h1, h2⟩ := rangeC_get c n i (lo + c) d (by simpa [rangeC] using e)
    refine ⟨Nat.succ_lt_succ h1, ?_⟩
    rw [h2]
    congr 1
    have : ((i + 1 : Nat) : Int) * c = (i : Int) * c + c := by
      rw [show ((i + 1 : Nat) : Int) = (i : Int) + 1 from rfl, Int.add_mul, Int.one_mul]
    omega
theorem jok_rangeC {K : PySem.W.Frag} {ρ : List Addr} {S : Sto} {H : Hp} (lo c : Int) (n : Nat) : Jok K ρ S H (rangeC c lo n) (Itc lo c n) := fun i ρ' S' H' f so => by
  refine ⟨fun d e => ?_, fun hl => by rw [rangeC_length] at hl; exact hl⟩
  obtain ⟨h1, rfl⟩ := rangeC_get c n i lo d e
  refine ⟨h1, fun x H'' y => ?_⟩
  obtain ⟨rfl, rfl⟩ := y
  exact ⟨Fwd.refl, so, .int _⟩
def asR3 (ws : List W) (S : Sto) : R (List D) := match ws with
  | [.v (.int i), .v (.int j), .v (.int c)] => if 0 < c ∧ c < 1000000 ∧ -1000000 < i ∧ i < 1000000 ∧ -1000000 < j ∧ j < 1000000 then .ok (rangeC c i (Builtin.Range.rangeSize i j c).toNat) S else .bad
  | _ => .bad
def itR3 (a : Den (List W)) : Den (List D) := fun δ S => (a δ S).bind asR3
theorem size_pos {i j c : Int} (hc : 0 < c) : ((Builtin.Range.rangeSize i j c).toNat : Int) = Builtin.Range.rangeSize i j c := by
  have : 0 ≤ Builtin.Range.rangeSize i j c := by
    unfold Builtin.Range.rangeSize
    rw [if_pos hc]
    split
    · have := Int.ediv_nonneg (a := j - i - 1) (b := c) (by omega) (by omega)
      omega
    · exact Int.le_refl 0
  omega
theorem small_of {i j c : Int} (h : 0 < c ∧ c < 1000000 ∧ -1000000 < i ∧ i < 1000000 ∧ -1000000 < j ∧ j < 1000000) : Builtin.Range.small i j c = true := by
  have hs : 0 ≤ Builtin.Range.rangeSize i j c ∧ Builtin.Range.rangeSize i j c ≤ 2000001 := by
    unfold Builtin.Range.rangeSize
    rw [if_pos h.1]
    split
    · have h1 := Int.ediv_nonneg (a := j - i - 1) (b := c) (by omega) (by omega)
      have h2 := Int.ediv_le_self (a := j - i - 1) c (by omega)
      omega
    · omega
  unfold Builtin.Range.small
  generalize Builtin.Range.rangeSize i j c = n at hs
  simp only [Builtin.Range.rangeFitsLong, Bool.and_eq_true, Bool.or_eq_true, decide_eq_true_eq, beq_iff_eq, if_pos h.1]
  omega
theorem di_range3 {X : Cx} {E : XP} {tg e1 e2 e3 : Expr} {p pos : Pos} {a : Den (List W)} (hm : X.mg "range" = none) (h : PA X [e1, e2, e3] (tA X.K E a)) (hg : Gl X "range" := by rfl) (hs : starEach [e1, e2, e3] X.env = (false, eval e1 X.env) :: starEach [e2, e3] X.env := by rfl) (hpl : (backTo pos (starEach [e2, e3] X.env)).any (·.1) = false := by rfl) :
    PI X tg (.Call (.Name "range" p) [e1, e2, e3] [] pos) (tI X.K E (itR3 a)) := pi_mono (pi_range3 hg hm h hs hpl) fun σ H Q ⟨δ, ρ, S, st, so, p⟩ => tG_then st so p fun ws S1 vs ρ1 H1 f1 st1 so1 r1 p1 => by
  unfold asR3 at p1
  split at p1
  · rename_i i j c
    cases r1 with
    | cons ra rb => cases rb with
      | cons rb rc => cases rc with
        | cons rc rd =>
          cases rd
          cases ra
          cases rb
          cases rc
          split at p1
          · rename_i hc
            refine ⟨i, j, c, _, rfl, ⟨by omega, by omega, ?_, (size_pos hc.1).symm⟩, p1 _ ρ1 H1 Fwd.refl so1 (jok_rangeC i c _)⟩
            exact small_of hc
          · exact p1.elim
  · exact p1.elim

/-! ### a list or a tuple, walked -/
def asLT (w : W) (S : Sto) : R (List D) := match w with
  | .v (.lst ds) => .ok ds S
  | .v (.tup ds) => .ok ds S
  | _ => .bad
def itLT (a : Den W) : Den (List D) := fun δ S => (a δ S).bind asLT
theorem di_lt {X : Cx} {E : XP} {tg e : Expr} {a : Den W} (h : PE X e (tE X.K E a)) : PI X tg e (tI X.K E (itLT a)) := ⟨fun pins s σ H R I ⟨δ, ρ, S, st, so, p⟩ => by
  have q0 : tE X.K E a σ H fun x H1 => ∃ c, x = .ref c ∧ (((∃ xs, SqL X.K H1 c xs) ∧ R (Itl X.K c) H1) ∨ ((∃ xs, SqT X.K H1 c xs) ∧ R (Itt X.K c) H1)) := tG_then st so p fun w S1 v ρ1 H1 f1 st1 so1 r1 p1 => by
    unfold asLT at p1
    split at p1
    · cases r1 with
      | lst e n rl => exact ⟨_, rfl, .inl ⟨⟨_, SqL.of e⟩, p1 _ ρ1 H1 Fwd.refl so1 (jok_list e n rl)⟩⟩
    · cases r1 with
      | tup e rl => exact ⟨_, rfl, .inr ⟨⟨_, e⟩, p1 _ ρ1 H1 Fwd.refl so1 (jok_tup e rl)⟩⟩
    · exact p1.elim
  refine thn (h.run pins s σ H _ I q0) fun v s1 ⟨x, H1, I1, r1, c, ec, q⟩ => ?_
  subst ec
  cases r1
  have fp : ∀ b ∈ [s1.heap.objs.size], FpOk X pins H1 b := fun b hb => by
    have z : b = s1.heap.objs.size := by simpa using hb
    rw [z]
    exact I1.fpOk (Nat.le_refl _) (I1.hok.fresh (Nat.le_refl _))
  rcases q with ⟨⟨xs, hq⟩, q⟩ | ⟨⟨xs, hq⟩, q⟩
  · obtain ⟨its, rv, pl, hz⟩ := I1.list hq
    exact wpAny_pyIter_list pl.isList ⟨s1.heap.objs.size, [s1.heap.objs.size], _, _, H1, rfl, I1.kept (t' := s1.toks) fun b o z => Heap.get?_push_of_some _ z, turn_list c _, ⟨_, Heap.get?_push_size _ rfl, rfl, rfl⟩, fp, q⟩
  · obtain ⟨its, rv, pl, hz⟩ := I1.tuple hq
    exact wpAny_pyIter_tuple (show s1.heap.IsTuple c its.toArray from pl) ⟨s1.heap.objs.size, [s1.heap.objs.size], _, _, H1, rfl, I1.kept (t' := s1.toks) fun b o z => Heap.get?_push_of_some _ z, turn_tuple c _, ⟨_, Heap.get?_push_size _ rfl, rfl, rfl⟩, fp, q⟩⟩
end Fro

namespace Fro
open PySem PySem.Spec L2

/-! ### xs + ys, a new list that is changed later -/
def apCatM (x y : W) (S : Sto) : R W := match rd S x, rd S y with
  | some (.lst ds), some (.lst es) => if ds.length + es.length ≤ 1000000 then .ok (.r S.length) (S ++ [.lst (ds ++ es)]) else .bad
  | _, _ => .bad
def cCatM (a b : Den W) : Den W := fun δ S => (a δ S).bind fun x S1 => (b δ S1).bind fun y S2 => apCatM x y S2
theorem grown_post {K : PySem.W.Frag} {ρ : List Addr} {S : Sto} {H : Hp} {ds : List D} {xs : List V} {Q : VK} {Ex} (so : Sok K ρ S H) (r : RpL K H (live ρ S) ds xs) (p : Post K (RpW K) ρ S H (.ok (.r S.length) (S ++ [.lst ds])) Q Ex) (q : Addr) (nq : H q = none) : Q (.ref q) (upd H q (.lst xs)) := by
  have fg : Fwd ρ S H (ρ ++ [q]) (S ++ [.lst ds]) (upd H q (.lst xs)) := Fwd.grown so nq _
  exact p (.ref q) (ρ ++ [q]) _ fg (so.grown nq _ ⟨xs, upd_same, fg.rpL r⟩) ⟨q, rfl, by rw [← so.len]; simp⟩
theorem de_catM {X : Cx} {E : XP} {e e' : Expr} {pos : Pos} {a b : Den W} (ha : PE X e (tE X.K E a)) (hb : PE X e' (tE X.K E b)) : PE X (.BinOp e .Add e' pos) (tE X.K E (cCatM a b)) :=
  pe_mono (pe_op op_cat ha hb) fun σ H Q ⟨δ, ρ, S, st, so, p⟩ => tG_then st so p fun w S1 x ρ1 H1 f1 st1 so1 r1 p1 => tG_then st1 so1 p1 fun u S2 y ρ2 H2 f2 st2 so2 r2 p2 => by
    have rx := f2.rw r1
    unfold apCatM at p2
    split at p2
    · rename_i ds es q1 q2
      split at p2
      · rename_i hl
        obtain ⟨c, xs, rfl, hc, rc⟩ := (rd_ok so2 rx q1).lstE
        obtain ⟨d, ys, rfl, hd, rd'⟩ := (rd_ok so2 r2 q2).lstE
        exact ⟨c, d, xs, ys, rfl, rfl, hc, hd, by rw [← rc.length, ← rd'.length]; exact lt_line hl, fun q nq => grown_post so2 (rc.append rd') p2 q nq⟩
      · exact p2.elim
    · exact p2.elim
/-! ### list(x), a new list that is changed later -/
def apListM (ws : List W) (S : Sto) : R W := match ws with
  | [w] => (match rd S w with
    | some (.lst ds) => .ok (.r S.length) (S ++ [.lst ds])
    | some (.tup ds) => .ok (.r S.length) (S ++ [.lst ds])
    | _ => .bad)
  | _ => .bad
def cListM (a : Den (List W)) : Den W := fun δ S => (a δ S).bind fun ws S1 => apListM ws S1
theorem de_listM {X : Cx} {E : XP} {p pos : Pos} {e : Expr} {a : Den (List W)} (hm : X.mg "list" = none) (ha : PA X [e] (tA X.K E a)) (hgl : Gl X "list" := by rfl) (he : starEach [e] X.env = (false, eval e X.env) :: starEach [] X.env := by rfl) (hpl : (backTo pos (starEach [] X.env)).any (·.1) = false := by rfl) : PE X (.Call (.Name "list" p) [e] [] pos) (tE X.K E (cListM a)) :=
  pe_mono (pe_callTy call_list_of hgl hm (by decide +kernel) ha (by decide) (by decide) he hpl) fun σ H Q ⟨δ, ρ, S, st, so, p⟩ => tG_then st so p fun ws S1 xs ρ1 H1 f1 st1 so1 r1 p1 => by
    unfold apListM at p1
    split at p1
    · cases r1 with
      | cons r rr =>
        cases rr
        split at p1
        · rename_i ds q
          obtain ⟨c, ys, rfl, hc, rc⟩ := (rd_ok so1 r q).lstE
          exact ⟨c, ys, rfl, .inl (SqL.of hc), fun q nq => grown_post so1 rc p1 q nq⟩
        · rename_i ds q
          obtain ⟨c, ys, rfl, hc, rc⟩ := (rd_ok so1 r q).tup
          exact ⟨c, ys, rfl, .inr hc, fun q nq => grown_post so1 rc p1 q nq⟩
        · exact p1.elim
    · exact p1.elim
end Fro

namespace Fro
open PySem PySem.Spec L2 PyProof.Rows HT

/-! ### t[::-1], a tuple -/
theorem fm_congr {α β : Type} {f g : α → Option β} : ∀ {l : List α}, (∀ a ∈ l, f a = g a) → l.filterMap f = l.filterMap g
  | [], _ => rfl
  | a :: l, h => by
    rw [List.filterMap_cons, List.filterMap_cons, h a List.mem_cons_self, fm_congr fun b hb => h b (List.mem_cons_of_mem _ hb)]
section
variable {prog : Program} {w : World} {A : Around} {E : Value → Shared → Prop} {s : Shared}
theorem applied_rev {sl : Addr} {vl vu vs : Value} {n : Nat} {Q : Int × Int × Nat → Shared → Prop} (hs : s.heap.IsSliceOf sl vl vu vs) (pl : IsPart vl none) (pu : IsPart vu none) (ps : IsPart vs (some (-1))) (h : Q ((n : Int) - 1, -1, n) s) : wpAny (model prog w) A (Builtin.Slice.sliceApplied (.ref sl) (pure (n : Int))) Q E s := by
  obtain ⟨os, hos, hcs, hds⟩ := id hs
  unfold Builtin.Slice.sliceApplied Builtin.Slice.sliceFields
  refine wpAny_bind (wpAny_bind (wpAny_field hos hds (x := vl) rfl (wpAny_bind (wpAny_field hos hds (x := vu) rfl (wpAny_bind (wpAny_field hos hds (x := vs) rfl (wpAny_pure ?_)))))))
  refine wpAny_bind (slicePart_ ps ?_)
  show wpAny _ _ (if ((-1 : Int) == 0) = true then _ else _) _ _ s
  rw [if_neg (by decide)]
  refine wpAny_bind (slicePart_ pl (wpAny_bind (slicePart_ pu (wpAny_bind (wpAny_pure (wpAny_pure ?_))))))
  have e : Builtin.Slice.slicePlaces ((n : Int) - 1) (-1) (-1) = n := by
    unfold Builtin.Slice.slicePlaces
    rw [if_neg (by decide), show - -(1 : Int) = 1 from rfl, Int.ediv_one]
    split <;> omega
  show Q ((n : Int) - 1, -1, Builtin.Slice.slicePlaces ((n : Int) - 1) (-1) (-1)) s
  rw [e]
  exact h
theorem pick_rev (xs : Array Value) : ((List.range xs.size).filterMap fun (k : Nat) => xs[((xs.size : Int) - 1 + (k : Int) * (-1)).toNat]?) = xs.toList.reverse := by
  have h1 : ((List.range xs.size).filterMap fun (k : Nat) => xs[((xs.size : Int) - 1 + (k : Int) * (-1)).toNat]?) = (List.range xs.size).filterMap fun k => xs.toList.reverse[k]? := by
    refine fm_congr fun k hk => ?_
    have hk' := List.mem_range.mp hk
    rw [List.getElem?_reverse (by simpa using hk'), ← Array.getElem?_toList, Array.length_toList]
    congr 1
    omega
  rw [h1]
  have key : ∀ l : List Value, (List.range l.length).filterMap (fun k => l[k]?) = l := by
    intro l
    induction l with
    | nil => rfl
    | cons a l ih =>
      rw [List.length_cons, List.range_succ_eq_map, List.filterMap_cons]
      show a :: ((List.range l.length).map Nat.succ).filterMap _ = _
      rw [List.filterMap_map]
      congr 1
  have := key xs.toList.reverse
  rwa [List.length_reverse, Array.length_toList] at this
theorem item_rev {t sl : Addr} {items : Array Value} {vl vu vs : Value} {Q : Value → Shared → Prop} (ht : IsTup s.heap t items) (hs : s.heap.IsSliceOf sl vl vu vs) (pl : IsPart vl none) (pu : IsPart vu none) (ps : IsPart vs (some (-1)))
    (h : Q (.ref s.heap.objs.size) { s with heap := s.heap.push { cls := .type "tuple", data := .seq items.toList.reverse.toArray } }) (hsz : items.size ≤ sizeLine) : wpAny (model prog w) A (getItem (.ref t) (.ref sl)) Q E s := by
  have hz : sizeOk (.seq items.toList.reverse.toArray) := by
    show items.toList.reverse.toArray.size ≤ sizeLine
    rw [List.size_toArray, List.length_reverse, Array.length_toList]
    exact hsz
  obtain ⟨os, hos, hcs, hds⟩ := id hs
  have hTs : s.TypeIs (.ref sl) "slice" := ⟨os, hos, hcs⟩
  unfold getItem
  try with_reducible refine wpAny_holding ?_
  first | refine wpAny_bind (wpAny_pure ?_) | skip
  refine wpAny_bind (wpAny_sequenceKey ht.typeIs (by decide) (wpAny_bind (wpAny_callSpecial?_slot (name := Str.ofString "__getitem__") ht.typeIs PyProof.Rows.slot_tuple_getitem (wpAny_call_entry PyProof.Rows.slot_tuple_getitem ht.typeIs entry_tuple_getitem ?_ (args_tuple_getitem _ _)))))
  show wpAny _ _ (Builtin.Tuple.tupleItemsOf (.ref t) >>= _) _ _ s
  refine wpAny_bind (tupleItemsOf_ ht (wpAny_bind (wpAny_typeOf hTs ?_)))
  rw [if_pos (by decide)]
  refine wpAny_bind (applied_rev hs pl pu ps ?_)
  have hno : ¬ ((((items.size : Int) - 1) == 0 && (-1 : Int) == 1 && items.size == items.size) = true) := by
    rw [show ((-1 : Int) == 1) = false by decide, Bool.and_false, Bool.false_and]
    exact Bool.false_ne_true
  show wpAny _ _ (if (((items.size : Int) - 1) == 0 && (-1 : Int) == 1 && items.size == items.size) = true then _ else _) _ _ s
  rw [if_neg hno, pick_rev]
  first
    | exact wpAny_bind (m := Builtin.Tuple.tupleExact _) (wpAny_newObj_type (wpAny_pure ⟨_, rfl, wpAny_pure h⟩) hz)
    | exact wpAny_bind (m := Builtin.Tuple.tupleExact _) (wpAny_newObj_type (wpAny_bind (wpAny_pure (wpAny_pure ⟨_, rfl, wpAny_pure h⟩))) hz)
    | exact wpAny_bind (wpAny_bind (m := Builtin.Tuple.tupleExact _) (wpAny_newObj_type (wpAny_pure (wpAny_pure ⟨_, rfl, wpAny_pure h⟩)) hz))
    | exact wpAny_bind (wpAny_bind (m := Builtin.Tuple.tupleExact _) (wpAny_newObj_type (wpAny_pure ⟨_, rfl, wpAny_pure h⟩) hz))
end
def tRevT (K : PySem.W.Frag) (te : TE) : TE := fun σ H Q => te σ H fun x H1 => ∃ a xs, x = .ref a ∧ SqT K H1 a xs ∧ ∀ p, H1 p = none → Q (.ref p) (upd H1 p (.tup xs.reverse))
theorem pe_revT {X : Cx} {e : Expr} {te : TE} {k : Nat} {p1 p2 p3 pos : Pos} (he : PE X e te) : PE X (.Subscript e (.Slice none none (some (.UnaryOp .USub (.Constant (.int 1) k p1) p2)) p3) pos) (tRevT X.K te) := by
  refine ⟨fun pins s σ H Q I h => ?_⟩
  refine Subscript_ (thn (he.run pins s σ H _ I h) fun v s1 ⟨x, H1, I1, r1, a, xs, ex, hx, q⟩ => ?_)
  subst ex
  cases r1
  have hst : PO X (some (.UnaryOp .USub (.Constant (.int 1) k p1) p2)) (tPart (tUn (rU fun i => .int (-i)) (tC (.int 1)))) := po_some (pe_un un_neg pe_int)
  refine wpAny_Slice (thn (po_none.run pins s1 σ H1 (fun o H2 => o = none ∧ H2 = H1) I1 ⟨rfl, rfl⟩) fun vl s2 ⟨l, H2, I2, pl, el, e2⟩ => ?_)
  subst el e2
  refine thn (po_none.run pins s2 σ H2 (fun o H3 => o = none ∧ H3 = H2) I2 ⟨rfl, rfl⟩) fun vu s3 ⟨u, H3, I3, pu, eu, e3⟩ => ?_
  subst eu e3
  refine thn (hst.run pins s3 σ H3 (fun o H4 => o = some (-1) ∧ H4 = H3) I3 ⟨1, rfl, -1, rfl, rfl, rfl⟩) fun vs s4 ⟨o, H4, I4, ps, eo, e4⟩ => ?_
  subst eo e4
  have I5 : Inv X pins σ H4 { s4 with heap := s4.heap.push { cls := .type "slice", data := .fields #[vl, vu, vs] } } := I4.kept (t' := s4.toks) fun b ob z => Heap.get?_push_of_some _ z
  obtain ⟨its, r, ht, hz⟩ := I5.tuple hx
  have hlen : its.toArray.size = xs.length := by rw [List.size_toArray]; exact r.length.symm
  show wpAny (model X.prog X.w) X.A (subscriptTail e (.Slice none none (some (.UnaryOp .USub (.Constant (.int 1) k p1) p2)) p3) (.ref a) (.ref s4.heap.objs.size)) (EP X pins σ Q) X.xe { s4 with heap := s4.heap.push { cls := .type "slice", data := .fields #[vl, vu, vs] } }
  refine tail_any (ops := [.ref a, .ref s4.heap.objs.size]) ht.typeIs (PyProof.Rows.slot_tuple_getitem.lookup) ?_ (by with_unfolding_all rfl)
  refine item_rev ht (Heap.IsSliceOf.new _ vl vu vs) pl pu ps ?_ (by rw [hlen]; exact hz)
  refine ⟨.ref _, _, I5.laid (t' := s4.toks) (o := .tup xs.reverse) (fun b ob z => Heap.get?_push_of_some _ z) (Nat.le_refl _) ?_, rfl, q _ (I5.hok.fresh (Nat.le_refl _))⟩
  exact ⟨by rw [List.length_reverse]; exact hz, _, r.reverse, IsTup.new _ _⟩
def apRevT (x : W) (S : Sto) : R W := match rd S x with
  | some (.tup ds) => .ok (.v (.tup ds.reverse)) S
  | _ => .bad
def cRevT (a : Den W) : Den W := fun δ S => (a δ S).bind fun x S1 => apRevT x S1
theorem de_revT {X : Cx} {E : XP} {e : Expr} {k : Nat} {p1 p2 p3 pos : Pos} {a : Den W} (h : PE X e (tE X.K E a)) : PE X (.Subscript e (.Slice none none (some (.UnaryOp .USub (.Constant (.int 1) k p1) p2)) p3) pos) (tE X.K E (cRevT a)) :=
  pe_mono (pe_revT h) fun σ H Q ⟨δ, ρ, S, st, so, p⟩ => tG_then st so p fun w S1 v ρ1 H1 f1 st1 so1 r1 p1 => by
    unfold apRevT at p1
    split at p1
    · rename_i ds q
      obtain ⟨b, xs, rfl, hb, rb⟩ := (rd_ok so1 r1 q).tup
      exact ⟨b, xs, rfl, hb, nxt_tup so1 rb.reverse fun v H' f so' rp => p1 v ρ1 H' f so' rp⟩
    · exact p1.elim
end Fro

/-! Fro: repr of nested tuples and lists, text.count -/
namespace Fro
open PySem PySem.Spec L2 PyProof.Rows

/-! ### data as the library shows them -/
mutual
def toPy : D → Option PyData
  | .non => some .none
  | .bl b => some (.bool b)
  | .int i => some (.int i)
  | .str t => some (.str (sx t))
  | .tup ds => (toPyL ds).map .tuple
  | .lst ds => (toPyL ds).map .list
  | .dct _ => none
  | .ty _ => none
def toPyL : List D → Option (List PyData)
  | [] => some []
  | d :: ds => match toPy d, toPyL ds with
    | some p, some ps => some (p :: ps)
    | _, _ => none
end
mutual
theorem toPy_plain : ∀ (d : D) (p : PyData), toPy d = some p → p.hasDict = false
  | .non, _, h => by cases h; rfl
  | .bl _, _, h => by cases h; rfl
  | .int _, _, h => by cases h; rfl
  | .str _, _, h => by cases h; rfl
  | .tup ds, _, h => by
    cases q : toPyL ds with
    | none => rw [toPy, q] at h; cases h
    | some ps => rw [toPy, q] at h; cases h; exact toPyL_plain ds ps q
  | .lst ds, _, h => by
    cases q : toPyL ds with
    | none => rw [toPy, q] at h; cases h
    | some ps => rw [toPy, q] at h; cases h; exact toPyL_plain ds ps q
  | .dct _, _, h => by cases h
  | .ty _, _, h => by cases h
theorem toPyL_plain : ∀ (ds : List D) (ps : List PyData), toPyL ds = some ps → PyData.hasDictAll ps = false
  | [], _, h => by cases h; rfl
  | d :: ds, _, h => by
    unfold toPyL at h
    cases q1 : toPy d with
    | none => rw [q1] at h; cases h
    | some p =>
      cases q2 : toPyL ds with
      | none => rw [q1, q2] at h; cases h
      | some ps =>
        rw [q1, q2] at h
        cases h
        show (p.hasDict || PyData.hasDictAll ps) = false
        rw [toPy_plain d p q1, toPyL_plain ds ps q2]
        rfl
end
section
variable {X : Cx} {pins : List (Addr × Obj)} {σ : L2.St} {H : Hp} {s : Shared} {M : Addr → Prop}
mutual
theorem reads_of (I : Inv X pins σ H s) : ∀ (d : D) (p : PyData) (v : V) (u : Value), Rp X.K H M d v → RelV v u → toPy d = some p → ∃ as, Reads s.heap u p as
  | .non, _, _, _, r, rv, h => by cases r; cases h; cases rv; exact ⟨_, .none⟩
  | .bl b, _, _, _, r, rv, h => by cases r; cases h; cases rv; exact ⟨_, .bool b⟩
  | .int i, _, _, _, r, rv, h => by cases r; cases h; obtain ⟨t, rfl⟩ := rv; exact ⟨_, .int i t⟩
  | .str x, _, _, _, r, rv, h => by cases r; cases h; obtain ⟨t, rfl⟩ := rv; exact ⟨_, .str _ t⟩
  | .tup ds, _, _, _, r, rv, h => by
    cases r with
    | tup hT rl =>
      cases q : toPyL ds with
      | none => rw [toPy, q] at h; cases h
      | some ps =>
        rw [toPy, q] at h
        cases h
        cases rv
        obtain ⟨its, vv, ⟨o, e, hc, n, hd⟩, _⟩ := I.tuple hT
        obtain ⟨as, ra⟩ := readsL_of I ds ps _ _ rl vv q
        exact ⟨as, .tuple e hc hd (by simpa using ra)⟩
  | .lst ds, _, _, _, r, rv, h => by
    cases r with
    | lst hL _ rl =>
      cases q : toPyL ds with
      | none => rw [toPy, q] at h; cases h
      | some ps =>
        rw [toPy, q] at h
        cases h
        cases rv
        obtain ⟨its, vv, ⟨o, n, e, hc, _, hd⟩, _⟩ := I.list (SqL.of hL)
        obtain ⟨as, ra⟩ := readsL_of I ds ps _ _ rl vv q
        exact ⟨_, .list e hc hd (by simpa using ra)⟩
  | .dct _, _, _, _, _, _, h => by cases h
  | .ty _, _, _, _, _, _, h => by cases h
theorem readsL_of (I : Inv X pins σ H s) : ∀ (ds : List D) (ps : List PyData) (vs : List V) (us : List Value), RpL X.K H M ds vs → Vals vs us → toPyL ds = some ps → ∃ as, ReadsAll s.heap us ps as
  | [], _, _, _, r, rv, h => by cases r; cases h; cases rv; exact ⟨_, .nil⟩
  | d :: ds, _, _, _, r, rv, h => by
    cases r with
    | cons a b =>
      cases rv with
      | cons ra rb =>
        unfold toPyL at h
        cases q1 : toPy d with
        | none => rw [q1] at h; cases h
        | some p =>
          cases q2 : toPyL ds with
          | none => rw [q1, q2] at h; cases h
          | some ps =>
            rw [q1, q2] at h
            cases h
            obtain ⟨_, z1⟩ := reads_of I d p _ _ a ra q1
            obtain ⟨_, z2⟩ := readsL_of I ds ps _ _ b rb q2
            exact ⟨_, .cons z1 z2⟩
end
end
/-! ### repr -/
def txOf (x : Str) : Tx := x.cps.toList
theorem sx_txOf (x : Str) : sx (txOf x) = x := by
  obtain ⟨⟨l⟩⟩ := x
  rfl
def seqD : D → Bool
  | .tup _ => true
  | .lst _ => true
  | _ => false
def gRepr : List D → Option D
  | [d] => match toPy d with
    | some p => if seqD d = true ∧ p.showable = true ∧ p.depth ≤ 100 ∧ p.shown.length ≤ 1000000 then some (.str (txOf p.shown)) else none
    | none => none
  | _ => none
/-- what repr asks: the value is such data in the abstract heap -/
def rRepr (K : PySem.W.Frag) : List V → Hp → VK → Prop := fun xs H Q => ∃ (d : D) (p : PyData) (a : Addr) (M : Addr → Prop), xs = [.ref a] ∧ Rp K H M d (.ref a) ∧ toPy d = some p ∧ p.showable = true ∧ p.depth ≤ 100 ∧ p.shown.length ≤ 1000000 ∧ Q (.str p.shown) H
theorem cr_repr {X : Cx} {k : Nat} (hr : Room k X.A) : CallR X (.builtin "repr") (rRepr X.K) := by
  intro pins s σ H xs us Q I r h
  obtain ⟨d, p, a, M, rfl, rp, e, h1, h2, h3, q⟩ := h
  obtain ⟨u, rfl, ru⟩ := vals1 r
  cases ru
  obtain ⟨as, rd⟩ := reads_of I d p _ _ rp rfl e
  have un := hr.un
  exact repr_of_reads' rd h1 (PyData.noDict_hsm (toPy_plain d p e)) hr.g (by omega) (fun _ _ z => z) (fun h' u tk hk => ⟨.str p.shown, H, I.kept hk, ⟨u, rfl⟩, q⟩) (Nat.le_trans h3 (by rw [sizeLine_eq]; decide))
theorem gn_repr {K : PySem.W.Frag} : GN K (rRepr K) gRepr := fun ρ S H ds z xs Q so rx q n => by
  unfold gRepr at q
  split at q
  · rename_i d
    obtain ⟨v, rfl, r⟩ := rql1 rx
    split at q
    · rename_i p e
      split at q
      · rename_i hc
        obtain ⟨c1, c2, c3, c4⟩ := hc
        cases q
        have fin : ∀ (a : Addr) (M : Addr → Prop), Rp K H M d (.ref a) → rRepr K [.ref a] H Q := fun a M rp => ⟨d, p, a, M, rfl, rp, e, c2, c3, c4, by
          have := nxt_here so (.str (txOf p.shown)) n
          rw [sx_txOf] at this
          exact this⟩
        cases r with
        | of rp =>
          cases d with
          | tup ds => cases rp with
            | tup h1 h2 => exact fin _ _ (.tup h1 h2)
          | lst ds => cases rp with
            | lst h1 h2 h3 => exact fin _ _ (.lst h1 h2 h3)
          | _ => cases c1
        | lst h1 h2 => exact fin _ (fun _ => False) (.lst h1 (fun z => z) (h2.weak fun _ z => z.elim))
        | dct h1 h2 => cases e
      · cases q
    · cases q
  · cases q
/-! ### text.count -/
def gCount : Tx → D → Option D := fun t e => match e with
  | .str u => some (.int (Txt.count (sx t) (sx u)))
  | _ => none
theorem gm_count {K : PySem.W.Frag} : GM1 K (fun x xs H Q => ∃ a b, x = .str a ∧ xs = [.str b] ∧ Q (.int (Txt.count a b)) H) gCount := fun ρ S H t e z y Q so ry q n => by
  unfold gCount at q
  split at q
  · cases q
    exact ⟨_, _, rfl, by rw [ry.str], nxt_here so (.int _) n⟩
  · cases q
section
variable {X : Cx} {E : XP} {o e : Expr} {apos pos : Pos} {a b : Den W}
theorem de_count (ha : PE X o (tE X.K E a)) (hb : PE X e (tE X.K E b)) (hs : starEach [e] X.env = [(false, eval e X.env)] := by rfl) (hbase : attributeBase o "count" X.env (eval o X.env) = eval o X.env := by rfl) (hline : (apos.endLine == pos.line) = true := by rfl) :
    PE X (.Call (.Attribute o "count" apos) [e] [] pos) (tE X.K E (cM1 gCount a b)) := de_m1 F.slot_str_count F.type_str_count mt_count gm_count ha hb hs hbase hline
end
end Fro

set_option maxHeartbeats 1000000
/-! Fro, dicts: dict(TABLE), d.update(e), sorted(d). -/
namespace Fro
open PySem PySem.Spec L2 PyProof.Rows

/-! ### a table of the module as a dict of the heap -/
theorem kd_pairs {P : Program} {w : World} {K : PySem.W.Frag} {n : Nat} : ∀ {es : List DictEntry} {tbl : List (Tx × D)}, kdE n K es tbl = true → PySem.W.KeysLit w.params es →
    ∃ (kvs : List (Key × V)) (vs : List (Key × Value)), KV kvs vs ∧ Pairs (mixKind P w) es vs ∧ (∀ e ∈ es, ∃ k, (mixKind P w).is k e.key = true ∧ e.hash = (mixKind P w).hash k) ∧ kvs.map (·.1) = tbl.map (fun e => (Sum.inr (sx e.1) : Key)) ∧ ∀ H M, RpE K H M tbl kvs
  | [], [], _, _ => ⟨[], [], .nil, .nil, fun e h => by simp at h, rfl, fun _ _ => .nil⟩
  | [], _ :: _, h, _ => by simp [kdE] at h
  | _ :: _, [], h, _ => by simp [kdE] at h
  | e :: es, (t, d) :: r, h, hk => by
    unfold kdE at h
    simp only [Bool.and_eq_true] at h
    obtain ⟨⟨h1, h2⟩, h3⟩ := h
    obtain ⟨⟨x, tk, ek, eh⟩, hk2⟩ := hk
    obtain ⟨kvs, vs, a1, a2, a3, a4, a5⟩ := kd_pairs (P := P) h3 hk2
    rw [ek] at h1
    have ex : x = sx t := by simpa using h1
    subst ex
    obtain ⟨v, hv, _⟩ := kdV_ok (H := fun _ => none) (M := fun _ => False) n e.val d h2
    have his : (mixKind P w).is (Sum.inr (sx t)) e.key = true := by
      rw [ek]
      show Value.isStrOf (sx t) (.str (sx t) tk) = true
      simp [Value.isStrOf]
    refine ⟨(Sum.inr (sx t), v) :: kvs, (Sum.inr (sx t), e.val) :: vs, .cons ⟨rfl, hv⟩ a1, .cons his rfl a2, fun z hz => ?_, by rw [List.map_cons, List.map_cons, a4], fun H M => .cons ?_ (a5 H M)⟩
    · rcases List.mem_cons.mp hz with q | q
      · subst q; exact ⟨_, his, eh⟩
      · exact a3 z q
    · obtain ⟨v', hv', r'⟩ := kdV_ok (H := H) (M := M) n e.val d h2
      rw [hv.inj hv']; exact r'
theorem kv_keys : ∀ {kvs : List (Key × V)} {vs : List (Key × Value)}, KV kvs vs → kvs.map (·.1) = vs.map (·.1)
  | _, _, .nil => rfl
  | _, _, .cons h t => by rw [List.map_cons, List.map_cons, kv_keys t, h.1]
theorem inr_sx_nodup {l : List Tx} (h : l.Nodup) : (l.map fun t => (Sum.inr (sx t) : Key)).Nodup := by
  rw [List.nodup_iff_pairwise_ne] at h ⊢
  exact List.Pairwise.map _ (fun a b hab z => hab (sx_inj (Sum.inr.inj z))) h
theorem KD.dict {P : Program} {w : World} {K : PySem.W.Frag} {a : Addr} {tbl : List (Tx × D)} {h : Heap} (hk : KD K w a tbl) (kin : K.In h) (nd : (tbl.map (·.1)).Nodup) :
    (a == sysModules) = false ∧ ∃ (kvs : List (Key × V)) (vs : List (Key × Value)), KV kvs vs ∧ h.DictOf (mixKind P w) a vs ∧ kvs.length = tbl.length ∧ ∀ H M, RpE K H M tbl kvs := by
  obtain ⟨es, n, m, kd, he⟩ := hk.ex
  obtain ⟨kvs, vs, a1, a2, a3, a4, a5⟩ := kd_pairs (P := P) he kd.lit
  have hl : kvs.length = tbl.length := by
    have := congrArg List.length a4
    simpa using this
  refine ⟨kd.low, kvs, vs, a1, ⟨_, es, n, kin _ _ kd.at_, ⟨rfl, rfl, rfl⟩, rfl, fun e he' => a3 e (by simpa using he'), a2, ?_⟩, hl, a5⟩
  rw [← kv_keys a1, a4]
  have := inr_sx_nodup nd
  rwa [List.map_map] at this
def cKDictM (tbl : List (Tx × D)) : Den W := fun _ S => .ok (.r S.length) (S ++ [.dct tbl])
theorem de_kdictM {X : Cx} {E : XP} {x : Str} {d : Addr} {tbl : List (Tx × D)} {p q pos : Pos} (hk : KD X.K X.w d tbl) (hm : X.mg x = some (.ref d)) (hmd : X.mg "dict" = none) (nd : (tbl.map (·.1)).Nodup := by decide +kernel) (hl : tbl.length ≤ 1000 := by decide) (hg : Gl X x := by rfl) (hgd : Gl X "dict" := by rfl) (hd : (x == ("__debug__" : Str)) = false := by decide)
    (hs : starEach [.Name x q] X.env = (false, eval (.Name x q) X.env) :: starEach [] X.env := by rfl) : PE X (.Call (.Name "dict" p) [.Name x q] [] pos) (tE X.K E (cKDictM tbl)) := by
  have rule : CallR X (.type "dict") (fun xs H Q => xs = [.ref d] ∧ ∀ kvs p, (∀ H M, RpE X.K H M tbl kvs) → H p = none → Q (.ref p) (upd H p (.dK kvs))) := by
    intro pins s σ H xs us Q I r h
    obtain ⟨rfl, h⟩ := h
    obtain ⟨u, rfl, rx⟩ := vals1 r
    cases rx
    obtain ⟨low, kvs, vs, rel, dd, ll, re⟩ := hk.dict (P := X.prog) I.kIn nd
    have z : kvs.length ≤ sizeLine := by rw [ll]; exact le1000 hl
    refine kt_call_dict low dd (by rw [← rel.length]; exact z) fun h' d' hsb => ?_
    have hmm : (s.heap.objs.size == sysModules) = false := beq_eq_false_iff_ne.mpr (Nat.ne_of_gt I.big)
    exact ⟨.ref s.heap.objs.size, upd H s.heap.objs.size (.dK kvs), I.laid (t' := s.toks) (fun b u e => (hsb.2 b (Nat.ne_of_lt (Heap.lt_size e))).trans (Heap.get?_push_of_some _ e)) (Nat.le_refl _)
      (show ObjOk X.prog X.w _ _ _ (.dK kvs) from ⟨z, hmm, vs, rel, d'⟩), rfl, h kvs _ re (I.hok.fresh (Nat.le_refl _))⟩
  refine pe_mono (pe_callTy rule hgd hmd (by decide +kernel) (pa_cons (pe_glob (v := .ref d) hg hm rfl hd) pa_nil hs)) fun σ H Q ⟨δ, ρ, S, st, so, p⟩ => ?_
  refine ⟨rfl, fun kvs b re nb => ?_⟩
  have fg : Fwd ρ S H (ρ ++ [b]) (S ++ [.dct tbl]) (upd H b (.dK kvs)) := Fwd.grown so nb _
  exact p (.ref b) (ρ ++ [b]) _ fg (so.grown nb _ ⟨kvs, upd_same, re _ _⟩) ⟨b, rfl, by rw [← so.len]; simp⟩

/-! ### d.update(e) -/
def apUpd (i : Nat) (y : W) (S : Sto) : R W := match y, S[i]? with
  | .v (.dct more), some (.dct es) => if es.length + more.length ≤ 1000 then .ok (.v .non) (S.set i (.dct (mergeE es more))) else .bad
  | _, _ => .bad
def cUpd (a b : Den W) : Den W := fun δ S => (a δ S).bind fun x S1 => match x with
  | .r i => (match S1[i]? with
    | some (.dct _) => (b δ S1).bind fun y S2 => apUpd i y S2
    | _ => .bad)
  | _ => .bad
def rUpd : V → List V → Hp → VK → Prop := fun x vs H Q => ∃ l b kvs more, x = .ref l ∧ vs = [.ref b] ∧ l ≠ b ∧ H l = some (.dK kvs) ∧ Rd H b (.dK more) ∧ kvs.length + more.length ≤ 1000 ∧ Q .non (upd H l (.dK (mergeK kvs more)))
theorem mt_update {X : Cx} : MtR X "dict.update" rUpd := by
  intro pins s σ H x vs v us Q I rx rv h
  obtain ⟨l, b, kvs, more, rfl, rfl, ne, hl, hb, hz, q⟩ := h
  cases rx
  obtain ⟨u, rfl, ru⟩ := rv.one
  cases ru
  obtain ⟨_, lowl, vl, rl, dl⟩ := dk_of I.hok hl
  obtain ⟨_, lowb, vb, rb, db⟩ := dk_rd I.hok hb
  refine call_meetsIn PySem.F.slot_dict_update dl.typeIs PySem.F.entry_dict_update (PySem.F.args_dict_update_2 _ _) (meets_dict_update (mixKind X.prog X.w) l b ne lowb)
    ⟨vl, vb, dl, db, by rw [← rl.length, ← rb.length]; exact le1000 hz, fun h' hmm _ hs => ?_⟩
  have rm : KV (mergeK kvs more) (merged vl vb) := KV.merge rb rl
  have hlen : (mergeK kvs more).length ≤ sizeLine := by
    rw [rm.length]
    refine Nat.le_trans (merged_length_le vl vb) ?_
    rw [← rl.length, ← rb.length]
    exact le1000 hz
  have hd : ∃ o, h'.get? l = some o := by obtain ⟨o, _, _, e, _⟩ := hmm; exact ⟨o, e⟩
  exact ⟨.non, _, I.write (t' := s.toks) (x := l) (e := l) (o := .dK (mergeK kvs more)) (by rw [hl]; exact True.intro) (.inl rfl) (fun c o hc e => (hs.2 c hc).trans e) hd ⟨hlen, lowl, _, rm, hmm⟩, rfl, q⟩
section
variable {X : Cx} {E : XP} {o e : Expr} {apos cpos : Pos} {a b : Den W}
theorem de_update (ha : PE X o (tE X.K E a)) (hb : PE X e (tE X.K E b)) (hs : starEach [e] X.env = (false, eval e X.env) :: starEach [] X.env := by rfl)
    (hd : ∀ to t, PE X o to → PA X [e] t → PE X (.Call (.Attribute o "update" apos) [e] [] cpos) (tBM X.K "dict" rUpd to t) := by exact fun _ _ ho h => pe_bm PySem.F.plainAttrs_dict PySem.F.slot_dict_update PySem.F.type_dict_update mt_update ho h) :
    PE X (.Call (.Attribute o "update" apos) [e] [] cpos) (tE X.K E (cUpd a b)) :=
  pe_mono (hd _ _ ha (pa_cons hb pa_nil hs)) fun σ H Q ⟨δ, ρ, S, st, so, p⟩ => by
    refine tG_then st so p fun x S1 v ρ1 H1 f1 st1 so1 r1 p1 => ?_
    cases x with
    | v d => exact p1.elim
    | s ns => exact p1.elim
    | lk es => exact p1.elim
    | x c ds => exact p1.elim
    | r i =>
      obtain ⟨l, rfl, el⟩ := r1
      cases q : S1[i]? with
      | none => simp only [q] at p1; exact p1.elim
      | some ob =>
        cases ob with
        | lst ds => simp only [q] at p1; exact p1.elim
        | dead => simp only [q] at p1; exact p1.elim
        | dct es =>
          simp only [q] at p1
          obtain ⟨kvs, hl, _⟩ := so1.obs i l _ el q
          refine ⟨.inr (.inr (.inl ⟨rfl, .inl ⟨kvs, hl⟩⟩)), ?_⟩
          refine tG_then st1 so1 p1 fun y S2 u ρ2 H2 f2 st2 so2 r2 p2 => ?_
          have el2 := f2.at el
          unfold apUpd at p2
          split at p2
          · rename_i more es2 q2
            obtain ⟨kv2, hl2, re2⟩ := so2.obs i l _ el2 q2
            by_cases hz : es2.length + more.length ≤ 1000
            · rw [if_pos hz] at p2
              cases r2 with
              | dct hb nb rb =>
                rename_i bq mkv
                have ne : l ≠ bq := fun z => nb (z ▸ ⟨i, _, el2, q2, rfl⟩)
                refine ⟨l, bq, kv2, mkv, rfl, rfl, ne, hl2, hb, by rw [← rpE_len re2, ← rpE_len rb]; exact hz, ?_⟩
                have fc : Fwd ρ2 S2 H2 ρ2 (S2.set i (.dct (mergeE es2 more))) (upd H2 l (.dK (mergeK kv2 mkv))) := Fwd.changed so2 el2 q2 rfl
                exact p2 .non ρ2 _ fc (so2.changed el2 q2 rfl ⟨_, upd_same, rpE_merge (fc.rpE rb) (fc.rpE re2)⟩) .non
            · rw [if_neg hz] at p2; exact p2.elim
          · exact p2.elim
end
/-! ### sorted(d) -/
def insT (t : Tx) : List Tx → List Tx
  | [] => [t]
  | u :: r => if ltCps u t then u :: insT t r else t :: u :: r
def srtT : List Tx → List Tx
  | [] => []
  | t :: r => insT t (srtT r)
theorem insT_perm (t : Tx) : ∀ l : List Tx, (insT t l).Perm (t :: l)
  | [] => .refl _
  | u :: r => by
    unfold insT
    split
    · exact ((insT_perm t r).cons u).trans (.swap t u r)
    · exact .refl _
theorem srtT_perm : ∀ l : List Tx, (srtT l).Perm l
  | [] => .refl _
  | t :: r => (insT_perm t _).trans ((srtT_perm r).cons t)
theorem tx_lt_asymm {a b : Tx} (h : a < b) : ¬ b < a := fun g => List.lt_irrefl a (List.lt_trans h g)
theorem tx_lt_le {a b c : Tx} (h : a < b) (g : ¬ c < b) : a < c := Classical.byContradiction fun n => by
  by_cases q : c < a
  · exact g (List.lt_trans q h)
  · have : a = c := List.le_antisymm (show a ≤ c from q) (show c ≤ a from n)
    exact g (this ▸ h)
theorem insT_sorted (t : Tx) : ∀ {l : List Tx}, l.Pairwise (fun a b => ¬ b < a) → (insT t l).Pairwise (fun a b => ¬ b < a)
  | [], _ => by simp [insT]
  | u :: r, h => by
    unfold insT
    rw [ltCps_eq]
    obtain ⟨h1, h2⟩ := List.pairwise_cons.mp h
    by_cases q : u < t
    · rw [if_pos (by simpa using q)]
      refine List.pairwise_cons.mpr ⟨fun x hx => ?_, insT_sorted t h2⟩
      rcases List.mem_cons.mp ((insT_perm t r).mem_iff.mp hx) with e | e
      · rw [e]; exact tx_lt_asymm q
      · exact h1 x e
    · rw [if_neg (by simpa using q)]
      refine List.pairwise_cons.mpr ⟨fun x hx => ?_, h⟩
      rcases List.mem_cons.mp hx with e | e
      · rw [e]; exact q
      · intro z
        have h3 := h1 x e
        rcases List.le_total (l₁ := t) (l₂ := u) with g | g
        · exact absurd (tx_lt_le z (show ¬ u < t from g)) h3
        · have : t = u := List.le_antisymm (show t ≤ u from q) g
          rw [this] at z
          exact h3 z
theorem srtT_sorted : ∀ l : List Tx, (srtT l).Pairwise (fun a b => ¬ b < a)
  | [] => .nil
  | t :: r => insT_sorted t (srtT_sorted r)
theorem rising_pw : ∀ {x : Str} {r : List Str}, risingS x r = true → (x :: r).Pairwise (fun a b => ¬ b.cps.toList < a.cps.toList)
  | x, [], _ => by simp
  | x, y :: r, h => by
    unfold risingS at h
    simp only [Bool.and_eq_true, Bool.not_eq_true'] at h
    obtain ⟨h1, h2⟩ := h
    rw [ltCps_eq] at h1
    have h1' : ¬ y.cps.toList < x.cps.toList := by simpa using h1
    have ih := rising_pw h2
    refine List.pairwise_cons.mpr ⟨fun z hz => ?_, ih⟩
    rcases List.mem_cons.mp hz with e | e
    · rw [e]; exact h1'
    · intro g
      have h3 := (List.pairwise_cons.mp ih).1 z e
      exact h3 (tx_lt_le g h1')
theorem sortedS_pw {l : List Str} (h : sortedS l = true) : l.Pairwise (fun a b => ¬ b.cps.toList < a.cps.toList) := by
  cases l with
  | nil => exact .nil
  | cons x r => exact rising_pw h
theorem sorted_is {ts : List Tx} {ys : List Str} (hp : ys.Perm (ts.map sx)) (hs : sortedS ys = true) : ys = (srtT ts).map sx := by
  refine List.Perm.eq_of_pairwise (le := fun a b : Str => ¬ b.cps.toList < a.cps.toList) (fun a b ha hb h1 h2 => ?_) (sortedS_pw hs) ?_ (hp.trans ((srtT_perm ts).symm.map sx))
  · have e : a.cps.toList = b.cps.toList := List.le_antisymm h1 h2
    cases a; cases b
    congr 1
    exact Array.toList_inj.mp e
  · refine List.Pairwise.map _ (fun a b h => ?_) (srtT_sorted ts)
    simpa [sx] using h
def gSortD : List D → Option D := fun ds => match ds with
  | [.dct es] => if es.length < 64 then some (.lst ((srtT (es.map (·.1))).map D.str)) else none
  | _ => none
theorem rpE_keys {K : PySem.W.Frag} {H : Hp} {M : Addr → Prop} : ∀ {es : List (Tx × D)} {kvs : List (Key × V)}, RpE K H M es kvs → kvs.map (·.1) = (es.map fun e => sx e.1).map Sum.inr
  | _, _, .nil => rfl
  | _, _, .cons _ b => by
    simp only [List.map_cons]
    rw [rpE_keys b]
theorem rpL_strs {K : PySem.W.Frag} {H : Hp} {M : Addr → Prop} : ∀ l : List Tx, RpL K H M (l.map D.str) ((l.map sx).map V.str)
  | [] => .nil
  | t :: l => .cons (.str t) (rpL_strs l)
theorem gn_sortD {K : PySem.W.Frag} : GN K (fun xs H Q => ∃ (a : Addr) (kvs : List (Key × V)) (ks : List Str), xs = [.ref a] ∧ Rd H a (.dK kvs) ∧ kvs.map (·.1) = ks.map Sum.inr ∧ ks.length < 64 ∧ ∀ ys p, ys.Perm ks → sortedS ys = true → H p = none → Q (.ref p) (upd H p (.lst (ys.map V.str)))) gSortD := fun ρ S H ds z xs Q so rx q n => by
  unfold gSortD at q
  split at q
  · rename_i es
    obtain ⟨v, rfl, r⟩ := rql1 rx
    split at q
    · rename_i hl
      cases q
      obtain ⟨a, kvs, rfl, hd, re⟩ : ∃ a kvs, v = .ref a ∧ Rd H a (.dK kvs) ∧ RpE K H (live ρ S) es kvs := by
        cases r with
        | of h => cases h with | dct h1 _ h3 => exact ⟨_, _, rfl, h1, h3⟩
        | dct h1 h2 => exact ⟨_, _, rfl, h1, h2⟩
      refine ⟨a, kvs, es.map fun e => sx e.1, rfl, hd, rpE_keys re, by rw [List.length_map]; exact hl, fun ys p hp hs np => ?_⟩
      have e : ys = (srtT (es.map (·.1))).map sx := sorted_is (by rw [List.map_map]; exact hp) hs
      rw [e]
      exact nxt_lst so (rpL_strs _) n p np
    · cases q
  · cases q
/-! ### x in d, as a test -/
section
variable {X : Cx} {E : XP} {o e : Expr} {pos : Pos} {a b : Den W} {k : Nat}
theorem dt_din (hr : Room k X.A) (he : PE X e (tE X.K E b)) (ho : PE X o (tE X.K E a)) (hm : behindInMarks .In o = false := by rfl) : PT X (.Compare e [.In] [o] pos) (tT X.K E (cB (cDIn false b a))) :=
  pt_mono (pt_cmp (pc_din (hu1 hr) he ho) hm) fun σ H Q ⟨δ, ρ, S, st, so, p⟩ => by
    obtain ⟨δ, ρ, S, st, so, p⟩ : tE X.K E (cDIn false b a) σ H fun x H' => ∃ d, x = .bl d ∧ Q d H' := tG_then st so p fun w S1 v ρ1 H1 f1 st1 so1 r1 p1 => asB_post so1 r1 p1
    exact tG_then st so p fun y S1 u ρ1 H1 f1 st1 so1 r1 p1 => tG_then st1 so1 p1 fun x S2 v ρ2 H2 f2 st2 so2 r2 p2 => din_post false so2 (f2.rw r1) r2 p2
theorem dt_dnotin (hr : Room k X.A) (he : PE X e (tE X.K E b)) (ho : PE X o (tE X.K E a)) (hm : behindInMarks .NotIn o = false := by rfl) : PT X (.Compare e [.NotIn] [o] pos) (tT X.K E (cB (cDIn true b a))) :=
  pt_mono (pt_cmp (pc_dnotin (hu1 hr) he ho) hm) fun σ H Q ⟨δ, ρ, S, st, so, p⟩ => by
    obtain ⟨δ, ρ, S, st, so, p⟩ : tE X.K E (cDIn true b a) σ H fun x H' => ∃ d, x = .bl d ∧ Q d H' := tG_then st so p fun w S1 v ρ1 H1 f1 st1 so1 r1 p1 => asB_post so1 r1 p1
    exact tG_then st so p fun y S1 u ρ1 H1 f1 st1 so1 r1 p1 => tG_then st1 so1 p1 fun x S2 v ρ2 H2 f2 st2 so2 r2 p2 => din_post true so2 (f2.rw r1) r2 p2
end
end Fro

set_option maxHeartbeats 1000000
/-! Fro, dicts: list(d). -/
namespace Fro
open PySem PySem.Spec L2 PyProof.Rows

def rListR : List V → Hp → VK → Prop := fun xs H Q => ∃ p kvs, xs = [.ref p] ∧ Rd H p (.dK kvs) ∧ ∀ q, H q = none → Q (.ref q) (upd H q (.lst (kvs.map fun kv => kV kv.1)))
theorem call_list_dR {X : Cx} (hc : X.calm = true) : CallR X (.type "list") rListR := by
  intro pins s σ H xs us Q I r h
  obtain ⟨p, kvs, e, hk, q⟩ := h
  subst e
  obtain ⟨u, eu, rx⟩ := vals1 r
  subst eu
  obtain rfl : u = Value.ref p := rx
  obtain ⟨z, lo, vs, rk, hd⟩ := (show ObjOk X.prog X.w H s.heap p (.dK kvs) from hk.ok I.hok)
  obtain ⟨ep, hat⟩ := hd.dictAt
  have hl : kvs.length = vs.length := Paired.length rk
  refine PySem.W.kdl_call (PySem.W.kdl_dict (knd := mixKind X.prog X.w) (kvs := vs) (ep := ep) lo) (I.ok.hd hc) hat (by rw [← hl]; exact z) fun h' tk acc' c' hkeep hS hacc => ?_
  refine ⟨.ref s.heap.objs.size, upd H s.heap.objs.size (.lst (kvs.map fun kv => kV kv.1)), I.laid hkeep (Nat.le_refl _) (show ObjOk X.prog X.w _ _ _ (.lst (kvs.map fun kv => kV kv.1)) from ⟨by rw [List.length_map]; exact z, acc'.toList, c', ?_, by rw [Array.toArray_toList]; exact hS⟩), rfl, q _ (I.hok.fresh (Nat.le_refl _))⟩
  have el : acc'.toList.length = acc'.size := by simp
  refine vals_of_at (by rw [List.length_map, el, hacc.1, hl]) fun j x w h1 h2 => ?_
  obtain ⟨k, y, hky, hi⟩ := hacc.2 j w (by rw [← Array.getElem?_toList]; exact h2)
  have e1 : (kvs.map (·.1))[j]? = some k := by
    rw [KV.keys rk, List.getElem?_map, hky] <;> rfl
  have e2 : (kvs.map fun kv => kV kv.1)[j]? = some (kV k) := by
    have e3 : (kvs.map fun kv => kV kv.1) = (kvs.map (·.1)).map kV := by rw [List.map_map] <;> rfl
    rw [e3, List.getElem?_map, e1] <;> rfl
  rw [e2] at h1
  cases h1
  exact keyIs_rel hi
def gListD : List D → Option D := fun ds => match ds with
  | [.dct es] => some (.lst (es.map fun e => .str e.1))
  | _ => none
theorem rpE_list {K : PySem.W.Frag} {H : Hp} {M : Addr → Prop} : ∀ {es : List (Tx × D)} {kvs : List (Key × V)}, RpE K H M es kvs → RpL K H M (es.map fun e => .str e.1) (kvs.map fun kv => kV kv.1)
  | _, _, .nil => .nil
  | _, _, .cons a b => .cons (.str _) (rpE_list b)
theorem gn_listD {K : PySem.W.Frag} : GN K rListR gListD := fun ρ S H ds z xs Q so rx q n => by
  unfold gListD at q
  split at q
  · rename_i es
    obtain ⟨v, rfl, r⟩ := rql1 rx
    cases q
    obtain ⟨a, kvs, rfl, hd, re⟩ : ∃ a kvs, v = .ref a ∧ Rd H a (.dK kvs) ∧ RpE K H (live ρ S) es kvs := by
      cases r with
      | of h => cases h with | dct h1 _ h3 => exact ⟨_, _, rfl, h1, h3⟩
      | dct h1 h2 => exact ⟨_, _, rfl, h1, h2⟩
    exact ⟨a, kvs, rfl, hd, nxt_lst so (rpE_list re) n⟩
  · cases q
end Fro

/-! Fro, exceptions: isinstance(e, C), isinstance(e, (C, D)) of a caught one. -/
namespace Fro
open PySem PySem.Spec L2 PyProof.Rows

structure IsxC (K : PySem.W.Frag) (C : Addr) : Prop where
  hcl : (PySem.W.clsIn K C).isSome = true
  hga : PySem.W.findIn K (.ref C) "__getattribute__" = some (some (.builtin "BaseException.__getattribute__"))
  hgt : PySem.W.findIn K (.ref C) "__getattr__" = some none
  hsub : PySem.W.subIn K (.ref C) (.type "BaseException") = some true
  ha : PySem.W.findIn K (.ref C) "__class__" = some (some (.builtin "object.__class__"))
  hn : PySem.W.specialIn K (.builtin "object.__class__") "__get__" = some (some (.builtin "getset_descriptor.__get__"))
  htk : PySem.W.takesIn K (.builtin "object.__class__") = some true
  hm : PySem.W.mroIn K C (.type "object") = some true
/-- what isinstance says of the classes -/
def XIs (K : PySem.W.Frag) (h : Nat) (C' : Addr) : Prop := ∀ (k : Nat) (C : Addr), PySem.W.nsIn K mainGlobals (xname k) = some (some (.ref C)) → IsxC K C ∧ PySem.W.kitOne K (.ref C) (.ref C') = some (subx k h)
def isxB (K : PySem.W.Frag) (C : Addr) : Bool := (PySem.W.clsIn K C).isSome && (decide (PySem.W.findIn K (.ref C) "__getattribute__" = some (some (.builtin "BaseException.__getattribute__"))) && (decide (PySem.W.findIn K (.ref C) "__getattr__" = some none) &&
  (decide (PySem.W.subIn K (.ref C) (.type "BaseException") = some true) && (decide (PySem.W.findIn K (.ref C) "__class__" = some (some (.builtin "object.__class__"))) && (decide (PySem.W.specialIn K (.builtin "object.__class__") "__get__" = some (some (.builtin "getset_descriptor.__get__"))) &&
  (decide (PySem.W.takesIn K (.builtin "object.__class__") = some true) && decide (PySem.W.mroIn K C (.type "object") = some true)))))))
theorem isxB_ok {K : PySem.W.Frag} {C : Addr} (h : isxB K C = true) : IsxC K C := by
  unfold isxB at h
  simp only [Bool.and_eq_true, decide_eq_true_eq] at h
  obtain ⟨h1, h2, h3, h4, h5, h6, h7, h8⟩ := h
  exact ⟨h1, h2, h3, h4, h5, h6, h7, h8⟩
def xiB (K : PySem.W.Frag) (h : Nat) (C' : Addr) : Bool := (List.range 14).all fun k => match PySem.W.nsIn K mainGlobals (xname k) with
  | some (some (.ref C)) => isxB K C && decide (PySem.W.kitOne K (.ref C) (.ref C') = some (subx k h))
  | _ => true
theorem xi_mk {K : PySem.W.Frag} {h : Nat} {C' : Addr} (hn : noneB K = true) (hb : xiB K h C' = true) : XIs K h C' := fun k C e => by
  by_cases hk : 13 ≤ k
  · rw [xname_top k hk] at e
    unfold noneB at hn
    rw [e] at hn
    cases hn
  · have q := List.all_eq_true.mp hb k (List.mem_range.mpr (by omega))
    rw [e] at q
    obtain ⟨q1, q2⟩ := Bool.and_eq_true_iff.mp q
    exact ⟨isxB_ok q1, of_decide_eq_true q2⟩
def rIsx (K : PySem.W.Frag) : List V → Hp → VK → Prop := fun xs H Q => ∃ (a C d : Addr) (vfs : List (Str × V)) (y : V) (b : Bool), xs = [.ref a, y] ∧ H a = some (xob a C d) ∧ H d = some (.xd vfs) ∧ IsxC K C ∧
  ((∃ C', y = .ref C' ∧ PySem.W.kitOne K (.ref C) (.ref C') = some b) ∨ ∃ (p : Addr) (cs : List Addr), y = .ref p ∧ SqT K H p (cs.map V.ref) ∧ PySem.W.kitAny K (.ref C) (cs.map Value.ref) = some b) ∧ Q (.bl b) H
theorem vals_refs : ∀ {cs : List Addr} {us : List Value}, Vals (cs.map V.ref) us → us = cs.map Value.ref
  | [], _, .nil => rfl
  | c :: cs, _, .cons h r => by
    obtain rfl := (show _ = Value.ref c from h)
    rw [vals_refs r]; rfl
theorem call_isx {X : Cx} : CallR X (.builtin "isinstance") (rIsx X.K) := by
  intro pins s σ H xs us Q I r h
  obtain ⟨a, C, d, vfs, y, b, rfl, eb, ed, IC, hy, q⟩ := h
  cases r with
  | cons rx rr =>
    cases rr with
    | cons rt rr =>
      cases rr
      cases rx
      obtain ⟨oe, vs, ho, h1, h2, h3⟩ := xob_at I.hok eb
      have hx : ObjOk X.prog X.w H s.heap d (.xd vfs) := I.hok d _ ed
      obtain ⟨mA, hns, hr⟩ := hx
      obtain ⟨od, hod, hl⟩ := lookIn_ns hns
      have J : PySem.W.InstAt s.heap a oe C (some od) := ⟨ho, h1, by unfold PySem.W.notCls; rw [h3] <;> rfl, by rw [h2]; exact hod⟩
      have Z := PySem.W.kitx_exc (K := X.K) (x := a) (ox := oe) (od := some od) IC.hcl IC.hga IC.hgt IC.hsub IC.ha IC.hn IC.htk IC.hm
      rcases hy with ⟨C', rfl, e⟩ | ⟨p, cs, rfl, sq, e⟩
      · cases rt
        exact PySem.W.kia_one Z I.kIn J e (fun z => nomatch z) fun tk => ⟨.bl b, H, I.kept (t' := tk) fun _ _ z => z, rfl, q⟩
      · cases rt
        obtain ⟨its, r1, p1, _⟩ := I.tuple sq
        rw [vals_refs r1] at p1
        obtain ⟨⟨cls, dd, data, sl⟩, ht, hc, n, hd⟩ := id p1
        simp only at hc hd
        subst hc hd
        exact PySem.W.kia_tup Z I.kIn J ht e (fun z => nomatch z) fun tk => ⟨.bl b, H, I.kept (t' := tk) fun _ _ z => z, rfl, q⟩
def apIsx (hs : List Nat) (w : W) (S : Sto) : R W := match w with
  | .x c _ => .ok (.v (.bl (hs.any (subx c)))) S
  | _ => .bad
def cIsx (hs : List Nat) (a : Den W) : Den W := fun δ S => (a δ S).bind fun w S1 => apIsx hs w S1
theorem kitAny_of {K : PySem.W.Frag} {k : Nat} {C : Addr} (e : PySem.W.nsIn K mainGlobals (xname k) = some (some (.ref C))) : ∀ {cs : List Addr} {hs : List Nat}, cs.length = hs.length → (∀ (i : Nat) (C' : Addr) (h : Nat), cs[i]? = some C' → hs[i]? = some h → XIs K h C') → PySem.W.kitAny K (.ref C) (cs.map Value.ref) = some (hs.any (subx k))
  | [], [], _, _ => rfl
  | [], _ :: _, h, _ => by simp at h
  | _ :: _, [], h, _ => by simp at h
  | c :: cs, h :: hs, hl, hx => by
    have z := (hx 0 c h rfl rfl k C e).2
    have r := kitAny_of e (cs := cs) (hs := hs) (by simpa using hl) fun i C' h' h1 h2 => hx (i + 1) C' h' (by simpa using h1) (by simpa using h2)
    show (match PySem.W.kitOne K (.ref C) (.ref c) with | some true => some true | some false => PySem.W.kitAny K (.ref C) (cs.map Value.ref) | none => none) = some (subx k h || hs.any (subx k))
    rw [z]
    cases subx k h with
    | true => rfl
    | false => exact r
section
variable {X : Cx} {E : XP} {e : Expr} {a : Den W} {p p2 pos : Pos}
theorem de_isx1 {x : Str} {C' : Addr} {h : Nat} (xi : XIs X.K h C') (hx : X.mg x = some (.ref C')) (he : PE X e (tE X.K E a)) (hm : X.mg "isinstance" = none) (hgx : Gl X x := by rfl) (hg : Gl X "isinstance" := by rfl) (hd : (x == ("__debug__" : Str)) = false := by decide)
    (h1 : starEach [e, .Name x p2] X.env = (false, eval e X.env) :: starEach [.Name x p2] X.env := by rfl) (h2 : starEach [.Name x p2] X.env = (false, eval (.Name x p2) X.env) :: starEach [] X.env := by rfl) (hpl : (backTo pos (starEach [.Name x p2] X.env)).any (·.1) = false := by rfl) :
    PE X (.Call (.Name "isinstance" p) [e, .Name x p2] [] pos) (tE X.K E (cIsx [h] a)) :=
  pe_mono (pe_callB call_isx hg hm (by decide +kernel) (pa_cons he (pa_cons (pe_glob (v := .ref C') hgx hx rfl hd) pa_nil h2) h1) (by decide) (by decide) h1 hpl) fun σ H Q ⟨δ, ρ, S, st, so, q⟩ => by
    show tE X.K E a σ H _
    refine tG_then st so q fun w S1 v ρ1 H1 f1 st1 so1 r1 p1 => ?_
    show rIsx X.K [v, .ref C'] H1 Q
    cases w with
    | v d => exact p1.elim
    | r i => exact p1.elim
    | s ns => exact p1.elim
    | lk es => exact p1.elim
    | x c ds =>
      obtain ⟨b, C, d, rfl, eb, nb, xr⟩ := r1
      obtain ⟨vfs, ed, hv⟩ := xr.at_
      obtain ⟨IC, ek⟩ := xi c C xr.cls
      refine ⟨b, C, d, vfs, .ref C', _, rfl, eb, ed, IC, .inl ⟨C', rfl, ek⟩, ?_⟩
      have p1 : Post X.K (RpW X.K) ρ1 S1 H1 (.ok (.v (.bl ([h].any (subx c)))) S1) Q (E σ) := p1
      have e1 : [h].any (subx c) = subx c h := by simp
      rw [e1] at p1
      exact p1 _ ρ1 H1 Fwd.refl so1 (.bl _)
theorem de_isx2 {x y : Str} {Cx Cy : Addr} {hx hy : Nat} {p3 p4 : Pos} {ctx : Nat} (xi : XIs X.K hx Cx) (yi : XIs X.K hy Cy) (mx : X.mg x = some (.ref Cx)) (my : X.mg y = some (.ref Cy)) (he : PE X e (tE X.K E a)) (hm : X.mg "isinstance" = none) (hgx : Gl X x := by rfl) (hgy : Gl X y := by rfl) (hg : Gl X "isinstance" := by rfl)
    (hdx : (x == ("__debug__" : Str)) = false := by decide) (hdy : (y == ("__debug__" : Str)) = false := by decide)
    (h1 : starEach [e, .Tuple [.Name x p2, .Name y p3] ctx p4] X.env = (false, eval e X.env) :: starEach [.Tuple [.Name x p2, .Name y p3] ctx p4] X.env := by rfl) (h2 : starEach [.Tuple [.Name x p2, .Name y p3] ctx p4] X.env = (false, eval (.Tuple [.Name x p2, .Name y p3] ctx p4) X.env) :: starEach [] X.env := by rfl)
    (h3 : starEach [.Name x p2, .Name y p3] X.env = (false, eval (.Name x p2) X.env) :: starEach [.Name y p3] X.env := by rfl) (h4 : starEach [.Name y p3] X.env = (false, eval (.Name y p3) X.env) :: starEach [] X.env := by rfl) (hpl : (backTo pos (starEach [.Tuple [.Name x p2, .Name y p3] ctx p4] X.env)).any (·.1) = false := by rfl) :
    PE X (.Call (.Name "isinstance" p) [e, .Tuple [.Name x p2, .Name y p3] ctx p4] [] pos) (tE X.K E (cIsx [hx, hy] a)) :=
  pe_mono (pe_callB call_isx hg hm (by decide +kernel) (pa_cons he (pa_cons (pe_tup (pa_cons (pe_glob (v := .ref Cx) hgx mx rfl hdx) (pa_cons (pe_glob (v := .ref Cy) hgy my rfl hdy) pa_nil h4) h3)) pa_nil h2) h1) (by decide) (by decide) h1 hpl) fun σ H Q ⟨δ, ρ, S, st, so, q⟩ => by
    show tE X.K E a σ H _
    refine tG_then st so q fun w S1 v ρ1 H1 f1 st1 so1 r1 p1 => ?_
    show ([V.ref Cx, V.ref Cy] : List V).length ≤ sizeLine ∧ ∀ p, H1 p = none → rIsx X.K [v, .ref p] (upd H1 p (.tup [.ref Cx, .ref Cy])) Q
    refine ⟨by show 2 ≤ sizeLine; decide +kernel, fun p np => ?_⟩
    cases w with
    | v d => exact p1.elim
    | r i => exact p1.elim
    | s ns => exact p1.elim
    | lk es => exact p1.elim
    | x c ds =>
      obtain ⟨b, C, d, rfl, eb, nb, xr⟩ := r1
      obtain ⟨vfs, ed, hv⟩ := xr.at_
      obtain ⟨IC, _⟩ := xi c C xr.cls
      have fw : Fwd ρ1 S1 H1 ρ1 S1 (upd H1 p (.tup [.ref Cx, .ref Cy])) := Fwd.laid so1 np
      have nb1 : b ≠ p := fun z => by rw [z] at eb; rw [np] at eb; cases eb
      have nd1 : d ≠ p := fun z => by rw [z] at ed; rw [np] at ed; cases ed
      refine ⟨b, C, d, vfs, .ref p, _, rfl, by rw [upd_ne nb1]; exact eb, by rw [upd_ne nd1]; exact ed, IC, .inr ⟨p, [Cx, Cy], rfl, SqT.of upd_same, kitAny_of xr.cls (hs := [hx, hy]) rfl fun i C' h' e1 e2 => ?_⟩, ?_⟩
      · match i, e1, e2 with
        | 0, e1, e2 => cases e1; cases e2; exact xi
        | 1, e1, e2 => cases e1; cases e2; exact yi
      · exact p1 _ ρ1 _ fw (Sok.laid so1 np) (.bl _)
end
end Fro

/-! Fro: repr of any data, of a dict; tuples of integers in order -/
namespace Fro
open PySem PySem.Spec L2 PyProof.Rows

/-! ### flat data: no list within -/
mutual
def noL : D → Bool
  | .tup ds => noLL ds
  | .lst _ => false
  | .dct _ => false
  | .ty _ => false
  | .non => true
  | .bl _ => true
  | .int _ => true
  | .str _ => true
def noLL : List D → Bool
  | [] => true
  | d :: ds => noL d && noLL ds
end
section
variable {X : Cx} {pins : List (Addr × Obj)} {σ : L2.St} {H : Hp} {s : Shared} {M : Addr → Prop}
mutual
theorem readsF_of (I : Inv X pins σ H s) : ∀ (d : D) (p : PyData) (v : V) (u : Value), Rp X.K H M d v → RelV v u → toPy d = some p → noL d = true → Reads s.heap u p []
  | .non, _, _, _, r, rv, h, _ => by cases r; cases h; cases rv; exact .none
  | .bl b, _, _, _, r, rv, h, _ => by cases r; cases h; cases rv; exact .bool b
  | .int i, _, _, _, r, rv, h, _ => by cases r; cases h; obtain ⟨t, rfl⟩ := rv; exact .int i t
  | .str x, _, _, _, r, rv, h, _ => by cases r; cases h; obtain ⟨t, rfl⟩ := rv; exact .str _ t
  | .tup ds, _, _, _, r, rv, h, fl => by
    cases r with
    | tup hT rl =>
      cases q : toPyL ds with
      | none => rw [toPy, q] at h; cases h
      | some ps =>
        rw [toPy, q] at h
        cases h
        cases rv
        obtain ⟨its, vv, ⟨o, e, hc, n, hd⟩, _⟩ := I.tuple hT
        have ra := readsFL_of I ds ps _ _ rl vv q (by simpa [noL] using fl)
        exact .tuple e hc hd (by simpa using ra)
  | .lst _, _, _, _, _, _, _, fl => by simp [noL] at fl
  | .dct _, _, _, _, _, _, _, fl => by simp [noL] at fl
  | .ty _, _, _, _, _, _, _, fl => by simp [noL] at fl
theorem readsFL_of (I : Inv X pins σ H s) : ∀ (ds : List D) (ps : List PyData) (vs : List V) (us : List Value), RpL X.K H M ds vs → Vals vs us → toPyL ds = some ps → noLL ds = true → ReadsAll s.heap us ps []
  | [], _, _, _, r, rv, h, _ => by cases r; cases h; cases rv; exact .nil
  | d :: ds, _, _, _, r, rv, h, fl => by
    have fl' : noL d = true ∧ noLL ds = true := by simpa [noLL] using fl
    cases r with
    | cons a b =>
      cases rv with
      | cons ra rb =>
        unfold toPyL at h
        cases q1 : toPy d with
        | none => rw [q1] at h; cases h
        | some p =>
          cases q2 : toPyL ds with
          | none => rw [q1, q2] at h; cases h
          | some ps =>
            rw [q1, q2] at h
            cases h
            have z1 := readsF_of I d p _ _ a ra q1 fl'.1
            have z2 := readsFL_of I ds ps _ _ b rb q2 fl'.2
            exact .cons (as := []) (bs := []) z1 z2
end
/-! ### dicts of flat data -/
def toPyE : List (Tx × D) → Option (List (PyData × PyData))
  | [] => some []
  | (t, d) :: es => if noL d then (match toPy d, toPyE es with
    | some p, some ps => some ((.str (sx t), p) :: ps)
    | _, _ => none) else none
theorem readsE_of (I : Inv X pins σ H s) : ∀ {es : List (Tx × D)} {ps : List (PyData × PyData)} {kvs : List (Key × V)} {vs : List (Key × Value)} {ds : List DictEntry}, RpE X.K H M es kvs → KV kvs vs → Pairs (mixKind X.prog X.w) ds vs → toPyE es = some ps →
    ReadsAll s.heap (ds.map (·.key)) (ps.map (·.1)) [] ∧ ReadsAll s.heap (ds.map (·.val)) (ps.map (·.2)) []
  | [], _, _, _, _, r, kv, pr, h => by
    cases r; cases h; cases kv; cases pr
    exact ⟨.nil, .nil⟩
  | (t, d) :: es, _, _, _, _, r, kv, pr, h => by
    cases r with
    | cons a b =>
      cases kv with
      | cons k1 k2 =>
        cases pr with
        | cons p1 p2 p3 =>
          unfold toPyE at h
          split at h
          · rename_i fl
            cases q1 : toPy d with
            | none => rw [q1] at h; cases h
            | some p =>
              cases q2 : toPyE es with
              | none => rw [q1, q2] at h; cases h
              | some ps =>
                rw [q1, q2] at h
                cases h
                obtain ⟨r1, r2⟩ := readsE_of I b k2 p3 q2
                obtain ⟨e1, e2⟩ := k1
                have key := keyIs_shape p1
                rw [← e1] at key
                rcases key with ⟨i, u, z, _⟩ | ⟨x, u, z, zz⟩
                · cases z
                · cases z
                  refine ⟨?_, ?_⟩
                  · simp only [List.map_cons]
                    rw [zz]
                    exact .cons (as := []) (bs := []) (.str _ u) r1
                  · simp only [List.map_cons]
                    rw [p2]
                    exact .cons (as := []) (bs := []) (readsF_of I d p _ _ a e2 q1 fl) r2
          · cases h
end
/-! ### repr -/
def toPyA : D → Option PyData
  | .dct es => (toPyE es).map .dict
  | d => toPy d
def gReprA : List D → Option D
  | [d] => match toPyA d with
    | some p => if p.showable = true ∧ p.depth ≤ 100 ∧ p.shown.length ≤ 1000000 then some (.str (txOf p.shown)) else none
    | none => none
  | _ => none
def rReprA (K : PySem.W.Frag) : List V → Hp → VK → Prop := fun xs H Q => ∃ (d : D) (p : PyData) (v : V) (M : Addr → Prop), xs = [v] ∧ Rp K H M d v ∧ toPyA d = some p ∧ p.showable = true ∧ p.depth ≤ 100 ∧ p.shown.length ≤ 1000000 ∧ Q (.str p.shown) H
theorem cr_reprA {X : Cx} {k : Nat} (hr : Room k X.A) : CallR X (.builtin "repr") (rReprA X.K) := by
  intro pins s σ H xs us Q I r h
  obtain ⟨d, p, v, M, rfl, rp, e, h1, h2, h3, q⟩ := h
  obtain ⟨u, rfl, ru⟩ := vals1 r
  have un := hr.un
  have hz : p.shown.length ≤ sizeLine := Nat.le_trans h3 (by rw [sizeLine_eq]; decide)
  cases d with
  | non =>
    cases rp; cases e; cases ru
    exact PySem.P.repr_of_none ⟨.str "None", H, I.tok _, ⟨_, rfl⟩, q⟩
  | bl b =>
    cases rp; cases e; cases ru
    exact PySem.P.repr_of_bool ⟨.str (if b then "True" else "False"), H, I.tok _, ⟨_, rfl⟩, q⟩
  | int i =>
    cases rp; cases e; obtain ⟨t, rfl⟩ := ru
    exact PySem.P.repr_of_int (of_decide_eq_true h1) ⟨.str (toString i), H, I.tok _, ⟨_, rfl⟩, q⟩
  | str t =>
    cases rp; cases e; obtain ⟨t, rfl⟩ := ru
    exact PySem.P.repr_of_str ⟨.str _, H, I.tok _, ⟨_, rfl⟩, q⟩ hz
  | ty n => cases e
  | tup ds =>
    obtain ⟨as, rd⟩ := reads_of I (.tup ds) p _ _ rp ru e
    cases rp
    cases ru
    exact repr_of_reads' rd h1 (PyData.noDict_hsm (toPy_plain (.tup ds) p e)) hr.g (by omega) (fun _ _ z => z) (fun h' u tk hk => ⟨.str p.shown, H, I.kept hk, ⟨u, rfl⟩, q⟩) hz
  | lst ds =>
    obtain ⟨as, rd⟩ := reads_of I (.lst ds) p _ _ rp ru e
    cases rp
    cases ru
    exact repr_of_reads' rd h1 (PyData.noDict_hsm (toPy_plain (.lst ds) p e)) hr.g (by omega) (fun _ _ z => z) (fun h' u tk hk => ⟨.str p.shown, H, I.kept hk, ⟨u, rfl⟩, q⟩) hz
  | dct es =>
    cases rp with
    | dct hd _ re =>
      cases ru
      cases qe : toPyE es with
      | none => rw [toPyA, qe] at e; cases e
      | some ps =>
        rw [toPyA, qe] at e
        cases e
        obtain ⟨_, lo, vs, kv, o, en, ep, h4, h5, h6, _, h7, _⟩ := dk_rd I.hok hd
        obtain ⟨r1, r2⟩ := readsE_of I re kv h7 qe
        have rd := Reads.dict h4 h5.1 h6 r1 r2
        refine repr_of_reads' rd h1 (fun _ z => ?_) hr.g (by omega) (fun _ _ z => z) (fun h' u tk hk => ⟨.str _, H, I.kept hk, ⟨u, rfl⟩, q⟩) hz
        simp only [List.append_nil, List.mem_singleton] at z
        rw [← z] at lo
        simp at lo
theorem gn_reprA {K : PySem.W.Frag} : GN K (rReprA K) gReprA := fun ρ S H ds z xs Q so rx q n => by
  unfold gReprA at q
  split at q
  · rename_i d
    obtain ⟨v, rfl, r⟩ := rql1 rx
    split at q
    · rename_i p e
      split at q
      · rename_i hc
        obtain ⟨c2, c3, c4⟩ := hc
        cases q
        have fin : ∀ (v : V) (M : Addr → Prop), Rp K H M d v → rReprA K [v] H Q := fun v M rp => ⟨d, p, v, M, rfl, rp, e, c2, c3, c4, by
          have := nxt_here so (.str (txOf p.shown)) n
          rw [sx_txOf] at this
          exact this⟩
        cases r with
        | of rp => exact fin _ _ rp
        | lst h1 h2 => exact fin _ (fun _ => False) (.lst h1 (fun z => z) (h2.weak fun _ z => z.elim))
        | dct h1 h2 => exact fin _ (fun _ => False) (.dct h1 (fun z => z) (h2.weak fun _ z => z.elim))
      · cases q
    · cases q
  · cases q
/-! ### tuples of integers in order -/
def intsD : List D → Option (List Int)
  | [] => some []
  | .int i :: ds => (intsD ds).map (i :: ·)
  | _ => none
def lexI (ns ms : List Int) : Bool := Ob.lexAt (fun j => decide (ns.getD j 0 = ms.getD j 0)) (fun j => decide (ns.getD j 0 ≤ ms.getD j 0)) (decide (ns.length ≤ ms.length)) 0 (min ns.length ms.length)
def gLeT : D → D → Option D := fun d e => match d, e with
  | .tup ds, .tup es => match intsD ds, intsD es with
    | some ns, some ms => some (.bl (lexI ns ms))
    | _, _ => none
  | _, _ => none
theorem intsD_rp {K : PySem.W.Frag} {H : Hp} {M : Addr → Prop} : ∀ {ds : List D} {ns : List Int} {xs : List V}, intsD ds = some ns → RpL K H M ds xs → xs = ns.map V.int
  | [], _, _, h, r => by cases h; cases r; rfl
  | d :: ds, ns, _, h, r => by
    cases r with
    | cons a b =>
      cases d with
      | int i =>
        cases a
        unfold intsD at h
        cases q : intsD ds with
        | none => rw [q] at h; cases h
        | some ms =>
          rw [q] at h
          cases h
          rw [intsD_rp q b]
          rfl
      | _ => cases h
theorem g2_leT {K : PySem.W.Frag} : G2 K (rLeT K) gLeT := fun ρ S H d e z x y Q so rx ry q n => by
  unfold gLeT at q
  split at q
  · rename_i ds es
    split at q
    · rename_i ns ms e1 e2
      cases q
      obtain ⟨a, xs, rfl, ha, ra⟩ := rx.tup
      obtain ⟨b, ys, rfl, hb, rb⟩ := ry.tup
      rw [intsD_rp e1 ra] at ha
      rw [intsD_rp e2 rb] at hb
      exact ⟨a, b, ns, ms, rfl, rfl, ha, hb, nxt_here so (.bl _) n⟩
    · cases q
  · cases q
end Fro

/-! Fro: == of two texts -/
namespace Fro
open PySem PySem.Spec L2 PyProof.Rows
def gEqS : D → D → Option D := fun d e => match d, e with
  | .str t, .str u => some (.bl (decide (t = u)))
  | _, _ => none
theorem g2_eqS {K : PySem.W.Frag} : G2 K rEq gEqS := fun ρ S H d e z x y Q so rx ry q n => by
  unfold gEqS at q
  split at q
  · rename_i t u
    cases q
    rw [rx.str, ry.str]
    refine ⟨rfl, ?_⟩
    have e : decide (V.str (sx t) = V.str (sx u)) = decide (t = u) := by
      rw [decide_eq_decide]
      constructor
      · intro h
        have h1 : sx t = sx u := by injection h
        unfold sx at h1
        have h2 : t.toArray = u.toArray := by injection h1
        simpa using h2
      · intro h; rw [h]
    rw [e]
    exact nxt_here so (.bl _) n
  · cases q
end Fro

/-! Fro: list(zip(a, b)) over iterators of any kind, at the library's level. -/
namespace FroZ
open PySem PySem.Calls PyProof.Rows PySem.Spec
section
variable {prog : Program} {w : World} {A : Around} {E : Value → Shared → Prop} {s : Shared} {z TI TO T i1 i2 : Addr} {f : Bool} {oT : Obj} {fp1 fp2 : List Addr} {n1 n2 i : Nat} {P1 P2 : Nat → Value → Prop} {St1 St2 : Nat → Heap → Prop}

theorem item_held {Q : Value → Shared → Prop} (S : ZipSep2 z TI TO i1 i2 fp1 fp2) (D1 : Draws prog w A i1 fp1 n1 P1 St1) (D2 : Draws prog w A i2 fp2 n2 P2 St2)
    (hz : IsZipHeld s.heap z TI TO T f) (hT : s.heap.get? T = some oT) (hTI : IsTupOf2 s.heap TI (.ref i1) (.ref i2)) (st1 : St1 i s.heap) (st2 : St2 i s.heap) (hlt1 : i < n1) (hlt2 : i < n2)
    (hQ : ∀ x1 x2 h' tk, P1 i x1 → P2 i x2 → IsZipHeld h' z TI TO T true → St1 (i + 1) h' → St2 (i + 1) h' → IsTupOf2 h' s.heap.objs.size x1 x2 → h'.objs.size = s.heap.objs.size + 1 →
      (∀ c o, c ≠ z → c ≠ i1 → c ≠ i2 → s.heap.get? c = some o → h'.get? c = some o) → Q (.ref s.heap.objs.size) { s with heap := h', toks := tk }) :
    wpAny (model prog w) A (Builtin.«zip.__next__» ⟨[.ref z], []⟩) (fun fin s' => ∃ v, fin = .done (.ret v) ∧ Q v s') E s := by
  obtain ⟨hp, g, d, tk0, os⟩ := s
  show wpAny _ _ (field (.ref z) 2 >>= _) _ _ _
  refine wpAny_bind (wpAny_field hz rfl (x := .bool false) rfl ?_)
  show wpAny _ _ (field (.ref z) 3 >>= _) _ _ _
  refine wpAny_bind (wpAny_field hz rfl (x := .ref TI) rfl ?_)
  refine wpAny_bind (wpAny_seqItems hTI rfl ?_)
  show wpAny _ _ (Builtin.SmallTypes.ownedTupleIsFree (.ref z) >>= _) _ _ _
  refine wpAny_bind (wpAny_tupleHeld_zip hz hT fun g0 hz0 hs0 => ?_)
  replace hs0 : Heap.SameBut z hp g0 := hs0
  simp only [Bool.false_eq_true, if_false]
  refine wpAny_bind ?_
  rw [← Array.forIn_toList]
  simp only [List.forIn_cons, List.forIn_nil]
  refine wpAny_bind (wpAny_bind (wpAny_holding ?_))
  show wpAny _ _ (Builtin.SmallTypes.nextOf (.ref i1) >>= _) _ _ ⟨g0, g, d, tk0, os⟩
  refine wpAny_bind (D1.item i _ _ _ hlt1 (D1.over st1 hs0 S.zf1) fun x1 p1 tk1 hx1 sn1 hp1 => wpAny_pure ?_)
  replace hp1 : Heap.SameBut i1 g0 p1 := hp1
  refine wpAny_pure ?_
  refine wpAny_bind (wpAny_bind (wpAny_holding ?_))
  show wpAny _ _ (Builtin.SmallTypes.nextOf (.ref i2) >>= _) _ _ ⟨p1, g, d, tk1, os⟩
  refine wpAny_bind (D2.item i _ _ _ hlt2 (D2.over (D2.over st2 hs0 S.zf2) hp1 S.sep1_2) fun x2 p2 tk2 hx2 sn2 hp2 => wpAny_pure ?_)
  replace hp2 : Heap.SameBut i2 p1 p2 := hp2
  refine wpAny_pure (wpAny_pure ?_)
  show wpAny _ _ (newTuple [x1, x2] >>= _) _ _ ⟨p2, g, d, tk2, os⟩
  refine wpAny_bind (wpAny_newTuple ?_)
  have hsz : p2.objs.size = hp.objs.size := by rw [hp2.1, hp1.1, hs0.1]
  have hz3 : IsZipHeld p2 z TI TO T true := hp2.extBut _ _ S.zi2 (hp1.extBut _ _ S.zi1 hz0)
  have hk : ∀ c o, c ≠ z → c ≠ i1 → c ≠ i2 → hp.get? c = some o → p2.get? c = some o := fun c o c1 c2 c3 e => hp2.extBut _ _ c3 (hp1.extBut _ _ c2 (hs0.extBut _ _ c1 e))
  have hj1 : St1 (i + 1) p2 := D1.over sn1 hp2 S.sep2_1
  refine wpAny_pure ⟨_, rfl, ?_⟩
  show Q (.ref p2.objs.size) ⟨p2.push { cls := .type "tuple", data := .seq #[x1, x2] }, g, d, tk2, os⟩
  have hpr : IsTupOf2 (p2.push { cls := .type "tuple", data := .seq #[x1, x2] }) p2.objs.size x1 x2 := Heap.get?_push_size _ rfl
  have hz4 : (p2.push { cls := .type "tuple", data := .seq #[x1, x2] }).objs.size = p2.objs.size + 1 := Heap.size_push ..
  rw [hsz] at hpr hz4 ⊢
  exact hQ x1 x2 _ tk2 hx1 hx2 (Heap.get?_push_of_some _ hz3) (D1.frame _ _ _ hj1 fun b _ o e => Heap.get?_push_of_some _ e) (D2.frame _ _ _ sn2 fun b _ o e => Heap.get?_push_of_some _ e) hpr hz4 fun c o c1 c2 c3 e => Heap.get?_push_of_some _ (hk c o c1 c2 c3 e)

theorem end_held {Q : Fin → Shared → Prop} (S : ZipSep2 z TI TO i1 i2 fp1 fp2) (D1 : Draws prog w A i1 fp1 n1 P1 St1) (D2 : Draws prog w A i2 fp2 n2 P2 St2)
    (hz : IsZipHeld s.heap z TI TO T f) (hT : s.heap.get? T = some oT) (hTI : IsTupOf2 s.heap TI (.ref i1) (.ref i2)) (st1 : St1 i s.heap) (st2 : St2 i s.heap) (hle1 : i ≤ n1) (hle2 : i ≤ n2) (hend : i = n1 ∨ i = n2)
    (hE : ∀ h' tk e, (∀ c o, c ≠ z → c ≠ i1 → c ≠ i2 → s.heap.get? c = some o → h'.get? c = some o) → (∃ o, h'.get? e = some o ∧ o.cls = .type "StopIteration") → E (.ref e) { s with heap := h', toks := tk }) :
    wpAny (model prog w) A (Builtin.«zip.__next__» ⟨[.ref z], []⟩) Q E s := by
  obtain ⟨hp, g, d, tk0, os⟩ := s
  show wpAny _ _ (field (.ref z) 2 >>= _) _ _ _
  refine wpAny_bind (wpAny_field hz rfl (x := .bool false) rfl ?_)
  show wpAny _ _ (field (.ref z) 3 >>= _) _ _ _
  refine wpAny_bind (wpAny_field hz rfl (x := .ref TI) rfl ?_)
  refine wpAny_bind (wpAny_seqItems hTI rfl ?_)
  show wpAny _ _ (Builtin.SmallTypes.ownedTupleIsFree (.ref z) >>= _) _ _ _
  refine wpAny_bind (wpAny_tupleHeld_zip hz hT fun g0 hz0 hs0 => ?_)
  replace hs0 : Heap.SameBut z hp g0 := hs0
  simp only [Bool.false_eq_true, if_false]
  refine wpAny_bind ?_
  rw [← Array.forIn_toList]
  simp only [List.forIn_cons, List.forIn_nil]
  refine wpAny_bind (wpAny_bind (wpAny_holding ?_))
  show wpAny _ _ (Builtin.SmallTypes.nextOf (.ref i1) >>= _) _ _ ⟨g0, g, d, tk0, os⟩
  by_cases hlt1 : i < n1
  · refine wpAny_bind (D1.item i _ _ _ hlt1 (D1.over st1 hs0 S.zf1) fun x1 p1 tk1 hx1 sn1 hp1 => wpAny_pure ?_)
    replace hp1 : Heap.SameBut i1 g0 p1 := hp1
    refine wpAny_pure ?_
    have hi2 : i = n2 := by omega
    refine wpAny_bind (wpAny_bind (wpAny_holding ?_))
    show wpAny _ _ (Builtin.SmallTypes.nextOf (.ref i2) >>= _) _ _ ⟨p1, g, d, tk1, os⟩
    refine wpAny_bind (D2.done ⟨p1, g, d, tk1, os⟩ _ _ (by rw [← hi2]; exact D2.over (D2.over st2 hs0 S.zf2) hp1 S.sep1_2) fun q e hq he => ?_)
    replace hq : Heap.ExtBut i2 p1 q := hq
    exact hE q tk1 e (fun c o cz c1 c2 x => hq _ _ c2 (hp1.extBut _ _ c1 (hs0.extBut _ _ cz x))) he
  · have hi1 : i = n1 := by omega
    refine wpAny_bind (D1.done ⟨g0, g, d, tk0, os⟩ _ _ (by rw [← hi1]; exact D1.over st1 hs0 S.zf1) fun q e hq he => ?_)
    replace hq : Heap.ExtBut i1 g0 q := hq
    exact hE q tk0 e (fun c o cz c1 c2 x => hq _ _ c1 (hs0.extBut _ _ cz x)) he
theorem next_held {Q : Option Value → Shared → Prop} (S : ZipSep2 z TI TO i1 i2 fp1 fp2) (D1 : Draws prog w A.in1 i1 fp1 n1 P1 St1) (D2 : Draws prog w A.in1 i2 fp2 n2 P2 St2)
    (hz : IsZipHeld s.heap z TI TO T f) (hT : s.heap.get? T = some oT) (hTI : IsTupOf2 s.heap TI (.ref i1) (.ref i2)) (st1 : St1 i s.heap) (st2 : St2 i s.heap) (hlt1 : i < n1) (hlt2 : i < n2)
    (hQ : ∀ x1 x2 h' tk, P1 i x1 → P2 i x2 → IsZipHeld h' z TI TO T true → St1 (i + 1) h' → St2 (i + 1) h' → IsTupOf2 h' s.heap.objs.size x1 x2 → h'.objs.size = s.heap.objs.size + 1 →
      (∀ c o, c ≠ z → c ≠ i1 → c ≠ i2 → s.heap.get? c = some o → h'.get? c = some o) → Q (some (.ref s.heap.objs.size)) { s with heap := h', toks := tk }) :
    wpAny (model prog w) A (pyNext (.ref z)) Q E s := by
  have hTy : s.TypeIs (.ref z) "zip" := ⟨_, hz, rfl⟩
  unfold pyNext
  exact wpAny_bind (wpAny_attempt (wpAny_callSpecial?_slot (name := Str.ofString "__next__") hTy F.slot_zip_next
    (wpAny_call_entry F.slot_zip_next hTy F.entry_zip_next
      (item_held S D1 D2 hz hT hTI st1 st2 hlt1 hlt2 fun x1 x2 h' tk y1 y2 b1 d1 d2 b5 b6 b7 => wpAny_pure (hQ x1 x2 h' tk y1 y2 b1 d1 d2 b5 b6 b7)) (F.args_zip_next_1 _))))
theorem done_held {Q : Option Value → Shared → Prop} (S : ZipSep2 z TI TO i1 i2 fp1 fp2) (D1 : Draws prog w A.in1 i1 fp1 n1 P1 St1) (D2 : Draws prog w A.in1 i2 fp2 n2 P2 St2)
    (hz : IsZipHeld s.heap z TI TO T f) (hT : s.heap.get? T = some oT) (hTI : IsTupOf2 s.heap TI (.ref i1) (.ref i2)) (st1 : St1 i s.heap) (st2 : St2 i s.heap) (hle1 : i ≤ n1) (hle2 : i ≤ n2) (hend : i = n1 ∨ i = n2)
    (hQ : ∀ h' tk, (∀ c o, c ≠ z → c ≠ i1 → c ≠ i2 → s.heap.get? c = some o → h'.get? c = some o) → Q none { s with heap := h', toks := tk }) : wpAny (model prog w) A (pyNext (.ref z)) Q E s := by
  have hTy : s.TypeIs (.ref z) "zip" := ⟨_, hz, rfl⟩
  unfold pyNext
  refine wpAny_bind (wpAny_attempt (wpAny_callSpecial?_slot (name := Str.ofString "__next__") hTy F.slot_zip_next
    (wpAny_call_entry F.slot_zip_next hTy F.entry_zip_next (end_held S D1 D2 hz hT hTI st1 st2 hle1 hle2 hend fun h' tk e hk he => ?_) (F.args_zip_next_1 _))))
  obtain ⟨o, ho, hc⟩ := he
  refine wpAny_bind (wpAny_isInstance (T := "StopIteration") (b := true) ⟨o, ho, hc⟩ isSubtype_stop ?_)
  exact wpAny_pure (hQ _ _ hk)
/-! ### the walk of list(zip) -/
/-- the zip's own cells; the tuple that was handed out lies above S -/
def ZSt (z TI TO i1 i2 S : Addr) (h : Heap) : Prop := IsTupOf2 h TI (.ref i1) (.ref i2) ∧ ((IsZip h z TI TO .none ∧ ∃ a1 a2, IsTupOf2 h TO a1 a2) ∨ ∃ T f oT, IsZipHeld h z TI TO T f ∧ h.get? T = some oT ∧ S < T)
theorem ZSt.keep {S : Addr} {h h' : Heap} (x : ZSt z TI TO i1 i2 S h) (hl : z < S ∧ TI < S ∧ TO < S) (hk : ∀ b o, b ≠ S → h.get? b = some o → h'.get? b = some o) : ZSt z TI TO i1 i2 S h' := by
  obtain ⟨h1, h2⟩ := x
  refine ⟨hk _ _ (Nat.ne_of_lt hl.2.1) h1, ?_⟩
  rcases h2 with ⟨a, b, c, d⟩ | ⟨T, f, oT, a, b, c⟩
  · exact .inl ⟨hk _ _ (Nat.ne_of_lt hl.1) a, b, c, hk _ _ (Nat.ne_of_lt hl.2.2) d⟩
  · exact .inr ⟨T, f, oT, hk _ _ (Nat.ne_of_lt hl.1) a, hk _ _ (Nat.ne_of_gt c) b, c⟩
structure ZG (P1 P2 : Nat → Value → Prop) (lo : Addr) (h : Heap) (as : List Addr) : Prop where
  rise : as.Pairwise (· < ·)
  above : ∀ a ∈ as, lo < a
  pairs : ∀ (j : Nat) (a : Addr), as[j]? = some a → ∃ x y, P1 j x ∧ P2 j y ∧ h.get? a = some { cls := .type "tuple", data := .seq #[x, y] }
theorem ZG.there {P1 P2 : Nat → Value → Prop} {lo : Addr} {h : Heap} {as : List Addr} (g : ZG P1 P2 lo h as) {a : Addr} (ha : a ∈ as) : a < h.objs.size := by
  obtain ⟨j, hj⟩ := List.mem_iff_getElem?.mp ha
  obtain ⟨_, _, _, _, e⟩ := g.pairs j a hj
  exact Heap.lt_size e
theorem z_item {Sa : Addr} {Q : Option Value → Shared → Prop} (S : ZipSep2 z TI TO i1 i2 fp1 fp2) (D1 : Draws prog w A.in1 i1 fp1 n1 P1 St1) (D2 : Draws prog w A.in1 i2 fp2 n2 P2 St2) (hst : ZSt z TI TO i1 i2 Sa s.heap) (hS : Sa < s.heap.objs.size) (hl : z < Sa ∧ TI < Sa ∧ TO < Sa ∧ i1 < Sa ∧ i2 < Sa)
    (st1 : St1 i s.heap) (st2 : St2 i s.heap) (hlt1 : i < n1) (hlt2 : i < n2)
    (hQ : ∀ x1 x2 h' tk, P1 i x1 → P2 i x2 → ZSt z TI TO i1 i2 Sa h' → St1 (i + 1) h' → St2 (i + 1) h' → h'.get? s.heap.objs.size = some { cls := .type "tuple", data := .seq #[x1, x2] } → h'.objs.size = s.heap.objs.size + 1 →
      (∀ c o, c ≠ z → c ≠ TO → c ≠ i1 → c ≠ i2 → s.heap.get? c = some o → h'.get? c = some o) → Q (some (.ref s.heap.objs.size)) { s with heap := h', toks := tk }) :
    wpAny (model prog w) A (pyNext (.ref z)) Q E s := by
  obtain ⟨hTI, h2⟩ := hst
  rcases h2 with ⟨hz, a1, a2, hTO⟩ | ⟨T, f, oT, hz, hT, hTS⟩
  · exact wpAny_pyNext_zipD2_item S D1 D2 hz hTI hTO st1 st2 hlt1 hlt2 fun x1 x2 h' tk y1 y2 b1 b2 d1 d2 b5 b6 b7 => hQ x1 x2 h' tk y1 y2 ⟨b7 _ _ S.TIz S.TITO S.TIi1 S.TIi2 hTI, .inr ⟨_, false, _, b1, b5, hS⟩⟩ d1 d2 b5 b6 b7
  · refine next_held S D1 D2 hz hT hTI st1 st2 hlt1 hlt2 fun x1 x2 h' tk y1 y2 b1 d1 d2 b5 b6 b7 => hQ x1 x2 h' tk y1 y2 ⟨b7 _ _ S.TIz S.TIi1 S.TIi2 hTI, .inr ⟨T, true, oT, b1, b7 _ _ ?_ ?_ ?_ hT, hTS⟩⟩ d1 d2 b5 b6 fun c o c1 _ c3 c4 e => b7 c o c1 c3 c4 e
    · exact Nat.ne_of_gt (Nat.lt_trans hl.1 hTS)
    · exact Nat.ne_of_gt (Nat.lt_trans hl.2.2.2.1 hTS)
    · exact Nat.ne_of_gt (Nat.lt_trans hl.2.2.2.2 hTS)
theorem z_done {Sa : Addr} {Q : Option Value → Shared → Prop} (S : ZipSep2 z TI TO i1 i2 fp1 fp2) (D1 : Draws prog w A.in1 i1 fp1 n1 P1 St1) (D2 : Draws prog w A.in1 i2 fp2 n2 P2 St2) (hst : ZSt z TI TO i1 i2 Sa s.heap)
    (st1 : St1 i s.heap) (st2 : St2 i s.heap) (hle1 : i ≤ n1) (hle2 : i ≤ n2) (hend : i = n1 ∨ i = n2)
    (hQ : ∀ h' tk, (∀ c o, c ≠ z → c ≠ TO → c ≠ i1 → c ≠ i2 → s.heap.get? c = some o → h'.get? c = some o) → Q none { s with heap := h', toks := tk }) : wpAny (model prog w) A (pyNext (.ref z)) Q E s := by
  obtain ⟨hTI, h2⟩ := hst
  rcases h2 with ⟨hz, a1, a2, hTO⟩ | ⟨T, f, oT, hz, hT, hTS⟩
  · exact wpAny_pyNext_zipD2_end S D1 D2 hz hTI hTO st1 st2 hle1 hle2 hend hQ
  · exact done_held S D1 D2 hz hT hTI st1 st2 hle1 hle2 hend fun h' tk hk => hQ h' tk fun c o c1 _ c3 c4 e => hk c o c1 c3 c4 e
end
end FroZ

namespace FroZ
open PySem PySem.Calls PyProof.Rows PySem.Spec
section
variable {prog : Program} {w : World} {A : Around} {s : Shared} {R : Result → Shared → Prop} {z TI TO i1 i2 : Addr} {fp1 fp2 : List Addr} {n1 n2 : Nat} {P1 P2 : Nat → Value → Prop} {St1 St2 : Nat → Heap → Prop}
theorem z_loop {Sa : Addr} (S : ZipSep2 z TI TO i1 i2 fp1 fp2) (D1 : Draws prog w A.in1.in1 i1 fp1 n1 P1 St1) (D2 : Draws prog w A.in1.in1 i2 fp2 n2 P2 St2) (hl : z < Sa ∧ TI < Sa ∧ TO < Sa ∧ i1 < Sa ∧ i2 < Sa) (hf1 : ∀ b ∈ fp1, b < Sa) (hf2 : ∀ b ∈ fp2, b < Sa) (hn : min n1 n2 ≤ sizeLine) (res : Value) {h₁ : Heap}
    (hR : ∀ h' tk acc c as, (∀ b o, b ≠ Sa → b ≠ z → b ≠ TO → b ≠ i1 → b ≠ i2 → h₁.get? b = some o → h'.get? b = some o) → h'.get? Sa = some { cls := .type "list", dict := none, data := .seq acc c, slots := #[] } → as.length = min n1 n2 → ZG P1 P2 Sa h' as →
      acc.toList = as.map Value.ref → R (.ok (.ret res)) { s with heap := h', toks := tk }) :
    ∀ (k i : Nat) (h : Heap) (tk c : Nat) (acc : Array Value) (as : List Addr), min n1 n2 - i = k → i ≤ min n1 n2 → ZSt z TI TO i1 i2 Sa h → St1 i h → St2 i h → (∀ b o, b ≠ Sa → b ≠ z → b ≠ TO → b ≠ i1 → b ≠ i2 → h₁.get? b = some o → h.get? b = some o) →
      h.get? Sa = some { cls := .type "list", dict := none, data := .seq acc c, slots := #[] } → acc.toList = as.map Value.ref → as.length = i → ZG P1 P2 Sa h as →
      codeAny (model prog w) A (.builtin "list.extend.loop" ⟨[.ref Sa, .ref z, res], []⟩) R { s with heap := h, toks := tk } := by
  have nz : Sa ≠ z := Nat.ne_of_gt hl.1
  have nT : Sa ≠ TO := Nat.ne_of_gt hl.2.2.1
  have n1' : Sa ≠ i1 := Nat.ne_of_gt hl.2.2.2.1
  have n2' : Sa ≠ i2 := Nat.ne_of_gt hl.2.2.2.2
  have far : ∀ {b : Addr}, Sa < b → b ≠ z ∧ b ≠ TO ∧ b ≠ i1 ∧ b ≠ i2 := fun {b} hb => ⟨Nat.ne_of_gt (Nat.lt_trans hl.1 hb), Nat.ne_of_gt (Nat.lt_trans hl.2.2.1 hb), Nat.ne_of_gt (Nat.lt_trans hl.2.2.2.1 hb), Nat.ne_of_gt (Nat.lt_trans hl.2.2.2.2 hb)⟩
  intro k
  induction k with
  | zero =>
    intro i h tk c acc as hk hi hst st1 st2 hkeep hS hacc hal hG
    refine codeAny_builtin PySem.F.entry_extend_loop ?_
    rw [Around.under_plainId PySem.F.plain_extend_loop _]
    show wpAny _ A.in1 (pyNext (.ref z) >>= _) _ _ _
    refine wpAny_bind (z_done (s := { s with heap := h, toks := tk }) (A := A.in1) (i := i) S D1 D2 hst st1 st2 (by omega) (by omega) (by omega) fun h' tk' he => ?_)
    refine wpAny_pure (hR h' tk' acc c as (fun b o h1 h2 h3 h4 h5 e => he b o h2 h3 h4 h5 (hkeep b o h1 h2 h3 h4 h5 e)) (he Sa _ nz nT n1' n2' hS) (by omega) ⟨hG.rise, hG.above, fun j a hj => ?_⟩ hacc)
    obtain ⟨x, y, hx, hy, e3⟩ := hG.pairs j a hj
    obtain ⟨f1, f2, f3, f4⟩ := far (hG.above a (List.mem_of_getElem? hj))
    exact ⟨x, y, hx, hy, he a _ f1 f2 f3 f4 e3⟩
  | succ k ih =>
    intro i h tk c acc as hk hi hst st1 st2 hkeep hS hacc hal hG
    have hsz : acc.size = i := by rw [← Array.length_toList, hacc, List.length_map, hal]
    refine codeAny_builtin PySem.F.entry_extend_loop ?_
    rw [Around.under_plainId PySem.F.plain_extend_loop _]
    show wpAny _ A.in1 (pyNext (.ref z) >>= _) _ _ _
    refine wpAny_bind (z_item (s := { s with heap := h, toks := tk }) (A := A.in1) (i := i) (Sa := Sa) S D1 D2 hst (Heap.lt_size hS) hl st1 st2 (by omega) (by omega) fun x1 x2 h' tk' hx1 hx2 hst' sn1 sn2 ht hz hkp => ?_)
    dsimp only at ht hz hkp ⊢
    have hS' := hkp Sa _ nz nT n1' n2' hS
    have up : ∀ b o, b ≠ Sa → h'.get? b = some o → (h'.update Sa (Obj.mapSeq (·.push (Value.ref h.objs.size)))).get? b = some o := fun b o hb e => (Heap.get?_update_other _ _ (Ne.symm hb)).trans e
    have hSl : Sa < h.objs.size := Heap.lt_size hS
    show wpAny _ A.in1 (updateSeq Sa (·.push (Value.ref h.objs.size)) >>= _) _ _ _
    refine wpAny_bind ?_
    refine wpAny_updateSeq hS' rfl (wpAny_pure ⟨plainId_quiet PySem.F.plain_extend_loop _, ih (i + 1) _ tk' _ (acc.push (Value.ref h.objs.size)) (as ++ [h.objs.size]) (by omega) (by omega) (hst'.keep ⟨hl.1, hl.2.1, hl.2.2.1⟩ up)
      (D1.frame _ _ _ sn1 fun b hb o e => up b o (Nat.ne_of_lt (hf1 b hb)) e) (D2.frame _ _ _ sn2 fun b hb o e => up b o (Nat.ne_of_lt (hf2 b hb)) e)
      (fun b o h1 h2 h3 h4 h5 e => up b o h1 (hkp b o h2 h3 h4 h5 (hkeep b o h1 h2 h3 h4 h5 e))) (Heap.get?_update_self _ hS' rfl) (by rw [Array.toList_push, hacc, List.map_append]; rfl) (by rw [List.length_append, hal]; rfl) ⟨?_, ?_, ?_⟩⟩) (by rw [hsz]; omega) (by show (acc.push (Value.ref h.objs.size)).size ≤ sizeLine + 1; rw [Array.size_push, hsz]; omega)
    · refine List.pairwise_append.mpr ⟨hG.rise, List.pairwise_singleton _ _, fun a ha b hb => ?_⟩
      rw [List.mem_singleton.mp hb]
      exact hG.there ha
    · intro a ha
      rcases List.mem_append.mp ha with ha | ha
      · exact hG.above a ha
      · rw [List.mem_singleton.mp ha]; exact hSl
    · intro j b hj
      rcases Nat.lt_trichotomy j as.length with h1 | h1 | h1
      · rw [List.getElem?_append_left h1] at hj
        obtain ⟨x, y, hx, hy, e3⟩ := hG.pairs j b hj
        have hb := hG.above b (List.mem_of_getElem? hj)
        obtain ⟨f1, f2, f3, f4⟩ := far hb
        exact ⟨x, y, hx, hy, up b _ (Nat.ne_of_gt hb) (hkp b _ f1 f2 f3 f4 e3)⟩
      · subst h1
        have hb : h.objs.size = b := by simpa using hj
        subst hb
        exact ⟨x1, x2, by rw [hal]; exact hx1, by rw [hal]; exact hx2, up _ _ (Nat.ne_of_gt hSl) ht⟩
      · have hnone : (as ++ [h.objs.size])[j]? = none := List.getElem?_eq_none (by rw [List.length_append, List.length_singleton]; omega)
        rw [hnone] at hj; cases hj
end
theorem zip_no_len : typeLookup (.type "zip") "__len__" = pure none := am_miss_of_fast (by decide +kernel)
theorem zip_no_hint : typeLookup (.type "zip") "__length_hint__" = pure none := am_miss_of_fast (by decide +kernel)
section
variable {prog : Program} {w : World} {A : Around} {E : Value → Shared → Prop} {s : Shared} {z TI TO i1 i2 : Addr} {fp1 fp2 : List Addr} {n1 n2 : Nat} {P1 P2 : Nat → Value → Prop} {St1 St2 : Nat → Heap → Prop}
theorem z_hint (hT : s.TypeIs (.ref z) "zip") {Q : Bool → Shared → Prop} (h : Q true s) : wpAny (model prog w) A (Builtin.List.listLengthHint (.ref z)) Q E s := by
  unfold Builtin.List.listLengthHint
  refine wpAny_bind (wpAny_specialOf hT zip_no_len ?_)
  simp only []
  refine wpAny_ite_split (fun hab => absurd hab (by decide +kernel)) (fun _ => ?_)
  refine wpAny_ite_split (fun hab => absurd hab (by decide)) (fun _ => ?_)
  refine wpAny_bind (wpAny_specialOf hT zip_no_hint ?_)
  exact wpAny_pure h
theorem z_extend {Sa : Addr} {R : Result → Shared → Prop} (S : ZipSep2 z TI TO i1 i2 fp1 fp2) (D1 : Draws prog w A.in1.in1 i1 fp1 n1 P1 St1) (D2 : Draws prog w A.in1.in1 i2 fp2 n2 P2 St2) (hl : z < Sa ∧ TI < Sa ∧ TO < Sa ∧ i1 < Sa ∧ i2 < Sa) (hf1 : ∀ b ∈ fp1, b < Sa) (hf2 : ∀ b ∈ fp2, b < Sa) (hn : min n1 n2 ≤ sizeLine) (res : Value) (c₀ : Nat)
    (hTI : IsTupOf2 s.heap TI (.ref i1) (.ref i2)) (hz : IsZip s.heap z TI TO .none) (hTO : ∃ a1 a2, IsTupOf2 s.heap TO a1 a2) (st1 : St1 0 s.heap) (st2 : St2 0 s.heap) (hS : s.heap.get? Sa = some { cls := .type "list", data := .seq #[] c₀ })
    (hR : ∀ h' tk acc c as, (∀ b o, b ≠ Sa → b ≠ z → b ≠ TO → b ≠ i1 → b ≠ i2 → s.heap.get? b = some o → h'.get? b = some o) → h'.get? Sa = some { cls := .type "list", dict := none, data := .seq acc c, slots := #[] } → as.length = min n1 n2 → ZG P1 P2 Sa h' as →
      acc.toList = as.map Value.ref → R (.ok (.ret res)) { s with heap := h', toks := tk }) :
    wpAny (model prog w) A.in1 (Builtin.List.listExtendWith (.ref Sa) (.ref z) res)
      (fun fin s' => match fin with | .done f => R (.ok f) s' | .again c' => c'.quiet = true ∧ codeAny (model prog w) A c' R s') (fun e s' => R (.error e) s') s := by
  have key : ∀ (h : Heap) (c₁ tk : Nat), (∀ b o, b ≠ Sa → s.heap.get? b = some o → h.get? b = some o) →
      h.get? Sa = some { cls := .type "list", data := .seq #[] c₁ } → codeAny (model prog w) A (.builtin "list.extend.loop" ⟨[.ref Sa, .ref z, res], []⟩) R { s with heap := h, toks := tk } := by
    intro h c₁ tk hk hS₁
    refine z_loop (s := s) (h₁ := s.heap) S D1 D2 hl hf1 hf2 hn res hR (min n1 n2) 0 h tk c₁ #[] [] (Nat.sub_zero _) (Nat.zero_le _) (ZSt.keep ⟨hTI, .inl ⟨hz, hTO⟩⟩ ⟨hl.1, hl.2.1, hl.2.2.1⟩ hk)
      (D1.frame _ _ _ st1 fun b hb o e => hk b o (Nat.ne_of_lt (hf1 b hb)) e) (D2.frame _ _ _ st2 fun b hb o e => hk b o (Nat.ne_of_lt (hf2 b hb)) e) (fun b o hb _ _ _ _ e => hk b o hb e) hS₁ rfl rfl
      ⟨List.Pairwise.nil, (fun _ ha => nomatch ha), (fun j a hj => by simp at hj)⟩
  have hTy : s.TypeIs (.ref z) "zip" := ⟨_, hz, rfl⟩
  unfold Builtin.List.listExtendWith
  refine wpAny_bind (wpAny_typeOf (T := "zip") hTy ?_)
  have h1 : Builtin.List.listSameRef (.ref Sa) (.ref z) = false := by simp [Builtin.List.listSameRef, Nat.ne_of_gt hl.1]
  have h2 : (Value.type "zip" == Value.type "list") = false := by decide
  have h3 : (Value.type "zip" == Value.type "tuple") = false := by decide
  simp only [h1, h2, h3, Bool.or_false, Bool.false_eq_true, if_false]
  refine wpAny_bind (wpAny_pyIter_zip hz ?_)
  refine wpAny_bind (wpAny_holding (z_hint hTy ?_))
  refine wpAny_ite_split (fun _ => ?_) (fun _ => wpAny_pure ⟨plainId_quiet PySem.F.plain_extend_loop _, key _ c₀ _ (fun b o _ e => e) hS⟩)
  refine wpAny_bind (wpAny_rule ?_)
  refine wpAny_bind ?_
  show wpAny _ _ (updateSeq Sa (·.push .none) >>= fun _ => updateSeq Sa (·.pop)) _ _ _
  refine wpAny_bind (wpAny_updateSeq hS rfl ?_)
  have hS₂ := Heap.get?_update_self (Obj.mapSeq (·.push Value.none)) hS rfl
  refine wpAny_updateSeq (hz := by seq_fits) hS₂ rfl ?_
  have hS₃ := Heap.get?_update_self (Obj.mapSeq (·.pop)) hS₂ rfl
  refine wpAny_pure ⟨plainId_quiet PySem.F.plain_extend_loop _, key _ _ _ (fun b o hb e => ?_) hS₃⟩
  exact (Heap.get?_update_other _ _ (Ne.symm hb)).trans ((Heap.get?_update_other _ _ (Ne.symm hb)).trans e)
theorem z_init {Sa : Addr} {R : Result → Shared → Prop} (S : ZipSep2 z TI TO i1 i2 fp1 fp2) (D1 : Draws prog w A.in1.in1 i1 fp1 n1 P1 St1) (D2 : Draws prog w A.in1.in1 i2 fp2 n2 P2 St2) (hl : z < Sa ∧ TI < Sa ∧ TO < Sa ∧ i1 < Sa ∧ i2 < Sa) (hf1 : ∀ b ∈ fp1, b < Sa) (hf2 : ∀ b ∈ fp2, b < Sa) (hn : min n1 n2 ≤ sizeLine)
    (hTI : IsTupOf2 s.heap TI (.ref i1) (.ref i2)) (hz : IsZip s.heap z TI TO .none) (hTO : ∃ a1 a2, IsTupOf2 s.heap TO a1 a2) (st1 : St1 0 s.heap) (st2 : St2 0 s.heap) (hS : s.heap.get? Sa = some { cls := .type "list", data := .seq #[] })
    (hR : ∀ h' tk acc c as, (∀ b o, b ≠ Sa → b ≠ z → b ≠ TO → b ≠ i1 → b ≠ i2 → s.heap.get? b = some o → h'.get? b = some o) → h'.get? Sa = some { cls := .type "list", dict := none, data := .seq acc c, slots := #[] } → as.length = min n1 n2 → ZG P1 P2 Sa h' as →
      acc.toList = as.map Value.ref → R (.ok (.ret .none)) { s with heap := h', toks := tk }) :
    wpAny (model prog w) A.in1 (Builtin.«list.__init__» ⟨[.ref Sa, .ref z], []⟩)
      (fun fin s' => match fin with | .done f => R (.ok f) s' | .again c' => c'.quiet = true ∧ codeAny (model prog w) A c' R s') (fun e s' => R (.error e) s') s := by
  show wpAny _ _ (do let old ← Builtin.List.listItems (.ref Sa); Builtin.List.listUpdate (.ref Sa) (fun _ => #[]); letGo old.toList.reverse; Builtin.List.listExtendWith (.ref Sa) (.ref z) .none) _ _ s
  refine wpAny_bind ?_
  unfold Builtin.List.listItems
  refine wpAny_bind (wpAny_seqItems hS rfl (wpAny_pure ?_))
  show wpAny _ _ (updateSeq Sa (fun _ => #[]) >>= fun _ => letGo (#[] : Array Value).toList.reverse >>= fun _ => Builtin.List.listExtendWith (.ref Sa) (.ref z) .none) _ _ s
  refine wpAny_bind (wpAny_updateSeq hS rfl ?_)
  have hS₂ := Heap.get?_update_self (Obj.mapSeq (fun _ => (#[] : Array Value))) hS rfl
  have oth : ∀ b o, b ≠ Sa → s.heap.get? b = some o → (s.heap.update Sa (Obj.mapSeq (fun _ => (#[] : Array Value)))).get? b = some o :=
    fun b o hb e => (Heap.get?_update_other _ _ (Ne.symm hb)).trans e
  refine wpAny_bind (wpAny_letGo ?_)
  obtain ⟨a1, a2, hTO⟩ := hTO
  refine z_extend S D1 D2 hl hf1 hf2 hn .none _ (oth _ _ (Nat.ne_of_lt hl.2.1) hTI) (oth _ _ (Nat.ne_of_lt hl.1) hz) ⟨a1, a2, oth _ _ (Nat.ne_of_lt hl.2.2.1) hTO⟩ (D1.frame _ _ _ st1 fun b hb o e => oth b o (Nat.ne_of_lt (hf1 b hb)) e) (D2.frame _ _ _ st2 fun b hb o e => oth b o (Nat.ne_of_lt (hf2 b hb)) e) hS₂ (fun h' tk acc c as hk hS' hl' hG hacc => ?_)
  exact hR h' tk acc c as (fun b o hb h2 h3 h4 h5 e => hk b o hb h2 h3 h4 h5 (oth b o hb e)) hS' hl' hG hacc
/-- list(z), z a zip that nobody walked yet -/
theorem z_call {Q : Value → Shared → Prop} (S : ZipSep2 z TI TO i1 i2 fp1 fp2) (D1 : Draws prog w A.in1.in1.in1 i1 fp1 n1 P1 St1) (D2 : Draws prog w A.in1.in1.in1 i2 fp2 n2 P2 St2) (hf1 : ∀ b ∈ fp1, b < s.heap.objs.size) (hf2 : ∀ b ∈ fp2, b < s.heap.objs.size) (hn : min n1 n2 ≤ sizeLine)
    (hTI : IsTupOf2 s.heap TI (.ref i1) (.ref i2)) (hz : IsZip s.heap z TI TO .none) (hTO : ∃ a1 a2, IsTupOf2 s.heap TO a1 a2) (st1 : St1 0 s.heap) (st2 : St2 0 s.heap)
    (hQ : ∀ h' tk acc c as, (∀ b o, b ≠ z → b ≠ TO → b ≠ i1 → b ≠ i2 → s.heap.get? b = some o → h'.get? b = some o) → h'.get? s.heap.objs.size = some { cls := .type "list", dict := none, data := .seq acc c, slots := #[] } → as.length = min n1 n2 → ZG P1 P2 s.heap.objs.size h' as →
      acc.toList = as.map Value.ref → Q (.ref s.heap.objs.size) { s with heap := h', toks := tk }) :
    wpAny (model prog w) A (call (.type "list") [.ref z]) Q E s := by
  refine callType_codes (Q₁ := fun obj s₁ => obj = .ref s.heap.objs.size ∧ s₁ = { s with heap := s.heap.push { cls := .type "list", data := .seq #[] } }) PySem.F.called_list (PySem.F.typeCall_list_1 _) PySem.F.entry_list_init
    (code_list_new _ ⟨rfl, rfl⟩) fun obj s₁ h₁ => ?_
  obtain ⟨rfl, rfl⟩ := h₁
  have hS : (s.heap.push { cls := .type "list", data := .seq #[] }).get? s.heap.objs.size = some { cls := .type "list", data := .seq #[] } := Heap.get?_push_size _ rfl
  obtain ⟨a1, a2, hTO⟩ := hTO
  have l1 : i1 < s.heap.objs.size := hf1 _ S.mem1
  have l2 : i2 < s.heap.objs.size := hf2 _ S.mem2
  refine ⟨⟨_, hS, rfl⟩, PySem.F.args_list_init_2 _ _, z_init (A := A.in1) S D1 D2 ⟨Heap.lt_size hz, Heap.lt_size hTI, Heap.lt_size hTO, l1, l2⟩ hf1 hf2 hn (Heap.get?_push_of_some _ hTI) (Heap.get?_push_of_some _ hz) ⟨a1, a2, Heap.get?_push_of_some _ hTO⟩ (D1.frame _ _ _ st1 fun b _ o e => Heap.get?_push_of_some _ e) (D2.frame _ _ _ st2 fun b _ o e => Heap.get?_push_of_some _ e) hS (fun h' tk acc c as hk hS' hl hG hacc => ?_)⟩
  exact ⟨rfl, hQ h' tk acc c as (fun b o h2 h3 h4 h5 e => hk b o (Nat.ne_of_lt (Heap.lt_size e)) h2 h3 h4 h5 (Heap.get?_push_of_some _ e)) hS' hl hG hacc⟩
end
end FroZ

namespace FroZ
open PySem PySem.Calls PyProof.Rows PySem.Spec L2
abbrev zH1 (h : Heap) (l1 : Addr) : Heap := h.push { cls := .type "list_iterator", data := .fields #[.ref l1, .int 0 0] }
abbrev zH2 (h : Heap) (l1 l2 : Addr) : Heap := (zH1 h l1).push { cls := .type "tuple_iterator", data := .fields #[.ref l2, .int 0 0] }
abbrev zH3 (h : Heap) (l1 l2 : Addr) : Heap := (zH2 h l1 l2).push { cls := .type "tuple", data := .seq #[.ref h.objs.size, .ref (zH1 h l1).objs.size] }
abbrev zH4 (h : Heap) (l1 l2 : Addr) : Heap := (zH3 h l1 l2).push { cls := .type "tuple", data := .seq #[.none, .none] }
abbrev zH5 (h : Heap) (l1 l2 : Addr) : Heap := (zH4 h l1 l2).push { cls := .type "zip", data := .fields #[.none, .bool false, .bool false, .ref (zH2 h l1 l2).objs.size, .ref (zH3 h l1 l2).objs.size] }
theorem meets_zipLT (l1 l2 : Addr) (xs ys : Array Value) :
    Meets (Builtin.«zip.__new__» ⟨[.type "zip", .ref l1, .ref l2], []⟩) (fun _ R s => s.heap.IsList l1 xs ∧ s.heap.IsTuple l2 ys ∧
      R (.ok (.ret (.ref (zH4 s.heap l1 l2).objs.size))) { s with heap := zH5 s.heap l1 l2 }) :=
  .of_wp fun prog w A R s h => by
    obtain ⟨hp, g, d, tk, os⟩ := s; obtain ⟨hl1, hl2, h⟩ := h
    have hsub := sub_zip
    have hL1 : Heap.IsList (Shared.heap ⟨hp, g, d, tk, os⟩) l1 xs := hl1
    have hL2 : Heap.IsTuple (Shared.heap ⟨hp.push { cls := .type "list_iterator", data := .fields #[.ref l1, .int 0 0] }, g, d, tk, os⟩) l2 ys := Heap.IsTuple.push hl2 _
    wp_walk using wpAny_pyIter_list hL1, wpAny_pyIter_tuple hL2
    exact ⟨_, rfl, h⟩
section
variable {prog : Program} {w : World} {A : Around} {E : Value → Shared → Prop} {s : Shared}
theorem call_zipLT {l1 l2 : Addr} {xs ys : Array Value} {Q : Value → Shared → Prop} (hl1 : s.heap.IsList l1 xs) (hl2 : s.heap.IsTuple l2 ys)
    (h : ∀ h', IsZip h' (s.heap.objs.size + 4) (s.heap.objs.size + 2) (s.heap.objs.size + 3) .none → IsTupOf2 h' (s.heap.objs.size + 2) (.ref s.heap.objs.size) (.ref (s.heap.objs.size + 1)) →
      IsTupOf2 h' (s.heap.objs.size + 3) .none .none → h'.IsListIter s.heap.objs.size l1 0 → h'.IsTupleIter (s.heap.objs.size + 1) l2 0 → h'.objs.size = s.heap.objs.size + 5 →
      (∀ c o, s.heap.get? c = some o → h'.get? c = some o) → Q (.ref (s.heap.objs.size + 4)) { s with heap := h' }) :
    wpAny (model prog w) A (call (.type "zip") [.ref l1, .ref l2]) Q E s := by
  refine callType_new F.called_zip (by decide) (F.typeCall_zip_2 _ _) (F.newCall_zip_2 _ _) (fun obj => F.args_object_init_3 obj _ _) F.entry_zip_new
    (meets_zipLT l1 l2 xs ys) ⟨hl1, hl2, ?_⟩
  have z1 : (zH1 s.heap l1).objs.size = s.heap.objs.size + 1 := Heap.size_push ..
  have z2 : (zH2 s.heap l1 l2).objs.size = s.heap.objs.size + 2 := by rw [Heap.size_push, z1]
  have z3 : (zH3 s.heap l1 l2).objs.size = s.heap.objs.size + 3 := by rw [Heap.size_push, z2]
  have z4 : (zH4 s.heap l1 l2).objs.size = s.heap.objs.size + 4 := by rw [Heap.size_push, z3]
  have z5 : (zH5 s.heap l1 l2).objs.size = s.heap.objs.size + 5 := by rw [Heap.size_push, z4]
  have g5 : (zH5 s.heap l1 l2).get? (zH4 s.heap l1 l2).objs.size = some _ := Heap.get?_push_size _ rfl
  have g4 : (zH5 s.heap l1 l2).get? (zH3 s.heap l1 l2).objs.size = some _ := Heap.get?_push_of_some _ (Heap.get?_push_size _ rfl)
  have g3 : (zH5 s.heap l1 l2).get? (zH2 s.heap l1 l2).objs.size = some _ := Heap.get?_push_of_some _ (Heap.get?_push_of_some _ (Heap.get?_push_size _ rfl))
  have g2 : (zH5 s.heap l1 l2).get? (zH1 s.heap l1).objs.size = some _ := Heap.get?_push_of_some _ (Heap.get?_push_of_some _ (Heap.get?_push_of_some _ (Heap.get?_push_size _ rfl)))
  have g1 : (zH5 s.heap l1 l2).get? s.heap.objs.size = some _ := Heap.get?_push_of_some _ (Heap.get?_push_of_some _ (Heap.get?_push_of_some _ (Heap.get?_push_of_some _ (Heap.get?_push_size _ rfl))))
  show _ ∧ _
  rw [z2, z3, z4] at g5
  rw [z1, z2] at g3
  rw [z3] at g4
  rw [z1] at g2
  rw [z4]
  exact ⟨⟨_, g5, rfl⟩, h _ g5 g3 g4 ⟨_, g1, rfl, rfl⟩ ⟨_, g2, rfl, rfl⟩ z5 fun c o x =>
    Heap.get?_push_of_some _ (Heap.get?_push_of_some _ (Heap.get?_push_of_some _ (Heap.get?_push_of_some _ (Heap.get?_push_of_some _ x))))⟩
end
/-! ### the pairs tracked -/
def putZ : Hp → List Addr → List (V × V) → Hp
  | H, a :: as, p :: r => putZ (upd H a (.tup [p.1, p.2])) as r
  | H, _, _ => H
theorem putZ_off {b : Addr} : ∀ (as : List Addr) (r : List (V × V)) (H : Hp), b ∉ as → putZ H as r b = H b
  | [], _, _, _ => rfl
  | _ :: _, [], _, _ => rfl
  | a :: as, p :: r, H, h => by
    show putZ (upd H a (.tup [p.1, p.2])) as r b = H b
    rw [putZ_off as r _ (fun z => h (List.mem_cons_of_mem _ z)), upd_ne (fun z => h (by rw [z]; exact List.mem_cons_self))]
theorem putZ_at : ∀ (as : List Addr) (r : List (V × V)) (H : Hp), as.length = r.length → as.Nodup → Paired (fun (t : Addr) (p : V × V) => putZ H as r t = some (.tup [p.1, p.2])) as r
  | [], [], _, _, _ => .nil
  | [], _ :: _, _, h, _ => by cases h
  | _ :: _, [], _, h, _ => by cases h
  | a :: as, p :: r, H, h, hn => by
    have hn' := List.nodup_cons.mp hn
    have ih := putZ_at as r (upd H a (.tup [p.1, p.2])) (Nat.succ.inj h) hn'.2
    refine .cons ?_ ih
    show putZ (upd H a (.tup [p.1, p.2])) as r a = some (.tup [p.1, p.2])
    rw [putZ_off as r _ hn'.1, upd_same]
section
variable {X : Cx}
/-- from the state s0 ahead of the zip to the list's state -/
theorem zip_laid {pins : List (Addr × Obj)} {σ : L2.St} {H : Hp} {s : Shared} {h' : Heap} {tk : Nat} {xs ys : List V} {us vs : List Value} {acc : Array Value} {c p : Nat} {as : List Addr} (I : Inv X pins σ H s) (hp : s.heap.objs.size ≤ p) (rx : Vals xs us) (ry : Vals ys vs) (hz : min xs.length ys.length ≤ sizeLine)
    (hk : ∀ b o, s.heap.get? b = some o → h'.get? b = some o) (hS : h'.get? p = some { cls := .type "list", dict := none, data := .seq acc c, slots := #[] }) (hl : as.length = min xs.length ys.length) (hG : ZG (fun i v => us.toArray[i]? = some v) (fun i v => vs.toArray[i]? = some v) p h' as) (hacc : acc.toList = as.map Value.ref) :
    ∃ H' : Hp, (∀ b o, H b = some o → H' b = some o) ∧ H' p = some (.lst (as.map V.ref)) ∧ Paired (fun (t : Addr) (q : V × V) => H' t = some (.tup [q.1, q.2])) as (xs.zip ys) ∧ H p = none ∧ Inv X pins σ H' { s with heap := h', toks := tk } := by
  have hSn : p ∉ as := fun z => Nat.lt_irrefl _ (hG.above _ z)
  have nd : as.Nodup := List.Pairwise.imp (fun {a b} (h : a < b) => Nat.ne_of_lt h) hG.rise
  have new : ∀ t ∈ as, H t = none := fun t ht => I.hok.fresh (Nat.le_trans hp (Nat.le_of_lt (hG.above t ht)))
  have newS : H p = none := I.hok.fresh hp
  have atP := putZ_at as (xs.zip ys) (upd H p (.lst (as.map V.ref))) (by rw [List.length_zip]; exact hl) nd
  have off : ∀ b, b ∉ as → b ≠ p → putZ (upd H p (.lst (as.map V.ref))) as (xs.zip ys) b = H b := fun b h1 h2 => by rw [putZ_off as _ _ h1, upd_ne h2]
  have low : ∀ b o, s.heap.get? b = some o → b ∉ as ∧ b ≠ p := fun b o e => ⟨fun z => absurd (Heap.lt_size e) (Nat.not_lt.mpr (Nat.le_trans hp (Nat.le_of_lt (hG.above b z)))), fun z => absurd (Heap.lt_size e) (Nat.not_lt.mpr (by rw [z]; exact hp))⟩
  have kp : ∀ b u, H b = some u → (putZ (upd H p (.lst (as.map V.ref))) as (xs.zip ys)) b = some u := fun b u e => by
    rw [off b (fun z => by rw [new b z] at e; cases e) (fun z => by rw [z, newS] at e; cases e)]
    exact e
  have eS : putZ (upd H p (.lst (as.map V.ref))) as (xs.zip ys) p = some (.lst (as.map V.ref)) := by rw [putZ_off as _ _ hSn, upd_same]
  refine ⟨putZ (upd H p (.lst (as.map V.ref))) as (xs.zip ys), kp, eS, atP, newS, ?_⟩
  refine I.call' (ch := []) rfl ⟨fun b o q _ _ _ => hk b o q, fun b o q _ _ _ => ⟨o.slots, hk b o q⟩, fun b o q n _ => ?_, fun b o q _ => ⟨o, hk b o q⟩, fun b xs q => kp b _ q, fun b o u q => kp b _ q, fun b ps q => ⟨#[], by rw [kp b _ q]; simp⟩⟩ (fun b u q => ?_) I.bare fun b z => by simp at z
  · obtain ⟨z1, z2⟩ := low b o q
    rw [off b z1 z2]
    exact n
  · by_cases hb : b ∈ as
    · obtain ⟨j, pk, e1, e2, e3⟩ := LiI.paired_ix atP hb
      rw [e3] at q
      cases q
      obtain ⟨x, y, f1, f2, f3⟩ := hG.pairs j b e1
      rw [List.getElem?_zip_eq_some] at e2
      obtain ⟨v1, g1, r1⟩ := LiI.paired_get rx e2.1
      obtain ⟨v2, g2, r2⟩ := LiI.paired_get ry e2.2
      have f1' : us[j]? = some x := by simpa using f1
      have f2' : vs[j]? = some y := by simpa using f2
      rw [f1'] at g1
      rw [f2'] at g2
      cases g1
      cases g2
      exact ⟨by show 2 ≤ sizeLine; decide +kernel, [x, y], .cons r1 (.cons r2 .nil), ⟨_, f3, rfl, _, rfl⟩⟩
    · by_cases hb2 : b = p
      · rw [hb2] at q ⊢
        rw [eS] at q
        cases q
        refine ⟨by rw [List.length_map]; omega, acc.toList, c, by rw [hacc]; exact LiI.vals_refs as, ?_⟩
        rw [Array.toArray_toList]
        exact hS
      · rw [off b hb hb2] at q
        exact (I.hok b u q).stay (fun d v _ y => hk d v y) (fun d y => kp d _ y) fun d xs y => kp d _ y
def rZipLT (K : PySem.W.Frag) : List V → Hp → VK → Prop := fun args H Q => ∃ (l t : Addr) (xs ys : List V), args = [.ref l, .ref t] ∧ SqL K H l xs ∧ SqT K H t ys ∧
  ∀ (H' : Hp) (p : Addr) (ts : List Addr), (∀ b o, H b = some o → H' b = some o) → H p = none → H' p = some (.lst (ts.map V.ref)) → Paired (fun (t : Addr) (q : V × V) => H' t = some (.tup [q.1, q.2])) ts (xs.zip ys) → Q (.ref p) H'
def tListZip (K : PySem.W.Frag) (ta : TA) : TE := fun σ H Q => ta σ H fun args H1 => rZipLT K args H1 Q
/-- list(zip(a, b)), a a list, b a tuple -/
theorem pe_listZip {a b : Expr} {ta : TA} {p p2 cpos pos : Pos} (hc : X.calm = true) (ha : PA X [a, b] ta) (hg : Gl X "list") (hm : X.mg "list" = none) (hv : bootBuiltins "list" = some (.type "list")) (hgz : Gl X "zip") (hmz : X.mg "zip" = none)
    (hs : starEach [.Call (.Name "zip" p2) [a, b] [] cpos] X.env = (false, eval (.Call (.Name "zip" p2) [a, b] [] cpos) X.env) :: starEach [] X.env := by rfl) (hs2 : starEach [a, b] X.env = (false, eval a X.env) :: starEach [b] X.env := by rfl) (hpl : (backTo cpos (starEach [b] X.env)).any (·.1) = false := by rfl) :
    PE X (.Call (.Name "list" p) [.Call (.Name "zip" p2) [a, b] [] cpos] [] pos) (tListZip X.K ta) := by
  refine ⟨fun pins s σ H Q I hq => ?_⟩
  refine wpAny_Call_Name_kw (ld_blt I hg hm hv ?_)
  refine PyProof.Rows.callWith_type1 ?_ hs rfl
  rw [hs]
  show wpAny _ _ (spliced ((false, eval (.Call (.Name "zip" p2) [a, b] [] cpos) X.env) :: backTo pos (starEach [] X.env))) _ _ s
  refine Calls.spliced_cons ?_
  refine Call_ (ld_blt I hgz hmz PyProof.Rows.boot_zip (PyProof.Rows.callWith_type1 (thn (ha.run cpos pins s σ H _ I hq) fun us s1 ⟨vs, H1, I1, r1, q1⟩ => ?_) hs2 hpl))
  obtain ⟨l, t, xs, ys, ev, hl, ht, q⟩ := q1
  subst ev
  cases r1 with
  | cons ra rb =>
    cases rb with
    | cons rb rc =>
      cases rc
      cases ra
      cases rb
      obtain ⟨its, vx, ⟨ol, nl, e1, e2, _, e3⟩, zx⟩ := I1.list hl
      obtain ⟨its2, vy, ht2, zy⟩ := I1.tuple ht
      have hL : s1.heap.IsList l its.toArray := ⟨ol, e1, e2, nl, e3⟩
      have ltl : l < s1.heap.objs.size := Heap.lt_size e1
      have ltt : t < s1.heap.objs.size := by obtain ⟨o, e, _⟩ := ht2; exact Heap.lt_size e
      refine call_zipLT hL ht2 fun h2 hz hTI hTO it1 it2 hsz hk2 => ?_
      refine Calls.spliced_nil ?_
      have hd := I1.ok.hd hc
      have sx1 : its.toArray.size = xs.length := by rw [List.size_toArray]; exact vx.length.symm
      have sx2 : its2.toArray.size = ys.length := by rw [List.size_toArray]; exact vy.length.symm
      have ne : ∀ i j : Nat, i ≠ j → (s1.heap.objs.size + i : Nat) ≠ s1.heap.objs.size + j := fun i j h => by omega
      have lN : ∀ {b : Nat}, b < s1.heap.objs.size → ∀ i : Nat, b ≠ s1.heap.objs.size + i := fun {b} h i => by omega
      have nin : ∀ {x c e : Addr}, x ≠ c → x ≠ e → x ∉ [c, e] := fun {x c e} h1 h2 h => by
        rcases List.mem_cons.mp h with h | h
        · exact h1 h
        · exact h2 (List.mem_singleton.mp h)
      have two : ∀ {x c e : Addr}, x ∈ [c, e] → x = c ∨ x = e := fun {x c e} h => (List.mem_cons.mp h).imp id List.mem_singleton.mp
      have up : ∀ i : Nat, i < 5 → (s1.heap.objs.size + i : Nat) < h2.objs.size := fun i h => by rw [hsz]; omega
      have lo : ∀ {b : Nat}, b < s1.heap.objs.size → b < h2.objs.size := fun {b} h => by rw [hsz]; omega
      have hL3 : h2.IsList l its.toArray := ⟨ol, hk2 _ _ e1, e2, nl, e3⟩
      have hT3 : h2.IsTuple t its2.toArray := let ⟨o, e, r⟩ := ht2; ⟨o, hk2 _ _ e, r⟩
      refine z_call (s := { s1 with heap := h2 }) (z := s1.heap.objs.size + 4) (TI := s1.heap.objs.size + 2) (TO := s1.heap.objs.size + 3) (i1 := s1.heap.objs.size) (i2 := s1.heap.objs.size + 1) (fp1 := [s1.heap.objs.size, l]) (fp2 := [s1.heap.objs.size + 1, t])
        ⟨ne 2 4 (by decide), ne 3 4 (by decide), ne 2 3 (by decide), ne 2 0 (by decide), List.mem_cons_self, nin (ne 4 0 (by decide)) (Ne.symm (lN ltl 4)), nin (ne 3 0 (by decide)) (Ne.symm (lN ltl 3)), ne 2 1 (by decide), List.mem_cons_self, nin (ne 4 1 (by decide)) (Ne.symm (lN ltt 4)), nin (ne 3 1 (by decide)) (Ne.symm (lN ltt 3)), nin (ne 0 1 (by decide)) (Ne.symm (lN ltt 0)), nin (ne 1 0 (by decide)) (Ne.symm (lN ltl 1))⟩
        (Draws.list (A := X.A.in1.in1.in1) hd s1.heap.objs.size l (Nat.ne_of_lt ltl) its.toArray) (Draws.tuple (A := X.A.in1.in1.in1) hd (s1.heap.objs.size + 1) t (lN ltt 1) its2.toArray)
        (fun b hb => ?_) (fun b hb => ?_) (by rw [sx1]; exact Nat.le_trans (Nat.min_le_left _ _) zx) hTI hz ⟨_, _, hTO⟩ ⟨it1, hL3⟩ ⟨it2, hT3⟩ fun h3 tk acc c as hk3 hS hal hG hacc => ?_
      · rcases two hb with rfl | rfl
        · exact up 0 (by decide)
        · exact lo ltl
      · rcases two hb with rfl | rfl
        · exact up 1 (by decide)
        · exact lo ltt
      · have kk : ∀ b o, s1.heap.get? b = some o → h3.get? b = some o := fun b o e => by
          have lt := Heap.lt_size e
          exact hk3 b o (lN lt 4) (lN lt 3) (lN lt 0) (lN lt 1) (hk2 b o e)
        obtain ⟨H', k1, k2, k3, k4, J⟩ := zip_laid (tk := tk) (p := h2.objs.size) I1 (by rw [hsz]; exact Nat.le_add_right _ _) vx vy (Nat.le_trans (Nat.min_le_left _ _) zx) kk hS (by rw [← sx1, ← sx2]; exact hal) hG hacc
        exact ⟨.ref _, H', J, rfl, q H' _ as k1 k4 k2 k3⟩
end
end FroZ

/-! Fro: list(zip(a, b)) -/
namespace Fro
open PySem PySem.Spec L2 PyProof.Rows
def zipD (ds es : List D) : List D := (ds.zip es).map fun p => .tup [p.1, p.2]
def gListZip : List D → Option D := fun ds => match ds with
  | [.lst ds, .tup es] => some (.lst (zipD ds es))
  | _ => none
theorem Fwd.ofExt {ρ : List Addr} {S : Sto} {H H' : Hp} (h : ∀ b o, H b = some o → H' b = some o) : Fwd ρ S H ρ S H' where
  ext := ⟨[], by simp⟩
  keep := fun b u _ e => h b u e
  tups := fun b u e => h b _ e
  frzs := fun b u z e => h b _ e
  new := fun b l => .inl l
theorem zip_rp {K : PySem.W.Frag} {H : Hp} {M : Addr → Prop} : ∀ {ds es : List D} {xs ys : List V} {ts : List Addr}, RpL K H M ds xs → RpL K H M es ys → Paired (fun (t : Addr) (q : V × V) => H t = some (.tup [q.1, q.2])) ts (xs.zip ys) → RpL K H M (zipD ds es) (ts.map V.ref)
  | [], es, _, ys, ts, .nil, _, p => by
    rw [List.zip_nil_left] at p
    cases p
    exact .nil
  | d :: ds, [], x :: xs, _, ts, _, .nil, p => by
    rw [List.zip_nil_right] at p
    cases p
    exact .nil
  | d :: ds, e :: es, x :: xs, y :: ys, ts, .cons a b, .cons a2 b2, p => by
    rw [List.zip_cons_cons] at p
    cases p with
    | cons h t => exact .cons (.tup (SqT.of h) (.cons a (.cons a2 .nil))) (zip_rp b b2 t)
theorem rql2 {K : PySem.W.Frag} {H : Hp} {M : Addr → Prop} {d e : D} {xs : List V} (h : RqL K H M [d, e] xs) : ∃ v u, xs = [v, u] ∧ Rq K H M d v ∧ Rq K H M e u := by
  cases h with
  | cons a r =>
    cases r with
    | cons b r => cases r; exact ⟨_, _, rfl, a, b⟩
theorem gn_listZip {K : PySem.W.Frag} : GN K (FroZ.rZipLT K) gListZip := fun ρ S H ds z xs Q so rx q n => by
  unfold gListZip at q
  split at q
  · rename_i ds es
    obtain ⟨v1, v2, rfl, r1, r2⟩ := rql2 rx
    cases q
    obtain ⟨a, ys, rfl, ha, ra⟩ := r1.lstE
    obtain ⟨b, zs, rfl, hb, rb⟩ := r2.tup
    refine ⟨a, b, ys, zs, rfl, SqL.of ha, hb, fun H' p ts ext np hp pr => ?_⟩
    have fw : Fwd ρ S H ρ S H' := Fwd.ofExt ext
    have sk : Sok K ρ S H' := so.fwd fw fun a l => by
      rcases so.has l with ⟨xs, e⟩ | ⟨kvs, e⟩
      · rw [e]; exact ext _ _ e
      · rw [e]; exact ext _ _ e
    exact n (.ref p) H' fw sk (.lst hp (so.notNone np) (zip_rp (fw.rpL ra) (fw.rpL rb) pr))
  · cases q
section
variable {X : Cx} {E : XP} {a b : Expr} {ab : Den (List W)} {p p2 cpos pos : Pos}
theorem de_listzip (hm : X.mg "list" = none) (hmz : X.mg "zip" = none) (ha : PA X [a, b] (tA X.K E ab)) (hc : X.calm = true := by rfl) (hg : Gl X "list" := by rfl) (hgz : Gl X "zip" := by rfl)
    (hs : starEach [.Call (.Name "zip" p2) [a, b] [] cpos] X.env = (false, eval (.Call (.Name "zip" p2) [a, b] [] cpos) X.env) :: starEach [] X.env := by rfl) (hs2 : starEach [a, b] X.env = (false, eval a X.env) :: starEach [b] X.env := by rfl) (hpl : (backTo cpos (starEach [b] X.env)).any (·.1) = false := by rfl) :
    PE X (.Call (.Name "list" p) [.Call (.Name "zip" p2) [a, b] [] cpos] [] pos) (tE X.K E (cBlt gListZip ab)) :=
  pe_mono (FroZ.pe_listZip hc ha hg hm (by decide +kernel) hgz hmz hs hs2 hpl) fun σ H Q ⟨δ, ρ, S, st, so, q⟩ => tG_then st so q fun ws S1 vs ρ1 H1 f1 st1 so1 r1 p1 => apN_post gn_listZip so1 r1 p1
end
end Fro

/-! Fro: != of two texts -/
namespace Fro
open PySem PySem.Spec L2 PyProof.Rows
def gNeS : D → D → Option D := fun d e => match d, e with
  | .str t, .str u => some (.bl (!decide (t = u)))
  | _, _ => none
theorem g2_neS {K : PySem.W.Frag} : G2 K rNe gNeS := fun ρ S H d e z x y Q so rx ry q n => by
  unfold gNeS at q
  split at q
  · rename_i t u
    cases q
    rw [rx.str, ry.str]
    refine ⟨rfl, ?_⟩
    have e : decide (V.str (sx t) = V.str (sx u)) = decide (t = u) := by
      rw [decide_eq_decide]
      constructor
      · intro h
        have h1 : sx t = sx u := by injection h
        unfold sx at h1
        have h2 : t.toArray = u.toArray := by injection h1
        simpa using h2
      · intro h; rw [h]
    rw [e]
    exact nxt_here so (.bl _) n
  · cases q
end Fro

/-! Fro: repr in an except suite -/
namespace Fro
open PySem PySem.Spec L2 PyProof.Rows
theorem hu200 {k : Nat} {A : Around} (hr : Room k A) : A.units + 200 < cLine := by have := hr.un; omega
theorem cr_reprG {X : Cx} (hg : X.A.guards = some []) (hu : X.A.units + 200 < cLine) : CallR X (.builtin "repr") (rReprA X.K) := by
  intro pins s σ H xs us Q I r h
  obtain ⟨d, p, v, M, rfl, rp, e, h1, h2, h3, q⟩ := h
  obtain ⟨u, rfl, ru⟩ := vals1 r
  have hz : p.shown.length ≤ sizeLine := Nat.le_trans h3 (by rw [sizeLine_eq]; decide)
  cases d with
  | non =>
    cases rp; cases e; cases ru
    exact PySem.P.repr_of_none ⟨.str "None", H, I.tok _, ⟨_, rfl⟩, q⟩
  | bl b =>
    cases rp; cases e; cases ru
    exact PySem.P.repr_of_bool ⟨.str (if b then "True" else "False"), H, I.tok _, ⟨_, rfl⟩, q⟩
  | int i =>
    cases rp; cases e; obtain ⟨t, rfl⟩ := ru
    exact PySem.P.repr_of_int (of_decide_eq_true h1) ⟨.str (toString i), H, I.tok _, ⟨_, rfl⟩, q⟩
  | str t =>
    cases rp; cases e; obtain ⟨t, rfl⟩ := ru
    exact PySem.P.repr_of_str ⟨.str _, H, I.tok _, ⟨_, rfl⟩, q⟩ hz
  | ty n => cases e
  | tup ds =>
    obtain ⟨as, rd⟩ := reads_of I (.tup ds) p _ _ rp ru e
    cases rp
    cases ru
    exact repr_of_reads' rd h1 (PyData.noDict_hsm (toPy_plain (.tup ds) p e)) hg (by omega) (fun _ _ z => z) (fun h' u tk hk => ⟨.str p.shown, H, I.kept hk, ⟨u, rfl⟩, q⟩) hz
  | lst ds =>
    obtain ⟨as, rd⟩ := reads_of I (.lst ds) p _ _ rp ru e
    cases rp
    cases ru
    exact repr_of_reads' rd h1 (PyData.noDict_hsm (toPy_plain (.lst ds) p e)) hg (by omega) (fun _ _ z => z) (fun h' u tk hk => ⟨.str p.shown, H, I.kept hk, ⟨u, rfl⟩, q⟩) hz
  | dct es =>
    cases rp with
    | dct hd _ re =>
      cases ru
      cases qe : toPyE es with
      | none => rw [toPyA, qe] at e; cases e
      | some ps =>
        rw [toPyA, qe] at e
        cases e
        obtain ⟨_, lo, vs, kv, o, en, ep, h4, h5, h6, _, h7, _⟩ := dk_rd I.hok hd
        obtain ⟨r1, r2⟩ := readsE_of I re kv h7 qe
        have rd := Reads.dict h4 h5.1 h6 r1 r2
        refine repr_of_reads' rd h1 (fun _ z => ?_) hg (by omega) (fun _ _ z => z) (fun h' u tk hk => ⟨.str _, H, I.kept hk, ⟨u, rfl⟩, q⟩) hz
        simp only [List.append_nil, List.mem_singleton] at z
        rw [← z] at lo
        simp at lo
end Fro

/-! Fro: {**a, k: v}, at the library's level. -/
namespace FroS
open PySem PySem.Calls PyProof.Rows PySem.Spec
open Sem (wp)
section
variable {prog : Program} {w : World} {K : Type} [DecidableEq K] {knd : KeyKind prog w K} {A : Around} {E : Value → Shared → Prop} {s : Shared}
theorem dictPut_pairs {d : Addr} {kvs : List (K × Value)} {k : K} {key v : Value} {Q : Unit → Shared → Prop} (hkey : knd.is k key = true) (hm : s.heap.DictOf knd d kvs)
    (hQ : ∀ h', h'.DictOf knd d (stored kvs k v) → Heap.SameBut d s.heap h' → Q () { s with heap := h' })
    (hsz : kvs.length ≤ sizeLine := by size_fits) :
    wpAny (model prog w) A (dictPut d (knd.hash k) key v) Q E s := by
  obtain ⟨o, es, ep, ho, hc, hd, hk, hp, hn⟩ := hm
  have hes : es.size ≤ sizeLine := by have e1 := hp.length; have e2 : es.toList.length = es.size := by simp
                                      omega
  unfold dictPut
  refine wpAny_bind (wpAny_dictFind_of hkey ho hd hk ?_)
  have hidx : (es.findIdx? fun e => knd.is k e.key) = kvs.findIdx? fun kv => decide (kv.1 = k) := by
    rw [← hp.findIdx k]; obtain ⟨l⟩ := es; simp
  cases hi : es.findIdx? fun e => knd.is k e.key with
  | some i =>
    refine wpAny_updateDict ho hd (hQ _ ⟨_, _, ep, Heap.get?_update_self _ ho (Obj.isFreed_of_dict (Obj.data_mapDict hd _)),
      hc.mapDict _, Obj.data_mapDict hd _, hk.modify _ _, ?_, ?_⟩ (Heap.SameBut.update ..))
    · rw [stored, if_pos (any_of_findIdx_some (hidx ▸ hi))]
      have hl : (es.toList.findIdx? fun e => knd.is k e.key) = some i := by rw [← hi]; obtain ⟨l⟩ := es; simp
      have := hp.modify hn hl v
      obtain ⟨l⟩ := es
      simpa using this
    · rw [stored, if_pos (any_of_findIdx_some (hidx ▸ hi)), keys_map_store]; exact hn
  | none =>
    have hnot : k ∉ kvs.map (·.1) := not_mem_of_findIdx_none (hidx ▸ hi)
    have hany : ¬ (kvs.any fun kv => decide (kv.1 = k)) = true := by
      rw [List.any_eq_true]; rintro ⟨kv, hkv, he⟩
      exact hnot (List.mem_map.mpr ⟨kv, hkv, of_decide_eq_true he⟩)
    refine wpAny_updateDictKeys (hz := hes) ho hd (hQ _ ⟨_, _, ep + 1, Heap.get?_update_self _ ho (Obj.isFreed_of_dict (Obj.data_mapDictKeys hd _)),
      hc.mapDictKeys _, Obj.data_mapDictKeys hd _, hk.push hkey _, ?_, ?_⟩ (Heap.SameBut.update ..))
    · rw [stored, if_neg hany]
      have := hp.append hkey (knd.hash k) v
      obtain ⟨l⟩ := es
      simpa using this
    · rw [stored, if_neg hany, List.map_append, List.nodup_append]
      refine ⟨hn, by simp, ?_⟩
      intro a ha b hb
      simp only [List.map_cons, List.map_nil, List.mem_singleton] at hb
      subst hb
      exact fun e => hnot (e ▸ ha)
/-- no key is an address: texts and integers -/
def Plain (knd : KeyKind prog w K) : Prop := ∀ k v, knd.is k v = true → ∀ a, v ≠ .ref a
theorem mergeMapping_pairs {d o : Addr} {kvs more : List (K × Value)} {Q : Unit → Shared → Prop} (hpl : Plain knd) (hdo : d ≠ o) (hoS : (o == sysModules) = false)
    (hd : s.heap.DictOf knd d kvs) (ho : s.heap.DictOf knd o more)
    (hQ : ∀ h', h'.DictOf knd d (merged kvs more) → h'.DictOf knd o more → Heap.SameBut d s.heap h' → Q () { s with heap := h' })
    (hsz : kvs.length + more.length ≤ sizeLine := by size_fits) :
    wpAny (model prog w) A (mergeMapping d (.ref o) false) Q E s := by
  obtain ⟨od, esd, epd, hod, hcd, hdd, hkd, hpd, hnd⟩ := id hd
  obtain ⟨oo, eso, epo, hoo, hco, hdo', hko, hpo, hno⟩ := id ho
  have hlen : more.length = eso.size := by rw [← hpo.length]; simp
  have hTy : s.TypeIs (.ref o) "dict" := ho.typeIs
  unfold mergeMapping
  refine wpAny_bind (wpAny_isInstance (T := "dict") (b := true) hTy (by rw [isSubtype_type]; kernel_rfl) ?_)
  simp only [if_true]
  refine wpAny_bind (wpAny_specialOf hTy PySem.F.slot_dict_iter.lookup ?_)
  have e0 : (some (Value.builtin "dict.__iter__") == some (Value.builtin "dict.__iter__")) = true := by decide +kernel
  refine wpAny_bind (wpAny_pure ?_)
  simp only [e0, hoS, Bool.false_eq_true, if_false]
  refine wpAny_bind (wpAny_dictEntries hod hdd ?_)
  have loop : ∀ (Q : Unit → Shared → Prop), (∀ h', h'.DictOf knd d (merged kvs more) → h'.DictOf knd o more → Heap.SameBut d s.heap h' → Q () { s with heap := h' }) → wpAny (model prog w) A (do
      let l ← dictEntries o
      let epoch ← dictEpoch o
      forIn (List.range l.size) PUnit.unit fun i (_ : PUnit) => (do
          let l' ← dictEntries o
          match l'[i]? with
            | some e => do
              holding [e.key, e.val] (dictPut d e.hash e.key e.val)
              let ep' ← dictEpoch o
              if (ep' != epoch) = true then do
                  (unsupported "dict.changed-during-merge" : Sem PUnit)
                  pure (ForInStep.yield PUnit.unit)
                else pure (ForInStep.yield PUnit.unit)
            | _ => do
              (unsupported "dict.changed-during-merge" : Sem PUnit)
              pure (ForInStep.yield PUnit.unit) : Sem (ForInStep PUnit))
      pure ()) Q E s := fun Q hQ => by
    refine wpAny_bind (wpAny_dictEntries hoo hdo' ?_)
    refine wpAny_bind (wpAny_dictEpoch hoo hdo' ?_)
    refine wpAny_bind ?_
    rw [List.range_eq_range']
    refine wpAny_forIn_list _
      (fun rest _ s' => ∃ h' i, s' = { s with heap := h' } ∧ rest = List.range' i (eso.size - i) ∧ i ≤ eso.size ∧ h'.DictOf knd d (merged kvs (more.take i)) ∧ h'.get? o = some oo ∧ Heap.SameBut d s.heap h')
      _ ?_ ?_ _ _ ⟨s.heap, 0, rfl, by simp, Nat.zero_le _, by simpa [merged] using hd, hoo, Heap.SameBut.refl _ _⟩
    · rintro x rest b s' ⟨h', i, rfl, hr, hi, hd', hoo', hs'⟩
      have hlt : i < eso.size := by
        rcases Nat.lt_or_ge i eso.size with h | h
        · exact h
        · rw [Nat.sub_eq_zero_of_le h] at hr; simp at hr
      obtain ⟨rfl, hrest⟩ : x = i ∧ rest = List.range' (i + 1) (eso.size - (i + 1)) := by
        have e : eso.size - i = (eso.size - (i + 1)) + 1 := by omega
        rw [e, List.range'_succ] at hr
        injection hr with h1 h2
        exact ⟨h1, h2⟩
      refine wpAny_bind (wpAny_dictEntries hoo' hdo' ?_)
      rw [Array.getElem?_eq_getElem hlt]
      obtain ⟨kv, hkv⟩ : ∃ kv, more[x]? = some kv := ⟨more[x]'(by rw [hlen]; exact hlt), List.getElem?_eq_getElem _⟩
      obtain ⟨k, v⟩ := kv
      obtain ⟨hkey, hval⟩ := hpo.get? (e := eso[x]) (by simp [hlt]) hkv
      obtain ⟨k', hkey', hhash⟩ := hko eso[x] (Array.getElem_mem hlt)
      obtain rfl : k' = k := knd.inj _ _ _ hkey' hkey
      show wpAny _ _ (holding [eso[x].key, eso[x].val] (dictPut d eso[x].hash eso[x].key eso[x].val) >>= _) _ _ _
      rw [hhash, hval]
      have hmx : (merged kvs (more.take x)).length ≤ sizeLine := by
        have e1 := merged_length_le kvs (more.take x)
        have e2 : (more.take x).length ≤ more.length := by rw [List.length_take]; omega
        omega
      refine wpAny_bind (wpAny_holding (dictPut_pairs (hsz := hmx) hkey hd' fun h'' hd'' hs'' => ?_))
      have hoo'' : h''.get? o = some oo := (hs''.2 o (Ne.symm hdo)).trans hoo'
      refine wpAny_bind (wpAny_dictEpoch hoo'' hdo' ?_)
      rw [if_neg (by simp)]
      exact wpAny_pure ⟨h'', x + 1, rfl, hrest, hlt, by rw [merged_take_succ kvs more x (k', v) hkv]; exact hd'', hoo'', hs'.trans hs''⟩
    · rintro b s' ⟨h', i, rfl, hr, hi, hd', hoo', hs'⟩
      have hin : i = eso.size := by
        rcases Nat.lt_or_ge i eso.size with h | h
        · have e : eso.size - i = (eso.size - (i + 1)) + 1 := by omega
          rw [e, List.range'_succ] at hr; exact nomatch hr
        · exact Nat.le_antisymm hi h
      refine wpAny_pure (hQ h' ?_ ⟨oo, eso, epo, hoo', hco, hdo', hko, hpo, hno⟩ hs')
      rw [hin, ← hlen, List.take_length] at hd'; exact hd'
  refine wpAny_ite_split (fun _ => ?_) (fun _ => loop Q hQ)
  refine wpAny_bind (wpAny_dictEntries hoo hdo' ?_)
  refine wpAny_bind ?_
  rw [← Array.forIn_toList]
  refine wpAny_forIn_list _ (fun rest _ s' => s' = s ∧ ∀ e ∈ rest, e ∈ eso.toList) _ ?_ ?_ _ _ ⟨rfl, fun e he => he⟩
  · rintro x rest b s' ⟨rfl, hr⟩
    obtain ⟨k', hkey', _⟩ := hko x (by simpa using hr x List.mem_cons_self)
    have np := hpl k' x.key hkey'
    cases hx : x.key with
    | ref a => exact absurd hx (np a)
    | _ => simp only []; exact wpAny_pure ⟨rfl, fun e he => hr e (List.mem_cons_of_mem _ he)⟩
  · rintro b s' ⟨rfl, _⟩
    exact loop Q hQ
end
end FroS

set_option maxHeartbeats 1000000
/-! Fro: {**a, k: v}. -/
namespace FroS
open PySem PySem.Calls PyProof.Rows PySem.Spec
theorem star_shape (m k v : Sem Value) : dictDisplay [(none, m), (some k, v)] = (do
    let d ← alloc { cls := .type "dict", data := .dict #[] }
    let mv ← holding [.ref d] m
    (((holding [.ref d, mv] (mergeMapping d mv false)).onRaise fun x => do let _ ← holding [.ref d, mv, x] (runValue (.builtin "proto.let_go" {}))).tryCatch fun e => do
        if ← isInstance e (.type "AttributeError") then
          rule "dict.display.not-a-mapping"; raiseError "TypeError" s!"'{← typeNameOf mv}' object is not a mapping"
        throw e).onRaise fun x => do let _ ← holding [.ref d, x] (runValue (.builtin "proto.let_go" {}))
    let sub ← holding [.ref d] (subDict [(k, v)])
    (holding [.ref d, .ref sub] (mergeMapping d (.ref sub) false)).onRaise fun x => do let _ ← holding [.ref d, x] (runValue (.builtin "proto.let_go" {}))
    pure (.ref d)) := by
  unfold dictDisplay
  simp only [List.forIn_cons, List.forIn_nil, bind_assoc, pure_bind, List.isEmpty_nil, if_true, List.nil_append, List.isEmpty_cons, Bool.false_eq_true, if_false]
  have h17 : ∀ x : Sem Value × Sem Value, ([x].length == 17) = false := fun _ => rfl
  have hem : ∀ x : Sem Value × Sem Value, [x].isEmpty = false := fun _ => rfl
  simp only [h17, hem, Bool.false_eq_true, if_false, pure_bind, bind_assoc]
end FroS

namespace Fro
open PySem PySem.Spec L2 PyProof.Rows
theorem plain_mix {P : Program} {w : World} : FroS.Plain (mixKind P w) := fun k v h a => by
  rcases keyIs_shape h with ⟨i, t, rfl, rfl⟩ | ⟨x, t, rfl, rfl⟩ <;> exact fun z => nomatch z
/-- {**m, k: v}: the new dict D stands empty while m is made; then it holds m's pairs; then B, empty, while k and v are made -/
def tStar (tm tk tv : TE) : TE := fun σ H Q => ∀ D, H D = none → tm σ (upd H D (.dK [])) fun x H1 => H1 D = some (.dK []) ∧ ∃ o more, x = .ref o ∧ D ≠ o ∧ Rd H1 o (.dK more) ∧ more.length ≤ 900 ∧
  ∀ B, upd H1 D (.dK (mergeK [] more)) B = none → tPairs [(tk, tv)] σ (upd (upd H1 D (.dK (mergeK [] more))) B (.dK [])) fun ps H2 => H2 B = some (.dK []) ∧ D ≠ B ∧
    ∃ cur kvs : List (Key × V), H2 D = some (.dK cur) ∧ cur.length ≤ 900 ∧ ps = kvs.map (fun kv => (kV kv.1, kv.2)) ∧ kvs.length ≤ 15 ∧ Q (.ref D) (upd (upd H2 B (.dK (mergeK [] kvs))) D (.dK (mergeK cur (mergeK [] kvs))))
theorem pe_star {X : Cx} {pos : Pos} {m k v : Expr} {tm tk tv : TE} (hm : PE X m tm) (hp : PPs X pos [some k] [v] [(tk, tv)]) : PE X (.Dict [none, some k] [m, v] pos) (tStar tm tk tv) := by
  refine ⟨fun pins s σ H Q I q => ?_⟩
  have hshape : (evalEachOpt [none, some k] X.env).zip ((evalEach [m, v] X.env).map fun v => do let x ← v; standAt pos; pure x) = [(none, do let x ← eval m X.env; standAt pos; pure x), (some (eval k X.env), do let x ← eval v X.env; standAt pos; pure x)] := by
    simp [evalEachOpt, evalEach, evalOpt]
  rw [arm_eval_Dict, hshape, FroS.star_shape]
  have hn := I.hok.fresh (Nat.le_refl s.heap.objs.size)
  have I1 := I.laid (a := s.heap.objs.size) (o := .dK []) (h' := s.heap.push { cls := .type "dict", data := .dict #[] }) (t' := s.toks) (fun _ _ q => Heap.get?_push_of_some _ q) (Nat.le_refl _) (dk_empty s.heap I.big)
  refine wpAny_bind (wpAny_standAt (wpAny_bind (wpAny_alloc (wpAny_bind (wpAny_holding (wpAny_bind (thn (hm.run pins _ σ _ _ I1 (q _ hn)) fun u s1 ⟨x, H1, I2, rx, e1, o, more, ex, ne, rd, hl, q2⟩ => ?_)))))))
  subst ex
  cases rx
  obtain ⟨_, lowD, vd, rD, dD⟩ := dk_of I2.hok e1
  cases rD
  obtain ⟨_, lowo, vo, ro, dO⟩ := dk_rd I2.hok rd
  have h900 : vo.length ≤ 900 := by rw [← ro.length]; exact hl
  refine wpAny_bind (wpAny_standAt (wpAny_pure ?_))
  refine wpAny_bind (wpAny_onRaise (wpAny_tryCatch (wpAny_onRaise (wpAny_holding (FroS.mergeMapping_pairs (knd := mixKind X.prog X.w) plain_mix ne lowo dD dO (fun h' dD' dO' hs => ?_) (by rw [sizeLine_eq, List.length_nil]; omega))))))
  have rm : KV (mergeK [] more) (merged [] vo) := KV.merge ro .nil
  have hmm : (mergeK [] more).length ≤ 900 := by
    have h1 := length_mergeK more []
    rw [List.length_nil] at h1; omega
  have heD : ∃ q, h'.get? s.heap.objs.size = some q := let ⟨q, _, _, hq, _⟩ := dD'; ⟨q, hq⟩
  have I3 := d_write (t' := s1.toks) I2 (by rw [e1]; exact True.intro) hs heD (dk_new (H' := upd H1 s.heap.objs.size (.dK (mergeK [] more))) (by rw [sizeLine_eq]; omega) lowD rm dD')
  have hnB := I3.hok.fresh (Nat.le_refl h'.objs.size)
  have I4 := I3.laid (a := h'.objs.size) (o := .dK []) (h' := h'.push { cls := .type "dict", data := .dict #[] }) (t' := s1.toks) (fun _ _ q => Heap.get?_push_of_some _ q) (Nat.le_refl _) (dk_empty h' I3.big)
  refine wpAny_bind (wpAny_holding (wpAny_subDict (knd := mixKind X.prog X.w) (Nat.le_of_ble_eq_true rfl) (thn (hp.run pins _ σ _ _ I4 (q2 _ hnB)) fun ws s2 ⟨ps, H2, I5, rel, eB, neB, cur, kvs, eD, lc, eps, lk, q3⟩ => ?_)))
  subst eps
  obtain ⟨rs, c, rk⟩ := carries_of (P := X.prog) (w := X.w) rel
  obtain ⟨_, lowB, vB, rB, dB⟩ := dk_of I5.hok eB
  cases rB
  refine ⟨rs, c, dB, fun h2 dB' hsB => ?_⟩
  have rkm : KV (mergeK [] kvs) (merged [] rs) := KV.merge rk .nil
  have hkl : (mergeK [] kvs).length ≤ 15 := by
    have h1 := length_mergeK kvs []
    rw [List.length_nil] at h1; omega
  have heB : ∃ q, h2.get? h'.objs.size = some q := let ⟨q, _, _, hq, _⟩ := dB'; ⟨q, hq⟩
  have I6 := d_write (t' := s2.toks + ws.length) I5 (by rw [eB]; exact True.intro) hsB heB (dk_new (H' := upd H2 h'.objs.size (.dK (mergeK [] kvs))) (by rw [sizeLine_eq]; omega) lowB rkm dB')
  have eD' : upd H2 h'.objs.size (.dK (mergeK [] kvs)) s.heap.objs.size = some (.dK cur) := by rw [upd_ne neB]; exact eD
  obtain ⟨_, _, vD2, rD2, dD2⟩ := dk_of I6.hok eD'
  have l1 : vD2.length ≤ 900 := by rw [← rD2.length]; exact lc
  have l2 : (merged [] rs).length ≤ 15 := by rw [← rkm.length]; exact hkl
  refine wpAny_bind (wpAny_onRaise (wpAny_holding (FroS.mergeMapping_pairs (knd := mixKind X.prog X.w) plain_mix neB lowB dD2 dB' (fun h3 dD3 _ hs3 => ?_) (by rw [sizeLine_eq]; omega))))
  have rm3 : KV (mergeK cur (mergeK [] kvs)) (merged vD2 (merged [] rs)) := KV.merge rkm rD2
  have h3l : (mergeK cur (mergeK [] kvs)).length ≤ sizeLine := by
    have h1 := length_mergeK (mergeK [] kvs) cur
    rw [sizeLine_eq]; omega
  have heD3 : ∃ q, h3.get? s.heap.objs.size = some q := let ⟨q, _, _, hq, _⟩ := dD3; ⟨q, hq⟩
  refine wpAny_pure ⟨.ref s.heap.objs.size, _, ?_, rfl, q3⟩
  exact d_write (t' := s2.toks + ws.length) I6 (by rw [eD']; exact True.intro) hs3 heD3 (dk_new h3l lowD rm3 dD3)

def endStar (n : Nat) (fs : List (Tx × D)) (S2 : Sto) : R W := match S2[n]?, S2[n + 1]? with
  | some (.dct g), some (.dct []) => if fs.length ≤ 15 ∧ g.length ≤ 900 ∧ S2.length = n + 2 then .ok (.v (.dct (mergeE g (mergeE [] fs)))) (S2.take n) else .bad
  | _, _ => .bad
def midStar (k v : Den W) (δ : Slots) (n : Nat) (x : W) (S1 : Sto) : R W := match x, S1[n]? with
  | .v (.dct es), some (.dct []) => if es.length ≤ 900 ∧ S1.length = n + 1 then (pairsD [(k, v)] δ (S1.set n (.dct (mergeE [] es)) ++ [.dct []])).bind fun fs S2 => endStar n fs S2 else .bad
  | _, _ => .bad
/-- {**m, k: v} -/
def cStar (m k v : Den W) : Den W := fun δ S => (m δ (S ++ [.dct []])).bind fun x S1 => midStar k v δ S.length x S1
theorem take_set2 {S : Sto} {n : Nat} {a b : Ob} : ((S.set (n + 1) a).set n b).take n = S.take n := by
  apply List.ext_getElem?
  intro j
  by_cases hj : j < n
  · rw [List.getElem?_take_of_lt hj, List.getElem?_take_of_lt hj, List.getElem?_set_ne (by omega), List.getElem?_set_ne (by omega)]
  · rw [List.getElem?_eq_none (by rw [List.length_take]; omega), List.getElem?_eq_none (by rw [List.length_take]; omega)]
section
variable {K : PySem.W.Frag} {E : XP}
theorem star_post {m k v : Den W} {σ : L2.St} {H : Hp} {Q : VK} (h : tE K E (cStar m k v) σ H Q) : tStar (tE K E m) (tE K E k) (tE K E v) σ H Q := fun p np => by
  obtain ⟨δ, ρ, S, st, so, ps'⟩ := h
  have fg : Fwd ρ S H (ρ ++ [p]) (S ++ [.dct []]) (upd H p (.dK [])) := Fwd.grown so np _
  have sg : Sok K (ρ ++ [p]) (S ++ [.dct []]) (upd H p (.dK [])) := so.grown np _ ⟨[], upd_same, .nil⟩
  have ep : (ρ ++ [p])[S.length]? = some p := by rw [← so.len]; simp
  refine tG_thenB fg (fg.st st) sg ps' fun x S1 u ρ1 H1 f1 st1 so1 r1 p1 => ?_
  have e1 : ρ1[S.length]? = some p := f1.at ep
  unfold midStar at p1
  split at p1
  · rename_i es q
    split at p1
    · rename_i hc
      obtain ⟨xs, ex, rx⟩ := so1.obs _ _ _ e1 q
      cases rx
      cases r1 with
      | dct hb nb rb =>
      rename_i o more
      have ne : p ≠ o := fun z => nb (z ▸ ⟨_, _, e1, q, rfl⟩)
      refine ⟨ex, o, more, rfl, ne, hb, by rw [← rpE_len rb]; exact hc.1, fun B nB => ?_⟩
      have fc : Fwd ρ1 S1 H1 ρ1 (S1.set S.length (.dct (mergeE [] es))) (upd H1 p (.dK (mergeK [] more))) := Fwd.changed so1 e1 q rfl
      have rm : RpE K (upd H1 p (.dK (mergeK [] more))) (live ρ1 (S1.set S.length (.dct (mergeE [] es)))) (mergeE [] es) (mergeK [] more) := fc.rpE (rpE_merge rb .nil)
      have sc : Sok K ρ1 (S1.set S.length (.dct (mergeE [] es))) (upd H1 p (.dK (mergeK [] more))) := so1.changed e1 q rfl ⟨_, upd_same, rm⟩
      have fB : Fwd ρ1 (S1.set S.length (.dct (mergeE [] es))) (upd H1 p (.dK (mergeK [] more))) (ρ1 ++ [B]) (S1.set S.length (.dct (mergeE [] es)) ++ [.dct []]) (upd (upd H1 p (.dK (mergeK [] more))) B (.dK [])) := Fwd.grown sc nB _
      have sB : Sok K (ρ1 ++ [B]) (S1.set S.length (.dct (mergeE [] es)) ++ [.dct []]) (upd (upd H1 p (.dK (mergeK [] more))) B (.dK [])) := sc.grown nB _ ⟨[], upd_same, .nil⟩
      have l1 : ρ1.length = S.length + 1 := by rw [so1.len]; exact hc.2
      have neB : p ≠ B := fun z => by
        rw [← z, upd_same] at nB
        exact nomatch nB
      refine pairs_then (ps := [(k, v)]) (fg.trans (f1.trans (fc.trans fB))) (fB.st (fc.st st1)) sB p1 fun fs S2 kvs ρ2 H2 f2 so2 re p2 => ?_
      have eD2 : ρ2[S.length]? = some p := f2.at (fB.at (fc.at e1))
      have eB2 : ρ2[S.length + 1]? = some B := f2.at (by rw [← l1]; simp)
      unfold endStar at p2
      split at p2
      · rename_i g q1 q2
        split at p2
        · rename_i hc2
          obtain ⟨cur, hcur, rcur⟩ := so2.obs _ _ _ eD2 q1
          obtain ⟨zs, hB, rB⟩ := so2.obs _ _ _ eB2 q2
          cases rB
          refine ⟨hB, neB, cur, kvs, hcur, by rw [← rpE_len rcur]; exact hc2.2.1, rfl, by rw [← rpE_len re]; exact hc2.1, ?_⟩
          have fc1 : Fwd ρ2 S2 H2 ρ2 (S2.set (S.length + 1) (.dct (mergeE [] fs))) (upd H2 B (.dK (mergeK [] kvs))) := Fwd.changed so2 eB2 q2 rfl
          have rf := fc1.rpE (rpE_merge re .nil)
          have sc1 : Sok K ρ2 (S2.set (S.length + 1) (.dct (mergeE [] fs))) (upd H2 B (.dK (mergeK [] kvs))) := so2.changed eB2 q2 rfl ⟨_, upd_same, rf⟩
          have q1' : (S2.set (S.length + 1) (.dct (mergeE [] fs)))[S.length]? = some (.dct g) := by rw [List.getElem?_set_ne (by omega)]; exact q1
          have fc2 : Fwd ρ2 (S2.set (S.length + 1) (.dct (mergeE [] fs))) (upd H2 B (.dK (mergeK [] kvs))) ρ2 ((S2.set (S.length + 1) (.dct (mergeE [] fs))).set S.length (.dct (mergeE g (mergeE [] fs)))) (upd (upd H2 B (.dK (mergeK [] kvs))) p (.dK (mergeK cur (mergeK [] kvs)))) := Fwd.changed sc1 eD2 q1' rfl
          have rm2 := fc2.rpE (rpE_merge rf (fc1.rpE rcur))
          have sc2 : Sok K ρ2 ((S2.set (S.length + 1) (.dct (mergeE [] fs))).set S.length (.dct (mergeE g (mergeE [] fs)))) (upd (upd H2 B (.dK (mergeK [] kvs))) p (.dK (mergeK cur (mergeK [] kvs)))) := sc1.changed eD2 q1' rfl ⟨_, upd_same, rm2⟩
          have ff := fg.trans (f1.trans (fc.trans (fB.trans (f2.trans (fc1.trans fc2)))))
          obtain ⟨more', em⟩ := ff.ext
          have t := sc2.take S.length
          rw [em, take_pre so.len, ← em] at t
          have fcut := ff.cut so.len sc2.len
          rw [take_set2] at t fcut
          have np' : ¬ live ρ (S2.take S.length) p := fun l => so.notIn np (by
            obtain ⟨j, o, h1, _, _⟩ := l
            exact List.mem_of_getElem? h1)
          exact p2 (.ref p) ρ _ fcut t.1 (Rp.dct (.inl upd_same) np' (rm2.weak t.2))
        · exact p2.elim
      · exact p2.elim
    · exact p1.elim
  · exact p1.elim
end
theorem de_star {X : Cx} {E : XP} {pos : Pos} {m k v : Expr} {a b c : Den W} (hm : PE X m (tE X.K E a)) (hk : PE X k (tE X.K E b)) (hv : PE X v (tE X.K E c)) : PE X (.Dict [none, some k] [m, v] pos) (tE X.K E (cStar a b c)) :=
  pe_mono (pe_star hm (pps_cons hk hv pps_nil)) fun σ H Q z => star_post z
end Fro

set_option maxHeartbeats 1000000
/-! Fro: TABLE.get(k), TABLE.get(k, x); d.get(k). -/
namespace Fro
open PySem PySem.Spec L2 PyProof.Rows
section
variable {X : Cx} {d : Addr} {es : Array DictEntry} {n : Nat} {x : Str} {e f : Expr} {p apos cpos : Pos} {ty tx : TE}
def tKGet1 (K : PySem.W.Frag) (d : Addr) (ty : TE) : TE := fun σ H Q => ty σ H fun y H1 => ∃ (z : Str) (r : Option Value) (v0 : V), y = .str z ∧ PySem.W.nsIn K d z = some r ∧ RelV v0 (r.getD .none) ∧ Q v0 H1
def tKGet2 (K : PySem.W.Frag) (d : Addr) (ty tx : TE) : TE := fun σ H Q => ty σ H fun y H1 => tx σ H1 fun y2 H2 => ∃ (z : Str) (r : Option Value), y = .str z ∧ PySem.W.nsIn K d z = some r ∧ ((r = none ∧ Q y2 H2) ∨ ∃ (u0 : Value) (v0 : V), r = some u0 ∧ RelV v0 u0 ∧ Q v0 H2)
theorem pe_kget1 (D : KDict X.K X.w d es n) (ho : PE X (.Name x p) (fun σ H Q => Q (.ref d) H)) (he : PE X e ty) (m : M1 X (.Name x p) "get" apos e cpos) : PE X (.Call (.Attribute (.Name x p) "get" apos) [e] [] cpos) (tKGet1 X.K d ty) := by
  refine ⟨fun pins s σ H Q I h => ?_⟩
  refine wpAny_Call_method m.base m.few m.line PySem.F.plainAttrs_dict PySem.F.slot_dict_get PySem.F.type_dict_get (thn (ho.run pins s σ H (fun x H1 => x = .ref d ∧ H1 = H) I ⟨rfl, rfl⟩) fun u s1 ⟨x, H1, I1, rx, ex, eH⟩ => ?_)
  subst ex eH
  obtain rfl : u = Value.ref d := rx
  refine ⟨kd_type D I1, fun b q => by cases q; exact ⟨_, I1.kIn _ _ D.at_, rfl⟩, ?_⟩
  rw [m.trees]
  refine Calls.callWith_builtin rfl (Calls.evalArgs_plain (Calls.spliced_cons (thn (he.run pins s1 σ _ _ I1 h) fun iv s2 ⟨y, H2, I2, ry, z, r, v0, ey, en, rv, q2⟩ => Calls.spliced_nil ?_)))
  subst ey
  obtain ⟨t, rfl⟩ := ry
  refine call_meetsIn PySem.F.slot_dict_get (kd_type D I2) PySem.F.entry_dict_get (PySem.F.args_dict_get_2 _ _) (meets_dict_get (PySem.strKind X.prog X.w) d (PySem.strKind_is X.prog X.w z t) D.low) ⟨_, PySem.W.mapOf_K (prog := X.prog) I2.kIn D.at_ D.lit, ?_⟩
  rw [PySem.W.find_K D.at_ en]
  exact ⟨v0, H2, I2.tok _, rv, q2⟩
theorem pe_kget2 (D : KDict X.K X.w d es n) (ho : PE X (.Name x p) (fun σ H Q => Q (.ref d) H)) (he : PE X e ty) (hf : PE X f tx) (m : M2 X (.Name x p) "get" apos e f cpos) : PE X (.Call (.Attribute (.Name x p) "get" apos) [e, f] [] cpos) (tKGet2 X.K d ty tx) := by
  refine ⟨fun pins s σ H Q I h => ?_⟩
  refine wpAny_Call_method m.base m.few m.line PySem.F.plainAttrs_dict PySem.F.slot_dict_get PySem.F.type_dict_get (thn (ho.run pins s σ H (fun x H1 => x = .ref d ∧ H1 = H) I ⟨rfl, rfl⟩) fun u s1 ⟨x, H1, I1, rx, ex, eH⟩ => ?_)
  subst ex eH
  obtain rfl : u = Value.ref d := rx
  refine ⟨kd_type D I1, fun b q => by cases q; exact ⟨_, I1.kIn _ _ D.at_, rfl⟩, ?_⟩
  rw [m.trees]
  refine Calls.callWith_builtin rfl (Calls.evalArgs_plain (Calls.spliced_cons (thn (he.run pins s1 σ _ _ I1 h) fun iv s2 ⟨y, H2, I2, ry, q2⟩ =>
    Calls.spliced_cons (thn (hf.run pins s2 σ H2 _ I2 q2) fun fv s3 ⟨y2, H3, I3, rz, z, r, ey, en, q3⟩ => Calls.spliced_nil ?_))))
  subst ey
  obtain ⟨t, rfl⟩ := ry
  refine call_meetsIn PySem.F.slot_dict_get (kd_type D I3) PySem.F.entry_dict_get (PySem.F.args_dict_get_3 _ _ _) (meets_dict_get_default (PySem.strKind X.prog X.w) d (PySem.strKind_is X.prog X.w z t) D.low fv) ⟨_, PySem.W.mapOf_K (prog := X.prog) I3.kIn D.at_ D.lit, ?_⟩
  rw [PySem.W.find_K D.at_ en]
  rcases q3 with ⟨rfl, q3⟩ | ⟨u0, v0, rfl, rv, q3⟩
  · exact ⟨y2, H3, I3.tok _, rz, q3⟩
  · exact ⟨v0, H3, I3.tok _, rv, q3⟩
end
def apKGet1 (tbl : List (Tx × D)) (x : W) (S : Sto) : R W := match x with
  | .v (.str t) => (match lkT tbl t with
    | some d => .ok (.v d) S
    | none => .ok (.v .non) S)
  | _ => .bad
def cKGet1 (tbl : List (Tx × D)) (a : Den W) : Den W := fun δ S => (a δ S).bind fun x S1 => apKGet1 tbl x S1
def apKGet2 (tbl : List (Tx × D)) (x z : W) (S : Sto) : R W := match x with
  | .v (.str t) => (match lkT tbl t with
    | some d => .ok (.v d) S
    | none => .ok z S)
  | _ => .bad
def cKGet2 (tbl : List (Tx × D)) (a b : Den W) : Den W := fun δ S => (a δ S).bind fun x S1 => (b δ S1).bind fun z S2 => apKGet2 tbl x z S2
section
variable {X : Cx} {E : XP} {e f : Expr} {x : Str} {p apos cpos : Pos} {a b : Den W} {d : Addr} {tbl : List (Tx × D)}
theorem de_kget1 (hk : KD X.K X.w d tbl) (hm : X.mg x = some (.ref d)) (ha : PE X e (tE X.K E a)) (hg : Gl X x := by rfl) (hd : (x == ("__debug__" : Str)) = false := by decide) (m : M1 X (.Name x p) "get" apos e cpos := by exact ⟨rfl, rfl, rfl, rfl⟩) :
    PE X (.Call (.Attribute (.Name x p) "get" apos) [e] [] cpos) (tE X.K E (cKGet1 tbl a)) := by
  obtain ⟨es, n, mm, kd, he⟩ := hk.ex
  refine pe_mono (pe_kget1 kd (pe_glob hg hm (v := .ref d) rfl hd) ha m) fun σ H Q ⟨δ, ρ, S, st, so, p⟩ => tG_then st so p fun w S1 v ρ1 H1 f1 st1 so1 r1 p1 => ?_
  unfold apKGet1 at p1
  split at p1
  · rename_i t
    cases r1
    rcases hk.look t with ⟨q1, q2⟩ | ⟨dd, u, vv, q1, q2, q3, q4⟩
    · simp only [q1] at p1
      exact ⟨_, none, .non, rfl, q2, rfl, p1 _ ρ1 H1 Fwd.refl so1 .non⟩
    · simp only [q1] at p1
      exact ⟨_, some u, vv, rfl, q2, q3, p1 _ ρ1 H1 Fwd.refl so1 (q4 _ _)⟩
  · exact p1.elim
theorem de_kget2 (hk : KD X.K X.w d tbl) (hm : X.mg x = some (.ref d)) (ha : PE X e (tE X.K E a)) (hb : PE X f (tE X.K E b)) (hg : Gl X x := by rfl) (hd : (x == ("__debug__" : Str)) = false := by decide) (m : M2 X (.Name x p) "get" apos e f cpos := by exact ⟨rfl, rfl, rfl, rfl⟩) :
    PE X (.Call (.Attribute (.Name x p) "get" apos) [e, f] [] cpos) (tE X.K E (cKGet2 tbl a b)) := by
  obtain ⟨es, n, mm, kd, he⟩ := hk.ex
  refine pe_mono (pe_kget2 kd (pe_glob hg hm (v := .ref d) rfl hd) ha hb m) fun σ H Q ⟨δ, ρ, S, st, so, p⟩ => tG_then st so p fun w S1 v ρ1 H1 f1 st1 so1 r1 p1 => tG_then st1 so1 p1 fun w2 S2 v2 ρ2 H2 f2 st2 so2 r2 p2 => ?_
  have rx := f2.rw r1
  unfold apKGet2 at p2
  split at p2
  · rename_i t
    cases rx
    rcases hk.look t with ⟨q1, q2⟩ | ⟨dd, u, vv, q1, q2, q3, q4⟩
    · simp only [q1] at p2
      exact ⟨_, none, rfl, q2, .inl ⟨rfl, p2 _ ρ2 H2 Fwd.refl so2 r2⟩⟩
    · simp only [q1] at p2
      exact ⟨_, some u, rfl, q2, .inr ⟨u, vv, rfl, q3, p2 _ ρ2 H2 Fwd.refl so2 (q4 _ _)⟩⟩
  · exact p2.elim
end
end Fro

set_option maxHeartbeats 1000000
/-! Fro: x == (), whatever stands in x. -/
namespace Fro
open PySem PySem.Spec L2
def gEqT0 : D → D → Option D := fun d e => match d, e with
  | .tup ds, .tup [] => some (.bl ds.isEmpty)
  | _, _ => none
def rEqT0 (K : PySem.W.Frag) : R2 := fun x y H Q => ∃ a b xs, x = .ref a ∧ y = .ref b ∧ SqT K H a xs ∧ SqT K H b [] ∧ Q (.bl xs.isEmpty) H
theorem op_eqT0 {X : Cx} (hu : X.A.units < cLine) : OpR X (compareOp .Eq) (rEqT0 X.K) := by
  intro pins s σ H x y v u Q I rx ry h
  obtain ⟨a, b, xs, rfl, rfl, ha, hb, q⟩ := h
  cases (show v = Value.ref a from rx)
  cases (show u = Value.ref b from ry)
  obtain ⟨us, r1, p1, _⟩ := I.tuple ha
  obtain ⟨ws, r2, p2, _⟩ := I.tuple hb
  have hw : ws = [] := by cases r2; rfl
  subst hw
  have hl : xs.length = us.length := r1.length
  refine SeqAt.eq_tupleAt (e := fun _ => true) p1 p2 hu (fun j h1 h2 => absurd h2 (by simp)) ?_
  have e : ((List.range (min us.toArray.size (([] : List Value).toArray).size)).all (fun _ => true) && us.toArray.size == (([] : List Value).toArray).size) = xs.isEmpty := by
    cases xs with
    | nil => cases us with
      | nil => rfl
      | cons _ _ => simp at hl
    | cons x xs => cases us with
      | nil => simp at hl
      | cons _ _ => simp
  rw [e]
  exact ⟨.bl _, H, I, rfl, q⟩
theorem rq_tup {K : PySem.W.Frag} {H : Hp} {M : Addr → Prop} {ds : List D} {v : V} (h : Rq K H M (.tup ds) v) : ∃ a xs, v = .ref a ∧ SqT K H a xs ∧ RpL K H M ds xs := by
  cases h with
  | of h => cases h with
    | tup sq r => exact ⟨_, _, rfl, sq, r⟩
theorem g2_eqT0 {K : PySem.W.Frag} : G2 K (rEqT0 K) gEqT0 := fun ρ S H d e z x y Q so rx ry q n => by
  unfold gEqT0 at q
  split at q
  · rename_i ds
    cases q
    obtain ⟨a, xs, rfl, sa, la⟩ := rq_tup rx
    obtain ⟨b, ys, rfl, sb, lb⟩ := rq_tup ry
    cases lb
    refine ⟨a, b, xs, rfl, rfl, sa, sb, ?_⟩
    have e : xs.isEmpty = ds.isEmpty := by cases la <;> rfl
    rw [e]
    exact nxt_here so (.bl _) n
  · cases q
end Fro

set_option maxHeartbeats 1000000
/-! Fro: defs with a star parameter, list.insert, range(a, b). -/
namespace Fro
open PySem PySem.Spec L2
section
variable {K : PySem.W.Frag} {ρ : List Addr} {S : Sto} {H : Hp}
theorem RpWs.take : ∀ {ws : List W} {vs : List V} (n : Nat), RpWs K ρ S H ws vs → RpWs K ρ S H (ws.take n) (vs.take n)
  | _, _, 0, _ => .nil
  | _, _, _ + 1, .nil => .nil
  | _, _, n + 1, .cons a b => .cons a (b.take n)
theorem RpWs.drop : ∀ {ws : List W} {vs : List V} (n : Nat), RpWs K ρ S H ws vs → RpWs K ρ S H (ws.drop n) (vs.drop n)
  | _, _, 0, h => h
  | _, _, _ + 1, .nil => .nil
  | _, _, n + 1, .cons _ b => b.drop n
end
/-! ### calls -/
def stW (n : Nat) (ws : List W) : Option (List W) := if n ≤ ws.length then (match toDs (ws.drop n) with
  | some ds => if ds.length ≤ 1000 then some (ws.take n ++ [.v (.tup ds)]) else none
  | none => none) else none
def cCallSt (n : Nat) (f : FDen) (a : Den (List W)) : Den W := fun δ S => (a δ S).bind fun ws S1 => match stW n ws with
  | some us => (chk (n + 1) f us S1).bind cRes
  | none => .bad
def spSt (K : PySem.W.Frag) (n : Nat) (fd : FDen) : Sp := fun vs H Q E => ∃ ws rest, vs = ws ++ rest ∧ ws.length = n ∧ rest.length ≤ sizeLine ∧ ∀ p, H p = Option.none → spF K (n + 1) fd (ws ++ [V.ref p]) (upd H p (.tup rest)) Q E
theorem st_post {K : PySem.W.Frag} {ρ : List Addr} {S : Sto} {H : Hp} {n : Nat} {den : FDen} {ws : List W} {vs : List V} {Q : VK} {Ex : Nat → List D → Sto → List Addr → Hp → Prop} {E : XK}
    (hE : ∀ c ds S' H' C d, Ex c ds S' ρ H' → Sok K ρ S' H' → XRep K ρ S' H' c ds C d → E (.ref C) (some d) H') (so : Sok K ρ S H) (r : RpWs K ρ S H ws vs)
    (p : Post K (RpW K) ρ S H (match stW n ws with
      | some us => (chk (n + 1) den us S).bind cRes
      | none => .bad) Q Ex) : spSt K n den vs H Q E := by
  unfold stW at p
  by_cases hn : n ≤ ws.length
  · rw [if_pos hn] at p
    cases q : toDs (ws.drop n) with
    | none => simp only [q] at p; exact p.elim
    | some ds =>
      simp only [q] at p
      by_cases hl : ds.length ≤ 1000
      · rw [if_pos hl] at p
        have rl := toDs_rp (r.drop n) q
        refine ⟨vs.take n, vs.drop n, (List.take_append_drop n vs).symm, by rw [List.length_take, ← r.length]; omega, by rw [← rl.length]; exact le1000 hl, fun a na => ?_⟩
        have fl := Fwd.laid (o := .tup (vs.drop n)) so na
        exact ⟨ws.take n ++ [.v (.tup ds)], ρ, S, (fl.rws (r.take n)).append (.cons (w := .v (.tup ds)) (Rp.tup (SqT.of upd_same) (fl.rpL rl)) .nil), so.laid na, res_post hE (so.laid na) (Post.later fl p)⟩
      · rw [if_neg hl] at p; exact p.elim
  · rw [if_neg hn] at p; exact p.elim
section
variable {P : Program} {w : World} {K : PySem.W.Frag} {mg : Str → Option Value} {base : Heap}
theorem fn_denSt {x qual pv : Str} {params : Arguments} {stm : List Stmt} {scope : Scope} {dvs : List V} {kws : List (Str × V)} {f : Addr} {fd : FuncData} {N ps : List Str} {k n m : Nat} {body : DenS} (F : FunD K x qual params stm scope dvs kws f fd) (S : FnScope N (ps ++ [pv]) scope)
    (hs : ∀ us rest : List Value, us.length = ps.length → bindArgs fd ⟨us ++ rest, []⟩ = (newTuple rest >>= fun t => pure (ps.zip us ++ [(pv, t)])))
    (hb : ∀ (cdv : Value) (A : Around) (outer : List Env) (s : Shared) (H : Hp) (E : XK), L2.Room k (A.deeper (PyProof.Rows.envOfC qual scope s.heap.objs.size f cdv)) → Takes (cxOf (CX P w) P w K mg base N qual scope f cdv A outer s H E) (fun cls d _ H => E cls d H) → PassesOwn (model P w) (cxOf (CX P w) P w K mg base N qual scope f cdv A outer s H E).A (cxOf (CX P w) P w K mg base N qual scope f cdv A outer s H E).env (cxOf (CX P w) P w K mg base N qual scope f cdv A outer s H E).xe →
      PSs (cxOf (CX P w) P w K mg base N qual scope f cdv A outer s H E) stm (tS K (XPW K fun cls d _ H => E cls d H) body)) (hn : ps.length = n := by rfl) (hm : N.length = m := by rfl) :
    FnR P w K mg base (CX P w) (k + 1) f (spSt K n (fdef m body)) := by
  subst hn; subst hm
  obtain ⟨oc, od, dV, kV, doc, pm, an, cdv, ct, osl, rfl, lk, hcd, _⟩ := F.ex
  refine StX.fn_star lk hcd S StX.cxUp hs fun A outer s H vs Q E hr h => ?_
  obtain ⟨ws, ρ, S', r, so, p⟩ := h
  by_cases hl : ws.length = ps.length + 1
  · unfold chk at p
    rw [if_pos hl] at p
    exact ⟨_, hb cdv A outer s H E hr (takes_of rfl rfl rfl rfl) (passes_of rfl), slots0 N.length ws, ρ, S', start_rp r, so, end_post so p⟩
  · unfold chk at p; rw [if_neg hl] at p; exact p.elim
end
section
variable {X : Cx}
theorem pe_callRS {CX : CXT} {k : Nat} {f : Addr} {sp : Sp} {x : Str} {p pos : Pos} {e : Expr} {es : List Expr} {t : TA} {ES : L2.St → XK} (F : FnR X.prog X.w X.K X.mg X.base CX k f sp) (hr : L2.Room k X.A) (hg : Gl X x) (hm : X.mg x = some (.ref f)) (hk : PySem.W.keepIn X.K (.ref f) = true)
    (hx : ∀ (σ : L2.St) (pins : List (Addr × Obj)) (H : Hp) (s : Shared) (e : Value) (s' : Shared), Inv X pins σ H s → CX X.stack H s (ES σ) e s' → X.xe e s')
    (ha : PA X (e :: es) t) (hdb : (x == ("__debug__" : Str)) = false := by decide) (he : starEach (e :: es) X.env = (false, eval e X.env) :: starEach es X.env := by rfl) (hpl : (backTo pos (starEach es X.env)).any (·.1) = false := by rfl) :
    PE X (.Call (.Name x p) (e :: es) [] pos) (fun σ H Q => t σ H fun vs H1 => sp vs H1 Q (ES σ)) := ⟨fun pins s σ H Q I h =>
  wpAny_Call_Name_kw (ld_glob I hg hm (PySem.W.callWith_K (h₀ := X.base) I.ok.mod.kin hk (thn (ha.run pos pins s σ H _ I h) fun us s1 ⟨vs, H1, I1, rv, q⟩ => ⟨I1.kIn, by
    refine wpAny_call (codeAny_mono (F X.A X.stack s1 H1 us vs Q (ES σ) hr I1.env0 rv q) fun res s' hres => ?_)
    match res, hres with
    | .error err, hres => exact hx σ pins H1 s1 err s' I1 hres
    | .ok (.ret u), hres => exact I1.after hres
    | .ok .next, hres => exact hres.elim
    | .ok .brk, hres => exact hres.elim
    | .ok .cont, hres => exact hres.elim⟩) he hpl) hdb)⟩
theorem de_callSt {x : Str} {p pos : Pos} {e : Expr} {es : List Expr} {a : Den (List W)} {den : FDen} {k n : Nat} {f : Addr} (F : FnR X.prog X.w X.K X.mg X.base (CX X.prog X.w) k f (spSt X.K n den)) (hr : Room k X.A) (hm : X.mg x = some (.ref f)) (hk : PySem.W.keepIn X.K (.ref f) = true)
    (ha : PA X (e :: es) (tA X.K XP0 a)) (hg : Gl X x := by rfl) (hdb : (x == ("__debug__" : Str)) = false := by decide) (he : starEach (e :: es) X.env = (false, eval e X.env) :: starEach es X.env := by rfl) (hpl : (backTo pos (starEach es X.env)).any (·.1) = false := by rfl) :
    PE X (.Call (.Name x p) (e :: es) [] pos) (tE X.K XP0 (cCallSt n den a)) :=
  pe_mono (pe_callRS (ES := fun _ _ _ _ => False) F hr.r hg hm hk (fun σ pins H s e s' I c => passF pins σ H s e s' I c) ha hdb he hpl) fun σ H Q ⟨δ, ρ, S, st, so, q⟩ => tG_then st so q fun ws S1 vs ρ1 H1 f1 st1 so1 r1 p1 => st_post (fun _ _ _ _ _ _ z _ _ => z.elim) so1 r1 p1
theorem de_callStX {Wx : WX} {x : Str} {p pos : Pos} {e : Expr} {es : List Expr} {a : Den (List W)} {den : FDen} {k n : Nat} {f : Addr} (F : FnR X.prog X.w X.K X.mg X.base (CX X.prog X.w) k f (spSt X.K n den)) (hr : Room k X.A) (tk : Takes X Wx) (hm : X.mg x = some (.ref f)) (hk : PySem.W.keepIn X.K (.ref f) = true)
    (ha : PA X (e :: es) (tA X.K (XPW X.K Wx) a)) (hg : Gl X x := by rfl) (hdb : (x == ("__debug__" : Str)) = false := by decide) (he : starEach (e :: es) X.env = (false, eval e X.env) :: starEach es X.env := by rfl) (hpl : (backTo pos (starEach es X.env)).any (·.1) = false := by rfl) :
    PE X (.Call (.Name x p) (e :: es) [] pos) (tE X.K (XPW X.K Wx) (cCallSt n den a)) :=
  pe_mono (pe_callRS (ES := fun σ cls d H => Wx cls d σ H) F hr.r hg hm hk (fun σ pins H s e s' I c => tk e s' (XE.of_call I (fun _ _ _ h => h) c)) ha hdb he hpl) fun σ H Q ⟨δ, ρ, S, st, so, q⟩ => tG_then st so q fun ws S1 vs ρ1 H1 f1 st1 so1 r1 p1 => st_post (fun _ _ _ _ _ _ z so xr => z _ _ _ Fwd.refl so xr) so1 r1 p1
end
/-! ### list.insert -/
def apInsert (i : Nat) (k y : W) (S : Sto) : R W := match isRL (.r i) S, k, toD y with
  | some (_, ds), .v (.int j), some d => if 0 ≤ j ∧ j < 1000000 ∧ ds.length < 1000000 then .ok (.v .non) (S.set i (.lst (ds.take j.toNat ++ [d] ++ ds.drop j.toNat))) else .bad
  | _, _, _ => .bad
def cInsert (a b c : Den W) : Den W := cMth a fun i δ S1 => (b δ S1).bind fun k S2 => (c δ S2).bind fun y S3 => apInsert i k y S3
def rInsert : V → List V → Hp → VK → Prop := fun x vs H Q => ∃ (l : Addr) (xs : List V) (i : Int) (y : V), x = .ref l ∧ vs = [.int i, y] ∧ H l = some (.lst xs) ∧ xs.length < sizeLine ∧ 0 ≤ i ∧ i < 2 ^ 63 ∧
    Q .non (upd H l (.lst (xs.take i.toNat ++ [y] ++ xs.drop i.toNat)))
theorem insert_post {K : PySem.W.Frag} {ρ : List Addr} {S : Sto} {H : Hp} {i : Nat} {v : V} {Q : VK} {Ex : Nat → List D → Sto → List Addr → Hp → Prop} {k y : W} {u1 u : V} (so : Sok K ρ S H) (r : RpW K ρ S H (.r i) v) (r1 : RpW K ρ S H k u1) (r2 : RpW K ρ S H y u) (p : Post K (RpW K) ρ S H (apInsert i k y S) Q Ex) : rInsert v [u1, u] H Q := by
  unfold apInsert at p
  split at p
  · rename_i j0 ds j d q1 q2
    obtain ⟨a, xs, e1, rfl, ea, es, ex, rl⟩ := isRL_ok so r q1
    cases e1
    cases r1
    split at p
    · rename_i hl
      refine ⟨a, xs, j, u, rfl, rfl, ex, by rw [← rl.length]; exact Nat.lt_trans hl.2.2 (by decide), hl.1, by omega, ?_⟩
      have fc : Fwd ρ S H ρ (S.set i (.lst (ds.take j.toNat ++ [d] ++ ds.drop j.toNat))) (upd H a (.lst (xs.take j.toNat ++ [u] ++ xs.drop j.toNat))) := Fwd.changed so ea es rfl
      exact p .non ρ _ fc (so.changed ea es rfl ⟨_, upd_same, (((fc.rpL rl).take _).append (.cons (fc.rp (toD_rp r2 q2)) .nil)).append ((fc.rpL rl).drop _)⟩) .non
    · exact p.elim
  · exact p.elim
theorem de_insert {X : Cx} {E : XP} {o e e' : Expr} {apos cpos : Pos} {a b c : Den W} (ha : PE X o (tE X.K E a)) (hb : PE X e (tE X.K E b)) (hc : PE X e' (tE X.K E c))
    (hd : ∀ to t, PE X o to → PA X [e, e'] t → PE X (.Call (.Attribute o "insert" apos) [e, e'] [] cpos) (tBM X.K "list" rInsert to t) := by exact fun _ _ ho h => pe_bm PySem.F.plainAttrs_list PySem.F.slot_list_insert PySem.F.type_list_insert mt_insert ho h)
    (hs : starEach [e, e'] X.env = (false, eval e X.env) :: starEach [e'] X.env := by rfl) (hs2 : starEach [e'] X.env = (false, eval e' X.env) :: starEach [] X.env := by rfl) :
    PE X (.Call (.Attribute o "insert" apos) [e, e'] [] cpos) (tE X.K E (cInsert a b c)) :=
  pe_mono (hd _ _ ha (pa_cons hb (pa_cons hc pa_nil hs2) hs)) fun σ H Q h => mth_then h fun δ i S1 v ρ1 H1 st1 so1 r1 ty p1 => ⟨ty, tG_then st1 so1 p1 fun k S2 u1 ρ2 H2 f2 st2 so2 r2 p2 => tG_then st2 so2 p2 fun y S3 u ρ3 H3 f3 st3 so3 r3 p3 => insert_post so3 (f3.rw (f2.rw r1)) (f3.rw r2) r3 p3⟩
/-! ### range(a, b) -/
def asR2 (ws : List W) (S : Sto) : R (List D) := match ws with
  | [.v (.int i), .v (.int j)] => if -1000000 < i ∧ i < 1000000 ∧ -1000000 < j ∧ j < 1000000 then .ok (rangeD i (j - i).toNat) S else .bad
  | _ => .bad
def itR2 (a : Den (List W)) : Den (List D) := fun δ S => (a δ S).bind asR2
theorem di_range2 {X : Cx} {E : XP} {tg e1 e2 : Expr} {p pos : Pos} {a : Den (List W)} (hm : X.mg "range" = none) (h : PA X [e1, e2] (tA X.K E a)) (hg : Gl X "range" := by rfl) (hs : starEach [e1, e2] X.env = [(false, eval e1 X.env), (false, eval e2 X.env)] := by rfl) (hs2 : starEach [e2] X.env = [(false, eval e2 X.env)] := by rfl) :
    PI X tg (.Call (.Name "range" p) [e1, e2] [] pos) (tI X.K E (itR2 a)) := pi_mono (pi_range2 hg hm h hs hs2) fun σ H Q ⟨δ, ρ, S, st, so, p⟩ => tG_then st so p fun ws S1 vs ρ1 H1 f1 st1 so1 r1 p1 => by
  unfold asR2 at p1
  split at p1
  · rename_i i j
    cases r1 with
    | cons ra rb => cases rb with
      | cons rb rc =>
        cases rc
        cases ra
        cases rb
        split at p1
        · rename_i hc
          exact ⟨i, j, rfl, ⟨by omega, by omega, by omega, by omega⟩, p1 _ ρ1 H1 Fwd.refl so1 (jok_range i _)⟩
        · exact p1.elim
  · exact p1.elim
end Fro

namespace Fro
open PySem PySem.Spec L2 PyProof.Rows

/-! ### x in l, l.index(x): data of any depth -/
def gInD : D → D → Option D := fun d e => match e with
  | .lst es => if (okD d && okDL es && decide (min (depL es) (dep d) ≤ 64)) = true then some (.bl (es.any fun y => deq y d)) else none
  | _ => none
def rInDp (K : PySem.W.Frag) : R2 := fun x y H Q => ∃ d ds, Dp K H x d ∧ Dp K H y (.list ds) ∧ d.canLay0 = true ∧ PyData.canLayAll0 ds = true ∧ min (PyData.depthAll ds) d.depth ≤ 64 ∧ Q (.bl (ds.any fun z => PyData.eqv z d)) H
theorem pyL_any {d : D} (h : okD d = true) : ∀ es : List D, okDL es = true → ((pyL es).any fun z => PyData.eqv z (py d)) = es.any fun y => deq y d
  | [], _ => by simp only [pyL, List.any_nil]
  | e :: es, q => by
    have a : okD e = true ∧ okDL es = true := by simpa [okDL] using q
    simp only [pyL, List.any_cons, pyL_any h es a.2, py_eqv e d a.1 h]
section
variable {X : Cx} {k : Nat}
theorem op_inDp (hr : Room k X.A) : OpR X (compareOp .In) (rInDp X.K) := by
  intro pins s σ H x y v u Q I rx ry h
  obtain ⟨d, ds, hd, he, sd, se, hm, q⟩ := h
  obtain ⟨as, r1⟩ := Dp.reads I d x v hd rx
  obtain ⟨bs, r2⟩ := Dp.reads I (.list ds) y u he ry
  exact SeqAt.in_list_reads r2 r1 se sd (by have := hr.un; omega) ⟨.bl _, H, I, rfl, q⟩
theorem g2_inD {K : PySem.W.Frag} : G2 K (rInDp K) gInD := fun ρ S H d e z x y Q so rx ry q n => by
  unfold gInD at q
  split at q
  · rename_i es
    split at q
    · rename_i h
      cases q
      simp only [Bool.and_eq_true, decide_eq_true_eq] at h
      have oke : okD (.lst es) = true := by simpa [okD] using h.1.2
      have hde := rq_dp ry oke
      simp only [py] at hde
      refine ⟨py d, pyL es, rq_dp rx h.1.1, hde, py_can d h.1.1, pyL_can es h.1.2, by rw [pyL_dep, py_dep]; exact h.2, ?_⟩
      rw [pyL_any h.1.1 es h.1.2]
      exact nxt_here so (.bl _) n
    · cases q
  · cases q
end
def gIndexD : D → D → Option D := fun d e => match d with
  | .lst ds => if (okD e && okDL ds && decide (depL ds ≤ 63) && decide (dep e ≤ 64)) = true then (idxD e ds).map fun j => .int j else none
  | _ => none
def cIndexD (a b : Den W) : Den W := fun δ S => (a δ S).bind fun x S1 => if isLst x S1 = true then (b δ S1).bind fun y S2 => ap2 gIndexD x y S2 else .bad
theorem idxD_py {d : D} (fy : okD d = true) : ∀ {ds : List D} {j : Nat}, okDL ds = true → idxD d ds = some j → ∃ z, (pyL ds)[j]? = some z ∧ PyData.eqv z (py d) = true ∧ ∀ (m : Nat) (z' : PyData), m < j → (pyL ds)[m]? = some z' → PyData.eqv z' (py d) = false
  | [], _, _, e => by cases e
  | e :: ds, j, h, q => by
    have a : okD e = true ∧ okDL ds = true := by simpa [okDL] using h
    have ev := py_eqv e d a.1 fy
    unfold idxD at q
    simp only [pyL]
    by_cases hd : deq e d = true
    · rw [if_pos hd] at q
      cases q
      exact ⟨py e, rfl, by rw [ev, hd], fun m z' hm => by omega⟩
    · rw [if_neg hd] at q
      cases qi : idxD d ds with
      | none => rw [qi] at q; cases q
      | some k =>
        rw [qi] at q
        cases q
        obtain ⟨z, h1, h2, h3⟩ := idxD_py fy a.2 qi
        refine ⟨z, by simpa using h1, h2, fun m z' hm hz => ?_⟩
        cases m with
        | zero =>
          have : py e = z' := by simpa using hz
          subst this
          rw [ev]
          exact Bool.eq_false_iff.mpr hd
        | succ m => exact h3 m z' (by have hm2 : m + 1 < k + 1 := hm; omega) (by simpa using hz)
theorem shaped_py {d : D} (h : okD d = true) (l : dep d ≤ 64) : SeqAt.shaped (py d) = true := by
  show ((py d).canLay0 && decide ((py d).depth ≤ 64)) = true
  rw [Bool.and_eq_true]
  exact ⟨py_can d h, decide_eq_true (by rw [py_dep]; exact l)⟩
theorem indexD_post {K : PySem.W.Frag} {ρ : List Addr} {S : Sto} {H : Hp} {x y : W} {v u : V} {Q : VK} {Ex} (so : Sok K ρ S H) (rx : RpW K ρ S H x v) (ry : RpW K ρ S H y u) (p : Post K (RpW K) ρ S H (ap2 gIndexD x y S) Q Ex) : rIndexD K v [u] H Q := by
  unfold ap2 at p
  cases q1 : rd S x with
  | none => simp only [q1] at p; exact p.elim
  | some d =>
    cases q2 : rd S y with
    | none => simp only [q1, q2] at p; exact p.elim
    | some e =>
      cases q3 : gIndexD d e with
      | none => simp only [q1, q2, q3] at p; exact p.elim
      | some z =>
        simp only [q1, q2, q3] at p
        unfold gIndexD at q3
        split at q3
        · rename_i ds
          split at q3
          · rename_i hf
            simp only [Bool.and_eq_true, decide_eq_true_eq] at hf
            cases qi : idxD e ds with
            | none => rw [qi] at q3; cases q3
            | some j =>
              rw [qi] at q3
              cases q3
              have ry' := rd_ok so ry q2
              have rx' := rd_ok so rx q1
              have okl : okD (.lst ds) = true := by simpa [okD] using hf.1.1.2
              have hdl := rq_dp rx' okl
              have sl := shaped_py (d := .lst ds) okl (by simp only [dep]; omega)
              simp only [py] at hdl sl
              obtain ⟨a, ys, rfl, ha, ra⟩ := rx'.lstE
              obtain ⟨zz, h1, h2, h3⟩ := idxD_py hf.1.1.1 hf.1.1.2 qi
              exact ⟨a, u, py e, pyL ds, j, zz, rfl, rfl, hdl, rq_dp ry' hf.1.1.1, sl, shaped_py hf.1.1.1 hf.2, h1, h2, h3, p _ ρ H Fwd.refl so (.int _)⟩
          · cases q3
        · cases q3
theorem hu65 {A : Around} {k : Nat} (hr : Room k A) : A.units + 65 < cLine := by have := hr.un; omega
section
variable {X : Cx} {E : XP} {o e : Expr} {apos cpos : Pos} {a b : Den W} {k : Nat}
theorem de_indexD (hr : Room k X.A) (ha : PE X o (tE X.K E a)) (hb : PE X e (tE X.K E b)) (hs : starEach [e] X.env = (false, eval e X.env) :: starEach [] X.env := by rfl)
    (hd : ∀ to t, PE X o to → PA X [e] t → PE X (.Call (.Attribute o "index" apos) [e] [] cpos) (tBM X.K "list" (rIndexD X.K) to t) := by exact fun _ _ ho h => pe_bm PySem.F.plainAttrs_list PySem.F.slot_list_index PySem.F.type_list_index (mt_indexD (hu65 hr)) ho h) :
    PE X (.Call (.Attribute o "index" apos) [e] [] cpos) (tE X.K E (cIndexD a b)) :=
  pe_mono (hd _ _ ha (pa_cons hb pa_nil hs)) fun σ H Q ⟨δ, ρ, S, st, so, p⟩ => tG_then st so p fun x S1 v ρ1 H1 f1 st1 so1 r1 p1 => by
    by_cases hl : isLst x S1 = true
    · rw [if_pos hl] at p1
      have ty : tyV X.K "list" v H1 := by
        unfold isLst at hl
        cases q : rd S1 x with
        | none => simp only [q] at hl; cases hl
        | some d =>
          cases d with
          | lst ds =>
            obtain ⟨c, ys, rfl, hc, _⟩ := (rd_ok so1 r1 q).lstE
            exact .inl ⟨rfl, ys, SqL.of hc⟩
          | _ => simp only [q] at hl; cases hl
      exact ⟨ty, tG_then st1 so1 p1 fun y S2 u ρ2 H2 f2 st2 so2 r2 p2 => indexD_post so2 (f2.rw r1) r2 p2⟩
    · rw [if_neg hl] at p1; exact p1.elim
end

/-! ### enumerate(list) -/
def enumD : Nat → List D → List D
  | _, [] => []
  | i, d :: ds => .tup [.int i, d] :: enumD (i + 1) ds
theorem enumD_length : ∀ (ds : List D) (i : Nat), (enumD i ds).length = ds.length
  | [], _ => rfl
  | d :: ds, i => by
    show (enumD (i + 1) ds).length + 1 = ds.length + 1
    rw [enumD_length ds]
theorem enumD_get : ∀ (ds : List D) (i j : Nat) (d : D), (enumD j ds)[i]? = some d → ∃ e, ds[i]? = some e ∧ d = .tup [.int ((j + i : Nat) : Int), e]
  | [], i, j, d, h => by simp [enumD] at h
  | e :: ds, 0, j, d, h => by
    simp [enumD] at h
    exact ⟨e, rfl, by rw [← h]; rfl⟩
  | e :: ds, i + 1, j, d, h => by
    obtain ⟨z, h1, h2⟩ := enumD_get ds i (j + 1) d (by simpa [enumD] using h)
    exact ⟨z, by simpa using h1, by rw [h2]; congr 3; omega⟩
theorem jok_enum {K : PySem.W.Frag} {ρ : List Addr} {S : Sto} {H : Hp} {a : Addr} {xs : List V} {ds : List D} (h : H a = some (.lst xs)) (n : ¬ live ρ S a) (r : RpL K H (live ρ S) ds xs) : Jok K ρ S H (enumD 0 ds) (Ite K a) := fun i ρ' S' H' f so => by
  have sq : SqL K H' a xs := SqL.of (f.keep _ _ n h)
  have r' := f.rpL r
  refine ⟨fun d e => ?_, fun hl => ⟨xs, sq, by rw [← r.length]; rw [enumD_length] at hl; exact hl⟩⟩
  obtain ⟨e', he, rfl⟩ := enumD_get ds i 0 d e
  obtain ⟨v, hv, rv⟩ := r'.get i he
  refine ⟨⟨xs, v, sq, hv⟩, fun x H'' y => ?_⟩
  obtain ⟨T, u, rfl, nT, rfl, fx⟩ := y
  have ex : v = u := Option.some.inj (hv.symm.trans (fx xs sq))
  subst ex
  have fl : Fwd ρ' S' H' ρ' S' (upd H' T (.tup [.int (i : Nat), v])) := Fwd.laid so nT
  refine ⟨fl, so.laid nT, .tup (SqT.of upd_same) (.cons ?_ (.cons (fl.rp rv) .nil))⟩
  rw [Nat.zero_add]
  exact .int _
def asE (ws : List W) (S : Sto) : R (List D) := match ws with
  | [.v (.lst ds)] => .ok (enumD 0 ds) S
  | _ => .bad
def itE (a : Den (List W)) : Den (List D) := fun δ S => (a δ S).bind asE
theorem di_enum {X : Cx} {E : XP} {e : Expr} {p pos tpos : Pos} {elts : List Expr} {kk : Nat} {a : Den (List W)} (hm : X.mg "enumerate" = none) (h : PA X [e] (tA X.K E a)) (hg : Gl X "enumerate" := by rfl) (hs : starEach [e] X.env = [(false, eval e X.env)] := by rfl) :
    PI X (.Tuple elts kk tpos) (.Call (.Name "enumerate" p) [e] [] pos) (tI X.K E (itE a)) := pi_mono (pi_enum hg hm h hs) fun σ H Q ⟨δ, ρ, S, st, so, p⟩ => tG_then st so p fun ws S1 vs ρ1 H1 f1 st1 so1 r1 p1 => by
  unfold asE at p1
  split at p1
  · rename_i ds
    cases r1 with
    | cons a b =>
      cases b
      cases a with
      | lst e n rl => exact ⟨_, _, rfl, SqL.of e, p1 _ ρ1 H1 Fwd.refl so1 (jok_enum e n rl)⟩
  · exact p1.elim

/-! ### a op b op' c op'' d -/
def tChain3 (r r' r'' : R2) (ta tb tc td : TE) : TE := fun σ H Q => ta σ H fun x H1 => tb σ H1 fun y H2 => r x y H2 fun z H3 => ∃ k, z = .bl k ∧
  (if k = true then tc σ H3 fun w' H4 => r' y w' H4 fun z' H5 => ∃ k', z' = .bl k' ∧ (if k' = true then td σ H5 fun v' H6 => r'' w' v' H6 Q else Q (.bl false) H5) else Q (.bl false) H3)
section
variable {X : Cx} {a b c d : Expr} {pos : Pos} {ta tb tc td : TE}
theorem pe_chain3 {op op' op'' : CmpOp} {r r' r'' : R2} (ho : OpR X (compareOp op) r) (ho' : OpR X (compareOp op') r') (ho'' : OpR X (compareOp op'') r'') (ha : PE X a ta) (hb : PE X b tb) (hc : PE X c tc) (hd : PE X d td)
    (hm : lastMarks [op, op', op''] [b, c, d] = false := by with_unfolding_all rfl) : PE X (.Compare a [op, op', op''] [b, c, d] pos) (tChain3 r r' r'' ta tb tc td) := by
  refine ⟨fun pins s σ H Q I h => ?_⟩
  refine Compare_chain (thn (ha.run pins s σ H _ I h) fun v s1 ⟨x, H1, I1, r1, q1⟩ => chain_link (thn (hb.run pins s1 σ H1 _ I1 q1) fun u s2 ⟨y, H2, I2, r2, q2⟩ =>
    thn (ho pins s2 σ H2 x y v u _ I2 r1 r2 q2) fun d' s3 ⟨z, H3, I3, r3, k, e, q3⟩ => ?_)) hm
  subst e
  cases r3
  refine wpAny_truthy_bool ?_
  cases k with
  | false => exact ite_ff ⟨.bl false, H3, I3, rfl, q3⟩
  | true =>
    refine ite_tt (chain_link (thn (hc.run pins s3 σ H3 _ I3 q3) fun w' s4 ⟨z', H4, I4, r4, q4⟩ => thn (ho' pins s4 σ H4 y z' u w' _ I4 r2 r4 q4) fun d2 s5 ⟨z2, H5, I5, r5, k2, e2, q5⟩ => ?_))
    subst e2
    cases r5
    refine wpAny_truthy_bool ?_
    cases k2 with
    | false => exact ite_ff ⟨.bl false, H5, I5, rfl, q5⟩
    | true => exact ite_tt (chain_last (thn (hd.run pins s5 σ H5 _ I5 q5) fun w3 s6 ⟨z3, H6, I6, r6, q6⟩ => ho'' pins s6 σ H6 z' z3 w' w3 Q I6 r4 r6 q6))
theorem pt_chain3 {op op' op'' : CmpOp} {r r' r'' : R2} (ho : OpR X (compareOp op) r) (ho' : OpR X (compareOp op') r') (ho'' : OpR X (compareOp op'') r'') (ha : PE X a ta) (hb : PE X b tb) (hc : PE X c tc) (hd : PE X d td)
    (hm : lastMarks [op, op', op''] [b, c, d] = false := by with_unfolding_all rfl) : PT X (.Compare a [op, op', op''] [b, c, d] pos) (tTest (tChain3 r r' r'' ta tb tc td)) := by
  refine ⟨fun pins s σ H Q I h => ?_⟩
  refine isTrue_chain (thn (ha.run pins s σ H _ I h) fun v s1 ⟨x, H1, I1, r1, q1⟩ => test_link (thn (hb.run pins s1 σ H1 _ I1 q1) fun u s2 ⟨y, H2, I2, r2, q2⟩ =>
    thn (ho pins s2 σ H2 x y v u _ I2 r1 r2 q2) fun d' s3 ⟨z, H3, I3, r3, k, e, q3⟩ => ?_)) hm
  subst e
  cases r3
  refine wpAny_truthy_bool ?_
  cases k with
  | false =>
    obtain ⟨k', e', q'⟩ := q3
    cases e'
    exact ite_ff ⟨H3, I3, q'⟩
  | true =>
    refine ite_tt (test_link (thn (hc.run pins s3 σ H3 _ I3 q3) fun w' s4 ⟨z', H4, I4, r4, q4⟩ => thn (ho' pins s4 σ H4 y z' u w' _ I4 r2 r4 q4) fun d2 s5 ⟨z2, H5, I5, r5, k2, e2, q5⟩ => ?_))
    subst e2
    cases r5
    refine wpAny_truthy_bool ?_
    cases k2 with
    | false =>
      obtain ⟨k', e', q'⟩ := q5
      cases e'
      exact ite_ff ⟨H5, I5, q'⟩
    | true =>
      refine ite_tt (test_last (thn (hd.run pins s5 σ H5 _ I5 q5) fun w3 s6 ⟨z3, H6, I6, r6, q6⟩ => thn (ho'' pins s6 σ H6 z' z3 w' w3 _ I6 r4 r6 q6) fun d3 s7 ⟨z7, H7, I7, r7, k', e', q'⟩ => ?_))
      subst e'
      cases r7
      exact wpAny_truthy_bool ⟨H7, I7, q'⟩
end
section
variable {X : Cx} {E : XP} {e e' e'' e3 : Expr} {pos : Pos} {a b c d : Den W}
def cChain3 (g g' g'' : D → D → Option D) (a b c d : Den W) : Den W := fun δ S => (a δ S).bind fun x S1 => (b δ S1).bind fun y S2 => (ap2 g x y S2).bind fun z S3 => (asB z S3).bind fun k S4 => if k then
  ((c δ S4).bind fun u S5 => (ap2 g' y u S5).bind fun z' S6 => (asB z' S6).bind fun k' S7 => if k' then (d δ S7).bind fun q S8 => ap2 g'' u q S8 else .ok (.v (.bl false)) S7) else .ok (.v (.bl false)) S4
theorem chain3_then {r r' r'' : R2} {g g' g'' : D → D → Option D} (hg : G2 X.K r g) (hg' : G2 X.K r' g') (hg'' : G2 X.K r'' g'') {σ : L2.St} {H : Hp} {Q : VK} (h : tE X.K E (cChain3 g g' g'' a b c d) σ H Q) : tChain3 r r' r'' (tE X.K E a) (tE X.K E b) (tE X.K E c) (tE X.K E d) σ H Q := by
  obtain ⟨δ, ρ, S, st, so, p⟩ := h
  refine tG_then st so p fun w S1 x ρ1 H1 f1 st1 so1 r1 p1 => tG_then st1 so1 p1 fun u S2 y ρ2 H2 f2 st2 so2 r2 p2 => ?_
  have rx := f2.rw r1
  unfold ap2 at p2
  cases q1 : rd S2 w with
  | none => simp only [q1] at p2; exact p2.elim
  | some d =>
    cases q2 : rd S2 u with
    | none => simp only [q1, q2] at p2; exact p2.elim
    | some e =>
      cases q3 : g d e with
      | none => simp only [q1, q2, q3] at p2; exact p2.elim
      | some z =>
        simp only [q1, q2, q3, R.bind_ok] at p2
        refine hg ρ2 S2 H2 d e z x y _ so2 (rd_ok so2 rx q1) (rd_ok so2 r2 q2) q3 fun v H3 f3 so3 rp => ?_
        obtain ⟨k, rfl, p4⟩ := asB_then (w := .v z) rp (Post.later f3 p2)
        refine ⟨k, rfl, ?_⟩
        cases k with
        | false => rw [if_neg Bool.false_ne_true]; exact p4 _ ρ2 H3 Fwd.refl so3 (.bl false)
        | true =>
          rw [if_pos rfl]
          refine tG_then (f3.st st2) so3 p4 fun u2 S5 v5 ρ5 H5 f5 st5 so5 r5 p5 => ?_
          have ry := f5.rw (f3.rw r2)
          cases q4 : rd S5 u with
          | none => simp only [q4] at p5; exact p5.elim
          | some d5 =>
            cases q5 : rd S5 u2 with
            | none => simp only [q4, q5] at p5; exact p5.elim
            | some e5 =>
              cases q6 : g' d5 e5 with
              | none => simp only [q4, q5, q6] at p5; exact p5.elim
              | some z5 =>
                simp only [q4, q5, q6, R.bind_ok] at p5
                refine hg' ρ5 S5 H5 d5 e5 z5 y v5 _ so5 (rd_ok so5 ry q4) (rd_ok so5 r5 q5) q6 fun v6 H6 f6 so6 rp6 => ?_
                obtain ⟨k6, rfl, p7⟩ := asB_then (w := .v z5) rp6 (Post.later f6 p5)
                refine ⟨k6, rfl, ?_⟩
                cases k6 with
                | false => rw [if_neg Bool.false_ne_true]; exact p7 _ ρ5 H6 Fwd.refl so6 (.bl false)
                | true =>
                  rw [if_pos rfl]
                  exact tG_then (f6.st st5) so6 p7 fun u8 S8 v8 ρ8 H8 f8 st8 so8 r8 p8 => ap2_post hg'' so8 (f8.rw (f6.rw r5)) r8 p8
theorem de_chain3 {op op' op'' : CmpOp} {r r' r'' : R2} {g g' g'' : D → D → Option D} (ho : OpR X (compareOp op) r) (ho' : OpR X (compareOp op') r') (ho'' : OpR X (compareOp op'') r'') (hg : G2 X.K r g) (hg' : G2 X.K r' g') (hg'' : G2 X.K r'' g'') (ha : PE X e (tE X.K E a)) (hb : PE X e' (tE X.K E b)) (hc : PE X e'' (tE X.K E c)) (hd : PE X e3 (tE X.K E d))
    (hm : lastMarks [op, op', op''] [e', e'', e3] = false := by with_unfolding_all rfl) : PE X (.Compare e [op, op', op''] [e', e'', e3] pos) (tE X.K E (cChain3 g g' g'' a b c d)) := pe_mono (pe_chain3 ho ho' ho'' ha hb hc hd hm) fun σ H Q h => chain3_then hg hg' hg'' h
theorem dt_chain3 {op op' op'' : CmpOp} {r r' r'' : R2} {g g' g'' : D → D → Option D} (ho : OpR X (compareOp op) r) (ho' : OpR X (compareOp op') r') (ho'' : OpR X (compareOp op'') r'') (hg : G2 X.K r g) (hg' : G2 X.K r' g') (hg'' : G2 X.K r'' g'') (ha : PE X e (tE X.K E a)) (hb : PE X e' (tE X.K E b)) (hc : PE X e'' (tE X.K E c)) (hd : PE X e3 (tE X.K E d))
    (hm : lastMarks [op, op', op''] [e', e'', e3] = false := by with_unfolding_all rfl) : PT X (.Compare e [op, op', op''] [e', e'', e3] pos) (tT X.K E (cB (cChain3 g g' g'' a b c d))) := pt_mono (pt_chain3 ho ho' ho'' ha hb hc hd hm) fun σ H Q ⟨δ, ρ, S, st, so, p⟩ => chain3_then hg hg' hg'' (tG_then st so p fun w S1 v ρ1 H1 f1 st1 so1 r1 p1 => asB_post so1 r1 p1)
end
end Fro

namespace Fro
open PySem PySem.Spec L2 PyProof.Rows

/-! ### {(t, n): u, ..}.get((a, b), c) -/
abbrev TRow := List Key × V
def mergeT (kvs more : List TRow) : List TRow := more.foldl (fun acc kv => putK acc kv.1 kv.2) kvs
theorem length_mergeT : ∀ (more kvs : List TRow), (mergeT kvs more).length ≤ kvs.length + more.length
  | [], kvs => by show kvs.length ≤ kvs.length + 0; omega
  | p :: r, kvs => by
    have h1 := length_mergeT r (putK kvs p.1 p.2)
    have h2 := length_putK kvs p.1 p.2
    show (mergeT (putK kvs p.1 p.2) r).length ≤ _
    rw [List.length_cons]; omega
def tRow (k : List Key) : TE := fun _ H Q => ∀ T, H T = none → Q (.ref T) (upd H T (.tup (k.map kV)))
def tCon (v : V) : TE := fun _ H Q => Q v H
theorem rows_then {σ : L2.St} : ∀ (rows : List TRow) (H : Hp) (Q : List (V × V) → Hp → Prop),
    (∀ (H' : Hp) (kbs : List (List Key × Addr × V)), (∀ b o, H b = some o → H' b = some o) → kbs.map (fun x => (x.1, x.2.2)) = rows → (∀ x ∈ kbs, H' x.2.1 = some (.tup (x.1.map kV))) → Q (kbs.map fun x => (.ref x.2.1, x.2.2)) H') →
    tPairs (rows.map fun r => (tRow r.1, tCon r.2)) σ H Q
  | [], H, Q, h => h H [] (fun _ _ e => e) rfl (fun x hx => nomatch hx)
  | r :: rows, H, Q, h => by
    rw [List.map_cons]
    intro T nT
    show tPairs (rows.map fun r => (tRow r.1, tCon r.2)) σ (upd H T (.tup (r.1.map kV))) _
    refine rows_then rows _ _ fun H' kbs ext e all => h H' ((r.1, T, r.2) :: kbs) (fun b o eb => ext b o ?_) (by rw [List.map_cons, e]) (fun x hx => ?_)
    · rw [upd_ne fun z => by rw [z, nT] at eb; cases eb]
      exact eb
    · rcases List.mem_cons.mp hx with q | q
      · subst q; exact ext T _ upd_same
      · exact all x q
def tDispT (rows : List TRow) : TE := fun _ H Q => ∀ (p : Addr) (H' : Hp), H p = none → (∀ b o, H b = some o → H' b = some o) → H' p = some (.dT (mergeT [] rows)) → Q (.ref p) H'
theorem carriesT {P : Program} {w : World} {H : Hp} {h : Heap} (ok : HOk P w H h) : ∀ (kbs : List (List Key × Addr × V)) (ws : List (Value × Value)), VV (kbs.map fun x => (.ref x.2.1, x.2.2)) ws → (∀ x ∈ kbs, H x.2.1 = some (.tup (x.1.map kV))) →
    ∃ ps, CarriesH (tupleKind (mixKind P w)) h ws ps ∧ Paired (fun (x : List Key × Addr × V) (y : List Key × Addr × Value) => x.1 = y.1 ∧ x.2.1 = y.2.1 ∧ RelV x.2.2 y.2.2) kbs ps
  | [], _, r, _ => by rw [List.map_nil] at r; cases r; exact ⟨[], True.intro, .nil⟩
  | p :: kbs, _, r, all => by
    rw [List.map_cons] at r
    cases r with
    | @cons a b as bs h1 t =>
      obtain ⟨rs, c, q⟩ := carriesT ok kbs bs t fun x hx => all x (List.mem_cons_of_mem _ hx)
      obtain ⟨b1, b2⟩ := b
      have e1 : b1 = Value.ref p.2.1 := h1.1
      exact ⟨(p.1, p.2.1, b2) :: rs, ⟨e1, rfl, key_of ok (all p (List.mem_cons_self ..)), c⟩, .cons ⟨rfl, rfl, h1.2⟩ q⟩
theorem KT_merge {H : Hp} : ∀ {kbs : List (List Key × Addr × V)} {ps : List (List Key × Addr × Value)}, Paired (fun (x : List Key × Addr × V) (y : List Key × Addr × Value) => x.1 = y.1 ∧ x.2.1 = y.2.1 ∧ RelV x.2.2 y.2.2) kbs ps → (∀ x ∈ kbs, H x.2.1 = some (.tup (x.1.map kV))) →
    ∀ {kvs : List TRow} {xs : List (List Key × Addr × Value)}, KT H kvs xs → KT H (mergeT kvs (kbs.map fun x => (x.1, x.2.2))) (storedAllH xs ps) := by
  intro kbs ps r
  induction r with
  | nil => intro _ kvs xs q; exact q
  | @cons p q ps qs h t ih =>
    intro all kvs xs r0
    obtain ⟨h1, h2, h3⟩ := h
    have hb := all p (List.mem_cons_self ..)
    have e := r0.put p.1 hb h3
    have := ih (fun x hx => all x (List.mem_cons_of_mem _ hx)) e
    rw [List.map_cons]
    show KT H (mergeT (putK kvs p.1 p.2.2) _) (storedAllH (storedH xs q.1 q.2.1 q.2.2) qs)
    rw [← h1, ← h2]
    exact this
section
variable {X : Cx} {pos : Pos}
theorem pe_dispT {keys : List (Option Expr)} {values : List Expr} {rows : List TRow} (hu : X.A.units + 1 < cLine) (h : PPs X pos keys values (rows.map fun r => (tRow r.1, tCon r.2))) (hall : keys.all (·.isSome) = true := by rfl) (hl : keys.length = values.length := by rfl) (h0 : keys ≠ [] := by exact fun z => nomatch z)
    (h15 : keys.length ≤ 15 := by decide) (hr : rows.length ≤ 15 := by decide) : PE X (.Dict keys values pos) (tDispT rows) := by
  refine ⟨fun pins s σ H Q I q => ?_⟩
  have hn := I.hok.fresh (Nat.le_refl s.heap.objs.size)
  have I1 := I.laid (a := s.heap.objs.size) (o := .dT []) (h' := s.heap.push { cls := .type "dict", data := .dict #[] }) (t' := s.toks) (fun _ _ q => Heap.get?_push_of_some _ q) (Nat.le_refl _) (dt_empty s.heap I.big)
  have hlen := pairTrees_length keys values X.env pos hall hl
  have h0' : pairTrees keys values X.env pos ≠ [] := fun he => by
    rw [he] at hlen
    exact h0 (List.length_eq_zero_iff.mp hlen.symm)
  rw [arm_eval_Dict, zip_pairTrees keys values X.env pos hall hl, dictDisplay_pairs _ h0' (by omega)]
  refine wpAny_bind (wpAny_standAt (wpAny_bind (wpAny_subDictH (knd := tupleKind (mixKind X.prog X.w)) (show (tupleKind (mixKind X.prog X.w)).room X.A from Nat.lt_of_succ_lt hu) (by omega) (thn (h.run pins _ σ _ _ I1 (rows_then rows _ (fun ps H2 => ∃ kbs : List (List Key × Addr × V), ps = kbs.map (fun x => (.ref x.2.1, x.2.2)) ∧ (∀ b o, upd H s.heap.objs.size (.dT []) b = some o → H2 b = some o) ∧ kbs.map (fun x => (x.1, x.2.2)) = rows ∧ ∀ x ∈ kbs, H2 x.2.1 = some (.tup (x.1.map kV))) fun H' kbs ext e all => ⟨kbs, rfl, ext, e, all⟩)) fun ws s2 ⟨ps, H2, I2, rel, kbs, ep, ext, er, all⟩ => ?_))))
  subst ep
  subst er
  obtain ⟨rs, c, pr⟩ := carriesT I2.hok kbs ws rel all
  have e : H2 s.heap.objs.size = some (.dT []) := ext _ _ upd_same
  obtain ⟨z, hd, vs0, r0, dd⟩ := dt_of I2.hok e
  cases r0
  refine ⟨rs, c, dd, fun h' tk dd' hs => wpAny_pure ⟨.ref s.heap.objs.size, upd H2 s.heap.objs.size (.dT (mergeT [] (kbs.map fun x => (x.1, x.2.2)))), ?_, rfl, q _ _ hn (fun b o eb => ?_) upd_same⟩⟩
  · have hz : (mergeT [] (kbs.map fun x => (x.1, x.2.2))).length ≤ sizeLine := by
      have h1 := length_mergeT (kbs.map fun x => (x.1, x.2.2)) []
      rw [List.length_nil] at h1
      rw [sizeLine_eq]; omega
    obtain ⟨oq, es, ep, hq, h2, h3, h4, _, h5⟩ := dd'
    refine d_write I2 (by rw [e]; exact True.intro) hs ⟨oq, hq⟩ ⟨hz, hd, _, (KT_merge pr all .nil).keeps fun c ys ec => ?_, oq, es, ep, hq, h2, h3, h4, h5⟩
    rw [upd_ne (ne_of ec e (fun z => nomatch z))]
    exact ec
  · have nb : b ≠ s.heap.objs.size := fun z => by rw [z, hn] at eb; cases eb
    rw [upd_ne nb]
    exact ext b o (by rw [upd_ne nb]; exact eb)
end
end Fro

namespace Fro
open PySem PySem.Spec L2 PyProof.Rows

abbrev TI2 := (Tx × Int) × Tx
def lkTI (rows : List TI2) (t : Tx) (i : Int) (r0 : Option Tx) : Option Tx := rows.foldl (fun r row => if row.1.1 = t ∧ row.1.2 = i then some row.2 else r) r0
def rowT (r : TI2) : TRow := ([Sum.inr (sx r.1.1), Sum.inl r.1.2], .str (sx r.2))
theorem val_rows (t : Tx) (i : Int) : ∀ (rows : List TI2) (kvs : List TRow) (r0 : Option Tx), valV kvs [Sum.inr (sx t), Sum.inl i] = r0.map (fun u => V.str (sx u)) →
    valV (mergeT kvs (rows.map rowT)) [Sum.inr (sx t), Sum.inl i] = (lkTI rows t i r0).map fun u => V.str (sx u)
  | [], kvs, r0, h => h
  | r :: rows, kvs, r0, h => by
    rw [List.map_cons]
    show valV (mergeT (putK kvs (rowT r).1 (rowT r).2) (rows.map rowT)) _ = (lkTI rows t i (if r.1.1 = t ∧ r.1.2 = i then some r.2 else r0)).map _
    refine val_rows t i rows _ _ ?_
    rw [valV_put]
    by_cases e : r.1.1 = t ∧ r.1.2 = i
    · rw [if_pos e, if_pos (by unfold rowT; rw [e.1, e.2])]
      rfl
    · rw [if_neg e, if_neg fun z => e ?_]
      · exact h
      · unfold rowT at z
        injection z with z1 z2
        injection z2 with z2 z3
        injection z1 with z1
        injection z2 with z2
        exact ⟨(sx_inj z1).symm, z2.symm⟩
def apTGet (rows : List TI2) (ys : List W) (z : W) (S : Sto) : R W := match ys with
  | [.v (.str t), .v (.int i)] => (match lkTI rows t i none with
    | some u => .ok (.v (.str u)) S
    | none => .ok z S)
  | _ => .bad
def cTGet (rows : List TI2) (a : Den (List W)) (c : Den W) : Den W := fun δ S => (a δ S).bind fun ys S1 => if ys.length ≤ 1000 then (c δ S1).bind fun z S2 => apTGet rows ys z S2 else .bad
section
variable {X : Cx} {E : XP} {k : Nat} {o f : Expr} {es : List Expr} {n : Nat} {tp apos cpos pos : Pos} {a : Den (List W)} {c : Den W} {rows : List TI2}
theorem de_tget (hr : Room k X.A) (hd : PE X o (tDispT (rows.map rowT))) (ha : PA X es (tA X.K E a)) (hf : PE X f (tE X.K E c)) (ht : ∀ t, PA X es t → PE X (.Tuple es n tp) (tTup t) := by exact fun _ h => pe_tup h) (m : M2 X o "get" apos (.Tuple es n tp) f cpos := by exact ⟨rfl, rfl, rfl, rfl⟩) :
    PE X (.Call (.Attribute o "get" apos) [.Tuple es n tp, f] [] cpos) (tE X.K E (cTGet rows a c)) :=
  pe_mono (pe_dget2 (hu1 hr) hd (ht _ ha) hf m) fun σ H Q ⟨δ, ρ, S, st, so, p⟩ => fun pp H' np ext ed => by
    have f0 : Fwd ρ S H ρ S H' := Fwd.ofExt ext
    have so' : Sok X.K ρ S H' := so.fwd f0 fun a l => by
      rcases so.has l with ⟨xs, e⟩ | ⟨xs, e⟩
      · rw [e]; exact ext _ _ e
      · rw [e]; exact ext _ _ e
    have nl : ¬ live ρ S pp := so.notNone np
    refine ⟨pp, rfl, .inr ⟨_, .inl ed⟩, tG_then (f0.st st) so' (Post.later f0 p) fun ys S1 vs ρ1 H1 f1 st1 so1 r1 p1 => ?_⟩
    by_cases hl : ys.length ≤ 1000
    · rw [if_pos hl] at p1
      refine ⟨by rw [← r1.length]; exact le1000 hl, fun T nT => ?_⟩
      have fT : Fwd ρ1 S1 H1 ρ1 S1 (upd H1 T (.tup vs)) := Fwd.laid so1 nT
      refine tG_then (fT.st st1) (so1.laid nT) (Post.later fT p1) fun z S2 v ρ2 H2 f2 st2 so2 r2 p2 => ?_
      have e1 : H1 pp = some (.dT (mergeT [] (rows.map rowT))) := f1.keep _ _ nl ed
      have nl1 : ¬ live ρ1 S1 pp := fun l => by
        rcases f1.new pp l with q | q
        · exact nl q
        · rw [ed] at q; cases q
      have e2 : H2 pp = some (.dT (mergeT [] (rows.map rowT))) := f2.keep _ _ nl1 (by rw [upd_ne fun z => by rw [z, nT] at e1; cases e1]; exact e1)
      have eT : H2 T = some (.tup vs) := f2.tups T _ upd_same
      unfold apTGet at p2
      split at p2
      · rename_i t i
        cases r1 with
        | cons h1 h2 =>
          cases h2 with
          | cons h3 h4 =>
            cases h4
            cases h1
            cases h3
            have ev := val_rows t i rows [] none rfl
            refine ⟨_, .inr ⟨_, [Sum.inr (sx t), Sum.inl i], T, .inl e2, rfl, eT, rfl⟩, ?_⟩
            rw [ev]
            cases q : lkTI rows t i none with
            | none => rw [q] at p2; exact p2 v ρ2 H2 Fwd.refl so2 r2
            | some u => rw [q] at p2; exact p2 (.str (sx u)) ρ2 H2 Fwd.refl so2 (.str u)
      · exact p2.elim
    · rw [if_neg hl] at p1; exact p1.elim
theorem dr_nil : PPs X pos [] [] ((([] : List TI2).map rowT).map fun r => (tRow r.1, tCon r.2)) := pps_nil
theorem dr_cons (t : Tx) (i : Int) (u : Tx) {x y : Str} {j1 j2 j3 : Nat} {p1 p2 p3 : Pos} {ks : List (Option Expr)} {vs : List Expr} (hr : PPs X pos ks vs ((rows.map rowT).map fun r => (tRow r.1, tCon r.2))) (h1 : x = sx t := by decide +kernel) (h2 : y = sx u := by decide +kernel) :
    PPs X pos (some (.Tuple [.Constant (.str x) j1 p1, .Constant (.int i) j2 p2] n tp) :: ks) (.Constant (.str y) j3 p3 :: vs) (((((t, i), u) :: rows).map rowT).map fun r => (tRow r.1, tCon r.2)) := by
  subst h1 h2
  refine pps_cons (pe_mono (pe_tup (pa_cons pe_str (pa_cons pe_int pa_nil rfl) rfl)) fun σ H Q h => ?_) (pe_mono pe_str fun σ H Q h => ?_) hr
  · exact ⟨by show 2 ≤ sizeLine; decide, h⟩
  · exact h
end
end Fro

/-! Fro: name = [.. for .. for ..], d[k] = v, dict(rows), dict(d), sorted(list of texts) -/
namespace Fro
open PySem PySem.Spec L2
section
variable {X : Cx} {E : XP}
theorem asg_comp2 {g g1 : TG} {dg dg1 : DenG} {ts ts1 vs vs1 : List Nat} {it it1 : Den (List D)} {tt tt1 : Den Bool} {te : Den W} (i : Nat) (hgo : GOk X.K g dg ts) (hts : ∀ j ∈ ts, j ∈ vs) (hgo1 : GOk X.K g1 dg1 ts1) (hts1 : ∀ j ∈ ts1, j ∈ vs1) {D' : Ends} {σ : L2.St} {H : Hp}
    (h : tS X.K E (cAsg (cComp2 it dg tt it1 dg1 tt1 te vs vs1) (gN i)) D' σ H) : tAsg (tLc2 (tI X.K E it) g (tT X.K XP0 tt) (tI X.K XP0 it1) g1 (tT X.K XP0 tt1) (tE X.K XP0 te) vs vs1) (gName i) D' σ H := by
  have hm : ∀ {den : Den W}, tS X.K E (cAsg den (gN i)) D' σ H → tE X.K E den σ H fun x H1 => gName i x σ H1 D'.nx := fun {den} ⟨δ, ρ, S, st, so, p⟩ => tG_thenS st so p fun w S1 v ρ1 H1 f1 st1 so1 r1 p1 => asg_post (gok_name i) st1 so1 r1 p1
  exact comp2_post hgo hts hgo1 hts1 (hm h)
theorem ds_setComp2 (i : Nat) {y : Str} {py : Pos} {elt tg iter tg1 iter1 : Expr} {ifs ifs1 : List Expr} {scope : Scope} {own : List (Str × Nat)} {pos spos : Pos} {it it1 : Den (List D)} {g g1 : TG} {dg dg1 : DenG} {ts ts1 vs1 : List Nat} {tt tt1 : Den Bool} {te : Den W} (hc : X.calm = true) (hN : X.N.Nodup) (hi : PI X tg iter (tI X.K E it)) (hgo : GOk X.K g dg ts) (hgo1 : GOk X.K g1 dg1 ts1) (ok : blkC X.N X.env.scope scope own = true)
    (hg : ∀ (s : Shared) (H : Hp) (C : Addr) (cl : List (Str × Addr)) (fp : List Addr), PG (X.blk s H scope (compEnvC scope cl C X.env) fp) tg g) (ht : ∀ (s : Shared) (H : Hp) (C : Addr) (cl : List (Str × Addr)) (fp : List Addr), PTs (X.blk s H scope (compEnvC scope cl C X.env) fp) ifs (tT X.K XP0 tt))
    (hi1 : ∀ (s : Shared) (H : Hp) (C : Addr) (cl : List (Str × Addr)) (fp : List Addr), PI (X.blk s H scope (compEnvC scope cl C X.env) fp) tg1 iter1 (tI X.K XP0 it1))
    (hg1 : ∀ (s : Shared) (H : Hp) (C : Addr) (cl : List (Str × Addr)) (fp : List Addr), PG (X.blk s H scope (compEnvC scope cl C X.env) fp) tg1 g1) (ht1 : ∀ (s : Shared) (H : Hp) (C : Addr) (cl : List (Str × Addr)) (fp : List Addr), PTs (X.blk s H scope (compEnvC scope cl C X.env) fp) ifs1 (tT X.K XP0 tt1))
    (he : ∀ (s : Shared) (H : Hp) (C : Addr) (cl : List (Str × Addr)) (fp : List Addr), PE (X.blk s H scope (compEnvC scope cl C X.env) fp) elt (tE X.K XP0 te)) (hs : ∀ x, foldedSetIterable iter X.env x = pure x := by intro _; rfl) (hs1 : ∀ env x, foldedSetIterable iter1 env x = pure x := by intro _ _; rfl) (hts : ∀ j ∈ ts, j ∈ own.map (·.2) := by decide) (hts1 : ∀ j ∈ ts1, j ∈ vs1 := by decide) (hv : ∀ i ∈ vs1, i ∈ own.map (·.2) := by decide)
    (hy : X.N[i]? = some y := by rfl) (hyl : X.env.scope.names.lookup y = some .local := by rfl) (hsw : swapsWith (.ListComp elt [⟨tg, iter, ifs, 0⟩, ⟨tg1, iter1, ifs1, 0⟩] scope pos) (some (.Name y py)) spos.line X.env = pure true := by exact sw_true rfl rfl rfl (by decide +kernel)) :
    PS X (.Assign [.Name y py] (.ListComp elt [⟨tg, iter, ifs, 0⟩, ⟨tg1, iter1, ifs1, 0⟩] scope pos) spos) (tS X.K E (cAsg (cComp2 it dg tt it1 dg1 tt1 te (own.map (·.2)) vs1) (gN i))) :=
  ps_mono (ps_setLc2 hc hN hy hyl hsw hi (blkOk_by ok) hv hg ht hi1 hg1 ht1 he hs hs1) fun D' σ H h => asg_comp2 i hgo hts hgo1 hts1 h
end

/-! ### d[k] = v -/
def isRD (x : W) (S : Sto) : Option (Nat × List (Tx × D)) := match x with
  | .r i => (match S[i]? with
    | some (.dct es) => some (i, es)
    | _ => none)
  | _ => none
theorem isRD_ok {K : PySem.W.Frag} {ρ : List Addr} {S : Sto} {H : Hp} {w : W} {v : V} {i : Nat} {es : List (Tx × D)} (so : Sok K ρ S H) (r : RpW K ρ S H w v) (e : isRD w S = some (i, es)) : ∃ a kvs, w = .r i ∧ v = .ref a ∧ ρ[i]? = some a ∧ S[i]? = some (.dct es) ∧ H a = some (.dK kvs) ∧ RpE K H (live ρ S) es kvs := by
  unfold isRD at e
  cases w with
  | r j =>
    simp only at e
    obtain ⟨a, rfl, ea⟩ := r
    cases q : S[j]? with
    | none => rw [q] at e; cases e
    | some ob =>
      rw [q] at e
      cases ob with
      | dct es' =>
        cases e
        obtain ⟨kvs, e1, e2⟩ := so.obs _ _ _ ea q
        exact ⟨a, kvs, rfl, rfl, ea, q, e1, e2⟩
      | lst _ => cases e
      | dead => cases e
  | _ => cases e
def gSubE (a b : Den W) : DenG := fun w δ S => match a δ S with
  | .ok x S1 => (match b δ S1 with
    | .ok (.v (.str t)) S2 => (match isRD x S2, toD w with
      | some (i, es), some d => if es.length < 1000 then some (δ, S2.set i (.dct (putE es t d))) else none
      | _, _ => none)
    | _ => none)
  | _ => none
theorem gok_subE {K : PySem.W.Frag} {a b : Den W} : GOk K (L2.gSub (tE K XP0 a) (tE K XP0 b) L2.rSetD) (gSubE a b) [] := fun ρ S H δ σ w v Q δ' S' st so r e h => by
  unfold gSubE at e
  cases qa : a δ S with
  | bad => simp only [qa] at e; cases e
  | exc c cs S1 => simp only [qa] at e; cases e
  | ok x S1 =>
    simp only [qa] at e
    refine ⟨δ, ρ, S, st, so, ?_⟩
    rw [qa]
    intro o ρ1 H1 f1 so1 r1
    cases qb : b δ S1 with
    | bad => simp only [qb] at e; cases e
    | exc c cs S2 => simp only [qb] at e; cases e
    | ok y S2 =>
      refine ⟨δ, ρ1, S1, f1.st st, so1, ?_⟩
      rw [qb]
      intro iv ρ2 H2 f2 so2 r2
      cases y with
      | v dk =>
        cases dk with
        | str t =>
          simp only [qb] at e
          cases q1 : isRD x S2 with
          | none => simp only [q1] at e; cases e
          | some z =>
            obtain ⟨i, es⟩ := z
            cases q2 : toD w with
            | none => simp only [q1, q2] at e; cases e
            | some d =>
              simp only [q1, q2] at e
              split at e
              · rename_i hl
                cases e
                cases r2
                obtain ⟨c, kvs, rfl, rfl, ea, es', ex, rl⟩ := isRD_ok so2 (f2.rw r1) q1
                refine ⟨c, _, rfl, DPut.k (k := Sum.inr (sx t)) ex (by rw [← rpE_len rl]; exact Nat.lt_trans hl (by decide +kernel)), ?_⟩
                have fc : Fwd ρ2 S2 H2 ρ2 (S2.set i (.dct (putE es t d))) (upd H2 c (.dK (putK kvs (Sum.inr (sx t)) v))) := Fwd.changed so2 ea es' rfl
                have f12 := f1.trans f2
                have rv := toD_rp (f12.rw r) q2
                exact h σ ρ2 _ (f12.trans fc) (so2.changed ea es' rfl ⟨_, upd_same, fc.rpE (rpE_put t rl rv)⟩) ((f12.trans fc).st st) rfl fun _ _ => rfl
              · cases e
        | _ => simp only [qb] at e; cases e
      | _ => simp only [qb] at e; cases e

/-! ### dicts made of rows, of another one -/
section
variable {K : PySem.W.Frag} {ρ : List Addr} {S : Sto} {H : Hp} {Q : VK}
theorem nxt_dct {es : List (Tx × D)} {kvs : List (Key × V)} (so : Sok K ρ S H) (r : RpE K H (live ρ S) es kvs) (n : Nxt K ρ S H (.dct es) Q) (p : Addr) (np : H p = none) : Q (.ref p) (upd H p (.dK kvs)) :=
  n _ _ (Fwd.laid so np) (so.laid np) (.dct (.inl upd_same) (so.notNone np) ((Fwd.laid so np).rpE r))
end
def pairsOf : List D → Option (List (Tx × D))
  | [] => some []
  | .tup [.str t, e] :: r => (pairsOf r).map fun es => (t, e) :: es
  | _ => none
theorem pairsOf_rp {K : PySem.W.Frag} {H : Hp} {M : Addr → Prop} : ∀ {ds : List D} {es : List (Tx × D)} {xs : List V}, pairsOf ds = some es → RpL K H M ds xs → ∃ (ps : List Addr) (kvs : List (Key × V)), xs = ps.map V.ref ∧ Paired (fun p kv => SqT K H p [kV kv.1, kv.2]) ps kvs ∧ RpE K H M es kvs := by
  intro ds
  induction ds with
  | nil =>
    intro es xs e r
    cases e; cases r
    exact ⟨[], [], rfl, .nil, .nil⟩
  | cons d ds ih =>
    intro es xs e r
    unfold pairsOf at e
    split at e
    · rename_i q; cases q
    · rename_i t e' r' q
      cases q
      cases r with
      | cons r1 r2 =>
        cases q2 : pairsOf ds with
        | none => rw [q2] at e; cases e
        | some es' =>
          rw [q2] at e
          cases e
          obtain ⟨ps, kvs, rfl, h1, h2⟩ := ih q2 r2
          cases r1 with
          | tup a b =>
            cases b with
            | cons b1 b2 =>
              cases b2 with
              | cons b2 b3 =>
                cases b3
                cases b1
                exact ⟨_ :: ps, (Sum.inr (sx t), _) :: kvs, rfl, .cons a h1, .cons b2 h2⟩
    · cases e
def gDictP : List D → Option D := fun ds => match ds with
  | [.lst ds] => (pairsOf ds).map fun es => .dct (mergeE [] es)
  | _ => none
theorem gn_dictP {K : PySem.W.Frag} : GN K (fun xs H Q => ∃ (a : Addr) (ps : List Addr) (kvs : List (Key × V)), xs = [.ref a] ∧ SqL K H a (ps.map V.ref) ∧ Paired (fun p kv => SqT K H p [kV kv.1, kv.2]) ps kvs ∧
    ∀ p, H p = none → Q (.ref p) (upd H p (.dK (mergeK [] kvs)))) gDictP := fun ρ S H ds z xs Q so rx q n => by
  unfold gDictP at q
  split at q
  · rename_i ds
    cases rx with
    | cons r rr =>
      cases rr
      cases q2 : pairsOf ds with
      | none => rw [q2] at q; cases q
      | some es =>
        rw [q2] at q
        cases q
        obtain ⟨a, ys, rfl, ha, ra⟩ := r.lstE
        obtain ⟨ps, kvs, rfl, h1, h2⟩ := pairsOf_rp q2 ra
        exact ⟨a, ps, kvs, rfl, SqL.of ha, h1, nxt_dct so (rpE_merge h2 .nil) n⟩
  · cases q
def gDictD : List D → Option D := fun ds => match ds with
  | [.dct es] => some (.dct es)
  | _ => none
theorem gn_dictD {K : PySem.W.Frag} : GN K (fun xs H Q => ∃ (a : Addr) (kvs : List (Key × V)), xs = [.ref a] ∧ Rd H a (.dK kvs) ∧ ∀ p, H p = none → Q (.ref p) (upd H p (.dK kvs))) gDictD := fun ρ S H ds z xs Q so rx q n => by
  unfold gDictD at q
  split at q
  · rename_i es
    cases rx with
    | cons r rr =>
      cases rr
      cases q
      obtain ⟨a, ys, rfl, ha, ra⟩ := r.dctE
      exact ⟨a, ys, rfl, ha, nxt_dct so ra n⟩
  · cases q
/-- dict(d), a new dict that is changed later -/
def apDictM (ws : List W) (S : Sto) : R W := match ws with
  | [w] => (match rd S w with
    | some (.dct es) => .ok (.r S.length) (S ++ [.dct es])
    | _ => .bad)
  | _ => .bad
def cDictM (a : Den (List W)) : Den W := fun δ S => (a δ S).bind fun ws S1 => apDictM ws S1
theorem de_dictM {X : Cx} {E : XP} {p pos : Pos} {e : Expr} {a : Den (List W)} (hm : X.mg "dict" = none) (ha : PA X [e] (tA X.K E a)) (hgl : Gl X "dict" := by rfl) (he : starEach [e] X.env = (false, eval e X.env) :: starEach [] X.env := by rfl) (hpl : (backTo pos (starEach [] X.env)).any (·.1) = false := by rfl) : PE X (.Call (.Name "dict" p) [e] [] pos) (tE X.K E (cDictM a)) :=
  pe_mono (pe_callTy call_dictD hgl hm (by decide +kernel) ha (by decide) (by decide) he hpl) fun σ H Q ⟨δ, ρ, S, st, so, p⟩ => tG_then st so p fun ws S1 xs ρ1 H1 f1 st1 so1 r1 p1 => by
    unfold apDictM at p1
    split at p1
    · cases r1 with
      | cons r rr =>
        cases rr
        split at p1
        · rename_i es q
          obtain ⟨c, ys, rfl, hc, rc⟩ := (rd_ok so1 r q).dctE
          refine ⟨c, ys, rfl, hc, fun d hd => p1 (.ref d) (ρ1 ++ [d]) _ (Fwd.grown so1 hd _) (so1.grown hd _ ⟨ys, upd_same, (Fwd.grown so1 hd _).rpE rc⟩) ⟨d, rfl, by rw [← so1.len]; simp⟩⟩
        · exact p1.elim
    · exact p1.elim
/-! ### sorted(list of texts) -/
def textsOf : List D → Option (List Tx)
  | [] => some []
  | .str t :: r => (textsOf r).map fun ts => t :: ts
  | _ => none
theorem textsOf_rp {K : PySem.W.Frag} {H : Hp} {M : Addr → Prop} : ∀ {ds : List D} {ts : List Tx} {xs : List V}, textsOf ds = some ts → RpL K H M ds xs → xs = (ts.map sx).map V.str := by
  intro ds
  induction ds with
  | nil =>
    intro es xs e r
    cases e; cases r
    rfl
  | cons d ds ih =>
    intro es xs e r
    unfold textsOf at e
    split at e
    · rename_i q; cases q
    · rename_i t r' q
      cases q
      cases r with
      | cons r1 r2 =>
        cases q2 : textsOf ds with
        | none => rw [q2] at e; cases e
        | some es' =>
          rw [q2] at e
          cases e
          cases r1
          rw [ih q2 r2]
          rfl
    · cases e
def gSortL : List D → Option D := fun ds => match ds with
  | [.lst ds] => (match textsOf ds with
    | some ts => if ts.length < 64 then some (.lst ((srtT ts).map D.str)) else none
    | none => none)
  | _ => none
theorem gn_sortL {K : PySem.W.Frag} : GN K (rSortedS K) gSortL := fun ρ S H ds z xs Q so rx q n => by
  unfold gSortL at q
  split at q
  · rename_i ds
    cases rx with
    | cons r rr =>
      cases rr
      cases q2 : textsOf ds with
      | none => rw [q2] at q; cases q
      | some ts =>
        rw [q2] at q
        simp only at q
        split at q
        · rename_i hl
          cases q
          obtain ⟨a, ys, rfl, ha, ra⟩ := r.lstE
          have e := textsOf_rp q2 ra
          subst e
          refine ⟨a, ts.map sx, rfl, SqL.of ha, by rw [List.length_map]; exact hl, fun ys p hp hs np => ?_⟩
          rw [sorted_is hp hs]
          exact nxt_lst so (rpL_strs (srtT ts)) n p np
        · cases q
  · cases q
end Fro

namespace FroZ
open PySem PySem.Calls PyProof.Rows PySem.Spec L2
theorem vals_at : ∀ {xs : List V} {us : List Value}, Vals xs us → ∀ {i : Nat} {u : Value}, us[i]? = some u → ∃ x, xs[i]? = some x ∧ RelV x u
  | _, _, .nil, i, u, e => by simp at e
  | _, _, .cons a b, 0, u, e => by simp at e; subst e; exact ⟨_, rfl, a⟩
  | _, _, .cons a b, i + 1, u, e => by
    obtain ⟨x, h1, h2⟩ := vals_at b (by simpa using e)
    exact ⟨x, by simpa using h1, h2⟩
theorem kv_zip : ∀ {ks : List Key} {ys : List V} {us : List Value}, Vals ys us → KV (ks.zip ys) (ks.zip us)
  | [], ys, us, h => by simp only [List.zip_nil_left]; exact .nil
  | k :: ks, _, _, .nil => by simp only [List.zip_nil_right]; exact .nil
  | k :: ks, _, _, .cons a b => by
    rw [List.zip_cons_cons, List.zip_cons_cons]
    exact .cons ⟨rfl, a⟩ (kv_zip b)
section
variable {X : Cx}
def rDictZip (K : PySem.W.Frag) : List V → Hp → VK → Prop := fun args H Q => ∃ (l t : Addr) (ks : List Key) (ys : List V), args = [.ref l, .ref t] ∧ SqL K H l (ks.map kV) ∧ SqL K H t ys ∧
  ∀ p, H p = none → Q (.ref p) (upd H p (.dK (mergeK [] (ks.zip ys))))
def tDictZip (K : PySem.W.Frag) (ta : TA) : TE := fun σ H Q => ta σ H fun args H1 => rDictZip K args H1 Q
/-- dict(zip(a, b)) of lists -/
theorem pe_dictZip {a b : Expr} {ta : TA} {p p2 cpos pos : Pos} (hc : X.calm = true) (ha : PA X [a, b] ta) (hg : Gl X "dict") (hm : X.mg "dict" = none) (hv : bootBuiltins "dict" = some (.type "dict")) (hgz : Gl X "zip") (hmz : X.mg "zip" = none)
    (hs : starEach [.Call (.Name "zip" p2) [a, b] [] cpos] X.env = (false, eval (.Call (.Name "zip" p2) [a, b] [] cpos) X.env) :: starEach [] X.env := by rfl) (hs2 : starEach [a, b] X.env = (false, eval a X.env) :: starEach [b] X.env := by rfl) (hpl : (backTo cpos (starEach [b] X.env)).any (·.1) = false := by rfl) :
    PE X (.Call (.Name "dict" p) [.Call (.Name "zip" p2) [a, b] [] cpos] [] pos) (tDictZip X.K ta) := by
  refine ⟨fun pins s σ H Q I hq => ?_⟩
  refine wpAny_Call_Name_kw (ld_blt I hg hm hv ?_)
  refine PyProof.Rows.callWith_type1 ?_ hs rfl
  rw [hs]
  show wpAny _ _ (spliced ((false, eval (.Call (.Name "zip" p2) [a, b] [] cpos) X.env) :: backTo pos (starEach [] X.env))) _ _ s
  refine Calls.spliced_cons ?_
  refine Call_ (ld_blt I hgz hmz PyProof.Rows.boot_zip (PyProof.Rows.callWith_type1 (thn (ha.run cpos pins s σ H _ I hq) fun us s1 ⟨vs, H1, I1, r1, q1⟩ => ?_) hs2 hpl))
  obtain ⟨l, t, ks, ys, ev, hl, ht, q⟩ := q1
  subst ev
  cases r1 with
  | cons ra rb =>
    cases rb with
    | cons rb rc =>
      cases rc
      cases ra
      cases rb
      obtain ⟨its, vx, ⟨ol, nl, e1, e2, _, e3⟩, zx⟩ := I1.list hl
      obtain ⟨its2, vy, ⟨ol2, nl2, d1, d2, _, d3⟩, zy⟩ := I1.list ht
      have hL : s1.heap.IsList l its.toArray := ⟨ol, e1, e2, nl, e3⟩
      have hT : s1.heap.IsList t its2.toArray := ⟨ol2, d1, d2, nl2, d3⟩
      have ltl : l < s1.heap.objs.size := Heap.lt_size e1
      have ltt : t < s1.heap.objs.size := Heap.lt_size d1
      refine call_zip_2 hL hT fun h2 hz hTI hTO it1 it2 hsz hk2 => ?_
      refine Calls.spliced_nil ?_
      have hd := I1.ok.hd hc
      have ne : ∀ i j : Nat, i ≠ j → (s1.heap.objs.size + i : Nat) ≠ s1.heap.objs.size + j := fun i j h => by omega
      have lN : ∀ {b : Nat}, b < s1.heap.objs.size → ∀ i : Nat, b ≠ s1.heap.objs.size + i := fun {b} h i => by omega
      have hL3 : h2.IsList l its.toArray := ⟨ol, hk2 _ _ e1, e2, nl, e3⟩
      have hT3 : h2.IsList t its2.toArray := ⟨ol2, hk2 _ _ d1, d2, nl2, d3⟩
      have ap : ZipApart (s1.heap.objs.size + 4) (s1.heap.objs.size + 2) (s1.heap.objs.size + 3) s1.heap.objs.size (s1.heap.objs.size + 1) l t :=
        ⟨ne 2 4 (by decide), ne 3 4 (by decide), ne 0 4 (by decide), ne 1 4 (by decide), ne 2 3 (by decide), ne 2 0 (by decide), ne 2 1 (by decide), ne 3 0 (by decide), ne 3 1 (by decide), ne 0 1 (by decide), lN ltl 4, lN ltl 3, lN ltl 0, lN ltl 1, lN ltt 4, lN ltt 3, lN ltt 0, lN ltt 1⟩
      have sx1 : its.length = ks.length := by rw [← vx.length, List.length_map]
      have sx2 : its2.length = ys.length := vy.length.symm
      refine PySem.call_dict_pairs (s := { s1 with heap := h2 }) (knd := mixKind X.prog X.w) (kvs := ks.zip its2) (PySem.PairArg.zip _ _ _ _ _ l t ap its.toArray its2.toArray) hd ⟨hz, hTI, ⟨_, _, hTO⟩, it1, it2, hL3, hT3⟩ ⟨?_, ?_⟩ ?_ fun h3 tk hd3 hk3 => ?_
      · rw [List.length_zip, List.size_toArray, List.size_toArray, sx1]
      · rintro i key v ⟨h1, h2⟩
        have h1' : its[i]? = some key := by simpa using h1
        have h2' : its2[i]? = some v := by simpa using h2
        obtain ⟨x, hx, rx⟩ := vals_at vx h1'
        rw [List.getElem?_map] at hx
        cases qk : ks[i]? with
        | none => rw [qk] at hx; cases hx
        | some k =>
          rw [qk] at hx
          cases hx
          exact ⟨k, by rw [List.getElem?_zip_eq_some]; exact ⟨qk, h2'⟩, kV_is (P := X.prog) (w := X.w) rx⟩
      · rw [List.size_toArray, sx1]
        have : ks.length ≤ sizeLine := by rw [List.length_map] at zx; exact zx
        exact Nat.le_trans (Nat.min_le_left _ _) this
      · have kk : ∀ b o, s1.heap.get? b = some o → h3.get? b = some o := fun b o e => by
          have lt := Heap.lt_size e
          refine hk3 b o ?_ (hk2 b o e)
          intro hm
          simp only [List.mem_cons, List.not_mem_nil, or_false] at hm
          rcases hm with z | z | z | z
          · exact lN lt 4 z
          · exact lN lt 3 z
          · exact lN lt 0 z
          · exact lN lt 1 z
        have hm : (h2.objs.size == sysModules) = false := beq_eq_false_iff_ne.mpr (Nat.ne_of_gt (Nat.lt_of_lt_of_le I1.big (by rw [hsz]; exact Nat.le_add_right _ _)))
        have hlen : (mergeK [] (ks.zip ys)).length ≤ sizeLine := by
          refine Nat.le_trans (length_mergeK _ []) ?_
          rw [List.length_nil, Nat.zero_add, List.length_zip]
          rw [List.length_map] at zx
          exact Nat.le_trans (Nat.min_le_left _ _) zx
        exact ⟨.ref h2.objs.size, upd H1 h2.objs.size (.dK (mergeK [] (ks.zip ys))), I1.laid (t' := tk) kk (by rw [hsz]; exact Nat.le_add_right _ _) (show ObjOk X.prog X.w _ _ _ (.dK (mergeK [] (ks.zip ys))) from ⟨hlen, hm, merged [] (ks.zip its2), KV.merge (kv_zip vy) .nil, hd3⟩), rfl, q _ (I1.hok.fresh (by rw [hsz]; exact Nat.le_add_right _ _))⟩
end
end FroZ
namespace Fro
open PySem PySem.Spec L2 PyProof.Rows
def gDictZip : List D → Option D := fun ds => match ds with
  | [.lst ks, .lst es] => (textsOf ks).map fun ts => .dct (mergeE [] (ts.zip es))
  | _ => none
theorem rpE_zip {K : PySem.W.Frag} {H : Hp} {M : Addr → Prop} : ∀ {ts : List Tx} {es : List D} {ys : List V}, RpL K H M es ys → RpE K H M (ts.zip es) ((ts.map fun t => (Sum.inr (sx t) : Key)).zip ys)
  | [], es, ys, h => by simp only [List.map_nil, List.zip_nil_left]; exact .nil
  | t :: ts, _, _, .nil => by simp only [List.zip_nil_right]; exact .nil
  | t :: ts, _, _, .cons a b => by
    rw [List.map_cons, List.zip_cons_cons, List.zip_cons_cons]
    exact .cons a (rpE_zip b)
theorem gn_dictZip {K : PySem.W.Frag} : GN K (FroZ.rDictZip K) gDictZip := fun ρ S H ds z xs Q so rx q n => by
  unfold gDictZip at q
  split at q
  · rename_i ks es
    cases q2 : textsOf ks with
    | none => rw [q2] at q; cases q
    | some ts =>
      rw [q2] at q
      obtain ⟨v1, v2, rfl, r1, r2⟩ := rql2 rx
      cases q
      obtain ⟨a, ys, rfl, ha, ra⟩ := r1.lstE
      obtain ⟨b, zs, rfl, hb, rb⟩ := r2.lstE
      have e := textsOf_rp q2 ra
      subst e
      refine ⟨a, b, ts.map fun t => (Sum.inr (sx t) : Key), zs, rfl, SqL.of (by rw [ha]; simp [kV, Function.comp_def]), SqL.of hb, nxt_dct so (rpE_merge (rpE_zip rb) .nil) n⟩
  · cases q
section
variable {X : Cx} {E : XP} {a b : Expr} {ab : Den (List W)} {p p2 cpos pos : Pos}
theorem de_dictzip (hm : X.mg "dict" = none) (hmz : X.mg "zip" = none) (ha : PA X [a, b] (tA X.K E ab)) (hc : X.calm = true := by rfl) (hg : Gl X "dict" := by rfl) (hgz : Gl X "zip" := by rfl)
    (hs : starEach [.Call (.Name "zip" p2) [a, b] [] cpos] X.env = (false, eval (.Call (.Name "zip" p2) [a, b] [] cpos) X.env) :: starEach [] X.env := by rfl) (hs2 : starEach [a, b] X.env = (false, eval a X.env) :: starEach [b] X.env := by rfl) (hpl : (backTo cpos (starEach [b] X.env)).any (·.1) = false := by rfl) :
    PE X (.Call (.Name "dict" p) [.Call (.Name "zip" p2) [a, b] [] cpos] [] pos) (tE X.K E (cBlt gDictZip ab)) :=
  pe_mono (FroZ.pe_dictZip hc ha hg hm (by decide +kernel) hgz hmz hs hs2 hpl) fun σ H Q ⟨δ, ρ, S, st, so, q⟩ => tG_then st so q fun ws S1 vs ρ1 H1 f1 st1 so1 r1 p1 => apN_post gn_dictZip so1 r1 p1
end
end Fro


namespace Fro
open PySem PySem.Spec L2
/-! ### constants -/
def k_BARRED : D := (.tup [(.str [97, 108, 108]), (.str [102, 117, 110]), (.str [105, 110]), (.str [108, 101, 116]), (.str [116, 114, 117, 101]), (.str [102, 97, 108, 115, 101])])
def k_MOST_SIGNS : D := (.int 8)
def k_LETTERS : D := (.str [97, 98, 99, 100, 101, 102, 103, 104, 105, 106, 107, 108, 109, 110, 111, 112, 113, 114, 115, 116, 117, 118, 119, 120, 121, 122])
def k_MARK : D := (.str [48, 46])
def tbl_WORDS : List (Tx × D) := [([73, 110, 116], (.int 0)), ([66, 111, 111, 108], (.int 0)), ([85, 110, 105, 116], (.int 0)), ([76, 105, 115, 116], (.int 1)), ([80, 97, 105, 114], (.int 2)), ([84, 111], (.int 2))]
/-! ### denotations -/
def b__law_source_of : DenS :=
    (cSeq (cAsg (cIf (cB (op2 gGe (cVar 0) (cC (.int 0)))) (cVar 0) (op2 gSub (op2 gSub (cC (.int 0)) (op2 gMul (cC (.int 3)) (cVar 0))) (cC (.int 1)))) (gN 0))
    (cRet (cLstM (cCons (op2 gMul (cVar 0) (cBlt gInt (cCons (op2 gGe (cVar 0) (op2 gPow (cC (.int 10)) (cC (.int 18)))) cNil))) (cCons (op2 gMod (cBlt gInt (cCons (cVar 0) cNil)) (cC (.int 2147483647))) (cCons (cC (.int 0)) cNil))))))
def f__law_source_of : FDen := fdef 1 b__law_source_of
def b__law_cell_at : DenS :=
    (cSeq (cIfS (cB (op2 gLt (cVar 1) (cLen (cCons (cVar 0) cNil))))
    (cRet (cIx (cVar 0) (cVar 1)))
    cNx)
    (cRet (cC (.int 0))))
def f__law_cell_at : FDen := fdef 2 b__law_cell_at
def b__law_next : DenS :=
    (cSeq (cIfS (cB (op2 gGt (cIx (cVar 0) (cC (.int 0))) (cC (.int 0))))
    (cSeq (cAsg (op2 gMod (cBlt gInt (cCons (cIx (cVar 0) (cC (.int 0))) cNil)) (cVar 1)) (gN 2))
    (cSeq (cAsg (op2 gDiv (cIx (cVar 0) (cC (.int 0))) (cVar 1)) (gSubD (cVar 0) (cC (.int 0))))
    (cRet (cVar 2))))
    cNx)
    (cSeq (cAsg (op2 gAdd (cIx (cVar 0) (cC (.int 2))) (cC (.int 1))) (gSubD (cVar 0) (cC (.int 2))))
    (cSeq (cAsg (cC (.int 2147483647)) (gN 3))
    (cSeq (cAsg (op2 gMod (cBlt gInt (cCons (op2 gAdd (op2 gAdd (cIx (cVar 0) (cC (.int 1))) (op2 gMul (cC (.int 104729)) (cIx (cVar 0) (cC (.int 2))))) (cC (.int 7919))) cNil)) (cVar 3)) (gN 4))
    (cSeq (cAsg (op2 gMod (cBlt gInt (cCons (op2 gMul (cVar 4) (cC (.int 48271))) cNil)) (cVar 3)) (gN 4))
    (cSeq (cAsg (op2 gMod (cBlt gInt (cCons (op2 gMul (cVar 4) (op2 gAdd (op2 gDiv (cVar 4) (cC (.int 1009))) (cC (.int 69621)))) cNil)) (cVar 3)) (gN 4))
    (cSeq (cAsg (op2 gMod (cBlt gInt (cCons (op2 gMul (cVar 4) (op2 gAdd (op2 gDiv (cVar 4) (cC (.int 2003))) (cC (.int 40692)))) cNil)) (cC (.int 2147483399))) (gN 4))
    (cRet (op2 gMod (cBlt gInt (cCons (op2 gDiv (cVar 4) (cC (.int 7))) cNil)) (cVar 1))))))))))
def f__law_next : FDen := fdef 5 b__law_next
def b__law_one : DenS :=
    (cRet (cIx (cVar 1) (cCall 2 f__law_next (cCons (cVar 0) (cCons (cLen (cCons (cVar 1) cNil)) cNil)) [])))
def f__law_one : FDen := fdef 2 b__law_one
def b__law_kind (f : FDen) : DenS :=
    (cSeq (cAsg (cCall 2 f__law_next (cCons (cVar 0) (cCons (cC (.int 12)) cNil)) []) (gN 3))
    (cSeq (cIfS (cOr (cB (op2 gEq (cVar 1) (cC (.int 0)))) (cB (op2 gLt (cVar 3) (cC (.int 4)))))
    (cSeq (cIfS (cOr (cB (op2 gEq (cVar 3) (cC (.int 3)))) (cB (op2 gEq (op2 gMod (cBlt gInt (cCons (cVar 3) cNil)) (cC (.int 12))) (cC (.int 11)))))
    (cRet (cTup (cCons (cC (.str [99, 111, 110])) (cCons (cCall 2 f__law_one (cCons (cVar 0) (cCons (cLst (cCons (cC (.str [73, 110, 116])) (cCons (cC (.str [66, 111, 111, 108])) (cCons (cC (.str [85, 110, 105, 116])) cNil)))) cNil)) []) (cCons (cTup cNil) cNil)))))
    cNx)
    (cRet (cTup (cCons (cC (.str [118, 97, 114])) (cCons (cCall 2 f__law_one (cCons (cVar 0) (cCons (cVar 2) cNil)) []) cNil)))))
    cNx)
    (cSeq (cIfS (cB (op2 gLt (cVar 3) (cC (.int 8))))
    (cRet (cTup (cCons (cC (.str [97, 108, 108])) (cCons (cCall 2 f__law_one (cCons (cVar 0) (cCons (cVar 2) cNil)) []) (cCons (cCall 3 f (cCons (cVar 0) (cCons (op2 gSub (cVar 1) (cC (.int 1))) (cCons (cVar 2) cNil))) []) cNil)))))
    cNx)
    (cSeq (cIfS (cB (op2 gEq (cVar 3) (cC (.int 8))))
    (cRet (cTup (cCons (cC (.str [99, 111, 110])) (cCons (cC (.str [76, 105, 115, 116])) (cCons (cTup (cCons (cCall 3 f (cCons (cVar 0) (cCons (op2 gSub (cVar 1) (cC (.int 1))) (cCons (cVar 2) cNil))) []) cNil)) cNil)))))
    cNx)
    (cSeq (cAsg (cCall 3 f (cCons (cVar 0) (cCons (op2 gSub (cVar 1) (cC (.int 1))) (cCons (cVar 2) cNil))) []) (gN 4))
    (cRet (cTup (cCons (cC (.str [99, 111, 110])) (cCons (cCall 2 f__law_one (cCons (cVar 0) (cCons (cLst (cCons (cC (.str [84, 111])) (cCons (cC (.str [80, 97, 105, 114])) (cCons (cC (.str [84, 111])) cNil)))) cNil)) []) (cCons (cTup (cCons (cVar 4) (cCons (cCall 3 f (cCons (cVar 0) (cCons (op2 gSub (cVar 1) (cC (.int 1))) (cCons (cVar 2) cNil))) []) cNil))) cNil))))))))))
def f__law_kind : Nat → FDen
  | 0 => fun _ _ => .bad
  | n + 1 => fdef 5 (b__law_kind (f__law_kind n))
def l1__law_filling : DenS :=
    (cIfS (cB (op2 gEq (cCall 2 f__law_next (cCons (cVar 0) (cCons (cC (.int 2)) cNil)) []) (cC (.int 0))))
    (cExpr (cAppend (cVar 2) (cTup (cCons (cVar 3) (cCons (cCall 3 (f__law_kind 7) (cCons (cVar 0) (cCons (cCall 2 f__law_next (cCons (cVar 0) (cCons (cC (.int 3)) cNil)) []) (cCons (cVar 1) cNil))) []) cNil)))))
    cNx)
def b__law_filling : DenS :=
    (cSeq (cAsg (cLstM cNil) (gN 2))
    (cSeq (cFor (itL (cVar 1)) (gN 3) l1__law_filling)
    (cRet (cBlt gDictP (cCons (cVar 2) cNil)))))
def f__law_filling : FDen := fdef 4 b__law_filling
def b_is_name : DenS :=
    (cSeq (cIfS (cOr (cNot (cB (cBlt gIsi (cCons (cVar 0) (cCons (cC (.ty .str)) cNil))))) (cB (op2 gIn (cVar 0) (cC k_BARRED))))
    (cRet (cC (.bl false)))
    cNx)
    (cRet (cAndV (cChain gLe gLe (cC (.int 1)) (cLen (cCons (cVar 0) cNil)) (cC k_MOST_SIGNS)) (cBlt gAll (cCons (cComp (itS (cVar 0)) (gN 1) cYes (op2 gIn (cVar 1) (cC k_LETTERS)) [1]) cNil)))))
def f_is_name : FDen := fdef 2 b_is_name
def b_is_kind (f : FDen) : DenS :=
    (cSeq (cIfS (cOr (cNot (cB (cBlt gIsi (cCons (cVar 0) (cCons (cC (.ty .tup)) cNil))))) (cB (op2 gEq (cVar 0) (cTup cNil))))
    (cRet (cC (.bl false)))
    cNx)
    (cSeq (cIfS (cB (op2 gEq (cIx (cVar 0) (cC (.int 0))) (cC (.str [118, 97, 114]))))
    (cRet (cAndV (op2 gEq (cLen (cCons (cVar 0) cNil)) (cC (.int 2))) (cCall 1 f_is_name (cCons (cIx (cVar 0) (cC (.int 1))) cNil) [])))
    cNx)
    (cSeq (cIfS (cB (op2 gEq (cIx (cVar 0) (cC (.int 0))) (cC (.str [97, 108, 108]))))
    (cRet (cAndV (op2 gEq (cLen (cCons (cVar 0) cNil)) (cC (.int 3))) (cAndV (cCall 1 f_is_name (cCons (cIx (cVar 0) (cC (.int 1))) cNil) []) (cCall 1 f (cCons (cIx (cVar 0) (cC (.int 2))) cNil) []))))
    cNx)
    (cSeq (cIfS (cOr (cB (op2 gNe (cIx (cVar 0) (cC (.int 0))) (cC (.str [99, 111, 110])))) (cOr (cB (op2 gNe (cLen (cCons (cVar 0) cNil)) (cC (.int 3)))) (cOr (cNot (cB (cBlt gIsi (cCons (cIx (cVar 0) (cC (.int 1))) (cCons (cC (.ty .str)) cNil))))) (cB (cKIn tbl_WORDS true (cIx (cVar 0) (cC (.int 1))))))))
    (cRet (cC (.bl false)))
    cNx)
    (cSeq (cIfS (cOr (cNot (cB (cBlt gIsi (cCons (cIx (cVar 0) (cC (.int 2))) (cCons (cC (.ty .tup)) cNil))))) (cB (op2 gNe (cLen (cCons (cIx (cVar 0) (cC (.int 2))) cNil)) (cKGet tbl_WORDS (cIx (cVar 0) (cC (.int 1)))))))
    (cRet (cC (.bl false)))
    cNx)
    (cRet (cBlt gAll (cCons (cComp (itT (cIx (cVar 0) (cC (.int 2)))) (gN 1) cYes (cCall 1 f (cCons (cVar 1) cNil) []) [1]) cNil))))))))
def f_is_kind : Nat → FDen
  | 0 => fun _ _ => .bad
  | n + 1 => fdef 2 (b_is_kind (f_is_kind n))
def b_want_kind : DenS :=
    (cIfS (cNot (cB (cCall 1 (f_is_kind 30) (cCons (cVar 0) cNil) [])))
    (cRaise 2 (cCons (cVar 0) cNil))
    cNx)
def f_want_kind : FDen := fdef 1 b_want_kind
def l1_letter : DenS :=
    (cSeq (cAsg (op2 gAdd (cIx (cC k_LETTERS) (op2 gMod (cBlt gInt (cCons (op2 gSub (cVar 2) (cC (.int 1))) cNil)) (cC (.int 26)))) (cVar 1)) (gN 1))
    (cAsg (op2 gDiv (op2 gSub (cVar 2) (cC (.int 1))) (cC (.int 26))) (gN 2)))
def b_letter : DenS :=
    (cSeq (cAsg (cIx (cC k_LETTERS) (op2 gMod (cBlt gInt (cCons (cVar 0) cNil)) (cC (.int 26)))) (gN 1))
    (cSeq (cAsg (op2 gDiv (cVar 0) (cC (.int 26))) (gN 2))
    (cSeq (cWhile 100000 (cB (op2 gGt (cVar 2) (cC (.int 0)))) l1_letter)
    (cRet (cVar 1)))))
def f_letter : FDen := fdef 3 b_letter
def l1_first_letters : DenS :=
    (cAsg (op2 gAdd (cVar 1) (cC (.int 1))) (gN 1))
def b_first_letters : DenS :=
    (cSeq (cAsg (cC (.int 0)) (gN 1))
    (cSeq (cWhile 100000 (cOr (cB (op2 gIn (cCall 1 f_letter (cCons (cVar 1) cNil) []) (cVar 0))) (cB (op2 gIn (cCall 1 f_letter (cCons (cVar 1) cNil) []) (cC k_BARRED)))) l1_first_letters)
    (cRet (cCall 1 f_letter (cCons (cVar 1) cNil) []))))
def f_first_letters : FDen := fdef 2 b_first_letters
def b_exchange (f : FDen) : DenS :=
    (cSeq (cIfS (cB (op2 gEq (cIx (cVar 0) (cC (.int 0))) (cC (.str [118, 97, 114]))))
    (cRet (cDGet2 (cVar 1) (cIx (cVar 0) (cC (.int 1))) (cVar 0)))
    cNx)
    (cSeq (cIfS (cB (op2 gEq (cIx (cVar 0) (cC (.int 0))) (cC (.str [97, 108, 108]))))
    (cSeq (cLkS 1 (cAsg (cDComp (itI (cVar 1)) (gT 2 (gsCons (gN 3) (gsCons (gN 4) gsNil))) (cB (op2 gNe (cVar 3) (cIx (cVar 0) (cC (.int 1))))) (cVar 3) (cVar 4) [3, 4]) (gN 2)))
    (cRet (cTup (cCons (cC (.str [97, 108, 108])) (cCons (cIx (cVar 0) (cC (.int 1))) (cCons (cCall 2 f (cCons (cIx (cVar 0) (cC (.int 2))) (cCons (cVar 2) cNil)) []) cNil))))))
    cNx)
    (cRet (cTup (cCons (cC (.str [99, 111, 110])) (cCons (cIx (cVar 0) (cC (.int 1))) (cCons (cBlt gTuple (cCons (cComp (itT (cIx (cVar 0) (cC (.int 2)))) (gN 4) cYes (cCall 2 f (cCons (cVar 4) (cCons (cVar 1) cNil)) []) [4]) cNil)) cNil)))))))
def f_exchange : Nat → FDen
  | 0 => fun _ _ => .bad
  | n + 1 => fdef 5 (b_exchange (f_exchange n))
def b_relettered (f : FDen) : DenS :=
    (cSeq (cIfS (cB (op2 gEq (cIx (cVar 0) (cC (.int 0))) (cC (.str [118, 97, 114]))))
    (cRet (cVar 0))
    cNx)
    (cSeq (cIfS (cB (op2 gEq (cIx (cVar 0) (cC (.int 0))) (cC (.str [97, 108, 108]))))
    (cSeq (cAsg (cCall 1 f_first_letters (cCons (cVar 1) cNil) []) (gN 2))
    (cRet (cTup (cCons (cC (.str [97, 108, 108])) (cCons (cVar 2) (cCons (cCall 2 f (cCons (cCall 2 (f_exchange 30) (cCons (cIx (cVar 0) (cC (.int 2))) (cCons (cDict [((cIx (cVar 0) (cC (.int 1))), (cTup (cCons (cC (.str [118, 97, 114])) (cCons (cVar 2) cNil))))]) cNil)) []) (cCons (op2 gAdd (cVar 1) (cLst (cCons (cVar 2) cNil))) cNil)) []) cNil))))))
    cNx)
    (cRet (cTup (cCons (cC (.str [99, 111, 110])) (cCons (cIx (cVar 0) (cC (.int 1))) (cCons (cBlt gTuple (cCons (cComp (itT (cIx (cVar 0) (cC (.int 2)))) (gN 3) cYes (cCall 2 f (cCons (cVar 3) (cCons (cVar 1) cNil)) []) [3]) cNil)) cNil)))))))
def f_relettered : Nat → FDen
  | 0 => fun _ _ => .bad
  | n + 1 => fdef 4 (b_relettered (f_relettered n))
def l1_free_of (f : FDen) : DenS :=
    (cExpr (cExtend (cVar 2) (cComp (itL (cCall 2 f (cCons (cVar 3) (cCons (cVar 1) cNil)) [])) (gN 4) (cB (op2 gNotIn (cVar 4) (cVar 2))) (cVar 4) [4])))
def b_free_of (f : FDen) : DenS :=
    (cSeq (cIfS (cB (op2 gEq (cIx (cVar 0) (cC (.int 0))) (cC (.str [118, 97, 114]))))
    (cRet (cIf (cB (op2 gIn (cIx (cVar 0) (cC (.int 1))) (cVar 1))) (cLstM cNil) (cLstM (cCons (cIx (cVar 0) (cC (.int 1))) cNil))))
    cNx)
    (cSeq (cIfS (cB (op2 gEq (cIx (cVar 0) (cC (.int 0))) (cC (.str [97, 108, 108]))))
    (cRet (cCallM 2 f (cCons (cIx (cVar 0) (cC (.int 2))) (cCons (op2 gAdd (cVar 1) (cTup (cCons (cIx (cVar 0) (cC (.int 1))) cNil))) cNil)) []))
    cNx)
    (cSeq (cAsg (cLstM cNil) (gN 2))
    (cSeq (cFor (itT (cIx (cVar 0) (cC (.int 2)))) (gN 3) (l1_free_of f))
    (cRet (cVar 2))))))
def f_free_of : Nat → FDen
  | 0 => fun _ _ => .bad
  | n + 1 => fdef 5 (b_free_of (f_free_of n))
def l1_marked_from (f : FDen) : DenS :=
    (cSeq (cAsg (cCall 2 f (cCons (cVar 6) (cCons (cVar 1) cNil)) []) (gT 2 (gsCons (gN 3) (gsCons (gN 1) gsNil))))
    (cExpr (cAppend (cVar 5) (cVar 3))))
def b_marked_from (f : FDen) : DenS :=
    (cSeq (cIfS (cB (op2 gEq (cIx (cVar 0) (cC (.int 0))) (cC (.str [118, 97, 114]))))
    (cRet (cTup (cCons (cVar 0) (cCons (cVar 1) cNil))))
    cNx)
    (cSeq (cIfS (cB (op2 gEq (cIx (cVar 0) (cC (.int 0))) (cC (.str [97, 108, 108]))))
    (cSeq (cAsg (op2 gAdd (cC k_MARK) (cBlt gStr (cCons (cVar 1) cNil))) (gN 2))
    (cSeq (cAsg (cCall 2 f (cCons (cCall 2 (f_exchange 30) (cCons (cIx (cVar 0) (cC (.int 2))) (cCons (cDict [((cIx (cVar 0) (cC (.int 1))), (cTup (cCons (cC (.str [118, 97, 114])) (cCons (cVar 2) cNil))))]) cNil)) []) (cCons (op2 gAdd (cVar 1) (cC (.int 1))) cNil)) []) (gT 2 (gsCons (gN 3) (gsCons (gN 4) gsNil))))
    (cRet (cTup (cCons (cTup (cCons (cC (.str [97, 108, 108])) (cCons (cVar 2) (cCons (cVar 3) cNil)))) (cCons (cVar 4) cNil))))))
    cNx)
    (cSeq (cAsg (cLstM cNil) (gN 5))
    (cSeq (cFor (itT (cIx (cVar 0) (cC (.int 2)))) (gN 6) (l1_marked_from f))
    (cRet (cTup (cCons (cTup (cCons (cC (.str [99, 111, 110])) (cCons (cIx (cVar 0) (cC (.int 1))) (cCons (cBlt gTuple (cCons (cVar 5) cNil)) cNil)))) (cCons (cVar 1) cNil))))))))
def f_marked_from : Nat → FDen
  | 0 => fun _ _ => .bad
  | n + 1 => fdef 7 (b_marked_from (f_marked_from n))
def b_numbers_in (f : FDen) : DenS :=
    (cSeq (cIfS (cB (op2 gEq (cIx (cVar 0) (cC (.int 0))) (cC (.str [99, 111, 110]))))
    (cRet (cComp2 (itT (cIx (cVar 0) (cC (.int 2)))) (gN 1) cYes (itL (cCall 1 f (cCons (cVar 1) cNil) [])) (gN 2) cYes (cVar 2) [1, 2] [2]))
    cNx)
    (cSeq (cAsg (cIf (cB (op2 gEq (cIx (cVar 0) (cC (.int 0))) (cC (.str [97, 108, 108])))) (cCall 1 f (cCons (cIx (cVar 0) (cC (.int 2))) cNil) []) (cLst cNil)) (gN 3))
    (cRet (cIf (cB (cM1 gStarts (cIx (cVar 0) (cC (.int 1))) (cC k_MARK))) (op2 gAdd (cVar 3) (cLst (cCons (cBlt gIntT (cCons (cSlT (cIx (cVar 0) (cC (.int 1))) (cPart (cC (.int 2))) cNoPart) cNil)) cNil))) (cVar 3)))))
def f_numbers_in : Nat → FDen
  | 0 => fun _ _ => .bad
  | n + 1 => fdef 4 (b_numbers_in (f_numbers_in n))
def b_marked : DenS :=
    (cRet (cCall 2 (f_marked_from 30) (cCons (cVar 0) (cCons (cBlt gMaxL (cCons (op2 gAdd (cLst (cCons (cVar 1) cNil)) (cComp (itL (cCall 1 (f_numbers_in 30) (cCons (cVar 0) cNil) [])) (gN 2) cYes (op2 gAdd (cVar 2) (cC (.int 1))) [2])) cNil)) cNil)) []))
def f_marked : FDen := fdef 3 b_marked
def b_plain_of : DenS :=
    (cRet (cCall 2 (f_relettered 30) (cCons (cIx (cCall 2 f_marked (cCons (cVar 0) cNil) [.v (.int 0)]) (cC (.int 0))) (cCons (cCall 2 (f_free_of 30) (cCons (cVar 0) cNil) [.v (.tup [])]) cNil)) []))
def f_plain_of : FDen := fdef 1 b_plain_of
def b_put_of : DenS :=
    (cSeq (cLkS 1 (cAsg (cComp2 (itV (cVar 1)) (gN 3) cYes (itL (cCall 1 (f_numbers_in 30) (cCons (cVar 3) cNil) [])) (gN 4) cYes (op2 gAdd (cVar 4) (cC (.int 1))) [3, 4] [4]) (gN 2)))
    (cRet (cCall 1 f_plain_of (cCons (cCall 2 (f_exchange 30) (cCons (cIx (cCall 2 f_marked (cCons (cVar 0) (cCons (cBlt gMaxL (cCons (op2 gAdd (cLst (cCons (cC (.int 0)) cNil)) (cVar 2)) cNil)) cNil)) []) (cC (.int 0))) (cCons (cVar 1) cNil)) []) cNil) [])))
def f_put_of : FDen := fdef 5 b_put_of
def l1_put : DenS :=
    (cExpr (cCall 1 f_want_kind (cCons (cVar 2) cNil) []))
def b_put : DenS :=
    (cSeq (cExpr (cCall 1 f_want_kind (cCons (cVar 0) cNil) []))
    (cSeq (cLkS 1 (cFor (itV (cVar 1)) (gN 2) l1_put))
    (cRet (cCall 2 f_put_of (cCons (cVar 0) (cCons (cVar 1) cNil)) []))))
def f_put : FDen := fdef 3 b_put
def b_free : DenS :=
    (cSeq (cExpr (cCall 1 f_want_kind (cCons (cVar 0) cNil) []))
    (cRet (cCallM 2 (f_free_of 30) (cCons (cVar 0) cNil) [.v (.tup [])])))
def f_free : FDen := fdef 1 b_free
def b_plain : DenS :=
    (cSeq (cExpr (cCall 1 f_want_kind (cCons (cVar 0) cNil) []))
    (cRet (cCall 1 f_plain_of (cCons (cVar 0) cNil) [])))
def f_plain : FDen := fdef 1 b_plain
def l1__law_put_right : DenS :=
    (cAsg (cCall 2 f_put (cCons (cDIx (cVar 1) (cVar 4)) (cCons (cVar 2) cNil)) []) (gSubE (cVar 3) (cVar 4)))
def l2__law_put_right : DenS :=
    (cAsg (op2 gAdd (cVar 6) (cCall 1 f_free (cCons (cDGet2 (cVar 1) (cVar 4) (cTup (cCons (cC (.str [118, 97, 114])) (cCons (cVar 4) cNil)))) cNil) [])) (gN 6))
def b__law_put_right : DenS :=
    (cSeq (cAsg (cDictM (cCons (cVar 2) cNil)) (gN 3))
    (cSeq (cLkS 1 (cFor (itK (cVar 1)) (gN 4) l1__law_put_right))
    (cSeq (cFz 3 (cAsg (cCall 2 f_put (cCons (cVar 0) (cCons (cVar 1) cNil)) []) (gN 5)))
    (cSeq (cIfS (cOr (cB (op2 gNe (cCall 2 f_put (cCons (cVar 5) (cCons (cVar 2) cNil)) []) (cCall 2 f_put (cCons (cVar 0) (cCons (cVar 3) cNil)) []))) (cOr (cNot (cB (cCall 1 (f_is_kind 30) (cCons (cVar 5) cNil) []))) (cB (op2 gNe (cCall 1 f_plain (cCons (cVar 5) cNil) []) (cVar 5)))))
    (cRet (cC (.bl false)))
    cNx)
    (cSeq (cAsg (cLst cNil) (gN 6))
    (cSeq (cFor (itL (cCall 1 f_free (cCons (cVar 0) cNil) [])) (gN 4) l2__law_put_right)
    (cRet (op2 gEq (cBlt gSortD (cCons (cBlt gDictZip (cCons (cVar 6) (cCons (cVar 6) cNil))) cNil)) (cBlt gSortL (cCons (cCall 1 f_free (cCons (cVar 5) cNil) []) cNil))))))))))
def f__law_put_right : FDen := fdef 7 b__law_put_right
def b_same : DenS :=
    (cSeq (cExpr (cCall 1 f_want_kind (cCons (cVar 0) cNil) []))
    (cSeq (cExpr (cCall 1 f_want_kind (cCons (cVar 1) cNil) []))
    (cRet (op2 gEq (cCall 1 f_plain_of (cCons (cVar 0) cNil) []) (cCall 1 f_plain_of (cCons (cVar 1) cNil) [])))))
def f_same : FDen := fdef 2 b_same
def b__law_same_right : DenS :=
    (cSeq (cIfS (cOr (cNot (cB (cCall 2 f_same (cCons (cVar 0) (cCons (cVar 0) cNil)) []))) (cOr (cNot (cB (cCall 2 f_same (cCons (cVar 0) (cCons (cCall 1 f_plain (cCons (cVar 0) cNil) []) cNil)) []))) (cNot (cB (cCall 2 f_same (cCons (cCall 1 f_plain (cCons (cVar 0) cNil) []) (cCons (cVar 0) cNil)) [])))))
    (cRet (cC (.bl false)))
    cNx)
    (cSeq (cIfS (cOr (cB (op2 gNe (cCall 2 f_same (cCons (cVar 0) (cCons (cVar 1) cNil)) []) (op2 gEq (cCall 1 f_plain (cCons (cVar 0) cNil) []) (cCall 1 f_plain (cCons (cVar 1) cNil) [])))) (cB (op2 gNe (cCall 2 f_same (cCons (cVar 0) (cCons (cVar 1) cNil)) []) (cCall 2 f_same (cCons (cCall 1 f_plain (cCons (cVar 1) cNil) []) (cCons (cVar 0) cNil)) []))))
    (cRet (cC (.bl false)))
    cNx)
    (cSeq (cIfS (cAnd (cB (cCall 2 f_same (cCons (cVar 0) (cCons (cVar 1) cNil)) [])) (cNot (cB (cCall 2 f_same (cCons (cCall 2 f_put (cCons (cVar 0) (cCons (cVar 2) cNil)) []) (cCons (cCall 2 f_put (cCons (cVar 1) (cCons (cVar 2) cNil)) []) cNil)) []))))
    (cRet (cC (.bl false)))
    cNx)
    (cRet (cCall 2 f_same (cCons (cTup (cCons (cC (.str [97, 108, 108])) (cCons (cC (.str [97])) (cCons (cVar 0) cNil)))) (cCons (cTup (cCons (cC (.str [97, 108, 108])) (cCons (cC (.str [102, 114, 101, 115, 104])) (cCons (cCall 2 f_put (cCons (cVar 0) (cCons (cDict [((cC (.str [97])), (cTup (cCons (cC (.str [118, 97, 114])) (cCons (cC (.str [102, 114, 101, 115, 104])) cNil))))]) cNil)) []) cNil)))) cNil)) [])))))
def f__law_same_right : FDen := fdef 3 b__law_same_right
def l2_law : DenS :=
    (cSeq (cAsg (cSl (cLst (cCons (cC (.str [97])) (cCons (cC (.str [98])) (cCons (cC (.str [99])) (cCons (cC (.str [120])) cNil))))) (cPart (cCall 2 f__law_next (cCons (cVar 2) (cCons (cC (.int 2)) cNil)) [])) cNoPart) (gN 4))
    (cSeq (cPar [5, 6] (cCons (cCall 3 (f__law_kind 7) (cCons (cVar 2) (cCons (cC (.int 4)) (cCons (cVar 4) cNil))) []) (cCons (cCall 3 (f__law_kind 7) (cCons (cVar 2) (cCons (cCall 2 f__law_next (cCons (cVar 2) (cCons (cC (.int 3)) cNil)) []) (cCons (cSl (cVar 4) cNoPart (cPart (cC (.int 2)))) cNil))) []) cNil)))
    (cSeq (cPar [7, 8] (cCons (cCall 2 f__law_filling (cCons (cVar 2) (cCons (cVar 4) cNil)) []) (cCons (cCall 2 f__law_filling (cCons (cVar 2) (cCons (cVar 4) cNil)) []) cNil)))
    (cSeq (cIfS (cOr (cNot (cB (cCall 3 f__law_put_right (cCons (cVar 5) (cCons (cVar 7) (cCons (cVar 8) cNil))) []))) (cNot (cB (cCall 3 f__law_put_right (cCons (cVar 6) (cCons (cVar 8) (cCons (cVar 7) cNil))) []))))
    (cRet (cC (.bl false)))
    cNx)
    (cIfS (cOr (cNot (cB (cCall 3 f__law_same_right (cCons (cVar 5) (cCons (cVar 6) (cCons (cVar 7) cNil))) []))) (cNot (cB (cCall 3 f__law_same_right (cCons (cVar 6) (cCons (cCall 1 f_plain (cCons (cVar 6) cNil) []) (cCons (cVar 8) cNil))) []))))
    (cRet (cC (.bl false)))
    cNx)))))
def l1_law : DenS :=
    (cSeq (cAsg (cCallM 1 f__law_source_of (cCons (cCall 2 f__law_cell_at (cCons (cVar 0) (cCons (cVar 1) cNil)) []) cNil) []) (gN 2))
    (cFor (itR0 (cCons (cC (.int 8)) cNil)) (gN 3) l2_law))
def b_law : DenS :=
    (cSeq (cFor (itR0 (cCons (cBlt gMax2 (cCons (cC (.int 1)) (cCons (cBlt gMin2 (cCons (cC (.int 4)) (cCons (cLen (cCons (cVar 0) cNil)) cNil))) cNil))) cNil)) (gN 1) l1_law)
    (cRet (cC (.bl true))))
def f_law : FDen := fdef 9 b_law
end Fro

namespace Fro
open PySem PySem.Spec L2
/-! ### the text -/
def topS (i : Nat) : Stmt := PySem.Challenge.pw_frostkinds_k06_whole_kinds_go_together.main.body.getD i (.Pass ⟨0, 0, 0, 0⟩)
abbrev s__law_source_of : Stmt := topS 28
theorem sc__law_source_of : FnScope ["_law_cell"] ["_law_cell"] (defScope s__law_source_of) := ⟨rfl, rfl, rfl, by decide +kernel, rfl, by decide +kernel, by decide +kernel⟩
abbrev s__law_cell_at : Stmt := topS 27
theorem sc__law_cell_at : FnScope ["_law_script", "_law_k"] ["_law_script", "_law_k"] (defScope s__law_cell_at) := ⟨rfl, rfl, rfl, by decide +kernel, rfl, by decide +kernel, by decide +kernel⟩
abbrev s__law_next : Stmt := topS 29
theorem sc__law_next : FnScope ["_law_source", "_law_many", "_law_drawn", "_law_prime", "_law_number"] ["_law_source", "_law_many"] (defScope s__law_next) := ⟨rfl, rfl, rfl, by decide +kernel, rfl, by decide +kernel, by decide +kernel⟩
abbrev s__law_one : Stmt := topS 30
theorem sc__law_one : FnScope ["_law_source", "_law_some"] ["_law_source", "_law_some"] (defScope s__law_one) := ⟨rfl, rfl, rfl, by decide +kernel, rfl, by decide +kernel, by decide +kernel⟩
abbrev s__law_kind : Stmt := topS 31
theorem sc__law_kind : FnScope ["_law_source", "_law_deep", "_law_names", "_law_way", "_law_left"] ["_law_source", "_law_deep", "_law_names"] (defScope s__law_kind) := ⟨rfl, rfl, rfl, by decide +kernel, rfl, by decide +kernel, by decide +kernel⟩
abbrev s__law_filling : Stmt := topS 32
theorem sc__law_filling : FnScope ["_law_source", "_law_names", "_law_rows", "_law_name"] ["_law_source", "_law_names"] (defScope s__law_filling) := ⟨rfl, rfl, rfl, by decide +kernel, rfl, by decide +kernel, by decide +kernel⟩
abbrev s_is_name : Stmt := topS 9
theorem sc_is_name : FnScope ["value", "sign"] ["value"] (defScope s_is_name) := ⟨rfl, rfl, rfl, by decide +kernel, rfl, by decide +kernel, by decide +kernel⟩
abbrev s_is_kind : Stmt := topS 10
theorem sc_is_kind : FnScope ["thing", "one"] ["thing"] (defScope s_is_kind) := ⟨rfl, rfl, rfl, by decide +kernel, rfl, by decide +kernel, by decide +kernel⟩
abbrev s_want_kind : Stmt := topS 11
theorem sc_want_kind : FnScope ["thing"] ["thing"] (defScope s_want_kind) := ⟨rfl, rfl, rfl, by decide +kernel, rfl, by decide +kernel, by decide +kernel⟩
abbrev s_letter : Stmt := topS 12
theorem sc_letter : FnScope ["number", "found", "rest"] ["number"] (defScope s_letter) := ⟨rfl, rfl, rfl, by decide +kernel, rfl, by decide +kernel, by decide +kernel⟩
abbrev s_first_letters : Stmt := topS 13
theorem sc_first_letters : FnScope ["taken", "number"] ["taken"] (defScope s_first_letters) := ⟨rfl, rfl, rfl, by decide +kernel, rfl, by decide +kernel, by decide +kernel⟩
abbrev s_exchange : Stmt := topS 15
theorem sc_exchange : FnScope ["kind", "changes", "rest", "name", "one"] ["kind", "changes"] (defScope s_exchange) := ⟨rfl, rfl, rfl, by decide +kernel, rfl, by decide +kernel, by decide +kernel⟩
abbrev s_relettered : Stmt := topS 19
theorem sc_relettered : FnScope ["kind", "taken", "name", "one"] ["kind", "taken"] (defScope s_relettered) := ⟨rfl, rfl, rfl, by decide +kernel, rfl, by decide +kernel, by decide +kernel⟩
abbrev s_free_of : Stmt := topS 14
theorem sc_free_of : FnScope ["kind", "inside", "found", "one", "name"] ["kind", "inside"] (defScope s_free_of) := ⟨rfl, rfl, rfl, by decide +kernel, rfl, by decide +kernel, by decide +kernel⟩
abbrev s_marked_from : Stmt := topS 18
theorem sc_marked_from : FnScope ["kind", "first", "name", "found", "last", "parts", "one"] ["kind", "first"] (defScope s_marked_from) := ⟨rfl, rfl, rfl, by decide +kernel, rfl, by decide +kernel, by decide +kernel⟩
abbrev s_numbers_in : Stmt := topS 16
theorem sc_numbers_in : FnScope ["kind", "one", "number", "found"] ["kind"] (defScope s_numbers_in) := ⟨rfl, rfl, rfl, by decide +kernel, rfl, by decide +kernel, by decide +kernel⟩
abbrev s_marked : Stmt := topS 17
theorem sc_marked : FnScope ["kind", "first", "number"] ["kind", "first"] (defScope s_marked) := ⟨rfl, rfl, rfl, by decide +kernel, rfl, by decide +kernel, by decide +kernel⟩
abbrev s_plain_of : Stmt := topS 20
theorem sc_plain_of : FnScope ["kind"] ["kind"] (defScope s_plain_of) := ⟨rfl, rfl, rfl, by decide +kernel, rfl, by decide +kernel, by decide +kernel⟩
abbrev s_put_of : Stmt := topS 21
theorem sc_put_of : FnScope ["kind", "changes", "numbers", "one", "number"] ["kind", "changes"] (defScope s_put_of) := ⟨rfl, rfl, rfl, by decide +kernel, rfl, by decide +kernel, by decide +kernel⟩
abbrev s_put : Stmt := topS 25
theorem sc_put : FnScope ["kind", "changes", "one"] ["kind", "changes"] (defScope s_put) := ⟨rfl, rfl, rfl, by decide +kernel, rfl, by decide +kernel, by decide +kernel⟩
abbrev s_free : Stmt := topS 22
theorem sc_free : FnScope ["kind"] ["kind"] (defScope s_free) := ⟨rfl, rfl, rfl, by decide +kernel, rfl, by decide +kernel, by decide +kernel⟩
abbrev s_plain : Stmt := topS 23
theorem sc_plain : FnScope ["kind"] ["kind"] (defScope s_plain) := ⟨rfl, rfl, rfl, by decide +kernel, rfl, by decide +kernel, by decide +kernel⟩
abbrev s__law_put_right : Stmt := topS 33
theorem sc__law_put_right : FnScope ["_law_kind_here", "_law_first", "_law_second", "_law_both", "_law_name", "_law_once", "_law_rows"] ["_law_kind_here", "_law_first", "_law_second"] (defScope s__law_put_right) := ⟨rfl, rfl, rfl, by decide +kernel, rfl, by decide +kernel, by decide +kernel⟩
abbrev s_same : Stmt := topS 24
theorem sc_same : FnScope ["one", "other"] ["one", "other"] (defScope s_same) := ⟨rfl, rfl, rfl, by decide +kernel, rfl, by decide +kernel, by decide +kernel⟩
abbrev s__law_same_right : Stmt := topS 34
theorem sc__law_same_right : FnScope ["_law_one_here", "_law_other", "_law_filling_here"] ["_law_one_here", "_law_other", "_law_filling_here"] (defScope s__law_same_right) := ⟨rfl, rfl, rfl, by decide +kernel, rfl, by decide +kernel, by decide +kernel⟩
abbrev s_law : Stmt := topS 35
theorem sc_law : FnScope ["_law_script", "_law_k", "_law_source", "_law_turn", "_law_names", "_law_one_here", "_law_other", "_law_first", "_law_second"] ["_law_script"] (defScope s_law) := ⟨rfl, rfl, rfl, by decide +kernel, rfl, by decide +kernel, by decide +kernel⟩
/-- what the top has written -/
abbrev i_KindError : Stmt := clsStm (topS 1)
abbrev i_NoKind : Stmt := clsStm (topS 2)
structure Top (P : Program) (w : World) (K : PySem.W.Frag) (mg : Str → Option Value) where
  C_KindError : Addr
  m_KindError : mg "KindError" = some (.ref C_KindError)
  n_KindError : PySem.W.nsIn K mainGlobals "KindError" = some (some (.ref C_KindError))
  C_NoKind : Addr
  m_NoKind : mg "NoKind" = some (.ref C_NoKind)
  n_NoKind : PySem.W.nsIn K mainGlobals "NoKind" = some (some (.ref C_NoKind))
  sup : mg "super" = none
  op : PySem.W.nsIn K cStatics "thirdparty.any" = some none
  f_KindError : Addr
  cc_KindError : Addr
  cd_KindError : Addr
  S_KindError : SupFn P K f_KindError C_KindError (nfI i_KindError "KindError.__init__" cc_KindError cd_KindError)
  fb_KindError : fnB K f_KindError = true
  f_NoKind : Addr
  cc_NoKind : Addr
  cd_NoKind : Addr
  S_NoKind : SupFn P K f_NoKind C_NoKind (nfI i_NoKind "NoKind.__init__" cc_NoKind cd_NoKind)
  fb_NoKind : fnB K f_NoKind = true
  ke_NoKind : KeC K C_KindError C_NoKind
  iC_NoKind : PySem.W.findIn K (.ref C_NoKind) "__init__" = some (some (.ref f_NoKind))
  ra_NoKind : raB K C_NoKind f_KindError (xflds 2) = true
  z_all : mg "all" = none
  z_dict : mg "dict" = none
  z_int : mg "int" = none
  z_isinstance : mg "isinstance" = none
  z_len : mg "len" = none
  z_max : mg "max" = none
  z_min : mg "min" = none
  z_range : mg "range" = none
  z_sorted : mg "sorted" = none
  z_str : mg "str" = none
  z_tuple : mg "tuple" = none
  z_zip : mg "zip" = none
  u_BARRED : Value
  m_BARRED : mg "BARRED" = some u_BARRED
  c_BARRED : kdV 8 K u_BARRED k_BARRED = true
  u_MOST_SIGNS : Value
  m_MOST_SIGNS : mg "MOST_SIGNS" = some u_MOST_SIGNS
  c_MOST_SIGNS : kdV 8 K u_MOST_SIGNS k_MOST_SIGNS = true
  u_LETTERS : Value
  m_LETTERS : mg "LETTERS" = some u_LETTERS
  c_LETTERS : kdV 8 K u_LETTERS k_LETTERS = true
  u_MARK : Value
  m_MARK : mg "MARK" = some u_MARK
  c_MARK : kdV 8 K u_MARK k_MARK = true
  t_WORDS : Addr
  m_WORDS : mg "WORDS" = some (.ref t_WORDS)
  kd_WORDS : KD K w t_WORDS tbl_WORDS
  a__law_source_of : Addr
  d__law_source_of : FuncData
  v__law_source_of : List V
  F__law_source_of : FunD K "_law_source_of" "_law_source_of" (defArgs s__law_source_of) (defBody s__law_source_of) (defScope s__law_source_of) v__law_source_of [] a__law_source_of d__law_source_of
  m__law_source_of : mg "_law_source_of" = some (.ref a__law_source_of)
  b__law_source_of : Binds K d__law_source_of ["_law_cell"] []
  a__law_cell_at : Addr
  d__law_cell_at : FuncData
  v__law_cell_at : List V
  F__law_cell_at : FunD K "_law_cell_at" "_law_cell_at" (defArgs s__law_cell_at) (defBody s__law_cell_at) (defScope s__law_cell_at) v__law_cell_at [] a__law_cell_at d__law_cell_at
  m__law_cell_at : mg "_law_cell_at" = some (.ref a__law_cell_at)
  b__law_cell_at : Binds K d__law_cell_at ["_law_script", "_law_k"] []
  a__law_next : Addr
  d__law_next : FuncData
  v__law_next : List V
  F__law_next : FunD K "_law_next" "_law_next" (defArgs s__law_next) (defBody s__law_next) (defScope s__law_next) v__law_next [] a__law_next d__law_next
  m__law_next : mg "_law_next" = some (.ref a__law_next)
  b__law_next : Binds K d__law_next ["_law_source", "_law_many"] []
  a__law_one : Addr
  d__law_one : FuncData
  v__law_one : List V
  F__law_one : FunD K "_law_one" "_law_one" (defArgs s__law_one) (defBody s__law_one) (defScope s__law_one) v__law_one [] a__law_one d__law_one
  m__law_one : mg "_law_one" = some (.ref a__law_one)
  b__law_one : Binds K d__law_one ["_law_source", "_law_some"] []
  a__law_kind : Addr
  d__law_kind : FuncData
  v__law_kind : List V
  F__law_kind : FunD K "_law_kind" "_law_kind" (defArgs s__law_kind) (defBody s__law_kind) (defScope s__law_kind) v__law_kind [] a__law_kind d__law_kind
  m__law_kind : mg "_law_kind" = some (.ref a__law_kind)
  b__law_kind : Binds K d__law_kind ["_law_source", "_law_deep", "_law_names"] []
  a__law_filling : Addr
  d__law_filling : FuncData
  v__law_filling : List V
  F__law_filling : FunD K "_law_filling" "_law_filling" (defArgs s__law_filling) (defBody s__law_filling) (defScope s__law_filling) v__law_filling [] a__law_filling d__law_filling
  m__law_filling : mg "_law_filling" = some (.ref a__law_filling)
  b__law_filling : Binds K d__law_filling ["_law_source", "_law_names"] []
  a_is_name : Addr
  d_is_name : FuncData
  v_is_name : List V
  F_is_name : FunD K "is_name" "is_name" (defArgs s_is_name) (defBody s_is_name) (defScope s_is_name) v_is_name [] a_is_name d_is_name
  m_is_name : mg "is_name" = some (.ref a_is_name)
  b_is_name : Binds K d_is_name ["value"] []
  a_is_kind : Addr
  d_is_kind : FuncData
  v_is_kind : List V
  F_is_kind : FunD K "is_kind" "is_kind" (defArgs s_is_kind) (defBody s_is_kind) (defScope s_is_kind) v_is_kind [] a_is_kind d_is_kind
  m_is_kind : mg "is_kind" = some (.ref a_is_kind)
  b_is_kind : Binds K d_is_kind ["thing"] []
  a_want_kind : Addr
  d_want_kind : FuncData
  v_want_kind : List V
  F_want_kind : FunD K "want_kind" "want_kind" (defArgs s_want_kind) (defBody s_want_kind) (defScope s_want_kind) v_want_kind [] a_want_kind d_want_kind
  m_want_kind : mg "want_kind" = some (.ref a_want_kind)
  b_want_kind : Binds K d_want_kind ["thing"] []
  a_letter : Addr
  d_letter : FuncData
  v_letter : List V
  F_letter : FunD K "letter" "letter" (defArgs s_letter) (defBody s_letter) (defScope s_letter) v_letter [] a_letter d_letter
  m_letter : mg "letter" = some (.ref a_letter)
  b_letter : Binds K d_letter ["number"] []
  a_first_letters : Addr
  d_first_letters : FuncData
  v_first_letters : List V
  F_first_letters : FunD K "first_letters" "first_letters" (defArgs s_first_letters) (defBody s_first_letters) (defScope s_first_letters) v_first_letters [] a_first_letters d_first_letters
  m_first_letters : mg "first_letters" = some (.ref a_first_letters)
  b_first_letters : Binds K d_first_letters ["taken"] []
  a_exchange : Addr
  d_exchange : FuncData
  v_exchange : List V
  F_exchange : FunD K "exchange" "exchange" (defArgs s_exchange) (defBody s_exchange) (defScope s_exchange) v_exchange [] a_exchange d_exchange
  m_exchange : mg "exchange" = some (.ref a_exchange)
  b_exchange : Binds K d_exchange ["kind", "changes"] []
  a_relettered : Addr
  d_relettered : FuncData
  v_relettered : List V
  F_relettered : FunD K "relettered" "relettered" (defArgs s_relettered) (defBody s_relettered) (defScope s_relettered) v_relettered [] a_relettered d_relettered
  m_relettered : mg "relettered" = some (.ref a_relettered)
  b_relettered : Binds K d_relettered ["kind", "taken"] []
  a_free_of : Addr
  d_free_of : FuncData
  v_free_of : List V
  F_free_of : FunD K "free_of" "free_of" (defArgs s_free_of) (defBody s_free_of) (defScope s_free_of) v_free_of [] a_free_of d_free_of
  m_free_of : mg "free_of" = some (.ref a_free_of)
  b_free_of : Binds K d_free_of ["kind", "inside"] []
  e1_free_of : List Value
  y1_free_of : List V
  bd1_free_of : Binds K d_free_of ["kind", "inside"] e1_free_of
  vd1_free_of : Vals y1_free_of e1_free_of
  wd1_free_of : ∀ ρ S H, RpWs K ρ S H [.v (.tup [])] y1_free_of
  a_marked_from : Addr
  d_marked_from : FuncData
  v_marked_from : List V
  F_marked_from : FunD K "marked_from" "marked_from" (defArgs s_marked_from) (defBody s_marked_from) (defScope s_marked_from) v_marked_from [] a_marked_from d_marked_from
  m_marked_from : mg "marked_from" = some (.ref a_marked_from)
  b_marked_from : Binds K d_marked_from ["kind", "first"] []
  a_numbers_in : Addr
  d_numbers_in : FuncData
  v_numbers_in : List V
  F_numbers_in : FunD K "numbers_in" "numbers_in" (defArgs s_numbers_in) (defBody s_numbers_in) (defScope s_numbers_in) v_numbers_in [] a_numbers_in d_numbers_in
  m_numbers_in : mg "numbers_in" = some (.ref a_numbers_in)
  b_numbers_in : Binds K d_numbers_in ["kind"] []
  a_marked : Addr
  d_marked : FuncData
  v_marked : List V
  F_marked : FunD K "marked" "marked" (defArgs s_marked) (defBody s_marked) (defScope s_marked) v_marked [] a_marked d_marked
  m_marked : mg "marked" = some (.ref a_marked)
  b_marked : Binds K d_marked ["kind", "first"] []
  e1_marked : List Value
  y1_marked : List V
  bd1_marked : Binds K d_marked ["kind", "first"] e1_marked
  vd1_marked : Vals y1_marked e1_marked
  wd1_marked : ∀ ρ S H, RpWs K ρ S H [.v (.int 0)] y1_marked
  a_plain_of : Addr
  d_plain_of : FuncData
  v_plain_of : List V
  F_plain_of : FunD K "plain_of" "plain_of" (defArgs s_plain_of) (defBody s_plain_of) (defScope s_plain_of) v_plain_of [] a_plain_of d_plain_of
  m_plain_of : mg "plain_of" = some (.ref a_plain_of)
  b_plain_of : Binds K d_plain_of ["kind"] []
  a_put_of : Addr
  d_put_of : FuncData
  v_put_of : List V
  F_put_of : FunD K "put_of" "put_of" (defArgs s_put_of) (defBody s_put_of) (defScope s_put_of) v_put_of [] a_put_of d_put_of
  m_put_of : mg "put_of" = some (.ref a_put_of)
  b_put_of : Binds K d_put_of ["kind", "changes"] []
  a_put : Addr
  d_put : FuncData
  v_put : List V
  F_put : FunD K "put" "put" (defArgs s_put) (defBody s_put) (defScope s_put) v_put [] a_put d_put
  m_put : mg "put" = some (.ref a_put)
  b_put : Binds K d_put ["kind", "changes"] []
  a_free : Addr
  d_free : FuncData
  v_free : List V
  F_free : FunD K "free" "free" (defArgs s_free) (defBody s_free) (defScope s_free) v_free [] a_free d_free
  m_free : mg "free" = some (.ref a_free)
  b_free : Binds K d_free ["kind"] []
  a_plain : Addr
  d_plain : FuncData
  v_plain : List V
  F_plain : FunD K "plain" "plain" (defArgs s_plain) (defBody s_plain) (defScope s_plain) v_plain [] a_plain d_plain
  m_plain : mg "plain" = some (.ref a_plain)
  b_plain : Binds K d_plain ["kind"] []
  a__law_put_right : Addr
  d__law_put_right : FuncData
  v__law_put_right : List V
  F__law_put_right : FunD K "_law_put_right" "_law_put_right" (defArgs s__law_put_right) (defBody s__law_put_right) (defScope s__law_put_right) v__law_put_right [] a__law_put_right d__law_put_right
  m__law_put_right : mg "_law_put_right" = some (.ref a__law_put_right)
  b__law_put_right : Binds K d__law_put_right ["_law_kind_here", "_law_first", "_law_second"] []
  a_same : Addr
  d_same : FuncData
  v_same : List V
  F_same : FunD K "same" "same" (defArgs s_same) (defBody s_same) (defScope s_same) v_same [] a_same d_same
  m_same : mg "same" = some (.ref a_same)
  b_same : Binds K d_same ["one", "other"] []
  a__law_same_right : Addr
  d__law_same_right : FuncData
  v__law_same_right : List V
  F__law_same_right : FunD K "_law_same_right" "_law_same_right" (defArgs s__law_same_right) (defBody s__law_same_right) (defScope s__law_same_right) v__law_same_right [] a__law_same_right d__law_same_right
  m__law_same_right : mg "_law_same_right" = some (.ref a__law_same_right)
  b__law_same_right : Binds K d__law_same_right ["_law_one_here", "_law_other", "_law_filling_here"] []
  a_law : Addr
  d_law : FuncData
  v_law : List V
  F_law : FunD K "law" "law" (defArgs s_law) (defBody s_law) (defScope s_law) v_law [] a_law d_law
section
variable {P : Program} {w : World} {K : PySem.W.Frag} {mg : Str → Option Value} {base : Heap}
open NdefX
theorem ke_ok (T : Top P w K mg) : ∃ fd, Binds K fd ["self"] [] ∧ L2.FnOk P w K mg base CX0 1 T.f_KindError fd ["self"] (spKe K T.C_KindError) := ke_init T.S_KindError (nscope_by (sc := defScope i_KindError) (by decide +kernel)) (fun _ _ _ us h => match us, h with | [_], _ => rfl) rfl (fun _ => rfl) T.sup T.op
theorem xc_NoKind (T : Top P w K mg) : XCls P w K mg base 2 T.C_NoKind T.f_NoKind := by
  obtain ⟨fd0, b0, F0⟩ := ke_ok (base := base) T
  exact ⟨T.m_NoKind, T.n_NoKind, T.ke_NoKind.ox, T.iC_NoKind, fnB_ty T.fb_NoKind, x_init1 T.S_NoKind (nscope_by (sc := defScope i_NoKind) (by decide +kernel)) (fun _ _ _ us h => match us, h with | [_, _], _ => rfl) rfl (fun _ => rfl) T.sup T.op T.ke_NoKind (raB_self T.ra_NoKind) (raB_up T.ra_NoKind) (fnB_ty T.fb_KindError) (fnB_fn T.fb_KindError) b0 F0 (raB_no T.ra_NoKind (by decide +kernel))⟩
end
end Fro

namespace Fro
open PySem PySem.Spec L2
section
variable {P : Program} {w : World} {K : PySem.W.Frag} {mg : Str → Option Value} {base : Heap}
theorem o__law_source_of (T : Top P w K mg) : FnOk P w K mg base (CX P w) 1 T.a__law_source_of T.d__law_source_of ["_law_cell"] (spF K 1 f__law_source_of) := fn_denD T.F__law_source_of sc__law_source_of fun cdv A outer s H E hr tk po =>
    (dss_cons (ds_set 0 sc__law_source_of.nd (de_if (dt_cmp op_ge g2_ge (de_var 0) de_int) (de_var 0) (de_bin op_sub g2_sub (de_bin op_sub g2_sub de_int (de_bin op_mulA g2_mul de_int (de_var 0))) de_int)))
    (dss_one (ds_ret (de_lstM (da_cons (de_bin op_mulA g2_mul (de_var 0) (de_bty call_int1 gn_int T.z_int (by decide +kernel) (da_cons (de_cmp op_ge g2_ge (de_var 0) (de_bin op_pow g2_pow de_int de_int)) da_nil))) (da_cons (de_bin op_mod g2_mod (de_bty call_int1 gn_int T.z_int (by decide +kernel) (da_cons (de_var 0) da_nil)) de_int) (da_cons de_int da_nil)))))))
end
section
variable {P : Program} {w : World} {K : PySem.W.Frag} {mg : Str → Option Value} {base : Heap}
theorem o__law_cell_at (T : Top P w K mg) : FnOk P w K mg base (CX P w) 1 T.a__law_cell_at T.d__law_cell_at ["_law_script", "_law_k"] (spF K 2 f__law_cell_at) := fn_denD T.F__law_cell_at sc__law_cell_at fun cdv A outer s H E hr tk po =>
    (dss_cons (ds_if (dt_cmp op_lt g2_lt (de_var 1) (de_len T.z_len (da_cons (de_var 0) da_nil)))
    (dss_one (ds_ret (de_ix (de_var 0) (de_var 1))))
    dss_nil)
    (dss_one (ds_ret de_int)))
end
section
variable {P : Program} {w : World} {K : PySem.W.Frag} {mg : Str → Option Value} {base : Heap}
theorem o__law_next (T : Top P w K mg) : FnOk P w K mg base (CX P w) 1 T.a__law_next T.d__law_next ["_law_source", "_law_many"] (spF K 2 f__law_next) := fn_denD T.F__law_next sc__law_next fun cdv A outer s H E hr tk po =>
    (dss_cons (ds_if (dt_cmp op_gt g2_gt (de_ix (de_var 0) de_int) de_int)
    (dss_cons (ds_set 2 sc__law_next.nd (de_bin op_mod g2_mod (de_bty call_int1 gn_int T.z_int (by decide +kernel) (da_cons (de_ix (de_var 0) de_int) da_nil)) (de_var 1)))
    (dss_cons (ds_asg (de_bin op_fdiv g2_div (de_ix (de_var 0) de_int) (de_var 1)) (pg_sub (de_var 0) de_int set_list) gok_sub)
    (dss_one (ds_ret (de_var 2)))))
    dss_nil)
    (dss_cons (ds_asg (de_bin op_addA g2_add (de_ix (de_var 0) de_int) de_int) (pg_sub (de_var 0) de_int set_list) gok_sub)
    (dss_cons (ds_set 3 sc__law_next.nd de_int)
    (dss_cons (ds_set 4 sc__law_next.nd (de_bin op_mod g2_mod (de_bty call_int1 gn_int T.z_int (by decide +kernel) (da_cons (de_bin op_addA g2_add (de_bin op_addA g2_add (de_ix (de_var 0) de_int) (de_bin op_mulA g2_mul de_int (de_ix (de_var 0) de_int))) de_int) da_nil)) (de_var 3)))
    (dss_cons (ds_set 4 sc__law_next.nd (de_bin op_mod g2_mod (de_bty call_int1 gn_int T.z_int (by decide +kernel) (da_cons (de_bin op_mulA g2_mul (de_var 4) de_int) da_nil)) (de_var 3)))
    (dss_cons (ds_set 4 sc__law_next.nd (de_bin op_mod g2_mod (de_bty call_int1 gn_int T.z_int (by decide +kernel) (da_cons (de_bin op_mulA g2_mul (de_var 4) (de_bin op_addA g2_add (de_bin op_fdiv g2_div (de_var 4) de_int) de_int)) da_nil)) (de_var 3)))
    (dss_cons (ds_set 4 sc__law_next.nd (de_bin op_mod g2_mod (de_bty call_int1 gn_int T.z_int (by decide +kernel) (da_cons (de_bin op_mulA g2_mul (de_var 4) (de_bin op_addA g2_add (de_bin op_fdiv g2_div (de_var 4) de_int) de_int)) da_nil)) de_int))
    (dss_one (ds_ret (de_bin op_mod g2_mod (de_bty call_int1 gn_int T.z_int (by decide +kernel) (da_cons (de_bin op_fdiv g2_div (de_var 4) de_int) da_nil)) (de_var 1)))))))))))
end
section
variable {P : Program} {w : World} {K : PySem.W.Frag} {mg : Str → Option Value} {base : Heap}
theorem o__law_one (T : Top P w K mg) : FnOk P w K mg base (CX P w) 2 T.a__law_one T.d__law_one ["_law_source", "_law_some"] (spF K 2 f__law_one) := fn_denD T.F__law_one sc__law_one fun cdv A outer s H E hr tk po =>
    (dss_one (ds_ret (de_ix (de_var 1) (de_callX (o__law_next T) (hr.mono (by omega)) tk T.m__law_next T.F__law_next.kp T.b__law_next .nil (fun _ _ _ => .nil) (da_cons (de_var 0) (da_cons (de_len T.z_len (da_cons (de_var 1) da_nil)) da_nil))))))
end
end Fro

namespace Fro
open PySem PySem.Spec L2
section
variable {P : Program} {w : World} {K : PySem.W.Frag} {mg : Str → Option Value} {base : Heap}
theorem o__law_kind (T : Top P w K mg) : ∀ m : Nat, FnOk P w K mg base (CX P w) (m + 2) T.a__law_kind T.d__law_kind ["_law_source", "_law_deep", "_law_names"] (spF K 3 (f__law_kind m))
  | 0 => fn_zero rfl
  | m + 1 => by
    have ih := o__law_kind T m
    have ok : FnOk P w K mg base (CX P w) (m + 2 + 1) T.a__law_kind T.d__law_kind ["_law_source", "_law_deep", "_law_names"] (spF K 3 (fdef 5 (b__law_kind (f__law_kind m)))) := fn_denD T.F__law_kind sc__law_kind fun cdv A outer s H E hr tk po =>
    (dss_cons (ds_set 3 sc__law_kind.nd (de_callX (o__law_next T) (hr.mono (by omega)) tk T.m__law_next T.F__law_next.kp T.b__law_next .nil (fun _ _ _ => .nil) (da_cons (de_var 0) (da_cons de_int da_nil))))
    (dss_cons (ds_if (dw_or (dt_cmp (op_eqM hr) g2_eq (de_var 1) de_int) (dw_or1 (dt_cmp op_lt g2_lt (de_var 3) de_int))).pt
    (dss_cons (ds_if (dw_or (dt_cmp (op_eqM hr) g2_eq (de_var 3) de_int) (dw_or1 (dt_cmp (op_eqM hr) g2_eq (de_bin op_mod g2_mod (de_bty call_int1 gn_int T.z_int (by decide +kernel) (da_cons (de_var 3) da_nil)) de_int) de_int))).pt
    (dss_one (ds_ret (de_tup (da_cons (de_str [99, 111, 110]) (da_cons (de_callX (o__law_one T) (hr.mono (by omega)) tk T.m__law_one T.F__law_one.kp T.b__law_one .nil (fun _ _ _ => .nil) (da_cons (de_var 0) (da_cons (de_lst (da_cons (de_str [73, 110, 116]) (da_cons (de_str [66, 111, 111, 108]) (da_cons (de_str [85, 110, 105, 116]) da_nil)))) da_nil))) (da_cons (de_tup da_nil) da_nil))))))
    dss_nil)
    (dss_one (ds_ret (de_tup (da_cons (de_str [118, 97, 114]) (da_cons (de_callX (o__law_one T) (hr.mono (by omega)) tk T.m__law_one T.F__law_one.kp T.b__law_one .nil (fun _ _ _ => .nil) (da_cons (de_var 0) (da_cons (de_var 2) da_nil))) da_nil))))))
    dss_nil)
    (dss_cons (ds_if (dt_cmp op_lt g2_lt (de_var 3) de_int)
    (dss_one (ds_ret (de_tup (da_cons (de_str [97, 108, 108]) (da_cons (de_callX (o__law_one T) (hr.mono (by omega)) tk T.m__law_one T.F__law_one.kp T.b__law_one .nil (fun _ _ _ => .nil) (da_cons (de_var 0) (da_cons (de_var 2) da_nil))) (da_cons (de_callX ih hr tk T.m__law_kind T.F__law_kind.kp T.b__law_kind .nil (fun _ _ _ => .nil) (da_cons (de_var 0) (da_cons (de_bin op_sub g2_sub (de_var 1) de_int) (da_cons (de_var 2) da_nil)))) da_nil))))))
    dss_nil)
    (dss_cons (ds_if (dt_cmp (op_eqM hr) g2_eq (de_var 3) de_int)
    (dss_one (ds_ret (de_tup (da_cons (de_str [99, 111, 110]) (da_cons (de_str [76, 105, 115, 116]) (da_cons (de_tup (da_cons (de_callX ih hr tk T.m__law_kind T.F__law_kind.kp T.b__law_kind .nil (fun _ _ _ => .nil) (da_cons (de_var 0) (da_cons (de_bin op_sub g2_sub (de_var 1) de_int) (da_cons (de_var 2) da_nil)))) da_nil)) da_nil))))))
    dss_nil)
    (dss_cons (ds_set 4 sc__law_kind.nd (de_callX ih hr tk T.m__law_kind T.F__law_kind.kp T.b__law_kind .nil (fun _ _ _ => .nil) (da_cons (de_var 0) (da_cons (de_bin op_sub g2_sub (de_var 1) de_int) (da_cons (de_var 2) da_nil)))))
    (dss_one (ds_ret (de_tup (da_cons (de_str [99, 111, 110]) (da_cons (de_callX (o__law_one T) (hr.mono (by omega)) tk T.m__law_one T.F__law_one.kp T.b__law_one .nil (fun _ _ _ => .nil) (da_cons (de_var 0) (da_cons (de_lst (da_cons (de_str [84, 111]) (da_cons (de_str [80, 97, 105, 114]) (da_cons (de_str [84, 111]) da_nil)))) da_nil))) (da_cons (de_tup (da_cons (de_var 4) (da_cons (de_callX ih hr tk T.m__law_kind T.F__law_kind.kp T.b__law_kind .nil (fun _ _ _ => .nil) (da_cons (de_var 0) (da_cons (de_bin op_sub g2_sub (de_var 1) de_int) (da_cons (de_var 2) da_nil)))) da_nil))) da_nil)))))))))))
    exact ok.mono (by omega)
end
section
variable {P : Program} {w : World} {K : PySem.W.Frag} {mg : Str → Option Value} {base : Heap}
theorem o__law_filling (T : Top P w K mg) : FnOk P w K mg base (CX P w) 10 T.a__law_filling T.d__law_filling ["_law_source", "_law_names"] (spF K 2 f__law_filling) := fn_denD T.F__law_filling sc__law_filling fun cdv A outer s H E hr tk po =>
    (dss_cons (ds_set 2 sc__law_filling.nd (de_lstM da_nil))
    (dss_cons (ds_for po rfl (di_list (de_var 1)) (pg_name (i := 3) sc__law_filling.nd rfl (by first | exact Or.inl rfl | exact Or.inr rfl)) (gok_name 3)
    (dss_one (ds_if (dt_cmp (op_eqM hr) g2_eq (de_callX (o__law_next T) (hr.mono (by omega)) tk T.m__law_next T.F__law_next.kp T.b__law_next .nil (fun _ _ _ => .nil) (da_cons (de_var 0) (da_cons de_int da_nil))) de_int)
    (dss_one (ds_expr (de_append (de_var 2) (de_tup (da_cons (de_var 3) (da_cons (de_callX (o__law_kind T 7) (hr.mono (by omega)) tk T.m__law_kind T.F__law_kind.kp T.b__law_kind .nil (fun _ _ _ => .nil) (da_cons (de_var 0) (da_cons (de_callX (o__law_next T) (hr.mono (by omega)) tk T.m__law_next T.F__law_next.kp T.b__law_next .nil (fun _ _ _ => .nil) (da_cons (de_var 0) (da_cons de_int da_nil))) (da_cons (de_var 1) da_nil)))) da_nil))))))
    dss_nil)))
    (dss_one (ds_ret (de_bty (call_dictP rfl) gn_dictP T.z_dict (by decide +kernel) (da_cons (de_var 2) da_nil))))))
end
section
variable {P : Program} {w : World} {K : PySem.W.Frag} {mg : Str → Option Value} {base : Heap}
theorem o_is_name (T : Top P w K mg) : FnOk P w K mg base (CX P w) 1 T.a_is_name T.d_is_name ["value"] (spF K 1 f_is_name) := fn_denD T.F_is_name sc_is_name fun cdv A outer s H E hr tk po =>
    (dss_cons (ds_if (dw_or (dt_not (dt_val (de_blt call_isi gn_isi T.z_isinstance (by decide +kernel) (da_cons (de_var 0) (da_cons (de_type .str T.z_str (by decide +kernel)) da_nil))))) (dw_or1 (dt_cmp op_inA g2_in (de_var 0) (de_const 8 T.m_BARRED T.c_BARRED)))).pt
    (dss_one (ds_ret de_bl))
    dss_nil)
    (dss_one (ds_ret (de_and (de_chain op_le op_le g2_le g2_le de_int (de_len T.z_len (da_cons (de_var 0) da_nil)) (de_const 8 T.m_MOST_SIGNS T.c_MOST_SIGNS)) (de_one (de_blt (cr_all rfl) gn_all T.z_all (by decide +kernel) (da_cons (de_comp (own := [("sign", 1)]) rfl sc_is_name.nd (di_str (de_var 0)) (gok_name 1) (blk_by (N := ["value", "sign"]) (sc := defScope s_is_name) (by decide +kernel)) (fun _ _ _ _ _ => (pg_name (i := 1) sc_is_name.nd rfl (by first | exact Or.inl rfl | exact Or.inr rfl))) (fun _ _ _ _ _ => dts_nil) (fun _ _ _ _ _ => (de_cmp op_inA g2_in (de_var 1) (de_const 8 T.m_LETTERS T.c_LETTERS)))) da_nil)))))))
end
section
variable {P : Program} {w : World} {K : PySem.W.Frag} {mg : Str → Option Value} {base : Heap}
theorem o_is_kind (T : Top P w K mg) : ∀ m : Nat, FnOk P w K mg base (CX P w) (m + 1) T.a_is_kind T.d_is_kind ["thing"] (spF K 1 (f_is_kind m))
  | 0 => fn_zero rfl
  | m + 1 => by
    have ih := o_is_kind T m
    have ok : FnOk P w K mg base (CX P w) (m + 1 + 1) T.a_is_kind T.d_is_kind ["thing"] (spF K 1 (fdef 2 (b_is_kind (f_is_kind m)))) := fn_denD T.F_is_kind sc_is_kind fun cdv A outer s H E hr tk po =>
    (dss_cons (ds_if (dw_or (dt_not (dt_val (de_blt call_isi gn_isi T.z_isinstance (by decide +kernel) (da_cons (de_var 0) (da_cons (de_type .tup T.z_tuple (by decide +kernel)) da_nil))))) (dw_or1 (dt_cmp (op_eqM hr) g2_eq (de_var 0) (de_tup da_nil)))).pt
    (dss_one (ds_ret de_bl))
    dss_nil)
    (dss_cons (ds_if (dt_cmp (op_eqM hr) g2_eq (de_ix (de_var 0) de_int) (de_str [118, 97, 114]))
    (dss_one (ds_ret (de_and (de_cmp (op_eqM hr) g2_eq (de_len T.z_len (da_cons (de_var 0) da_nil)) de_int) (de_one (de_callX (o_is_name T) (hr.mono (by omega)) tk T.m_is_name T.F_is_name.kp T.b_is_name .nil (fun _ _ _ => .nil) (da_cons (de_ix (de_var 0) de_int) da_nil))))))
    dss_nil)
    (dss_cons (ds_if (dt_cmp (op_eqM hr) g2_eq (de_ix (de_var 0) de_int) (de_str [97, 108, 108]))
    (dss_one (ds_ret (de_and (de_cmp (op_eqM hr) g2_eq (de_len T.z_len (da_cons (de_var 0) da_nil)) de_int) (de_and (de_callX (o_is_name T) (hr.mono (by omega)) tk T.m_is_name T.F_is_name.kp T.b_is_name .nil (fun _ _ _ => .nil) (da_cons (de_ix (de_var 0) de_int) da_nil)) (de_one (de_callX ih hr tk T.m_is_kind T.F_is_kind.kp T.b_is_kind .nil (fun _ _ _ => .nil) (da_cons (de_ix (de_var 0) de_int) da_nil)))))))
    dss_nil)
    (dss_cons (ds_if (dw_or (dt_cmp (op_neM hr) g2_ne (de_ix (de_var 0) de_int) (de_str [99, 111, 110])) (dw_or (dt_cmp (op_neM hr) g2_ne (de_len T.z_len (da_cons (de_var 0) da_nil)) de_int) (dw_or (dt_not (dt_val (de_blt call_isi gn_isi T.z_isinstance (by decide +kernel) (da_cons (de_ix (de_var 0) de_int) (da_cons (de_type .str T.z_str (by decide +kernel)) da_nil))))) (dw_or1 (dt_knotin T.kd_WORDS T.m_WORDS (de_ix (de_var 0) de_int)))))).pt
    (dss_one (ds_ret de_bl))
    dss_nil)
    (dss_cons (ds_if (dw_or (dt_not (dt_val (de_blt call_isi gn_isi T.z_isinstance (by decide +kernel) (da_cons (de_ix (de_var 0) de_int) (da_cons (de_type .tup T.z_tuple (by decide +kernel)) da_nil))))) (dw_or1 (dt_cmp (op_neM hr) g2_ne (de_len T.z_len (da_cons (de_ix (de_var 0) de_int) da_nil)) (de_kget T.kd_WORDS T.m_WORDS (de_ix (de_var 0) de_int))))).pt
    (dss_one (ds_ret de_bl))
    dss_nil)
    (dss_one (ds_ret (de_blt (cr_all rfl) gn_all T.z_all (by decide +kernel) (da_cons (de_comp (own := [("one", 1)]) rfl sc_is_kind.nd (di_tup (de_ix (de_var 0) de_int)) (gok_name 1) (blk_by (N := ["thing", "one"]) (sc := defScope s_is_kind) (by decide +kernel)) (fun _ _ _ _ _ => (pg_name (i := 1) sc_is_kind.nd rfl (by first | exact Or.inl rfl | exact Or.inr rfl))) (fun _ _ _ _ _ => dts_nil) (fun _ _ _ _ _ => (de_call ih hr T.m_is_kind T.F_is_kind.kp T.b_is_kind .nil (fun _ _ _ => .nil) (da_cons (de_var 1) da_nil)))) da_nil)))))))))
    exact ok.mono (by omega)
end
end Fro

namespace Fro
open PySem PySem.Spec L2
section
variable {P : Program} {w : World} {K : PySem.W.Frag} {mg : Str → Option Value} {base : Heap}
theorem o_want_kind (T : Top P w K mg) : FnOk P w K mg base (CX P w) 32 T.a_want_kind T.d_want_kind ["thing"] (spF K 1 f_want_kind) := fn_denD T.F_want_kind sc_want_kind fun cdv A outer s H E hr tk po =>
    (dss_one (ds_if (dt_not (dt_val (de_callX (o_is_kind T 30) (hr.mono (by omega)) tk T.m_is_kind T.F_is_kind.kp T.b_is_kind .nil (fun _ _ _ => .nil) (da_cons (de_var 0) da_nil))))
    (dss_one (ds_raise (xc_NoKind T) (hr.mono (by omega)) tk rfl (da_cons (de_var 0) da_nil)))
    dss_nil))
end
section
variable {P : Program} {w : World} {K : PySem.W.Frag} {mg : Str → Option Value} {base : Heap}
theorem o_letter (T : Top P w K mg) : FnOk P w K mg base (CX P w) 1 T.a_letter T.d_letter ["number"] (spF K 1 f_letter) := fn_denD T.F_letter sc_letter fun cdv A outer s H E hr tk po =>
    (dss_cons (ds_set 1 sc_letter.nd (de_ix (de_const 8 T.m_LETTERS T.c_LETTERS) (de_bin op_mod g2_mod (de_bty call_int1 gn_int T.z_int (by decide +kernel) (da_cons (de_var 0) da_nil)) de_int)))
    (dss_cons (ds_set 2 sc_letter.nd (de_bin op_fdiv g2_div (de_var 0) de_int))
    (dss_cons (ds_while 100000 po (dt_cmp op_gt g2_gt (de_var 2) de_int)
    (dss_cons (ds_set 1 sc_letter.nd (de_bin op_addA g2_add (de_ix (de_const 8 T.m_LETTERS T.c_LETTERS) (de_bin op_mod g2_mod (de_bty call_int1 gn_int T.z_int (by decide +kernel) (da_cons (de_bin op_sub g2_sub (de_var 2) de_int) da_nil)) de_int)) (de_var 1)))
    (dss_one (ds_set 2 sc_letter.nd (de_bin op_fdiv g2_div (de_bin op_sub g2_sub (de_var 2) de_int) de_int)))))
    (dss_one (ds_ret (de_var 1))))))
end
section
variable {P : Program} {w : World} {K : PySem.W.Frag} {mg : Str → Option Value} {base : Heap}
theorem o_first_letters (T : Top P w K mg) : FnOk P w K mg base (CX P w) 2 T.a_first_letters T.d_first_letters ["taken"] (spF K 1 f_first_letters) := fn_denD T.F_first_letters sc_first_letters fun cdv A outer s H E hr tk po =>
    (dss_cons (ds_set 1 sc_first_letters.nd de_int)
    (dss_cons (ds_while 100000 po (dw_or (dt_cmp op_inA g2_in (de_callX (o_letter T) (hr.mono (by omega)) tk T.m_letter T.F_letter.kp T.b_letter .nil (fun _ _ _ => .nil) (da_cons (de_var 1) da_nil)) (de_var 0)) (dw_or1 (dt_cmp op_inA g2_in (de_callX (o_letter T) (hr.mono (by omega)) tk T.m_letter T.F_letter.kp T.b_letter .nil (fun _ _ _ => .nil) (da_cons (de_var 1) da_nil)) (de_const 8 T.m_BARRED T.c_BARRED)))).pt
    (dss_one (ds_set 1 sc_first_letters.nd (de_bin op_addA g2_add (de_var 1) de_int))))
    (dss_one (ds_ret (de_callX (o_letter T) (hr.mono (by omega)) tk T.m_letter T.F_letter.kp T.b_letter .nil (fun _ _ _ => .nil) (da_cons (de_var 1) da_nil))))))
end
section
variable {P : Program} {w : World} {K : PySem.W.Frag} {mg : Str → Option Value} {base : Heap}
theorem o_exchange (T : Top P w K mg) : ∀ m : Nat, FnOk P w K mg base (CX P w) (m + 0) T.a_exchange T.d_exchange ["kind", "changes"] (spF K 2 (f_exchange m))
  | 0 => fn_zero rfl
  | m + 1 => by
    have ih := o_exchange T m
    have ok : FnOk P w K mg base (CX P w) (m + 0 + 1) T.a_exchange T.d_exchange ["kind", "changes"] (spF K 2 (fdef 5 (b_exchange (f_exchange m)))) := fn_denD T.F_exchange sc_exchange fun cdv A outer s H E hr tk po =>
    (dss_cons (ds_if (dt_cmp (op_eqM hr) g2_eq (de_ix (de_var 0) de_int) (de_str [118, 97, 114]))
    (dss_one (ds_ret (de_dget2 hr (de_var 1) (de_ix (de_var 0) de_int) (de_var 0))))
    dss_nil)
    (dss_cons (ds_if (dt_cmp (op_eqM hr) g2_eq (de_ix (de_var 0) de_int) (de_str [97, 108, 108]))
    (dss_cons (ds_lk 1 (ds_setDComp 2 (own := [("name", 3), ("one", 4)]) rfl sc_exchange.nd (di_items (de_var 1)) (gok_tup (gsok_cons (gok_name 3) (gsok_cons (gok_name 4) gsok_nil))) (blk_by (N := ["kind", "changes", "rest", "name", "one"]) (sc := defScope s_exchange) (by decide +kernel)) (fun _ _ _ _ _ => (pg_tup rfl (pgs_cons (pg_name (i := 3) sc_exchange.nd rfl (by first | exact Or.inl rfl | exact Or.inr rfl)) (pgs_cons (pg_name (i := 4) sc_exchange.nd rfl (by first | exact Or.inl rfl | exact Or.inr rfl)) pgs_nil)))) (fun _ _ _ _ _ => (dts_one (dt_cmp (op_neM hr) g2_ne (de_var 3) (de_ix (de_var 0) de_int)))) (fun _ _ _ _ _ => (de_var 3)) (fun _ _ _ _ _ => (de_var 4))))
    (dss_one (ds_ret (de_tup (da_cons (de_str [97, 108, 108]) (da_cons (de_ix (de_var 0) de_int) (da_cons (de_callX ih hr tk T.m_exchange T.F_exchange.kp T.b_exchange .nil (fun _ _ _ => .nil) (da_cons (de_ix (de_var 0) de_int) (da_cons (de_var 2) da_nil))) da_nil)))))))
    dss_nil)
    (dss_one (ds_ret (de_tup (da_cons (de_str [99, 111, 110]) (da_cons (de_ix (de_var 0) de_int) (da_cons (de_bty call_tuple_of gn_tuple T.z_tuple (by decide +kernel) (da_cons (de_comp (own := [("one", 4)]) rfl sc_exchange.nd (di_tup (de_ix (de_var 0) de_int)) (gok_name 4) (blk_by (N := ["kind", "changes", "rest", "name", "one"]) (sc := defScope s_exchange) (by decide +kernel)) (fun _ _ _ _ _ => (pg_name (i := 4) sc_exchange.nd rfl (by first | exact Or.inl rfl | exact Or.inr rfl))) (fun _ _ _ _ _ => dts_nil) (fun _ _ _ _ _ => (de_call ih hr T.m_exchange T.F_exchange.kp T.b_exchange .nil (fun _ _ _ => .nil) (da_cons (de_var 4) (da_cons (de_var 1) da_nil))))) da_nil)) da_nil))))))))
    exact ok.mono (by omega)
end
end Fro

namespace Fro
open PySem PySem.Spec L2
section
variable {P : Program} {w : World} {K : PySem.W.Frag} {mg : Str → Option Value} {base : Heap}
theorem o_relettered (T : Top P w K mg) : ∀ m : Nat, FnOk P w K mg base (CX P w) (m + 30) T.a_relettered T.d_relettered ["kind", "taken"] (spF K 2 (f_relettered m))
  | 0 => fn_zero rfl
  | m + 1 => by
    have ih := o_relettered T m
    have ok : FnOk P w K mg base (CX P w) (m + 30 + 1) T.a_relettered T.d_relettered ["kind", "taken"] (spF K 2 (fdef 4 (b_relettered (f_relettered m)))) := fn_denD T.F_relettered sc_relettered fun cdv A outer s H E hr tk po =>
    (dss_cons (ds_if (dt_cmp (op_eqM hr) g2_eq (de_ix (de_var 0) de_int) (de_str [118, 97, 114]))
    (dss_one (ds_ret (de_var 0)))
    dss_nil)
    (dss_cons (ds_if (dt_cmp (op_eqM hr) g2_eq (de_ix (de_var 0) de_int) (de_str [97, 108, 108]))
    (dss_cons (ds_set 2 sc_relettered.nd (de_callX (o_first_letters T) (hr.mono (by omega)) tk T.m_first_letters T.F_first_letters.kp T.b_first_letters .nil (fun _ _ _ => .nil) (da_cons (de_var 1) da_nil)))
    (dss_one (ds_ret (de_tup (da_cons (de_str [97, 108, 108]) (da_cons (de_var 2) (da_cons (de_callX ih hr tk T.m_relettered T.F_relettered.kp T.b_relettered .nil (fun _ _ _ => .nil) (da_cons (de_callX (o_exchange T 30) (hr.mono (by omega)) tk T.m_exchange T.F_exchange.kp T.b_exchange .nil (fun _ _ _ => .nil) (da_cons (de_ix (de_var 0) de_int) (da_cons (de_dict (dd_cons (de_ix (de_var 0) de_int) (de_tup (da_cons (de_str [118, 97, 114]) (da_cons (de_var 2) da_nil))) dd_nil)) da_nil))) (da_cons (de_bin op_addA g2_add (de_var 1) (de_lst (da_cons (de_var 2) da_nil))) da_nil))) da_nil)))))))
    dss_nil)
    (dss_one (ds_ret (de_tup (da_cons (de_str [99, 111, 110]) (da_cons (de_ix (de_var 0) de_int) (da_cons (de_bty call_tuple_of gn_tuple T.z_tuple (by decide +kernel) (da_cons (de_comp (own := [("one", 3)]) rfl sc_relettered.nd (di_tup (de_ix (de_var 0) de_int)) (gok_name 3) (blk_by (N := ["kind", "taken", "name", "one"]) (sc := defScope s_relettered) (by decide +kernel)) (fun _ _ _ _ _ => (pg_name (i := 3) sc_relettered.nd rfl (by first | exact Or.inl rfl | exact Or.inr rfl))) (fun _ _ _ _ _ => dts_nil) (fun _ _ _ _ _ => (de_call ih hr T.m_relettered T.F_relettered.kp T.b_relettered .nil (fun _ _ _ => .nil) (da_cons (de_var 3) (da_cons (de_var 1) da_nil))))) da_nil)) da_nil))))))))
    exact ok.mono (by omega)
end
section
variable {P : Program} {w : World} {K : PySem.W.Frag} {mg : Str → Option Value} {base : Heap}
theorem o_free_of (T : Top P w K mg) : ∀ m : Nat, FnOk P w K mg base (CX P w) (m + 0) T.a_free_of T.d_free_of ["kind", "inside"] (spF K 2 (f_free_of m))
  | 0 => fn_zero rfl
  | m + 1 => by
    have ih := o_free_of T m
    have ok : FnOk P w K mg base (CX P w) (m + 0 + 1) T.a_free_of T.d_free_of ["kind", "inside"] (spF K 2 (fdef 5 (b_free_of (f_free_of m)))) := fn_denD T.F_free_of sc_free_of fun cdv A outer s H E hr tk po =>
    (dss_cons (ds_if (dt_cmp (op_eqM hr) g2_eq (de_ix (de_var 0) de_int) (de_str [118, 97, 114]))
    (dss_one (ds_ret (de_if (dt_cmp op_inA g2_in (de_ix (de_var 0) de_int) (de_var 1)) (de_lstM da_nil) (de_lstM (da_cons (de_ix (de_var 0) de_int) da_nil)))))
    dss_nil)
    (dss_cons (ds_if (dt_cmp (op_eqM hr) g2_eq (de_ix (de_var 0) de_int) (de_str [97, 108, 108]))
    (dss_one (ds_ret (de_callMX ih hr tk T.m_free_of T.F_free_of.kp T.b_free_of .nil (fun _ _ _ => .nil) (da_cons (de_ix (de_var 0) de_int) (da_cons (de_bin op_addA g2_add (de_var 1) (de_tup (da_cons (de_ix (de_var 0) de_int) da_nil))) da_nil)))))
    dss_nil)
    (dss_cons (ds_set 2 sc_free_of.nd (de_lstM da_nil))
    (dss_cons (ds_for po rfl (di_tup (de_ix (de_var 0) de_int)) (pg_name (i := 3) sc_free_of.nd rfl (by first | exact Or.inl rfl | exact Or.inr rfl)) (gok_name 3)
    (dss_one (ds_expr (de_extend (de_var 2) (de_comp (own := [("name", 4)]) rfl sc_free_of.nd (di_list (de_callX ih hr tk T.m_free_of T.F_free_of.kp T.b_free_of .nil (fun _ _ _ => .nil) (da_cons (de_var 3) (da_cons (de_var 1) da_nil)))) (gok_name 4) (blk_by (N := ["kind", "inside", "found", "one", "name"]) (sc := defScope s_free_of) (by decide +kernel)) (fun _ _ _ _ _ => (pg_name (i := 4) sc_free_of.nd rfl (by first | exact Or.inl rfl | exact Or.inr rfl))) (fun _ _ _ _ _ => (dts_one (dt_cmp op_notInA g2_notIn (de_var 4) (de_var 2)))) (fun _ _ _ _ _ => (de_var 4)))))))
    (dss_one (ds_ret (de_var 2)))))))
    exact ok.mono (by omega)
end
section
variable {P : Program} {w : World} {K : PySem.W.Frag} {mg : Str → Option Value} {base : Heap}
theorem o_marked_from (T : Top P w K mg) : ∀ m : Nat, FnOk P w K mg base (CX P w) (m + 30) T.a_marked_from T.d_marked_from ["kind", "first"] (spF K 2 (f_marked_from m))
  | 0 => fn_zero rfl
  | m + 1 => by
    have ih := o_marked_from T m
    have ok : FnOk P w K mg base (CX P w) (m + 30 + 1) T.a_marked_from T.d_marked_from ["kind", "first"] (spF K 2 (fdef 7 (b_marked_from (f_marked_from m)))) := fn_denD T.F_marked_from sc_marked_from fun cdv A outer s H E hr tk po =>
    (dss_cons (ds_if (dt_cmp (op_eqM hr) g2_eq (de_ix (de_var 0) de_int) (de_str [118, 97, 114]))
    (dss_one (ds_ret (de_tup (da_cons (de_var 0) (da_cons (de_var 1) da_nil)))))
    dss_nil)
    (dss_cons (ds_if (dt_cmp (op_eqM hr) g2_eq (de_ix (de_var 0) de_int) (de_str [97, 108, 108]))
    (dss_cons (ds_set 2 sc_marked_from.nd (de_bin op_addA g2_add (de_const 8 T.m_MARK T.c_MARK) (de_bty call_strA gn_str T.z_str (by decide +kernel) (da_cons (de_var 1) da_nil))))
    (dss_cons (ds_asg (de_callX ih hr tk T.m_marked_from T.F_marked_from.kp T.b_marked_from .nil (fun _ _ _ => .nil) (da_cons (de_callX (o_exchange T 30) (hr.mono (by omega)) tk T.m_exchange T.F_exchange.kp T.b_exchange .nil (fun _ _ _ => .nil) (da_cons (de_ix (de_var 0) de_int) (da_cons (de_dict (dd_cons (de_ix (de_var 0) de_int) (de_tup (da_cons (de_str [118, 97, 114]) (da_cons (de_var 2) da_nil))) dd_nil)) da_nil))) (da_cons (de_bin op_addA g2_add (de_var 1) de_int) da_nil))) (pg_tup rfl (pgs_cons (pg_name (i := 3) sc_marked_from.nd rfl (by first | exact Or.inl rfl | exact Or.inr rfl)) (pgs_cons (pg_name (i := 4) sc_marked_from.nd rfl (by first | exact Or.inl rfl | exact Or.inr rfl)) pgs_nil))) (gok_tup (gsok_cons (gok_name 3) (gsok_cons (gok_name 4) gsok_nil))))
    (dss_one (ds_ret (de_tup (da_cons (de_tup (da_cons (de_str [97, 108, 108]) (da_cons (de_var 2) (da_cons (de_var 3) da_nil)))) (da_cons (de_var 4) da_nil)))))))
    dss_nil)
    (dss_cons (ds_set 5 sc_marked_from.nd (de_lstM da_nil))
    (dss_cons (ds_for po rfl (di_tup (de_ix (de_var 0) de_int)) (pg_name (i := 6) sc_marked_from.nd rfl (by first | exact Or.inl rfl | exact Or.inr rfl)) (gok_name 6)
    (dss_cons (ds_asg (de_callX ih hr tk T.m_marked_from T.F_marked_from.kp T.b_marked_from .nil (fun _ _ _ => .nil) (da_cons (de_var 6) (da_cons (de_var 1) da_nil))) (pg_tup rfl (pgs_cons (pg_name (i := 3) sc_marked_from.nd rfl (by first | exact Or.inl rfl | exact Or.inr rfl)) (pgs_cons (pg_name (i := 1) sc_marked_from.nd rfl (by first | exact Or.inl rfl | exact Or.inr rfl)) pgs_nil))) (gok_tup (gsok_cons (gok_name 3) (gsok_cons (gok_name 1) gsok_nil))))
    (dss_one (ds_expr (de_append (de_var 5) (de_var 3))))))
    (dss_one (ds_ret (de_tup (da_cons (de_tup (da_cons (de_str [99, 111, 110]) (da_cons (de_ix (de_var 0) de_int) (da_cons (de_bty call_tuple_of gn_tuple T.z_tuple (by decide +kernel) (da_cons (de_var 5) da_nil)) da_nil)))) (da_cons (de_var 1) da_nil)))))))))
    exact ok.mono (by omega)
end
section
variable {P : Program} {w : World} {K : PySem.W.Frag} {mg : Str → Option Value} {base : Heap}
theorem o_numbers_in (T : Top P w K mg) : ∀ m : Nat, FnOk P w K mg base (CX P w) (m + 0) T.a_numbers_in T.d_numbers_in ["kind"] (spF K 1 (f_numbers_in m))
  | 0 => fn_zero rfl
  | m + 1 => by
    have ih := o_numbers_in T m
    have ok : FnOk P w K mg base (CX P w) (m + 0 + 1) T.a_numbers_in T.d_numbers_in ["kind"] (spF K 1 (fdef 4 (b_numbers_in (f_numbers_in m)))) := fn_denD T.F_numbers_in sc_numbers_in fun cdv A outer s H E hr tk po =>
    (dss_cons (ds_if (dt_cmp (op_eqM hr) g2_eq (de_ix (de_var 0) de_int) (de_str [99, 111, 110]))
    (dss_one (ds_ret (de_comp2 (own := [("one", 1), ("number", 2)]) (vs1 := [2]) rfl sc_numbers_in.nd (di_tup (de_ix (de_var 0) de_int)) (gok_name 1) (gok_name 2) (blk_by (N := ["kind", "one", "number", "found"]) (sc := defScope s_numbers_in) (by decide +kernel)) (fun _ _ _ _ _ => (pg_name (i := 1) sc_numbers_in.nd rfl (by first | exact Or.inl rfl | exact Or.inr rfl))) (fun _ _ _ _ _ => dts_nil) (fun _ _ _ _ _ => (di_list (de_call ih hr T.m_numbers_in T.F_numbers_in.kp T.b_numbers_in .nil (fun _ _ _ => .nil) (da_cons (de_var 1) da_nil)))) (fun _ _ _ _ _ => (pg_name (i := 2) sc_numbers_in.nd rfl (by first | exact Or.inl rfl | exact Or.inr rfl))) (fun _ _ _ _ _ => dts_nil) (fun _ _ _ _ _ => (de_var 2)))))
    dss_nil)
    (dss_cons (ds_set 3 sc_numbers_in.nd (de_if (dt_cmp (op_eqM hr) g2_eq (de_ix (de_var 0) de_int) (de_str [97, 108, 108])) (de_callX ih hr tk T.m_numbers_in T.F_numbers_in.kp T.b_numbers_in .nil (fun _ _ _ => .nil) (da_cons (de_ix (de_var 0) de_int) da_nil)) (de_lst da_nil)))
    (dss_one (ds_ret (de_if (dt_val (de_starts (de_ix (de_var 0) de_int) (de_const 8 T.m_MARK T.c_MARK))) (de_bin op_addA g2_add (de_var 3) (de_lst (da_cons (de_bty call_intA gn_intT T.z_int (by decide +kernel) (da_cons (de_slT (de_ix (de_var 0) de_int) (dp_some de_int) dp_none) da_nil)) da_nil))) (de_var 3))))))
    exact ok.mono (by omega)
end
end Fro

namespace Fro
open PySem PySem.Spec L2
section
variable {P : Program} {w : World} {K : PySem.W.Frag} {mg : Str → Option Value} {base : Heap}
theorem o_marked (T : Top P w K mg) : FnOk P w K mg base (CX P w) 61 T.a_marked T.d_marked ["kind", "first"] (spF K 2 f_marked) := fn_denD T.F_marked sc_marked fun cdv A outer s H E hr tk po =>
    (dss_one (ds_ret (de_callX (o_marked_from T 30) (hr.mono (by omega)) tk T.m_marked_from T.F_marked_from.kp T.b_marked_from .nil (fun _ _ _ => .nil) (da_cons (de_var 0) (da_cons (de_blt (cr_max rfl) gn_maxL T.z_max (by decide +kernel) (da_cons (de_bin op_addA g2_add (de_lst (da_cons (de_var 1) da_nil)) (de_comp (own := [("number", 2)]) rfl sc_marked.nd (di_list (de_callX (o_numbers_in T 30) (hr.mono (by omega)) tk T.m_numbers_in T.F_numbers_in.kp T.b_numbers_in .nil (fun _ _ _ => .nil) (da_cons (de_var 0) da_nil))) (gok_name 2) (blk_by (N := ["kind", "first", "number"]) (sc := defScope s_marked) (by decide +kernel)) (fun _ _ _ _ _ => (pg_name (i := 2) sc_marked.nd rfl (by first | exact Or.inl rfl | exact Or.inr rfl))) (fun _ _ _ _ _ => dts_nil) (fun _ _ _ _ _ => (de_bin op_addA g2_add (de_var 2) de_int)))) da_nil)) da_nil)))))
end
section
variable {P : Program} {w : World} {K : PySem.W.Frag} {mg : Str → Option Value} {base : Heap}
theorem o_plain_of (T : Top P w K mg) : FnOk P w K mg base (CX P w) 62 T.a_plain_of T.d_plain_of ["kind"] (spF K 1 f_plain_of) := fn_denD T.F_plain_of sc_plain_of fun cdv A outer s H E hr tk po =>
    (dss_one (ds_ret (de_callX (o_relettered T 30) (hr.mono (by omega)) tk T.m_relettered T.F_relettered.kp T.b_relettered .nil (fun _ _ _ => .nil) (da_cons (de_ix (de_callX (o_marked T) (hr.mono (by omega)) tk T.m_marked T.F_marked.kp T.bd1_marked T.vd1_marked T.wd1_marked (da_cons (de_var 0) da_nil)) de_int) (da_cons (de_callX (o_free_of T 30) (hr.mono (by omega)) tk T.m_free_of T.F_free_of.kp T.bd1_free_of T.vd1_free_of T.wd1_free_of (da_cons (de_var 0) da_nil)) da_nil)))))
end
section
variable {P : Program} {w : World} {K : PySem.W.Frag} {mg : Str → Option Value} {base : Heap}
theorem o_put_of (T : Top P w K mg) : FnOk P w K mg base (CX P w) 63 T.a_put_of T.d_put_of ["kind", "changes"] (spF K 2 f_put_of) := fn_denD T.F_put_of sc_put_of fun cdv A outer s H E hr tk po =>
    (dss_cons (ds_lk 1 (ds_setComp2 2 (own := [("one", 3), ("number", 4)]) (vs1 := [4]) rfl sc_put_of.nd (di_vals (de_var 1)) (gok_name 3) (gok_name 4) (blk_by (N := ["kind", "changes", "numbers", "one", "number"]) (sc := defScope s_put_of) (by decide +kernel)) (fun _ _ _ _ _ => (pg_name (i := 3) sc_put_of.nd rfl (by first | exact Or.inl rfl | exact Or.inr rfl))) (fun _ _ _ _ _ => dts_nil) (fun _ _ _ _ _ => (di_list (de_call (o_numbers_in T 30) (hr.mono (by omega)) T.m_numbers_in T.F_numbers_in.kp T.b_numbers_in .nil (fun _ _ _ => .nil) (da_cons (de_var 3) da_nil)))) (fun _ _ _ _ _ => (pg_name (i := 4) sc_put_of.nd rfl (by first | exact Or.inl rfl | exact Or.inr rfl))) (fun _ _ _ _ _ => dts_nil) (fun _ _ _ _ _ => (de_bin op_addA g2_add (de_var 4) de_int))))
    (dss_one (ds_ret (de_callX (o_plain_of T) (hr.mono (by omega)) tk T.m_plain_of T.F_plain_of.kp T.b_plain_of .nil (fun _ _ _ => .nil) (da_cons (de_callX (o_exchange T 30) (hr.mono (by omega)) tk T.m_exchange T.F_exchange.kp T.b_exchange .nil (fun _ _ _ => .nil) (da_cons (de_ix (de_callX (o_marked T) (hr.mono (by omega)) tk T.m_marked T.F_marked.kp T.b_marked .nil (fun _ _ _ => .nil) (da_cons (de_var 0) (da_cons (de_blt (cr_max rfl) gn_maxL T.z_max (by decide +kernel) (da_cons (de_bin op_addA g2_add (de_lst (da_cons de_int da_nil)) (de_var 2)) da_nil)) da_nil))) de_int) (da_cons (de_var 1) da_nil))) da_nil)))))
end
section
variable {P : Program} {w : World} {K : PySem.W.Frag} {mg : Str → Option Value} {base : Heap}
theorem o_put (T : Top P w K mg) : FnOk P w K mg base (CX P w) 64 T.a_put T.d_put ["kind", "changes"] (spF K 2 f_put) := fn_denD T.F_put sc_put fun cdv A outer s H E hr tk po =>
    (dss_cons (ds_expr (de_callX (o_want_kind T) (hr.mono (by omega)) tk T.m_want_kind T.F_want_kind.kp T.b_want_kind .nil (fun _ _ _ => .nil) (da_cons (de_var 0) da_nil)))
    (dss_cons (ds_lk 1 (ds_for po rfl (di_vals (de_var 1)) (pg_name (i := 2) sc_put.nd rfl (by first | exact Or.inl rfl | exact Or.inr rfl)) (gok_name 2)
    (dss_one (ds_expr (de_callX (o_want_kind T) (hr.mono (by omega)) tk T.m_want_kind T.F_want_kind.kp T.b_want_kind .nil (fun _ _ _ => .nil) (da_cons (de_var 2) da_nil))))))
    (dss_one (ds_ret (de_callX (o_put_of T) (hr.mono (by omega)) tk T.m_put_of T.F_put_of.kp T.b_put_of .nil (fun _ _ _ => .nil) (da_cons (de_var 0) (da_cons (de_var 1) da_nil)))))))
end
end Fro

namespace Fro
open PySem PySem.Spec L2
section
variable {P : Program} {w : World} {K : PySem.W.Frag} {mg : Str → Option Value} {base : Heap}
theorem o_free (T : Top P w K mg) : FnOk P w K mg base (CX P w) 33 T.a_free T.d_free ["kind"] (spF K 1 f_free) := fn_denD T.F_free sc_free fun cdv A outer s H E hr tk po =>
    (dss_cons (ds_expr (de_callX (o_want_kind T) (hr.mono (by omega)) tk T.m_want_kind T.F_want_kind.kp T.b_want_kind .nil (fun _ _ _ => .nil) (da_cons (de_var 0) da_nil)))
    (dss_one (ds_ret (de_callMX (o_free_of T 30) (hr.mono (by omega)) tk T.m_free_of T.F_free_of.kp T.bd1_free_of T.vd1_free_of T.wd1_free_of (da_cons (de_var 0) da_nil)))))
end
section
variable {P : Program} {w : World} {K : PySem.W.Frag} {mg : Str → Option Value} {base : Heap}
theorem o_plain (T : Top P w K mg) : FnOk P w K mg base (CX P w) 63 T.a_plain T.d_plain ["kind"] (spF K 1 f_plain) := fn_denD T.F_plain sc_plain fun cdv A outer s H E hr tk po =>
    (dss_cons (ds_expr (de_callX (o_want_kind T) (hr.mono (by omega)) tk T.m_want_kind T.F_want_kind.kp T.b_want_kind .nil (fun _ _ _ => .nil) (da_cons (de_var 0) da_nil)))
    (dss_one (ds_ret (de_callX (o_plain_of T) (hr.mono (by omega)) tk T.m_plain_of T.F_plain_of.kp T.b_plain_of .nil (fun _ _ _ => .nil) (da_cons (de_var 0) da_nil)))))
end
section
variable {P : Program} {w : World} {K : PySem.W.Frag} {mg : Str → Option Value} {base : Heap}
theorem o__law_put_right (T : Top P w K mg) : FnOk P w K mg base (CX P w) 65 T.a__law_put_right T.d__law_put_right ["_law_kind_here", "_law_first", "_law_second"] (spF K 3 f__law_put_right) := fn_denD T.F__law_put_right sc__law_put_right fun cdv A outer s H E hr tk po =>
    (dss_cons (ds_set 3 sc__law_put_right.nd (de_dictM T.z_dict (da_cons (de_var 2) da_nil)))
    (dss_cons (ds_lk 1 (ds_for po rfl (di_keys (de_var 1)) (pg_name (i := 4) sc__law_put_right.nd rfl (by first | exact Or.inl rfl | exact Or.inr rfl)) (gok_name 4)
    (dss_one (ds_asg (de_callX (o_put T) (hr.mono (by omega)) tk T.m_put T.F_put.kp T.b_put .nil (fun _ _ _ => .nil) (da_cons (de_dix hr (de_var 1) (de_var 4)) (da_cons (de_var 2) da_nil))) (pg_sub (de_var 3) (de_var 4) (L2.set_dict (hu1 hr))) gok_subE))))
    (dss_cons (ds_fz 3 (ds_set 5 sc__law_put_right.nd (de_callX (o_put T) (hr.mono (by omega)) tk T.m_put T.F_put.kp T.b_put .nil (fun _ _ _ => .nil) (da_cons (de_var 0) (da_cons (de_var 1) da_nil)))))
    (dss_cons (ds_if (dw_or (dt_cmp (op_neM hr) g2_ne (de_callX (o_put T) (hr.mono (by omega)) tk T.m_put T.F_put.kp T.b_put .nil (fun _ _ _ => .nil) (da_cons (de_var 5) (da_cons (de_var 2) da_nil))) (de_callX (o_put T) (hr.mono (by omega)) tk T.m_put T.F_put.kp T.b_put .nil (fun _ _ _ => .nil) (da_cons (de_var 0) (da_cons (de_var 3) da_nil)))) (dw_or (dt_not (dt_val (de_callX (o_is_kind T 30) (hr.mono (by omega)) tk T.m_is_kind T.F_is_kind.kp T.b_is_kind .nil (fun _ _ _ => .nil) (da_cons (de_var 5) da_nil)))) (dw_or1 (dt_cmp (op_neM hr) g2_ne (de_callX (o_plain T) (hr.mono (by omega)) tk T.m_plain T.F_plain.kp T.b_plain .nil (fun _ _ _ => .nil) (da_cons (de_var 5) da_nil)) (de_var 5))))).pt
    (dss_one (ds_ret de_bl))
    dss_nil)
    (dss_cons (ds_set 6 sc__law_put_right.nd (de_lst da_nil))
    (dss_cons (ds_for po rfl (di_list (de_callX (o_free T) (hr.mono (by omega)) tk T.m_free T.F_free.kp T.b_free .nil (fun _ _ _ => .nil) (da_cons (de_var 0) da_nil))) (pg_name (i := 4) sc__law_put_right.nd rfl (by first | exact Or.inl rfl | exact Or.inr rfl)) (gok_name 4)
    (dss_one (ds_set 6 sc__law_put_right.nd (de_bin op_addA g2_add (de_var 6) (de_callX (o_free T) (hr.mono (by omega)) tk T.m_free T.F_free.kp T.b_free .nil (fun _ _ _ => .nil) (da_cons (de_dget2 hr (de_var 1) (de_var 4) (de_tup (da_cons (de_str [118, 97, 114]) (da_cons (de_var 4) da_nil)))) da_nil))))))
    (dss_one (ds_ret (de_cmp (op_eqM hr) g2_eq (de_blt (call_sortedD rfl) gn_sortD T.z_sorted (by decide +kernel) (da_cons (de_dictzip T.z_dict T.z_zip (da_cons (de_var 6) (da_cons (de_var 6) da_nil))) da_nil)) (de_blt cr_sortedS gn_sortL T.z_sorted (by decide +kernel) (da_cons (de_callX (o_free T) (hr.mono (by omega)) tk T.m_free T.F_free.kp T.b_free .nil (fun _ _ _ => .nil) (da_cons (de_var 5) da_nil)) da_nil)))))))))))
end
section
variable {P : Program} {w : World} {K : PySem.W.Frag} {mg : Str → Option Value} {base : Heap}
theorem o_same (T : Top P w K mg) : FnOk P w K mg base (CX P w) 63 T.a_same T.d_same ["one", "other"] (spF K 2 f_same) := fn_denD T.F_same sc_same fun cdv A outer s H E hr tk po =>
    (dss_cons (ds_expr (de_callX (o_want_kind T) (hr.mono (by omega)) tk T.m_want_kind T.F_want_kind.kp T.b_want_kind .nil (fun _ _ _ => .nil) (da_cons (de_var 0) da_nil)))
    (dss_cons (ds_expr (de_callX (o_want_kind T) (hr.mono (by omega)) tk T.m_want_kind T.F_want_kind.kp T.b_want_kind .nil (fun _ _ _ => .nil) (da_cons (de_var 1) da_nil)))
    (dss_one (ds_ret (de_cmp (op_eqM hr) g2_eq (de_callX (o_plain_of T) (hr.mono (by omega)) tk T.m_plain_of T.F_plain_of.kp T.b_plain_of .nil (fun _ _ _ => .nil) (da_cons (de_var 0) da_nil)) (de_callX (o_plain_of T) (hr.mono (by omega)) tk T.m_plain_of T.F_plain_of.kp T.b_plain_of .nil (fun _ _ _ => .nil) (da_cons (de_var 1) da_nil)))))))
end
end Fro

namespace Fro
open PySem PySem.Spec L2
section
variable {P : Program} {w : World} {K : PySem.W.Frag} {mg : Str → Option Value} {base : Heap}
theorem o__law_same_right (T : Top P w K mg) : FnOk P w K mg base (CX P w) 65 T.a__law_same_right T.d__law_same_right ["_law_one_here", "_law_other", "_law_filling_here"] (spF K 3 f__law_same_right) := fn_denD T.F__law_same_right sc__law_same_right fun cdv A outer s H E hr tk po =>
    (dss_cons (ds_if (dw_or (dt_not (dt_val (de_callX (o_same T) (hr.mono (by omega)) tk T.m_same T.F_same.kp T.b_same .nil (fun _ _ _ => .nil) (da_cons (de_var 0) (da_cons (de_var 0) da_nil))))) (dw_or (dt_not (dt_val (de_callX (o_same T) (hr.mono (by omega)) tk T.m_same T.F_same.kp T.b_same .nil (fun _ _ _ => .nil) (da_cons (de_var 0) (da_cons (de_callX (o_plain T) (hr.mono (by omega)) tk T.m_plain T.F_plain.kp T.b_plain .nil (fun _ _ _ => .nil) (da_cons (de_var 0) da_nil)) da_nil))))) (dw_or1 (dt_not (dt_val (de_callX (o_same T) (hr.mono (by omega)) tk T.m_same T.F_same.kp T.b_same .nil (fun _ _ _ => .nil) (da_cons (de_callX (o_plain T) (hr.mono (by omega)) tk T.m_plain T.F_plain.kp T.b_plain .nil (fun _ _ _ => .nil) (da_cons (de_var 0) da_nil)) (da_cons (de_var 0) da_nil)))))))).pt
    (dss_one (ds_ret de_bl))
    dss_nil)
    (dss_cons (ds_if (dw_or (dt_cmp (op_neM hr) g2_ne (de_callX (o_same T) (hr.mono (by omega)) tk T.m_same T.F_same.kp T.b_same .nil (fun _ _ _ => .nil) (da_cons (de_var 0) (da_cons (de_var 1) da_nil))) (de_cmp (op_eqM hr) g2_eq (de_callX (o_plain T) (hr.mono (by omega)) tk T.m_plain T.F_plain.kp T.b_plain .nil (fun _ _ _ => .nil) (da_cons (de_var 0) da_nil)) (de_callX (o_plain T) (hr.mono (by omega)) tk T.m_plain T.F_plain.kp T.b_plain .nil (fun _ _ _ => .nil) (da_cons (de_var 1) da_nil)))) (dw_or1 (dt_cmp (op_neM hr) g2_ne (de_callX (o_same T) (hr.mono (by omega)) tk T.m_same T.F_same.kp T.b_same .nil (fun _ _ _ => .nil) (da_cons (de_var 0) (da_cons (de_var 1) da_nil))) (de_callX (o_same T) (hr.mono (by omega)) tk T.m_same T.F_same.kp T.b_same .nil (fun _ _ _ => .nil) (da_cons (de_callX (o_plain T) (hr.mono (by omega)) tk T.m_plain T.F_plain.kp T.b_plain .nil (fun _ _ _ => .nil) (da_cons (de_var 1) da_nil)) (da_cons (de_var 0) da_nil)))))).pt
    (dss_one (ds_ret de_bl))
    dss_nil)
    (dss_cons (ds_if (dw_and (dt_val (de_callX (o_same T) (hr.mono (by omega)) tk T.m_same T.F_same.kp T.b_same .nil (fun _ _ _ => .nil) (da_cons (de_var 0) (da_cons (de_var 1) da_nil)))) (dw_and1 (dt_not (dt_val (de_callX (o_same T) (hr.mono (by omega)) tk T.m_same T.F_same.kp T.b_same .nil (fun _ _ _ => .nil) (da_cons (de_callX (o_put T) (hr.mono (by omega)) tk T.m_put T.F_put.kp T.b_put .nil (fun _ _ _ => .nil) (da_cons (de_var 0) (da_cons (de_var 2) da_nil))) (da_cons (de_callX (o_put T) (hr.mono (by omega)) tk T.m_put T.F_put.kp T.b_put .nil (fun _ _ _ => .nil) (da_cons (de_var 1) (da_cons (de_var 2) da_nil))) da_nil))))))).pt
    (dss_one (ds_ret de_bl))
    dss_nil)
    (dss_one (ds_ret (de_callX (o_same T) (hr.mono (by omega)) tk T.m_same T.F_same.kp T.b_same .nil (fun _ _ _ => .nil) (da_cons (de_tup (da_cons (de_str [97, 108, 108]) (da_cons (de_str [97]) (da_cons (de_var 0) da_nil)))) (da_cons (de_tup (da_cons (de_str [97, 108, 108]) (da_cons (de_str [102, 114, 101, 115, 104]) (da_cons (de_callX (o_put T) (hr.mono (by omega)) tk T.m_put T.F_put.kp T.b_put .nil (fun _ _ _ => .nil) (da_cons (de_var 0) (da_cons (de_dict (dd_cons (de_str [97]) (de_tup (da_cons (de_str [118, 97, 114]) (da_cons (de_str [102, 114, 101, 115, 104]) da_nil))) dd_nil)) da_nil))) da_nil)))) da_nil))))))))
end
section
variable {P : Program} {w : World} {K : PySem.W.Frag} {mg : Str → Option Value} {base : Heap}
theorem o_law (T : Top P w K mg) : FnOk P w K mg base (CX P w) 66 T.a_law T.d_law ["_law_script"] (spF K 1 f_law) := fn_denD T.F_law sc_law fun cdv A outer s H E hr tk po =>
    (dss_cons (ds_for po rfl (di_range T.z_range (da_cons (de_blt (call_max2 rfl) gn_max2 T.z_max (by decide +kernel) (da_cons de_int (da_cons (de_blt (call_min2 rfl) gn_min2 T.z_min (by decide +kernel) (da_cons de_int (da_cons (de_len T.z_len (da_cons (de_var 0) da_nil)) da_nil))) da_nil))) da_nil)) (pg_name (i := 1) sc_law.nd rfl (by first | exact Or.inl rfl | exact Or.inr rfl)) (gok_name 1)
    (dss_cons (ds_set 2 sc_law.nd (de_callMX (o__law_source_of T) (hr.mono (by omega)) tk T.m__law_source_of T.F__law_source_of.kp T.b__law_source_of .nil (fun _ _ _ => .nil) (da_cons (de_callX (o__law_cell_at T) (hr.mono (by omega)) tk T.m__law_cell_at T.F__law_cell_at.kp T.b__law_cell_at .nil (fun _ _ _ => .nil) (da_cons (de_var 0) (da_cons (de_var 1) da_nil))) da_nil)))
    (dss_one (ds_for po rfl (di_range T.z_range (da_cons de_int da_nil)) (pg_name (i := 3) sc_law.nd rfl (by first | exact Or.inl rfl | exact Or.inr rfl)) (gok_name 3)
    (dss_cons (ds_set 4 sc_law.nd (de_sl (de_lst (da_cons (de_str [97]) (da_cons (de_str [98]) (da_cons (de_str [99]) (da_cons (de_str [120]) da_nil))))) (dp_some (de_callX (o__law_next T) (hr.mono (by omega)) tk T.m__law_next T.F__law_next.kp T.b__law_next .nil (fun _ _ _ => .nil) (da_cons (de_var 2) (da_cons de_int da_nil)))) dp_none))
    (dss_cons (ds_par 5 6 sc_law.nd (da_cons (de_callX (o__law_kind T 7) (hr.mono (by omega)) tk T.m__law_kind T.F__law_kind.kp T.b__law_kind .nil (fun _ _ _ => .nil) (da_cons (de_var 2) (da_cons de_int (da_cons (de_var 4) da_nil)))) (da_cons (de_callX (o__law_kind T 7) (hr.mono (by omega)) tk T.m__law_kind T.F__law_kind.kp T.b__law_kind .nil (fun _ _ _ => .nil) (da_cons (de_var 2) (da_cons (de_callX (o__law_next T) (hr.mono (by omega)) tk T.m__law_next T.F__law_next.kp T.b__law_next .nil (fun _ _ _ => .nil) (da_cons (de_var 2) (da_cons de_int da_nil))) (da_cons (de_sl (de_var 4) dp_none (dp_some de_int)) da_nil)))) da_nil)))
    (dss_cons (ds_par 7 8 sc_law.nd (da_cons (de_callX (o__law_filling T) (hr.mono (by omega)) tk T.m__law_filling T.F__law_filling.kp T.b__law_filling .nil (fun _ _ _ => .nil) (da_cons (de_var 2) (da_cons (de_var 4) da_nil))) (da_cons (de_callX (o__law_filling T) (hr.mono (by omega)) tk T.m__law_filling T.F__law_filling.kp T.b__law_filling .nil (fun _ _ _ => .nil) (da_cons (de_var 2) (da_cons (de_var 4) da_nil))) da_nil)))
    (dss_cons (ds_if (dw_or (dt_not (dt_val (de_callX (o__law_put_right T) (hr.mono (by omega)) tk T.m__law_put_right T.F__law_put_right.kp T.b__law_put_right .nil (fun _ _ _ => .nil) (da_cons (de_var 5) (da_cons (de_var 7) (da_cons (de_var 8) da_nil)))))) (dw_or1 (dt_not (dt_val (de_callX (o__law_put_right T) (hr.mono (by omega)) tk T.m__law_put_right T.F__law_put_right.kp T.b__law_put_right .nil (fun _ _ _ => .nil) (da_cons (de_var 6) (da_cons (de_var 8) (da_cons (de_var 7) da_nil)))))))).pt
    (dss_one (ds_ret de_bl))
    dss_nil)
    (dss_one (ds_if (dw_or (dt_not (dt_val (de_callX (o__law_same_right T) (hr.mono (by omega)) tk T.m__law_same_right T.F__law_same_right.kp T.b__law_same_right .nil (fun _ _ _ => .nil) (da_cons (de_var 5) (da_cons (de_var 6) (da_cons (de_var 7) da_nil)))))) (dw_or1 (dt_not (dt_val (de_callX (o__law_same_right T) (hr.mono (by omega)) tk T.m__law_same_right T.F__law_same_right.kp T.b__law_same_right .nil (fun _ _ _ => .nil) (da_cons (de_var 6) (da_cons (de_callX (o_plain T) (hr.mono (by omega)) tk T.m_plain T.F_plain.kp T.b_plain .nil (fun _ _ _ => .nil) (da_cons (de_var 6) da_nil)) (da_cons (de_var 8) da_nil)))))))).pt
    (dss_one (ds_ret de_bl))
    dss_nil))))))))))
    (dss_one (ds_ret de_bl)))
end
end Fro

namespace Fro
open PySem PySem.Spec L2
theorem all_mk {l : PySem.W.OpenLaw} {w : World} {K : PySem.W.Frag} {h : Heap} {mg : Str → Option Value} {fa : Addr} (X : K.In h) (G : h.Ns mainGlobals mg) (hfa : mg "law" = some (.ref fa))
    {u_BARRED : Value}
    {u_MOST_SIGNS : Value}
    {u_LETTERS : Value}
    {u_MARK : Value}
    {t_WORDS : Addr} {es_WORDS : Array DictEntry} {n_WORDS : Nat}
    {C_KindError : Addr}
    {C_NoKind : Addr}
    {f_KindError cc_KindError cd_KindError : Addr} {xoc_KindError xdo_KindError xpm_KindError xct_KindError : Value} {xod_KindError : Option Addr} {xsl_KindError : Array (Option Value)}
    {f_NoKind cc_NoKind cd_NoKind : Addr} {xoc_NoKind xdo_NoKind xpm_NoKind xct_NoKind : Value} {xod_NoKind : Option Addr} {xsl_NoKind : Array (Option Value)}
    {nm_NoKind xq_NoKind : Str} {xN_NoKind : Addr} {bs_NoKind : List Value} {sn_NoKind : List Str} {sub_NoKind : List Value} {ab_NoKind : Bool} {col_NoKind : Option Bool} {dd_NoKind : Option Addr} {k0_NoKind k1_NoKind k2_NoKind k3_NoKind k5_NoKind : Option Value}
    {ad__law_source_of : Addr} {od__law_source_of an__law_source_of : Option Addr} {sl__law_source_of : Array (Option Value)} {oc__law_source_of kV__law_source_of dc__law_source_of pm__law_source_of cd__law_source_of ct__law_source_of : Value}
    {ad__law_cell_at : Addr} {od__law_cell_at an__law_cell_at : Option Addr} {sl__law_cell_at : Array (Option Value)} {oc__law_cell_at kV__law_cell_at dc__law_cell_at pm__law_cell_at cd__law_cell_at ct__law_cell_at : Value}
    {ad__law_next : Addr} {od__law_next an__law_next : Option Addr} {sl__law_next : Array (Option Value)} {oc__law_next kV__law_next dc__law_next pm__law_next cd__law_next ct__law_next : Value}
    {ad__law_one : Addr} {od__law_one an__law_one : Option Addr} {sl__law_one : Array (Option Value)} {oc__law_one kV__law_one dc__law_one pm__law_one cd__law_one ct__law_one : Value}
    {ad__law_kind : Addr} {od__law_kind an__law_kind : Option Addr} {sl__law_kind : Array (Option Value)} {oc__law_kind kV__law_kind dc__law_kind pm__law_kind cd__law_kind ct__law_kind : Value}
    {ad__law_filling : Addr} {od__law_filling an__law_filling : Option Addr} {sl__law_filling : Array (Option Value)} {oc__law_filling kV__law_filling dc__law_filling pm__law_filling cd__law_filling ct__law_filling : Value}
    {ad_is_name : Addr} {od_is_name an_is_name : Option Addr} {sl_is_name : Array (Option Value)} {oc_is_name kV_is_name dc_is_name pm_is_name cd_is_name ct_is_name : Value}
    {ad_is_kind : Addr} {od_is_kind an_is_kind : Option Addr} {sl_is_kind : Array (Option Value)} {oc_is_kind kV_is_kind dc_is_kind pm_is_kind cd_is_kind ct_is_kind : Value}
    {ad_want_kind : Addr} {od_want_kind an_want_kind : Option Addr} {sl_want_kind : Array (Option Value)} {oc_want_kind kV_want_kind dc_want_kind pm_want_kind cd_want_kind ct_want_kind : Value}
    {ad_letter : Addr} {od_letter an_letter : Option Addr} {sl_letter : Array (Option Value)} {oc_letter kV_letter dc_letter pm_letter cd_letter ct_letter : Value}
    {ad_first_letters : Addr} {od_first_letters an_first_letters : Option Addr} {sl_first_letters : Array (Option Value)} {oc_first_letters kV_first_letters dc_first_letters pm_first_letters cd_first_letters ct_first_letters : Value}
    {ad_exchange : Addr} {od_exchange an_exchange : Option Addr} {sl_exchange : Array (Option Value)} {oc_exchange kV_exchange dc_exchange pm_exchange cd_exchange ct_exchange : Value}
    {ad_relettered : Addr} {od_relettered an_relettered : Option Addr} {sl_relettered : Array (Option Value)} {oc_relettered kV_relettered dc_relettered pm_relettered cd_relettered ct_relettered : Value}
    {ad_free_of : Addr} {od_free_of an_free_of : Option Addr} {sl_free_of : Array (Option Value)} {oc_free_of kV_free_of dc_free_of pm_free_of cd_free_of ct_free_of : Value}
    {T_free_of : Addr} {tn_free_of : Nat} {tc_free_of : Value} {td_free_of : Option Addr} {tl_free_of : Array (Option Value)} {dv0_free_of : Value}
    {ad_marked_from : Addr} {od_marked_from an_marked_from : Option Addr} {sl_marked_from : Array (Option Value)} {oc_marked_from kV_marked_from dc_marked_from pm_marked_from cd_marked_from ct_marked_from : Value}
    {ad_numbers_in : Addr} {od_numbers_in an_numbers_in : Option Addr} {sl_numbers_in : Array (Option Value)} {oc_numbers_in kV_numbers_in dc_numbers_in pm_numbers_in cd_numbers_in ct_numbers_in : Value}
    {ad_marked : Addr} {od_marked an_marked : Option Addr} {sl_marked : Array (Option Value)} {oc_marked kV_marked dc_marked pm_marked cd_marked ct_marked : Value}
    {T_marked : Addr} {tn_marked : Nat} {tc_marked : Value} {td_marked : Option Addr} {tl_marked : Array (Option Value)} {dv0_marked : Value}
    {ad_plain_of : Addr} {od_plain_of an_plain_of : Option Addr} {sl_plain_of : Array (Option Value)} {oc_plain_of kV_plain_of dc_plain_of pm_plain_of cd_plain_of ct_plain_of : Value}
    {ad_put_of : Addr} {od_put_of an_put_of : Option Addr} {sl_put_of : Array (Option Value)} {oc_put_of kV_put_of dc_put_of pm_put_of cd_put_of ct_put_of : Value}
    {ad_put : Addr} {od_put an_put : Option Addr} {sl_put : Array (Option Value)} {oc_put kV_put dc_put pm_put cd_put ct_put : Value}
    {ad_free : Addr} {od_free an_free : Option Addr} {sl_free : Array (Option Value)} {oc_free kV_free dc_free pm_free cd_free ct_free : Value}
    {ad_plain : Addr} {od_plain an_plain : Option Addr} {sl_plain : Array (Option Value)} {oc_plain kV_plain dc_plain pm_plain cd_plain ct_plain : Value}
    {ad__law_put_right : Addr} {od__law_put_right an__law_put_right : Option Addr} {sl__law_put_right : Array (Option Value)} {oc__law_put_right kV__law_put_right dc__law_put_right pm__law_put_right cd__law_put_right ct__law_put_right : Value}
    {ad_same : Addr} {od_same an_same : Option Addr} {sl_same : Array (Option Value)} {oc_same kV_same dc_same pm_same cd_same ct_same : Value}
    {ad__law_same_right : Addr} {od__law_same_right an__law_same_right : Option Addr} {sl__law_same_right : Array (Option Value)} {oc__law_same_right kV__law_same_right dc__law_same_right pm__law_same_right cd__law_same_right ct__law_same_right : Value}
    {ad_law : Addr} {od_law an_law : Option Addr} {sl_law : Array (Option Value)} {oc_law kV_law dc_law pm_law cd_law ct_law : Value}
    (z_all : PySem.W.nsIn K mainGlobals "all" = some none)
    (z_dict : PySem.W.nsIn K mainGlobals "dict" = some none)
    (z_int : PySem.W.nsIn K mainGlobals "int" = some none)
    (z_isinstance : PySem.W.nsIn K mainGlobals "isinstance" = some none)
    (z_len : PySem.W.nsIn K mainGlobals "len" = some none)
    (z_max : PySem.W.nsIn K mainGlobals "max" = some none)
    (z_min : PySem.W.nsIn K mainGlobals "min" = some none)
    (z_range : PySem.W.nsIn K mainGlobals "range" = some none)
    (z_sorted : PySem.W.nsIn K mainGlobals "sorted" = some none)
    (z_str : PySem.W.nsIn K mainGlobals "str" = some none)
    (z_tuple : PySem.W.nsIn K mainGlobals "tuple" = some none)
    (z_zip : PySem.W.nsIn K mainGlobals "zip" = some none)
    (a_BARRED : PySem.W.nsIn K mainGlobals "BARRED" = some (some u_BARRED))
    (c_BARRED : kdV 8 K u_BARRED k_BARRED = true)
    (a_MOST_SIGNS : PySem.W.nsIn K mainGlobals "MOST_SIGNS" = some (some u_MOST_SIGNS))
    (c_MOST_SIGNS : kdV 8 K u_MOST_SIGNS k_MOST_SIGNS = true)
    (a_LETTERS : PySem.W.nsIn K mainGlobals "LETTERS" = some (some u_LETTERS))
    (c_LETTERS : kdV 8 K u_LETTERS k_LETTERS = true)
    (a_MARK : PySem.W.nsIn K mainGlobals "MARK" = some (some u_MARK))
    (c_MARK : kdV 8 K u_MARK k_MARK = true)
    (a_WORDS : PySem.W.nsIn K mainGlobals "WORDS" = some (some (.ref t_WORDS)))
    (l_WORDS : K.lookup t_WORDS = some ⟨.type "dict", none, .dict es_WORDS n_WORDS, #[]⟩)
    (y_WORDS : PySem.W.KeysLit w.params es_WORDS.toList)
    (o_WORDS : (t_WORDS == sysModules) = false)
    (e_WORDS : kdE 16 K es_WORDS.toList tbl_WORDS = true)
    (q0 : noneB K = true)
    (a_KindError : PySem.W.nsIn K mainGlobals "KindError" = some (some (.ref C_KindError)))
    (a_NoKind : PySem.W.nsIn K mainGlobals "NoKind" = some (some (.ref C_NoKind)))
    (qs : PySem.W.nsIn K mainGlobals "super" = some none)
    (qo : PySem.W.nsIn K cStatics "thirdparty.any" = some none)
    (if_KindError : PySem.W.findIn K (.ref C_KindError) "__init__" = some (some (.ref f_KindError)))
    (il_KindError : K.lookup f_KindError = some ⟨xoc_KindError, xod_KindError, .func (PySem.W.fnX "__init__" "KindError.__init__" (defArgs i_KindError) (defBody i_KindError) (defScope i_KindError) [("__class__", cc_KindError)] .none .none xdo_KindError xpm_KindError none (.ref cd_KindError) xct_KindError), xsl_KindError⟩)
    (ib_KindError : iniB l.prog K C_KindError cc_KindError cd_KindError "KindError.__init__" = true)
    (fb_KindError : fnB K f_KindError = true)
    (if_NoKind : PySem.W.findIn K (.ref C_NoKind) "__init__" = some (some (.ref f_NoKind)))
    (il_NoKind : K.lookup f_NoKind = some ⟨xoc_NoKind, xod_NoKind, .func (PySem.W.fnX "__init__" "NoKind.__init__" (defArgs i_NoKind) (defBody i_NoKind) (defScope i_NoKind) [("__class__", cc_NoKind)] .none .none xdo_NoKind xpm_NoKind none (.ref cd_NoKind) xct_NoKind), xsl_NoKind⟩)
    (ib_NoKind : iniB l.prog K C_NoKind cc_NoKind cd_NoKind "NoKind.__init__" = true)
    (fb_NoKind : fnB K f_NoKind = true)
    (xl_NoKind : K.lookup C_NoKind = some (excClassObj nm_NoKind xq_NoKind C_NoKind xN_NoKind bs_NoKind [.ref C_KindError, .type "ValueError", .type "Exception", .type "BaseException", .type "object"] true sn_NoKind sub_NoKind ab_NoKind col_NoKind dd_NoKind k0_NoKind k1_NoKind k2_NoKind k3_NoKind k5_NoKind "ValueError.__new__"))
    (xk_NoKind : keB K C_KindError C_NoKind = true)
    (ra_NoKind : raB K C_NoKind f_KindError (xflds 2) = true)
    (a__law_source_of : PySem.W.nsIn K mainGlobals "_law_source_of" = some (some (.ref ad__law_source_of)))
    (l__law_source_of : K.lookup ad__law_source_of = some ⟨oc__law_source_of, od__law_source_of, .func (PySem.W.fnOf "_law_source_of" "_law_source_of" (defArgs s__law_source_of) (defBody s__law_source_of) (defScope s__law_source_of) .none kV__law_source_of dc__law_source_of pm__law_source_of an__law_source_of cd__law_source_of ct__law_source_of), sl__law_source_of⟩)
    (c__law_source_of : PySem.W.codeIn K cd__law_source_of "_law_source_of" = true)
    (k__law_source_of : PySem.W.keepIn K (.ref ad__law_source_of) = true)
    (a__law_cell_at : PySem.W.nsIn K mainGlobals "_law_cell_at" = some (some (.ref ad__law_cell_at)))
    (l__law_cell_at : K.lookup ad__law_cell_at = some ⟨oc__law_cell_at, od__law_cell_at, .func (PySem.W.fnOf "_law_cell_at" "_law_cell_at" (defArgs s__law_cell_at) (defBody s__law_cell_at) (defScope s__law_cell_at) .none kV__law_cell_at dc__law_cell_at pm__law_cell_at an__law_cell_at cd__law_cell_at ct__law_cell_at), sl__law_cell_at⟩)
    (c__law_cell_at : PySem.W.codeIn K cd__law_cell_at "_law_cell_at" = true)
    (k__law_cell_at : PySem.W.keepIn K (.ref ad__law_cell_at) = true)
    (a__law_next : PySem.W.nsIn K mainGlobals "_law_next" = some (some (.ref ad__law_next)))
    (l__law_next : K.lookup ad__law_next = some ⟨oc__law_next, od__law_next, .func (PySem.W.fnOf "_law_next" "_law_next" (defArgs s__law_next) (defBody s__law_next) (defScope s__law_next) .none kV__law_next dc__law_next pm__law_next an__law_next cd__law_next ct__law_next), sl__law_next⟩)
    (c__law_next : PySem.W.codeIn K cd__law_next "_law_next" = true)
    (k__law_next : PySem.W.keepIn K (.ref ad__law_next) = true)
    (a__law_one : PySem.W.nsIn K mainGlobals "_law_one" = some (some (.ref ad__law_one)))
    (l__law_one : K.lookup ad__law_one = some ⟨oc__law_one, od__law_one, .func (PySem.W.fnOf "_law_one" "_law_one" (defArgs s__law_one) (defBody s__law_one) (defScope s__law_one) .none kV__law_one dc__law_one pm__law_one an__law_one cd__law_one ct__law_one), sl__law_one⟩)
    (c__law_one : PySem.W.codeIn K cd__law_one "_law_one" = true)
    (k__law_one : PySem.W.keepIn K (.ref ad__law_one) = true)
    (a__law_kind : PySem.W.nsIn K mainGlobals "_law_kind" = some (some (.ref ad__law_kind)))
    (l__law_kind : K.lookup ad__law_kind = some ⟨oc__law_kind, od__law_kind, .func (PySem.W.fnOf "_law_kind" "_law_kind" (defArgs s__law_kind) (defBody s__law_kind) (defScope s__law_kind) .none kV__law_kind dc__law_kind pm__law_kind an__law_kind cd__law_kind ct__law_kind), sl__law_kind⟩)
    (c__law_kind : PySem.W.codeIn K cd__law_kind "_law_kind" = true)
    (k__law_kind : PySem.W.keepIn K (.ref ad__law_kind) = true)
    (a__law_filling : PySem.W.nsIn K mainGlobals "_law_filling" = some (some (.ref ad__law_filling)))
    (l__law_filling : K.lookup ad__law_filling = some ⟨oc__law_filling, od__law_filling, .func (PySem.W.fnOf "_law_filling" "_law_filling" (defArgs s__law_filling) (defBody s__law_filling) (defScope s__law_filling) .none kV__law_filling dc__law_filling pm__law_filling an__law_filling cd__law_filling ct__law_filling), sl__law_filling⟩)
    (c__law_filling : PySem.W.codeIn K cd__law_filling "_law_filling" = true)
    (k__law_filling : PySem.W.keepIn K (.ref ad__law_filling) = true)
    (a_is_name : PySem.W.nsIn K mainGlobals "is_name" = some (some (.ref ad_is_name)))
    (l_is_name : K.lookup ad_is_name = some ⟨oc_is_name, od_is_name, .func (PySem.W.fnOf "is_name" "is_name" (defArgs s_is_name) (defBody s_is_name) (defScope s_is_name) .none kV_is_name dc_is_name pm_is_name an_is_name cd_is_name ct_is_name), sl_is_name⟩)
    (c_is_name : PySem.W.codeIn K cd_is_name "is_name" = true)
    (k_is_name : PySem.W.keepIn K (.ref ad_is_name) = true)
    (a_is_kind : PySem.W.nsIn K mainGlobals "is_kind" = some (some (.ref ad_is_kind)))
    (l_is_kind : K.lookup ad_is_kind = some ⟨oc_is_kind, od_is_kind, .func (PySem.W.fnOf "is_kind" "is_kind" (defArgs s_is_kind) (defBody s_is_kind) (defScope s_is_kind) .none kV_is_kind dc_is_kind pm_is_kind an_is_kind cd_is_kind ct_is_kind), sl_is_kind⟩)
    (c_is_kind : PySem.W.codeIn K cd_is_kind "is_kind" = true)
    (k_is_kind : PySem.W.keepIn K (.ref ad_is_kind) = true)
    (a_want_kind : PySem.W.nsIn K mainGlobals "want_kind" = some (some (.ref ad_want_kind)))
    (l_want_kind : K.lookup ad_want_kind = some ⟨oc_want_kind, od_want_kind, .func (PySem.W.fnOf "want_kind" "want_kind" (defArgs s_want_kind) (defBody s_want_kind) (defScope s_want_kind) .none kV_want_kind dc_want_kind pm_want_kind an_want_kind cd_want_kind ct_want_kind), sl_want_kind⟩)
    (c_want_kind : PySem.W.codeIn K cd_want_kind "want_kind" = true)
    (k_want_kind : PySem.W.keepIn K (.ref ad_want_kind) = true)
    (a_letter : PySem.W.nsIn K mainGlobals "letter" = some (some (.ref ad_letter)))
    (l_letter : K.lookup ad_letter = some ⟨oc_letter, od_letter, .func (PySem.W.fnOf "letter" "letter" (defArgs s_letter) (defBody s_letter) (defScope s_letter) .none kV_letter dc_letter pm_letter an_letter cd_letter ct_letter), sl_letter⟩)
    (c_letter : PySem.W.codeIn K cd_letter "letter" = true)
    (k_letter : PySem.W.keepIn K (.ref ad_letter) = true)
    (a_first_letters : PySem.W.nsIn K mainGlobals "first_letters" = some (some (.ref ad_first_letters)))
    (l_first_letters : K.lookup ad_first_letters = some ⟨oc_first_letters, od_first_letters, .func (PySem.W.fnOf "first_letters" "first_letters" (defArgs s_first_letters) (defBody s_first_letters) (defScope s_first_letters) .none kV_first_letters dc_first_letters pm_first_letters an_first_letters cd_first_letters ct_first_letters), sl_first_letters⟩)
    (c_first_letters : PySem.W.codeIn K cd_first_letters "first_letters" = true)
    (k_first_letters : PySem.W.keepIn K (.ref ad_first_letters) = true)
    (a_exchange : PySem.W.nsIn K mainGlobals "exchange" = some (some (.ref ad_exchange)))
    (l_exchange : K.lookup ad_exchange = some ⟨oc_exchange, od_exchange, .func (PySem.W.fnOf "exchange" "exchange" (defArgs s_exchange) (defBody s_exchange) (defScope s_exchange) .none kV_exchange dc_exchange pm_exchange an_exchange cd_exchange ct_exchange), sl_exchange⟩)
    (c_exchange : PySem.W.codeIn K cd_exchange "exchange" = true)
    (k_exchange : PySem.W.keepIn K (.ref ad_exchange) = true)
    (a_relettered : PySem.W.nsIn K mainGlobals "relettered" = some (some (.ref ad_relettered)))
    (l_relettered : K.lookup ad_relettered = some ⟨oc_relettered, od_relettered, .func (PySem.W.fnOf "relettered" "relettered" (defArgs s_relettered) (defBody s_relettered) (defScope s_relettered) .none kV_relettered dc_relettered pm_relettered an_relettered cd_relettered ct_relettered), sl_relettered⟩)
    (c_relettered : PySem.W.codeIn K cd_relettered "relettered" = true)
    (k_relettered : PySem.W.keepIn K (.ref ad_relettered) = true)
    (a_free_of : PySem.W.nsIn K mainGlobals "free_of" = some (some (.ref ad_free_of)))
    (l_free_of : K.lookup ad_free_of = some ⟨oc_free_of, od_free_of, .func (PySem.W.fnOf "free_of" "free_of" (defArgs s_free_of) (defBody s_free_of) (defScope s_free_of) (.ref T_free_of) kV_free_of dc_free_of pm_free_of an_free_of cd_free_of ct_free_of), sl_free_of⟩)
    (c_free_of : PySem.W.codeIn K cd_free_of "free_of" = true)
    (k_free_of : PySem.W.keepIn K (.ref ad_free_of) = true)
    (lT_free_of : K.lookup T_free_of = some ⟨tc_free_of, td_free_of, .seq #[dv0_free_of] tn_free_of, tl_free_of⟩)
    (ed0_free_of : kdV 8 K dv0_free_of (.tup []) = true)
    (a_marked_from : PySem.W.nsIn K mainGlobals "marked_from" = some (some (.ref ad_marked_from)))
    (l_marked_from : K.lookup ad_marked_from = some ⟨oc_marked_from, od_marked_from, .func (PySem.W.fnOf "marked_from" "marked_from" (defArgs s_marked_from) (defBody s_marked_from) (defScope s_marked_from) .none kV_marked_from dc_marked_from pm_marked_from an_marked_from cd_marked_from ct_marked_from), sl_marked_from⟩)
    (c_marked_from : PySem.W.codeIn K cd_marked_from "marked_from" = true)
    (k_marked_from : PySem.W.keepIn K (.ref ad_marked_from) = true)
    (a_numbers_in : PySem.W.nsIn K mainGlobals "numbers_in" = some (some (.ref ad_numbers_in)))
    (l_numbers_in : K.lookup ad_numbers_in = some ⟨oc_numbers_in, od_numbers_in, .func (PySem.W.fnOf "numbers_in" "numbers_in" (defArgs s_numbers_in) (defBody s_numbers_in) (defScope s_numbers_in) .none kV_numbers_in dc_numbers_in pm_numbers_in an_numbers_in cd_numbers_in ct_numbers_in), sl_numbers_in⟩)
    (c_numbers_in : PySem.W.codeIn K cd_numbers_in "numbers_in" = true)
    (k_numbers_in : PySem.W.keepIn K (.ref ad_numbers_in) = true)
    (a_marked : PySem.W.nsIn K mainGlobals "marked" = some (some (.ref ad_marked)))
    (l_marked : K.lookup ad_marked = some ⟨oc_marked, od_marked, .func (PySem.W.fnOf "marked" "marked" (defArgs s_marked) (defBody s_marked) (defScope s_marked) (.ref T_marked) kV_marked dc_marked pm_marked an_marked cd_marked ct_marked), sl_marked⟩)
    (c_marked : PySem.W.codeIn K cd_marked "marked" = true)
    (k_marked : PySem.W.keepIn K (.ref ad_marked) = true)
    (lT_marked : K.lookup T_marked = some ⟨tc_marked, td_marked, .seq #[dv0_marked] tn_marked, tl_marked⟩)
    (ed0_marked : kdV 8 K dv0_marked (.int 0) = true)
    (a_plain_of : PySem.W.nsIn K mainGlobals "plain_of" = some (some (.ref ad_plain_of)))
    (l_plain_of : K.lookup ad_plain_of = some ⟨oc_plain_of, od_plain_of, .func (PySem.W.fnOf "plain_of" "plain_of" (defArgs s_plain_of) (defBody s_plain_of) (defScope s_plain_of) .none kV_plain_of dc_plain_of pm_plain_of an_plain_of cd_plain_of ct_plain_of), sl_plain_of⟩)
    (c_plain_of : PySem.W.codeIn K cd_plain_of "plain_of" = true)
    (k_plain_of : PySem.W.keepIn K (.ref ad_plain_of) = true)
    (a_put_of : PySem.W.nsIn K mainGlobals "put_of" = some (some (.ref ad_put_of)))
    (l_put_of : K.lookup ad_put_of = some ⟨oc_put_of, od_put_of, .func (PySem.W.fnOf "put_of" "put_of" (defArgs s_put_of) (defBody s_put_of) (defScope s_put_of) .none kV_put_of dc_put_of pm_put_of an_put_of cd_put_of ct_put_of), sl_put_of⟩)
    (c_put_of : PySem.W.codeIn K cd_put_of "put_of" = true)
    (k_put_of : PySem.W.keepIn K (.ref ad_put_of) = true)
    (a_put : PySem.W.nsIn K mainGlobals "put" = some (some (.ref ad_put)))
    (l_put : K.lookup ad_put = some ⟨oc_put, od_put, .func (PySem.W.fnOf "put" "put" (defArgs s_put) (defBody s_put) (defScope s_put) .none kV_put dc_put pm_put an_put cd_put ct_put), sl_put⟩)
    (c_put : PySem.W.codeIn K cd_put "put" = true)
    (k_put : PySem.W.keepIn K (.ref ad_put) = true)
    (a_free : PySem.W.nsIn K mainGlobals "free" = some (some (.ref ad_free)))
    (l_free : K.lookup ad_free = some ⟨oc_free, od_free, .func (PySem.W.fnOf "free" "free" (defArgs s_free) (defBody s_free) (defScope s_free) .none kV_free dc_free pm_free an_free cd_free ct_free), sl_free⟩)
    (c_free : PySem.W.codeIn K cd_free "free" = true)
    (k_free : PySem.W.keepIn K (.ref ad_free) = true)
    (a_plain : PySem.W.nsIn K mainGlobals "plain" = some (some (.ref ad_plain)))
    (l_plain : K.lookup ad_plain = some ⟨oc_plain, od_plain, .func (PySem.W.fnOf "plain" "plain" (defArgs s_plain) (defBody s_plain) (defScope s_plain) .none kV_plain dc_plain pm_plain an_plain cd_plain ct_plain), sl_plain⟩)
    (c_plain : PySem.W.codeIn K cd_plain "plain" = true)
    (k_plain : PySem.W.keepIn K (.ref ad_plain) = true)
    (a__law_put_right : PySem.W.nsIn K mainGlobals "_law_put_right" = some (some (.ref ad__law_put_right)))
    (l__law_put_right : K.lookup ad__law_put_right = some ⟨oc__law_put_right, od__law_put_right, .func (PySem.W.fnOf "_law_put_right" "_law_put_right" (defArgs s__law_put_right) (defBody s__law_put_right) (defScope s__law_put_right) .none kV__law_put_right dc__law_put_right pm__law_put_right an__law_put_right cd__law_put_right ct__law_put_right), sl__law_put_right⟩)
    (c__law_put_right : PySem.W.codeIn K cd__law_put_right "_law_put_right" = true)
    (k__law_put_right : PySem.W.keepIn K (.ref ad__law_put_right) = true)
    (a_same : PySem.W.nsIn K mainGlobals "same" = some (some (.ref ad_same)))
    (l_same : K.lookup ad_same = some ⟨oc_same, od_same, .func (PySem.W.fnOf "same" "same" (defArgs s_same) (defBody s_same) (defScope s_same) .none kV_same dc_same pm_same an_same cd_same ct_same), sl_same⟩)
    (c_same : PySem.W.codeIn K cd_same "same" = true)
    (k_same : PySem.W.keepIn K (.ref ad_same) = true)
    (a__law_same_right : PySem.W.nsIn K mainGlobals "_law_same_right" = some (some (.ref ad__law_same_right)))
    (l__law_same_right : K.lookup ad__law_same_right = some ⟨oc__law_same_right, od__law_same_right, .func (PySem.W.fnOf "_law_same_right" "_law_same_right" (defArgs s__law_same_right) (defBody s__law_same_right) (defScope s__law_same_right) .none kV__law_same_right dc__law_same_right pm__law_same_right an__law_same_right cd__law_same_right ct__law_same_right), sl__law_same_right⟩)
    (c__law_same_right : PySem.W.codeIn K cd__law_same_right "_law_same_right" = true)
    (k__law_same_right : PySem.W.keepIn K (.ref ad__law_same_right) = true)
    (a_law : PySem.W.nsIn K mainGlobals "law" = some (some (.ref ad_law)))
    (l_law : K.lookup ad_law = some ⟨oc_law, od_law, .func (PySem.W.fnOf "law" "law" (defArgs s_law) (defBody s_law) (defScope s_law) .none kV_law dc_law pm_law an_law cd_law ct_law), sl_law⟩)
    (c_law : PySem.W.codeIn K cd_law "law" = true)
    (k_law : PySem.W.keepIn K (.ref ad_law) = true)
    : ∃ fd : FuncData, (∀ (s : Shared) (v : Value), BindsTo s fd ⟨[v], []⟩ [("_law_script", v)]) ∧ ∀ base : Heap, K.In base → base.Ns mainGlobals mg → FnOk l.prog w K mg base (CX l.prog w) 66 fa fd ["_law_script"] (spF K 1 f_law) := by
  have e := hfa.symm.trans (PySem.W.mg_of X G a_law)
  cases e
  have F__law_source_of : FunD K "_law_source_of" "_law_source_of" (defArgs s__law_source_of) (defBody s__law_source_of) (defScope s__law_source_of) [] [] ad__law_source_of (PySem.W.fnOf "_law_source_of" "_law_source_of" (defArgs s__law_source_of) (defBody s__law_source_of) (defScope s__law_source_of) .none kV__law_source_of dc__law_source_of pm__law_source_of an__law_source_of cd__law_source_of ct__law_source_of) := ⟨⟨_, _, _, _, _, _, _, _, _, _, rfl, l__law_source_of, c__law_source_of, .inl ⟨rfl, rfl⟩, .inl rfl⟩, k__law_source_of⟩
  have F__law_cell_at : FunD K "_law_cell_at" "_law_cell_at" (defArgs s__law_cell_at) (defBody s__law_cell_at) (defScope s__law_cell_at) [] [] ad__law_cell_at (PySem.W.fnOf "_law_cell_at" "_law_cell_at" (defArgs s__law_cell_at) (defBody s__law_cell_at) (defScope s__law_cell_at) .none kV__law_cell_at dc__law_cell_at pm__law_cell_at an__law_cell_at cd__law_cell_at ct__law_cell_at) := ⟨⟨_, _, _, _, _, _, _, _, _, _, rfl, l__law_cell_at, c__law_cell_at, .inl ⟨rfl, rfl⟩, .inl rfl⟩, k__law_cell_at⟩
  have F__law_next : FunD K "_law_next" "_law_next" (defArgs s__law_next) (defBody s__law_next) (defScope s__law_next) [] [] ad__law_next (PySem.W.fnOf "_law_next" "_law_next" (defArgs s__law_next) (defBody s__law_next) (defScope s__law_next) .none kV__law_next dc__law_next pm__law_next an__law_next cd__law_next ct__law_next) := ⟨⟨_, _, _, _, _, _, _, _, _, _, rfl, l__law_next, c__law_next, .inl ⟨rfl, rfl⟩, .inl rfl⟩, k__law_next⟩
  have F__law_one : FunD K "_law_one" "_law_one" (defArgs s__law_one) (defBody s__law_one) (defScope s__law_one) [] [] ad__law_one (PySem.W.fnOf "_law_one" "_law_one" (defArgs s__law_one) (defBody s__law_one) (defScope s__law_one) .none kV__law_one dc__law_one pm__law_one an__law_one cd__law_one ct__law_one) := ⟨⟨_, _, _, _, _, _, _, _, _, _, rfl, l__law_one, c__law_one, .inl ⟨rfl, rfl⟩, .inl rfl⟩, k__law_one⟩
  have F__law_kind : FunD K "_law_kind" "_law_kind" (defArgs s__law_kind) (defBody s__law_kind) (defScope s__law_kind) [] [] ad__law_kind (PySem.W.fnOf "_law_kind" "_law_kind" (defArgs s__law_kind) (defBody s__law_kind) (defScope s__law_kind) .none kV__law_kind dc__law_kind pm__law_kind an__law_kind cd__law_kind ct__law_kind) := ⟨⟨_, _, _, _, _, _, _, _, _, _, rfl, l__law_kind, c__law_kind, .inl ⟨rfl, rfl⟩, .inl rfl⟩, k__law_kind⟩
  have F__law_filling : FunD K "_law_filling" "_law_filling" (defArgs s__law_filling) (defBody s__law_filling) (defScope s__law_filling) [] [] ad__law_filling (PySem.W.fnOf "_law_filling" "_law_filling" (defArgs s__law_filling) (defBody s__law_filling) (defScope s__law_filling) .none kV__law_filling dc__law_filling pm__law_filling an__law_filling cd__law_filling ct__law_filling) := ⟨⟨_, _, _, _, _, _, _, _, _, _, rfl, l__law_filling, c__law_filling, .inl ⟨rfl, rfl⟩, .inl rfl⟩, k__law_filling⟩
  have F_is_name : FunD K "is_name" "is_name" (defArgs s_is_name) (defBody s_is_name) (defScope s_is_name) [] [] ad_is_name (PySem.W.fnOf "is_name" "is_name" (defArgs s_is_name) (defBody s_is_name) (defScope s_is_name) .none kV_is_name dc_is_name pm_is_name an_is_name cd_is_name ct_is_name) := ⟨⟨_, _, _, _, _, _, _, _, _, _, rfl, l_is_name, c_is_name, .inl ⟨rfl, rfl⟩, .inl rfl⟩, k_is_name⟩
  have F_is_kind : FunD K "is_kind" "is_kind" (defArgs s_is_kind) (defBody s_is_kind) (defScope s_is_kind) [] [] ad_is_kind (PySem.W.fnOf "is_kind" "is_kind" (defArgs s_is_kind) (defBody s_is_kind) (defScope s_is_kind) .none kV_is_kind dc_is_kind pm_is_kind an_is_kind cd_is_kind ct_is_kind) := ⟨⟨_, _, _, _, _, _, _, _, _, _, rfl, l_is_kind, c_is_kind, .inl ⟨rfl, rfl⟩, .inl rfl⟩, k_is_kind⟩
  have F_want_kind : FunD K "want_kind" "want_kind" (defArgs s_want_kind) (defBody s_want_kind) (defScope s_want_kind) [] [] ad_want_kind (PySem.W.fnOf "want_kind" "want_kind" (defArgs s_want_kind) (defBody s_want_kind) (defScope s_want_kind) .none kV_want_kind dc_want_kind pm_want_kind an_want_kind cd_want_kind ct_want_kind) := ⟨⟨_, _, _, _, _, _, _, _, _, _, rfl, l_want_kind, c_want_kind, .inl ⟨rfl, rfl⟩, .inl rfl⟩, k_want_kind⟩
  have F_letter : FunD K "letter" "letter" (defArgs s_letter) (defBody s_letter) (defScope s_letter) [] [] ad_letter (PySem.W.fnOf "letter" "letter" (defArgs s_letter) (defBody s_letter) (defScope s_letter) .none kV_letter dc_letter pm_letter an_letter cd_letter ct_letter) := ⟨⟨_, _, _, _, _, _, _, _, _, _, rfl, l_letter, c_letter, .inl ⟨rfl, rfl⟩, .inl rfl⟩, k_letter⟩
  have F_first_letters : FunD K "first_letters" "first_letters" (defArgs s_first_letters) (defBody s_first_letters) (defScope s_first_letters) [] [] ad_first_letters (PySem.W.fnOf "first_letters" "first_letters" (defArgs s_first_letters) (defBody s_first_letters) (defScope s_first_letters) .none kV_first_letters dc_first_letters pm_first_letters an_first_letters cd_first_letters ct_first_letters) := ⟨⟨_, _, _, _, _, _, _, _, _, _, rfl, l_first_letters, c_first_letters, .inl ⟨rfl, rfl⟩, .inl rfl⟩, k_first_letters⟩
  have F_exchange : FunD K "exchange" "exchange" (defArgs s_exchange) (defBody s_exchange) (defScope s_exchange) [] [] ad_exchange (PySem.W.fnOf "exchange" "exchange" (defArgs s_exchange) (defBody s_exchange) (defScope s_exchange) .none kV_exchange dc_exchange pm_exchange an_exchange cd_exchange ct_exchange) := ⟨⟨_, _, _, _, _, _, _, _, _, _, rfl, l_exchange, c_exchange, .inl ⟨rfl, rfl⟩, .inl rfl⟩, k_exchange⟩
  have F_relettered : FunD K "relettered" "relettered" (defArgs s_relettered) (defBody s_relettered) (defScope s_relettered) [] [] ad_relettered (PySem.W.fnOf "relettered" "relettered" (defArgs s_relettered) (defBody s_relettered) (defScope s_relettered) .none kV_relettered dc_relettered pm_relettered an_relettered cd_relettered ct_relettered) := ⟨⟨_, _, _, _, _, _, _, _, _, _, rfl, l_relettered, c_relettered, .inl ⟨rfl, rfl⟩, .inl rfl⟩, k_relettered⟩
  obtain ⟨w0_free_of, hw0_free_of, _⟩ := kdV_ok (H := fun _ => none) (M := fun _ => False) 8 dv0_free_of _ ed0_free_of
  have F_free_of : FunD K "free_of" "free_of" (defArgs s_free_of) (defBody s_free_of) (defScope s_free_of) [w0_free_of] [] ad_free_of (PySem.W.fnOf "free_of" "free_of" (defArgs s_free_of) (defBody s_free_of) (defScope s_free_of) (.ref T_free_of) kV_free_of dc_free_of pm_free_of an_free_of cd_free_of ct_free_of) := ⟨⟨_, _, _, _, _, _, _, _, _, _, rfl, l_free_of, c_free_of, .inr ⟨by simp, T_free_of, _, [dv0_free_of], tn_free_of, rfl, lT_free_of, rfl, (.cons hw0_free_of .nil)⟩, .inl rfl⟩, k_free_of⟩
  obtain ⟨e0_free_of, vd0_free_of, bd0_free_of⟩ := F_free_of.binds1 (ps := ["kind", "inside"]) 2 1 (by simp) rfl fun T kV doc pm an cdv ct us its hu hi => match us, its, hu, hi with | [_, _], [_], _, _ => ⟨_, rfl, rfl⟩
  cases vd0_free_of
  obtain ⟨e1_free_of, vd1_free_of, bd1_free_of⟩ := F_free_of.binds1 (ps := ["kind", "inside"]) 1 0 (by simp) rfl fun T kV doc pm an cdv ct us its hu hi => match us, its, hu, hi with | [_], [_], _, _ => ⟨_, rfl, rfl⟩
  have F_marked_from : FunD K "marked_from" "marked_from" (defArgs s_marked_from) (defBody s_marked_from) (defScope s_marked_from) [] [] ad_marked_from (PySem.W.fnOf "marked_from" "marked_from" (defArgs s_marked_from) (defBody s_marked_from) (defScope s_marked_from) .none kV_marked_from dc_marked_from pm_marked_from an_marked_from cd_marked_from ct_marked_from) := ⟨⟨_, _, _, _, _, _, _, _, _, _, rfl, l_marked_from, c_marked_from, .inl ⟨rfl, rfl⟩, .inl rfl⟩, k_marked_from⟩
  have F_numbers_in : FunD K "numbers_in" "numbers_in" (defArgs s_numbers_in) (defBody s_numbers_in) (defScope s_numbers_in) [] [] ad_numbers_in (PySem.W.fnOf "numbers_in" "numbers_in" (defArgs s_numbers_in) (defBody s_numbers_in) (defScope s_numbers_in) .none kV_numbers_in dc_numbers_in pm_numbers_in an_numbers_in cd_numbers_in ct_numbers_in) := ⟨⟨_, _, _, _, _, _, _, _, _, _, rfl, l_numbers_in, c_numbers_in, .inl ⟨rfl, rfl⟩, .inl rfl⟩, k_numbers_in⟩
  obtain ⟨w0_marked, hw0_marked, _⟩ := kdV_ok (H := fun _ => none) (M := fun _ => False) 8 dv0_marked _ ed0_marked
  have F_marked : FunD K "marked" "marked" (defArgs s_marked) (defBody s_marked) (defScope s_marked) [w0_marked] [] ad_marked (PySem.W.fnOf "marked" "marked" (defArgs s_marked) (defBody s_marked) (defScope s_marked) (.ref T_marked) kV_marked dc_marked pm_marked an_marked cd_marked ct_marked) := ⟨⟨_, _, _, _, _, _, _, _, _, _, rfl, l_marked, c_marked, .inr ⟨by simp, T_marked, _, [dv0_marked], tn_marked, rfl, lT_marked, rfl, (.cons hw0_marked .nil)⟩, .inl rfl⟩, k_marked⟩
  obtain ⟨e0_marked, vd0_marked, bd0_marked⟩ := F_marked.binds1 (ps := ["kind", "first"]) 2 1 (by simp) rfl fun T kV doc pm an cdv ct us its hu hi => match us, its, hu, hi with | [_, _], [_], _, _ => ⟨_, rfl, rfl⟩
  cases vd0_marked
  obtain ⟨e1_marked, vd1_marked, bd1_marked⟩ := F_marked.binds1 (ps := ["kind", "first"]) 1 0 (by simp) rfl fun T kV doc pm an cdv ct us its hu hi => match us, its, hu, hi with | [_], [_], _, _ => ⟨_, rfl, rfl⟩
  have F_plain_of : FunD K "plain_of" "plain_of" (defArgs s_plain_of) (defBody s_plain_of) (defScope s_plain_of) [] [] ad_plain_of (PySem.W.fnOf "plain_of" "plain_of" (defArgs s_plain_of) (defBody s_plain_of) (defScope s_plain_of) .none kV_plain_of dc_plain_of pm_plain_of an_plain_of cd_plain_of ct_plain_of) := ⟨⟨_, _, _, _, _, _, _, _, _, _, rfl, l_plain_of, c_plain_of, .inl ⟨rfl, rfl⟩, .inl rfl⟩, k_plain_of⟩
  have F_put_of : FunD K "put_of" "put_of" (defArgs s_put_of) (defBody s_put_of) (defScope s_put_of) [] [] ad_put_of (PySem.W.fnOf "put_of" "put_of" (defArgs s_put_of) (defBody s_put_of) (defScope s_put_of) .none kV_put_of dc_put_of pm_put_of an_put_of cd_put_of ct_put_of) := ⟨⟨_, _, _, _, _, _, _, _, _, _, rfl, l_put_of, c_put_of, .inl ⟨rfl, rfl⟩, .inl rfl⟩, k_put_of⟩
  have F_put : FunD K "put" "put" (defArgs s_put) (defBody s_put) (defScope s_put) [] [] ad_put (PySem.W.fnOf "put" "put" (defArgs s_put) (defBody s_put) (defScope s_put) .none kV_put dc_put pm_put an_put cd_put ct_put) := ⟨⟨_, _, _, _, _, _, _, _, _, _, rfl, l_put, c_put, .inl ⟨rfl, rfl⟩, .inl rfl⟩, k_put⟩
  have F_free : FunD K "free" "free" (defArgs s_free) (defBody s_free) (defScope s_free) [] [] ad_free (PySem.W.fnOf "free" "free" (defArgs s_free) (defBody s_free) (defScope s_free) .none kV_free dc_free pm_free an_free cd_free ct_free) := ⟨⟨_, _, _, _, _, _, _, _, _, _, rfl, l_free, c_free, .inl ⟨rfl, rfl⟩, .inl rfl⟩, k_free⟩
  have F_plain : FunD K "plain" "plain" (defArgs s_plain) (defBody s_plain) (defScope s_plain) [] [] ad_plain (PySem.W.fnOf "plain" "plain" (defArgs s_plain) (defBody s_plain) (defScope s_plain) .none kV_plain dc_plain pm_plain an_plain cd_plain ct_plain) := ⟨⟨_, _, _, _, _, _, _, _, _, _, rfl, l_plain, c_plain, .inl ⟨rfl, rfl⟩, .inl rfl⟩, k_plain⟩
  have F__law_put_right : FunD K "_law_put_right" "_law_put_right" (defArgs s__law_put_right) (defBody s__law_put_right) (defScope s__law_put_right) [] [] ad__law_put_right (PySem.W.fnOf "_law_put_right" "_law_put_right" (defArgs s__law_put_right) (defBody s__law_put_right) (defScope s__law_put_right) .none kV__law_put_right dc__law_put_right pm__law_put_right an__law_put_right cd__law_put_right ct__law_put_right) := ⟨⟨_, _, _, _, _, _, _, _, _, _, rfl, l__law_put_right, c__law_put_right, .inl ⟨rfl, rfl⟩, .inl rfl⟩, k__law_put_right⟩
  have F_same : FunD K "same" "same" (defArgs s_same) (defBody s_same) (defScope s_same) [] [] ad_same (PySem.W.fnOf "same" "same" (defArgs s_same) (defBody s_same) (defScope s_same) .none kV_same dc_same pm_same an_same cd_same ct_same) := ⟨⟨_, _, _, _, _, _, _, _, _, _, rfl, l_same, c_same, .inl ⟨rfl, rfl⟩, .inl rfl⟩, k_same⟩
  have F__law_same_right : FunD K "_law_same_right" "_law_same_right" (defArgs s__law_same_right) (defBody s__law_same_right) (defScope s__law_same_right) [] [] ad__law_same_right (PySem.W.fnOf "_law_same_right" "_law_same_right" (defArgs s__law_same_right) (defBody s__law_same_right) (defScope s__law_same_right) .none kV__law_same_right dc__law_same_right pm__law_same_right an__law_same_right cd__law_same_right ct__law_same_right) := ⟨⟨_, _, _, _, _, _, _, _, _, _, rfl, l__law_same_right, c__law_same_right, .inl ⟨rfl, rfl⟩, .inl rfl⟩, k__law_same_right⟩
  have F_law : FunD K "law" "law" (defArgs s_law) (defBody s_law) (defScope s_law) [] [] fa (PySem.W.fnOf "law" "law" (defArgs s_law) (defBody s_law) (defScope s_law) .none kV_law dc_law pm_law an_law cd_law ct_law) := ⟨⟨_, _, _, _, _, _, _, _, _, _, rfl, l_law, c_law, .inl ⟨rfl, rfl⟩, .inl rfl⟩, k_law⟩
  let T : Top l.prog w K mg := {
    z_all := PySem.W.mg_none_of X G z_all
    z_dict := PySem.W.mg_none_of X G z_dict
    z_int := PySem.W.mg_none_of X G z_int
    z_isinstance := PySem.W.mg_none_of X G z_isinstance
    z_len := PySem.W.mg_none_of X G z_len
    z_max := PySem.W.mg_none_of X G z_max
    z_min := PySem.W.mg_none_of X G z_min
    z_range := PySem.W.mg_none_of X G z_range
    z_sorted := PySem.W.mg_none_of X G z_sorted
    z_str := PySem.W.mg_none_of X G z_str
    z_tuple := PySem.W.mg_none_of X G z_tuple
    z_zip := PySem.W.mg_none_of X G z_zip
    u_BARRED := u_BARRED
    m_BARRED := PySem.W.mg_of X G a_BARRED
    c_BARRED := c_BARRED
    u_MOST_SIGNS := u_MOST_SIGNS
    m_MOST_SIGNS := PySem.W.mg_of X G a_MOST_SIGNS
    c_MOST_SIGNS := c_MOST_SIGNS
    u_LETTERS := u_LETTERS
    m_LETTERS := PySem.W.mg_of X G a_LETTERS
    c_LETTERS := c_LETTERS
    u_MARK := u_MARK
    m_MARK := PySem.W.mg_of X G a_MARK
    c_MARK := c_MARK
    t_WORDS := t_WORDS
    m_WORDS := PySem.W.mg_of X G a_WORDS
    kd_WORDS := ⟨⟨_, _, _, ⟨l_WORDS, y_WORDS, o_WORDS⟩, e_WORDS⟩⟩
    C_KindError := C_KindError
    m_KindError := PySem.W.mg_of X G a_KindError
    n_KindError := a_KindError
    C_NoKind := C_NoKind
    m_NoKind := PySem.W.mg_of X G a_NoKind
    n_NoKind := a_NoKind
    sup := PySem.W.mg_none_of X G qs
    op := qo
    f_KindError := f_KindError
    cc_KindError := cc_KindError
    cd_KindError := cd_KindError
    S_KindError := sup_mk il_KindError ib_KindError
    fb_KindError := fb_KindError
    f_NoKind := f_NoKind
    cc_NoKind := cc_NoKind
    cd_NoKind := cd_NoKind
    S_NoKind := sup_mk il_NoKind ib_NoKind
    fb_NoKind := fb_NoKind
    ke_NoKind := ke_mk xl_NoKind (by rfl) xk_NoKind
    iC_NoKind := if_NoKind
    ra_NoKind := ra_NoKind
    v__law_source_of := []
    b__law_source_of := (F__law_source_of.bindsN fun _ _ _ _ _ _ us hl => match us, hl with | [_], _ => rfl)
    a__law_source_of := ad__law_source_of
    d__law_source_of := _
    F__law_source_of := F__law_source_of
    m__law_source_of := PySem.W.mg_of X G a__law_source_of
    v__law_cell_at := []
    b__law_cell_at := (F__law_cell_at.bindsN fun _ _ _ _ _ _ us hl => match us, hl with | [_, _], _ => rfl)
    a__law_cell_at := ad__law_cell_at
    d__law_cell_at := _
    F__law_cell_at := F__law_cell_at
    m__law_cell_at := PySem.W.mg_of X G a__law_cell_at
    v__law_next := []
    b__law_next := (F__law_next.bindsN fun _ _ _ _ _ _ us hl => match us, hl with | [_, _], _ => rfl)
    a__law_next := ad__law_next
    d__law_next := _
    F__law_next := F__law_next
    m__law_next := PySem.W.mg_of X G a__law_next
    v__law_one := []
    b__law_one := (F__law_one.bindsN fun _ _ _ _ _ _ us hl => match us, hl with | [_, _], _ => rfl)
    a__law_one := ad__law_one
    d__law_one := _
    F__law_one := F__law_one
    m__law_one := PySem.W.mg_of X G a__law_one
    v__law_kind := []
    b__law_kind := (F__law_kind.bindsN fun _ _ _ _ _ _ us hl => match us, hl with | [_, _, _], _ => rfl)
    a__law_kind := ad__law_kind
    d__law_kind := _
    F__law_kind := F__law_kind
    m__law_kind := PySem.W.mg_of X G a__law_kind
    v__law_filling := []
    b__law_filling := (F__law_filling.bindsN fun _ _ _ _ _ _ us hl => match us, hl with | [_, _], _ => rfl)
    a__law_filling := ad__law_filling
    d__law_filling := _
    F__law_filling := F__law_filling
    m__law_filling := PySem.W.mg_of X G a__law_filling
    v_is_name := []
    b_is_name := (F_is_name.bindsN fun _ _ _ _ _ _ us hl => match us, hl with | [_], _ => rfl)
    a_is_name := ad_is_name
    d_is_name := _
    F_is_name := F_is_name
    m_is_name := PySem.W.mg_of X G a_is_name
    v_is_kind := []
    b_is_kind := (F_is_kind.bindsN fun _ _ _ _ _ _ us hl => match us, hl with | [_], _ => rfl)
    a_is_kind := ad_is_kind
    d_is_kind := _
    F_is_kind := F_is_kind
    m_is_kind := PySem.W.mg_of X G a_is_kind
    v_want_kind := []
    b_want_kind := (F_want_kind.bindsN fun _ _ _ _ _ _ us hl => match us, hl with | [_], _ => rfl)
    a_want_kind := ad_want_kind
    d_want_kind := _
    F_want_kind := F_want_kind
    m_want_kind := PySem.W.mg_of X G a_want_kind
    v_letter := []
    b_letter := (F_letter.bindsN fun _ _ _ _ _ _ us hl => match us, hl with | [_], _ => rfl)
    a_letter := ad_letter
    d_letter := _
    F_letter := F_letter
    m_letter := PySem.W.mg_of X G a_letter
    v_first_letters := []
    b_first_letters := (F_first_letters.bindsN fun _ _ _ _ _ _ us hl => match us, hl with | [_], _ => rfl)
    a_first_letters := ad_first_letters
    d_first_letters := _
    F_first_letters := F_first_letters
    m_first_letters := PySem.W.mg_of X G a_first_letters
    v_exchange := []
    b_exchange := (F_exchange.bindsN fun _ _ _ _ _ _ us hl => match us, hl with | [_, _], _ => rfl)
    a_exchange := ad_exchange
    d_exchange := _
    F_exchange := F_exchange
    m_exchange := PySem.W.mg_of X G a_exchange
    v_relettered := []
    b_relettered := (F_relettered.bindsN fun _ _ _ _ _ _ us hl => match us, hl with | [_, _], _ => rfl)
    a_relettered := ad_relettered
    d_relettered := _
    F_relettered := F_relettered
    m_relettered := PySem.W.mg_of X G a_relettered
    b_free_of := bd0_free_of
    e1_free_of := e1_free_of
    y1_free_of := _
    bd1_free_of := bd1_free_of
    vd1_free_of := vd1_free_of
    wd1_free_of := (fun ρ S H => (.cons (dfl_one ed0_free_of hw0_free_of ρ S H) .nil))
    v_free_of := [w0_free_of]
    a_free_of := ad_free_of
    d_free_of := _
    F_free_of := F_free_of
    m_free_of := PySem.W.mg_of X G a_free_of
    v_marked_from := []
    b_marked_from := (F_marked_from.bindsN fun _ _ _ _ _ _ us hl => match us, hl with | [_, _], _ => rfl)
    a_marked_from := ad_marked_from
    d_marked_from := _
    F_marked_from := F_marked_from
    m_marked_from := PySem.W.mg_of X G a_marked_from
    v_numbers_in := []
    b_numbers_in := (F_numbers_in.bindsN fun _ _ _ _ _ _ us hl => match us, hl with | [_], _ => rfl)
    a_numbers_in := ad_numbers_in
    d_numbers_in := _
    F_numbers_in := F_numbers_in
    m_numbers_in := PySem.W.mg_of X G a_numbers_in
    b_marked := bd0_marked
    e1_marked := e1_marked
    y1_marked := _
    bd1_marked := bd1_marked
    vd1_marked := vd1_marked
    wd1_marked := (fun ρ S H => (.cons (dfl_one ed0_marked hw0_marked ρ S H) .nil))
    v_marked := [w0_marked]
    a_marked := ad_marked
    d_marked := _
    F_marked := F_marked
    m_marked := PySem.W.mg_of X G a_marked
    v_plain_of := []
    b_plain_of := (F_plain_of.bindsN fun _ _ _ _ _ _ us hl => match us, hl with | [_], _ => rfl)
    a_plain_of := ad_plain_of
    d_plain_of := _
    F_plain_of := F_plain_of
    m_plain_of := PySem.W.mg_of X G a_plain_of
    v_put_of := []
    b_put_of := (F_put_of.bindsN fun _ _ _ _ _ _ us hl => match us, hl with | [_, _], _ => rfl)
    a_put_of := ad_put_of
    d_put_of := _
    F_put_of := F_put_of
    m_put_of := PySem.W.mg_of X G a_put_of
    v_put := []
    b_put := (F_put.bindsN fun _ _ _ _ _ _ us hl => match us, hl with | [_, _], _ => rfl)
    a_put := ad_put
    d_put := _
    F_put := F_put
    m_put := PySem.W.mg_of X G a_put
    v_free := []
    b_free := (F_free.bindsN fun _ _ _ _ _ _ us hl => match us, hl with | [_], _ => rfl)
    a_free := ad_free
    d_free := _
    F_free := F_free
    m_free := PySem.W.mg_of X G a_free
    v_plain := []
    b_plain := (F_plain.bindsN fun _ _ _ _ _ _ us hl => match us, hl with | [_], _ => rfl)
    a_plain := ad_plain
    d_plain := _
    F_plain := F_plain
    m_plain := PySem.W.mg_of X G a_plain
    v__law_put_right := []
    b__law_put_right := (F__law_put_right.bindsN fun _ _ _ _ _ _ us hl => match us, hl with | [_, _, _], _ => rfl)
    a__law_put_right := ad__law_put_right
    d__law_put_right := _
    F__law_put_right := F__law_put_right
    m__law_put_right := PySem.W.mg_of X G a__law_put_right
    v_same := []
    b_same := (F_same.bindsN fun _ _ _ _ _ _ us hl => match us, hl with | [_, _], _ => rfl)
    a_same := ad_same
    d_same := _
    F_same := F_same
    m_same := PySem.W.mg_of X G a_same
    v__law_same_right := []
    b__law_same_right := (F__law_same_right.bindsN fun _ _ _ _ _ _ us hl => match us, hl with | [_, _, _], _ => rfl)
    a__law_same_right := ad__law_same_right
    d__law_same_right := _
    F__law_same_right := F__law_same_right
    m__law_same_right := PySem.W.mg_of X G a__law_same_right
    v_law := []
    a_law := fa
    d_law := _
    F_law := F_law }
  exact ⟨_, fun s v => .of_eq rfl, fun base _ _ => o_law T⟩
end Fro

namespace Fro
open PySem PySem.Spec L2

/-! ### evaluation, forward -/
section
variable {a b : DenS} {δ δ' : Slots} {S S1 S2 : Sto} {r : RS} {w : W} {d : D}
theorem e_seq_nx (h : a δ S = .nx δ' S1) (h2 : b δ' S1 = r) : cSeq a b δ S = r := by unfold cSeq; rw [h]; exact h2
theorem e_seq_rt (h : a δ S = .rt w S1) : cSeq a b δ S = .rt w S1 := by unfold cSeq; rw [h]
theorem e_ifs_t {t : Den Bool} (h : t δ S = .ok true S1) (h2 : a δ S1 = r) : cIfS t a b δ S = r := by unfold cIfS; rw [h]; exact h2
theorem e_ifs_f {t : Den Bool} (h : t δ S = .ok false S1) (h2 : b δ S1 = r) : cIfS t a b δ S = r := by unfold cIfS; rw [h]; exact h2
theorem e_ifs {t : Den Bool} {c : Bool} (h : t δ S = .ok c S1) (h2 : (if c = true then a δ S1 else b δ S1) = r) : cIfS t a b δ S = r := by unfold cIfS; rw [h]; exact h2
theorem e_ret {x : Den W} (h : x δ S = .ok w S1) : cRet x δ S = .rt w S1 := by unfold cRet; rw [h]; rfl
theorem e_expr {x : Den W} (h : x δ S = .ok w S1) : cExpr x δ S = .nx δ S1 := by unfold cExpr; rw [h]; rfl
theorem e_set {x : Den W} {i : Nat} (h : x δ S = .ok w S1) : cAsg x (gN i) δ S = .nx (δ.set i (some w)) S1 := by unfold cAsg; rw [h]; rfl
theorem e_asg {x : Den W} {g : DenG} (h : x δ S = .ok w S1) (hg : g w δ S1 = some (δ', S2)) : cAsg x g δ S = .nx δ' S2 := by
  unfold cAsg; rw [h]
  show (match g w δ S1 with | some (δ', S') => RS.nx δ' S' | none => RS.bad) = _
  rw [hg]
theorem e_for {it : Den (List D)} {g : DenG} {ds : List D} (h : it δ S = .ok ds S1) (h2 : forL g a ds δ S1 = r) : cFor it g a δ S = r := by unfold cFor; rw [h]; exact h2
end
section
variable {x y z : Den W} {t u : Den Bool} {δ : Slots} {S S1 S2 S3 : Sto} {r : R W} {rb : R Bool} {w v : W} {c : Bool}
theorem e_if_t (h : t δ S = .ok true S1) (h2 : x δ S1 = r) : cIf t x y δ S = r := by unfold cIf; rw [h]; exact h2
theorem e_if_f (h : t δ S = .ok false S1) (h2 : y δ S1 = r) : cIf t x y δ S = r := by unfold cIf; rw [h]; exact h2
theorem e_b (h : x δ S = .ok (.v (.bl c)) S1) : cB x δ S = .ok c S1 := by unfold cB; rw [h]; rfl
theorem e_not (h : t δ S = .ok c S1) : cNot t δ S = .ok (!c) S1 := by unfold cNot; rw [h]; rfl
theorem e_or_t (h : t δ S = .ok true S1) : cOr t u δ S = .ok true S1 := by unfold cOr; rw [h]; rfl
theorem e_or_f (h : t δ S = .ok false S1) (h2 : u δ S1 = rb) : cOr t u δ S = rb := by unfold cOr; rw [h]; exact h2
theorem e_and_t (h : t δ S = .ok true S1) (h2 : u δ S1 = rb) : cAnd t u δ S = rb := by unfold cAnd; rw [h]; exact h2
theorem e_and_f (h : t δ S = .ok false S1) : cAnd t u δ S = .ok false S1 := by unfold cAnd; rw [h]; rfl
theorem e_andV_t (h : x δ S = .ok (.v (.bl true)) S1) (h2 : y δ S1 = r) : cAndV x y δ S = r := by unfold cAndV; rw [h]; exact h2
theorem e_andV_f (h : x δ S = .ok (.v (.bl false)) S1) : cAndV x y δ S = .ok (.v (.bl false)) S1 := by unfold cAndV; rw [h]; rfl
theorem e_orV_t (h : x δ S = .ok (.v (.bl true)) S1) : cOrV x y δ S = .ok (.v (.bl true)) S1 := by unfold cOrV; rw [h]; rfl
theorem e_orV_f (h : x δ S = .ok (.v (.bl false)) S1) (h2 : y δ S1 = r) : cOrV x y δ S = r := by unfold cOrV; rw [h]; exact h2
theorem e_notV (h : x δ S = .ok (.v (.bl c)) S1) : cNotV x δ S = .ok (.v (.bl (!c))) S1 := by unfold cNotV; rw [h]; rfl
theorem e_op2 {g : D → D → Option D} {d e k : D} (h1 : x δ S = .ok w S1) (h2 : y δ S1 = .ok v S2) (r1 : rd S2 w = some d) (r2 : rd S2 v = some e) (hg : g d e = some k) : op2 g x y δ S = .ok (.v k) S2 := by
  unfold op2; rw [h1, R.bind_ok, h2, R.bind_ok]; unfold ap2; simp only [r1, r2, hg]
/-- two values -/
theorem e_op2v {g : D → D → Option D} {d e k : D} (h1 : x δ S = .ok (.v d) S1) (h2 : y δ S1 = .ok (.v e) S2) (hg : g d e = some k) : op2 g x y δ S = .ok (.v k) S2 := e_op2 h1 h2 rfl rfl hg
theorem e_ix {d e k : D} (h1 : x δ S = .ok (.v d) S1) (h2 : y δ S1 = .ok (.v e) S2) (hg : gIx d e = some k) : cIx x y δ S = .ok (.v k) S2 := by
  unfold cIx; rw [h1, R.bind_ok, h2, R.bind_ok]
  show ap2 gIx (.v d) (.v e) S2 = _
  unfold ap2; simp only [rd, hg]
theorem e_ixr {d e k : D} (h1 : x δ S = .ok w S1) (h2 : y δ S1 = .ok (.v e) S2) (r1 : rd S2 w = some d) (hg : gIx d e = some k) : cIx x y δ S = .ok (.v k) S2 := by
  unfold cIx; rw [h1, R.bind_ok, h2, R.bind_ok]
  have : apIx w (.v e) S2 = ap2 gIx w (.v e) S2 := by
    cases w with
    | s ns => cases r1
    | _ => rfl
  rw [this]
  unfold ap2
  rw [r1]
  simp only [rd, hg]
theorem e_cons {as : Den (List W)} {ws : List W} (h1 : x δ S = .ok w S1) (h2 : as δ S1 = .ok ws S2) : cCons x as δ S = .ok (w :: ws) S2 := by unfold cCons; rw [h1, R.bind_ok, h2]; rfl
theorem e_call {as : Den (List W)} {ws dws : List W} {n : Nat} {f : FDen} {rv : Rv} (h1 : as δ S = .ok ws S1) (h2 : (ws ++ dws).length = n) (h3 : f (ws ++ dws) S1 = .ok rv S2) (h4 : cRes rv S2 = r) : cCall n f as dws δ S = r := by
  unfold cCall; rw [h1, R.bind_ok]; unfold chk; rw [if_pos h2, h3, R.bind_ok]; exact h4
theorem e_callM {as : Den (List W)} {ws dws : List W} {n : Nat} {f : FDen} {rv : Rv} (h1 : as δ S = .ok ws S1) (h2 : (ws ++ dws).length = n) (h3 : f (ws ++ dws) S1 = .ok rv S2) (h4 : cResM rv S2 = r) : cCallM n f as dws δ S = r := by
  unfold cCallM; rw [h1, R.bind_ok]; unfold chk; rw [if_pos h2, h3, R.bind_ok]; exact h4
theorem e_blt {as : Den (List W)} {ws : List W} {g : List D → Option D} {ds : List D} {k : D} (h1 : as δ S = .ok ws S1) (h2 : rdAll S1 ws = some ds) (h3 : g ds = some k) : cBlt g as δ S = .ok (.v k) S1 := by
  unfold cBlt; rw [h1, R.bind_ok]; unfold apN; simp only [h2, h3]
theorem e_disp {as : Den (List W)} {mk : List D → Sto → R W} {ws : List W} {ds : List D} (h1 : as δ S = .ok ws S1) (h2 : toDs ws = some ds) (h3 : ds.length ≤ 1000) (h4 : mk ds S1 = r) : cDisp mk as δ S = r := by
  unfold cDisp; rw [h1, R.bind_ok]; simp only [h2, if_pos h3]; exact h4
end
theorem e_fdef {n : Nat} {body : DenS} {ws : List W} {S S' : Sto} {w : W} {r : R Rv} (h : body (slots0 n ws) S = .rt w S') (h2 : retv S.length w S' = r) : fdef n body ws S = r := by
  unfold fdef; rw [h]; exact h2
theorem e_fdefN {n : Nat} {body : DenS} {ws : List W} {S S' : Sto} {δ : Slots} (h : body (slots0 n ws) S = .nx δ S') : fdef n body ws S = .ok (.v .non) (S'.take S.length) := by
  unfold fdef; rw [h]; rfl
/-- a def that hands back a value and leaves the store as it was -/
theorem e_fdef_v {n : Nat} {body : DenS} {ws : List W} {S : Sto} {d : D} (h : body (slots0 n ws) S = .rt (.v d) S) : fdef n body ws S = .ok (.v d) S := by
  refine e_fdef h ?_
  show R.ok (Rv.v d) (S.take S.length) = _
  rw [List.take_length]
theorem e_fdef_va {n : Nat} {body : DenS} {ws : List W} {S T : Sto} {d : D} (h : body (slots0 n ws) S = .rt (.v d) (S ++ T)) : fdef n body ws S = .ok (.v d) S := by
  refine e_fdef h ?_
  show R.ok (Rv.v d) ((S ++ T).take S.length) = _
  rw [List.take_left]
theorem e_fdef_vs {n : Nat} {body : DenS} {ws : List W} {S : Sto} {d : D} {i : Nat} {o : Ob} (h : body (slots0 n ws) S = .rt (.v d) (S.set i o)) : fdef n body ws S = .ok (.v d) (S.set i o) := by
  refine e_fdef h ?_
  show R.ok (Rv.v d) ((S.set i o).take S.length) = _
  rw [List.take_of_length_le (by rw [List.length_set]; exact Nat.le_refl _)]
/-- .. the last object that was laid -/
theorem e_fdef_new {n : Nat} {body : DenS} {ws : List W} {S : Sto} {o : Ob} (h : body (slots0 n ws) S = .rt (.r S.length) (S ++ [o])) : fdef n body ws S = .ok (.new o) S := by
  refine e_fdef h ?_
  unfold retv
  simp only [if_neg (Nat.lt_irrefl _), List.getElem?_append_right (Nat.le_refl _), Nat.sub_self]
  show R.ok (Rv.new o) ((S ++ [o]).take S.length) = _
  rw [List.take_left]

/-! ### loops over lists of data -/
/-- a loop whose turns go on: a state St i that the slots and the store keep -/
theorem forL_all {dg : DenG} {b : DenS} (P : List D → Slots → Sto → Prop) (ds : List D) (step : ∀ (d : D) (rest : List D) (δ : Slots) (S : Sto), P (d :: rest) δ S → ∃ δ1 S1 δ2 S2, dg (.v d) δ S = some (δ1, S1) ∧ b δ1 S1 = .nx δ2 S2 ∧ P rest δ2 S2) :
    ∀ (δ : Slots) (S : Sto), P ds δ S → ∃ δ' S', forL dg b ds δ S = .nx δ' S' ∧ P [] δ' S' := by
  induction ds with
  | nil => exact fun δ S h => ⟨δ, S, rfl, h⟩
  | cons d rest ih =>
    intro δ S h
    obtain ⟨δ1, S1, δ2, S2, e1, e2, h2⟩ := step d rest δ S h
    obtain ⟨δ', S', e3, h3⟩ := ih δ2 S2 h2
    refine ⟨δ', S', ?_, h3⟩
    unfold forL
    simp only [e1, e2]
    exact e3
/-- a comprehension over data by a function on data, the store kept -/
theorem comp_ev {it : Den (List D)} {dg : DenG} {tt : Den Bool} {te : Den W} {vs : List Nat} {δ : Slots} {S S1 : Sto} {ds : List D} (f : D → Option D) (hit : it δ S = .ok ds S1) (hl : ds.length ≤ 1000000)
    (hs : ∀ d ∈ ds, ∀ acc : List D, ∃ δ1, dg (.v d) (wipeD δ vs) (S1 ++ [.lst acc]) = some (δ1, S1 ++ [.lst acc]) ∧ (match f d with
      | none => tt δ1 (S1 ++ [.lst acc]) = .ok false (S1 ++ [.lst acc])
      | some e => tt δ1 (S1 ++ [.lst acc]) = .ok true (S1 ++ [.lst acc]) ∧ te δ1 (S1 ++ [.lst acc]) = .ok (.v e) (S1 ++ [.lst acc]))) :
    cComp it dg tt te vs δ S = .ok (.v (.lst (ds.filterMap f))) S1 := by
  have key : ∀ (ds : List D) (acc : List D), acc.length + ds.length ≤ 1000000 → (∀ d ∈ ds, ∀ acc : List D, ∃ δ1, dg (.v d) (wipeD δ vs) (S1 ++ [.lst acc]) = some (δ1, S1 ++ [.lst acc]) ∧ (match f d with
      | none => tt δ1 (S1 ++ [.lst acc]) = .ok false (S1 ++ [.lst acc])
      | some e => tt δ1 (S1 ++ [.lst acc]) = .ok true (S1 ++ [.lst acc]) ∧ te δ1 (S1 ++ [.lst acc]) = .ok (.v e) (S1 ++ [.lst acc]))) →
      compL dg tt te S1.length ds (wipeD δ vs) (S1 ++ [.lst acc]) = .ok () (S1 ++ [.lst (acc ++ ds.filterMap f)]) := by
    intro ds
    induction ds with
    | nil => intro acc _ _; simp [compL]
    | cons d rest ih =>
      intro acc hl h
      obtain ⟨δ1, e1, e2⟩ := h d (List.mem_cons_self) acc
      unfold compL
      simp only [e1]
      cases q : f d with
      | none =>
        rw [q] at e2
        simp only [e2, R.noexc_ok, R.bind_ok]
        rw [if_neg Bool.false_ne_true, ih acc (by rw [List.length_cons] at hl; omega) (fun d hd => h d (List.mem_cons_of_mem _ hd)), List.filterMap_cons, q]
      | some e =>
        rw [q] at e2
        simp only [e2.1, e2.2, R.noexc_ok, R.bind_ok, if_true]
        rw [List.getElem?_append_right (Nat.le_refl _), Nat.sub_self]
        rw [List.length_cons] at hl
        simp only [List.getElem?_cons_zero, if_pos (show acc.length < 1000000 by omega)]
        rw [List.set_append_right _ _ (Nat.le_refl _), Nat.sub_self]
        simp only [List.set_cons_zero]
        rw [ih (acc ++ [e]) (by rw [List.length_append]; simp; omega) (fun d hd => h d (List.mem_cons_of_mem _ hd)), List.filterMap_cons, q]
        simp
  unfold cComp
  rw [hit, R.bind_ok, key ds [] (by simpa using hl) hs, R.bind_ok]
  rw [if_pos (by simp), List.getElem?_append_right (Nat.le_refl _), Nat.sub_self]
  simp only [List.getElem?_cons_zero, List.nil_append, List.take_left]
/-- .. whose elements are all taken -/
theorem comp_map {it : Den (List D)} {dg : DenG} {te : Den W} {vs : List Nat} {δ : Slots} {S S1 : Sto} {ds : List D} (f : D → D) (hit : it δ S = .ok ds S1) (hl : ds.length ≤ 1000000)
    (hs : ∀ d ∈ ds, ∀ acc : List D, ∃ δ1, dg (.v d) (wipeD δ vs) (S1 ++ [.lst acc]) = some (δ1, S1 ++ [.lst acc]) ∧ te δ1 (S1 ++ [.lst acc]) = .ok (.v (f d)) (S1 ++ [.lst acc])) :
    cComp it dg cYes te vs δ S = .ok (.v (.lst (ds.map f))) S1 := by
  have q := comp_ev (it := it) (dg := dg) (tt := cYes) (te := te) (vs := vs) (δ := δ) (S := S) (fun d => some (f d)) hit hl fun d hd acc => by
    obtain ⟨δ1, e1, e2⟩ := hs d hd acc
    exact ⟨δ1, e1, rfl, e2⟩
  rw [q]
  simp [List.filterMap_eq_map]

/-! ### names -/
def stL (ts : List Tx) : List D := ts.map .str
theorem all_stL (ts : List Tx) : (stL ts).all flatD = true := by
  unfold stL
  rw [List.all_map]
  exact List.all_eq_true.mpr fun _ _ => rfl
theorem any_stL (t : Tx) : ∀ ts : List Tx, ((stL ts).any fun y => deq y (.str t)) = decide (t ∈ ts)
  | [] => rfl
  | u :: ts => by
    have ih := any_stL t ts
    unfold stL at ih ⊢
    rw [List.map_cons, List.any_cons, ih]
    show ((u == t) || decide (t ∈ ts)) = decide (t ∈ u :: ts)
    by_cases h : u = t
    · subst h; simp
    · have h2 : (u == t) = false := beq_eq_false_iff_ne.mpr h
      rw [h2, Bool.false_or]
      have : (t ∈ u :: ts) ↔ t ∈ ts := by
        rw [List.mem_cons]
        exact ⟨fun z => z.elim (fun e => absurd e.symm h) id, Or.inr⟩
      exact decide_eq_decide.mpr this.symm
theorem gIn_lst (t : Tx) (ts : List Tx) : gIn (.str t) (.lst (stL ts)) = some (.bl (decide (t ∈ ts))) := by
  unfold gIn gInB
  simp only [flatD, all_stL, Bool.and_self, if_true, any_stL, Option.map_some]
theorem gIn_tup (t : Tx) (ts : List Tx) : gIn (.str t) (.tup (stL ts)) = some (.bl (decide (t ∈ ts))) := by
  unfold gIn gInB
  simp only [flatD, all_stL, Bool.and_self, if_true, any_stL, Option.map_some]
theorem gNotIn_lst (t : Tx) (ts : List Tx) : gNotIn (.str t) (.lst (stL ts)) = some (.bl (!decide (t ∈ ts))) := by
  unfold gNotIn gInB
  simp only [flatD, all_stL, Bool.and_self, if_true, any_stL, Option.map_some]
theorem gNotIn_tup (t : Tx) (ts : List Tx) : gNotIn (.str t) (.tup (stL ts)) = some (.bl (!decide (t ∈ ts))) := by
  unfold gNotIn gInB
  simp only [flatD, all_stL, Bool.and_self, if_true, any_stL, Option.map_some]
def okT (t : Tx) : Bool := t.all fun c => decide (c < 1114112)
theorem okDL_stL : ∀ ts : List Tx, (∀ t ∈ ts, okT t = true) → okDL (stL ts) = true
  | [], _ => rfl
  | t :: ts, h => by
    show (okD (.str t) && okDL (stL ts)) = true
    rw [okDL_stL ts fun u hu => h u (List.mem_cons_of_mem _ hu)]
    have := h t List.mem_cons_self
    unfold okT at this
    simp only [okD, this, Bool.and_self]
theorem depL_stL : ∀ ts : List Tx, depL (stL ts) = 0
  | [] => rfl
  | t :: ts => by
    show max (dep (.str t)) (depL (stL ts)) = 0
    rw [depL_stL ts]
    rfl
theorem deqL_stL : ∀ ts us : List Tx, deqL (stL ts) (stL us) = decide (ts = us)
  | [], [] => rfl
  | [], _ :: _ => rfl
  | _ :: _, [] => rfl
  | t :: ts, u :: us => by
    show ((t == u) && deqL (stL ts) (stL us)) = _
    rw [deqL_stL ts us]
    by_cases h : t = u
    · subst h
      by_cases h2 : ts = us
      · subst h2; simp
      · simp [h2]
    · simp [h]
theorem gEq_stL (ts us : List Tx) (h : ∀ t ∈ ts, okT t = true) (h2 : ∀ t ∈ us, okT t = true) : gEq (.lst (stL ts)) (.lst (stL us)) = some (.bl (decide (ts = us))) := by
  unfold gEq
  simp only [okD, okDL_stL ts h, okDL_stL us h2, dep, depL_stL, deq, deqL_stL]
  rfl
theorem gNe_stL (ts us : List Tx) (h : ∀ t ∈ ts, okT t = true) (h2 : ∀ t ∈ us, okT t = true) : gNe (.lst (stL ts)) (.lst (stL us)) = some (.bl (!decide (ts = us))) := by
  unfold gNe
  simp only [okD, okDL_stL ts h, okDL_stL us h2, dep, depL_stL, deq, deqL_stL]
  rfl
end Fro

namespace Fro
open PySem PySem.Spec L2

/-! ### the last object of a store, and others -/
theorem at_last (S : Sto) (o : Ob) : (S ++ [o])[S.length]? = some o := by simp
theorem at_last2 (S T : Sto) (o : Ob) : (S ++ [o] ++ T)[S.length]? = some o := by simp
theorem set_last (S : Sto) (o o' : Ob) : (S ++ [o]).set S.length o' = S ++ [o'] := by
  rw [List.set_append_right _ _ (Nat.le_refl _), Nat.sub_self]
  rfl
theorem rd_at {S : Sto} {i : Nat} {ds : List D} (h : S[i]? = some (.lst ds)) : rd S (.r i) = some (.lst ds) := by
  unfold rd
  simp only [h]
theorem isRL_at {S : Sto} {i : Nat} {ds : List D} (h : S[i]? = some (.lst ds)) : isRL (.r i) S = some (i, ds) := by
  unfold isRL
  simp only [h]
section
variable {x y : Den W} {δ : Slots} {S S1 S2 : Sto} {i : Nat} {w : W} {d : D} {ds es : List D}
theorem e_extend (h1 : x δ S = .ok (.r i) S1) (h2 : ∃ ds, S1[i]? = some (.lst ds)) (h3 : y δ S1 = .ok w S2) (h4 : S2[i]? = some (.lst ds)) (h5 : rd S2 w = some (.lst es)) (h6 : ds.length + es.length ≤ 1000000) : cExtend x y δ S = .ok (.v .non) (S2.set i (.lst (ds ++ es))) := by
  obtain ⟨ds0, h2⟩ := h2
  unfold cExtend cMth
  rw [h1, R.bind_ok, isRL_at h2]
  show (y δ S1).bind _ = _
  rw [h3, R.bind_ok]
  unfold apExtend
  rw [isRL_at h4, h5]
  simp only [if_pos h6]
theorem e_append (h1 : x δ S = .ok (.r i) S1) (h2 : ∃ ds, S1[i]? = some (.lst ds)) (h3 : y δ S1 = .ok (.v d) S2) (h4 : S2[i]? = some (.lst ds)) (h6 : ds.length < 1000000) : cAppend x y δ S = .ok (.v .non) (S2.set i (.lst (ds ++ [d]))) := by
  obtain ⟨ds0, h2⟩ := h2
  unfold cAppend cMth
  rw [h1, R.bind_ok, isRL_at h2]
  show (y δ S1).bind _ = _
  rw [h3, R.bind_ok]
  unfold apAppend
  rw [isRL_at h4]
  simp only [toD, if_pos h6]
end
theorem e_itL {x : Den W} {δ : Slots} {S S1 : Sto} {ds : List D} (h : x δ S = .ok (.v (.lst ds)) S1) : itL x δ S = .ok ds S1 := by unfold itL; rw [h]; rfl
theorem e_itT {x : Den W} {δ : Slots} {S S1 : Sto} {ds : List D} (h : x δ S = .ok (.v (.tup ds)) S1) : itT x δ S = .ok ds S1 := by unfold itT; rw [h]; rfl
theorem e_itR {as : Den (List W)} {δ : Slots} {S S1 : Sto} {n : Int} (h : as δ S = .ok [.v (.int n)] S1) (h0 : 0 ≤ n) (h1 : n < 1000000) : itR0 as δ S = .ok (rangeD 0 n.toNat) S1 := by
  unfold itR0
  rw [h, R.bind_ok]
  exact if_pos ⟨h0, h1⟩
theorem stL_append (a b : List Tx) : stL a ++ stL b = stL (a ++ b) := by unfold stL; rw [List.map_append]
theorem stL_length (a : List Tx) : (stL a).length = a.length := by unfold stL; rw [List.length_map]
theorem gAdd_tups (a b : List Tx) (h : a.length + b.length ≤ 1000000) : gAdd (.tup (stL a)) (.tup (stL b)) = some (.tup (stL (a ++ b))) := by
  unfold gAdd
  simp only [stL_length, if_pos h, stL_append]
theorem gAdd_lsts (a b : List Tx) (h : a.length + b.length ≤ 1000000) : gAdd (.lst (stL a)) (.lst (stL b)) = some (.lst (stL (a ++ b))) := by
  unfold gAdd
  simp only [stL_length, if_pos h, stL_append]
def flt (p : Tx → Bool) : D → Option D
  | .str t => if p t = true then some (.str t) else none
  | _ => none
theorem filter_stL (p : Tx → Bool) : ∀ ts : List Tx, (stL ts).filterMap (flt p) = stL (ts.filter p)
  | [] => rfl
  | t :: ts => by
    show (D.str t :: stL ts).filterMap _ = _
    rw [List.filterMap_cons]
    by_cases h : p t = true
    · rw [show flt p (.str t) = some (.str t) from if_pos h, List.filter_cons_of_pos h, filter_stL p ts]
      rfl
    · rw [show flt p (.str t) = none from if_neg h, List.filter_cons_of_neg h, filter_stL p ts]
end Fro

namespace Fro
open PySem PySem.Spec L2

/-! ### evaluation by rewriting: each step by the results of its parts -/
def seqK (r : RS) (b : DenS) : RS := match r with
  | .nx δ S => b δ S
  | r => r
def ifsK (r : R Bool) (δ : Slots) (a b : DenS) : RS := r.thenS δ fun c S1 => if c then a δ S1 else b δ S1
def retK (r : R W) (δ : Slots) : RS := r.thenS δ fun w S1 => .rt w S1
def exprK (r : R W) (δ : Slots) : RS := r.thenS δ fun _ S1 => .nx δ S1
def asgK2 (o : Option (Slots × Sto)) : RS := match o with
  | some (δ', S') => .nx δ' S'
  | none => .bad
def asgK (r : R W) (dg : DenG) (δ : Slots) : RS := r.thenS δ fun w S1 => asgK2 (dg w δ S1)
def gsK (o : Option (Slots × Sto)) (b : DenGs) (r : List D) : Option (Slots × Sto) := match o with
  | some (δ1, S1) => b r δ1 S1
  | none => none
def varK (o : Option (Option W)) (S : Sto) : R W := match o with
  | some (some w) => .ok w S
  | _ => .bad
def consK2 (w : W) (r : R (List W)) : R (List W) := r.bind fun ws S2 => .ok (w :: ws) S2
def consK (r : R W) (b : Den (List W)) (δ : Slots) : R (List W) := r.bind fun w S1 => consK2 w (b δ S1)
def dispK2 (mk : List D → Sto → R W) (o : Option (List D)) (S : Sto) : R W := match o with
  | some ds => if ds.length ≤ 1000 then mk ds S else .bad
  | none => .bad
def dispK (mk : List D → Sto → R W) (r : R (List W)) : R W := r.bind fun ws S1 => dispK2 mk (toDs ws) S1
def bK (r : R W) : R Bool := r.bind asB
def notK (r : R Bool) : R Bool := r.bind fun c S1 => .ok (!c) S1
def orK (r : R Bool) (u : Den Bool) (δ : Slots) : R Bool := r.bind fun c S1 => if c then .ok true S1 else u δ S1
def andK (r : R Bool) (u : Den Bool) (δ : Slots) : R Bool := r.bind fun c S1 => if c then u δ S1 else .ok false S1
def andVK (r : R W) (b : Den W) (δ : Slots) : R W := r.bind fun w S1 => (asB w S1).bind fun c S2 => if c then b δ S2 else .ok (.v (.bl false)) S2
def orVK (r : R W) (b : Den W) (δ : Slots) : R W := r.bind fun w S1 => (asB w S1).bind fun c S2 => if c then .ok (.v (.bl true)) S2 else b δ S2
def notVK (r : R W) : R W := r.bind fun w S1 => (asB w S1).bind fun c S2 => .ok (.v (.bl (!c))) S2
def ifK (r : R Bool) (a b : Den W) (δ : Slots) : R W := r.bind fun c S1 => if c then a δ S1 else b δ S1
def ofO (o : Option D) (S : Sto) : R W := match o with
  | some k => .ok (.v k) S
  | none => .bad
def ofO2 (g : D → D → Option D) (a b : Option D) (S : Sto) : R W := match a, b with
  | some d, some e => ofO (g d e) S
  | _, _ => .bad
def opK2 (g : D → D → Option D) (x : W) (r : R W) : R W := r.bind fun y S2 => ap2 g x y S2
def opK (r : R W) (g : D → D → Option D) (b : Den W) (δ : Slots) : R W := r.bind fun x S1 => opK2 g x (b δ S1)
def ixK2 (x : W) (r : R W) : R W := r.bind fun y S2 => apIx x y S2
def ixK (r : R W) (b : Den W) (δ : Slots) : R W := r.bind fun x S1 => ixK2 x (b δ S1)
def bltK2 (g : List D → Option D) (o : Option (List D)) (S : Sto) : R W := match o with
  | some ds => ofO (g ds) S
  | none => .bad
def bltK (g : List D → Option D) (r : R (List W)) : R W := r.bind fun ws S1 => bltK2 g (rdAll S1 ws) S1
def resK (r : R Rv) : R W := r.bind cRes
def resMK (r : R Rv) : R W := r.bind cResM
def callK (n : Nat) (f : FDen) (r : R (List W)) (dws : List W) : R W := r.bind fun ws S1 => resK (chk n f (ws ++ dws) S1)
def callMK (n : Nat) (f : FDen) (r : R (List W)) (dws : List W) : R W := r.bind fun ws S1 => resMK (chk n f (ws ++ dws) S1)
def m1K3 (g : D → Option D) (r : R W) : R W := r.bind fun y S3 => ap1 g y S3
def m1K (r : R W) (g : Tx → D → Option D) (b : Den W) (δ : Slots) : R W := r.bind fun w S1 => (asX w S1).bind fun t S2 => m1K3 (g t) (b δ S2)
def forK (r : R (List D)) (g : DenG) (b : DenS) (δ : Slots) : RS := r.thenS δ fun ds S1 => forL g b ds δ S1
def parK (r : R (List W)) (is : List Nat) (δ : Slots) : RS := r.thenS δ fun ws S1 => if ws.length = is.length then .nx ((is.zip ws).foldl (fun δ p => δ.set p.1 (some p.2)) δ) S1 else .bad
def mthK2 (o : Option (Nat × List D)) (k : Nat → Slots → Sto → R W) (δ : Slots) (S : Sto) : R W := match o with
  | some (i, _) => k i δ S
  | none => .bad
def mthK (r : R W) (k : Nat → Slots → Sto → R W) (δ : Slots) : R W := r.bind fun x S1 => mthK2 (isRL x S1) k δ S1
section
variable {a b c : DenS} {x y : Den W} {t u : Den Bool} {δ δ1 : Slots} {S S1 : Sto} {w v : W} {d e : D} {n : Nat} {k : Bool} {as : Den (List W)} {ws dws : List W} {g : D → D → Option D}
theorem v_seq : cSeq a b δ S = seqK (a δ S) b := rfl
theorem v_seq1 : seqK (.nx δ S) b = b δ S := rfl
theorem v_seq2 : seqK (.rt w S) b = .rt w S := rfl
theorem v_seq3 : seqK (.bk δ S) b = .bk δ S := rfl
theorem v_seq4 : seqK (.ct δ S) b = .ct δ S := rfl
theorem v_seq5 {m ds} : seqK (.xc m ds δ S) b = .xc m ds δ S := rfl
theorem v_ifs : cIfS t a b δ S = ifsK (t δ S) δ a b := rfl
theorem v_ifs1 : ifsK (.ok true S) δ a b = a δ S := rfl
theorem v_ifs2 : ifsK (.ok false S) δ a b = b δ S := rfl
theorem v_ifs3 {m ds} : ifsK (.exc m ds S) δ a b = .xc m ds δ S := rfl
theorem v_ret : cRet x δ S = retK (x δ S) δ := rfl
theorem v_ret1 : retK (.ok w S) δ = .rt w S := rfl
theorem v_ret3 {m ds} : retK (.exc m ds S) δ = .xc m ds δ S := rfl
theorem v_retN : cRetN δ S = .rt (.v .non) S := rfl
theorem v_expr : cExpr x δ S = exprK (x δ S) δ := rfl
theorem v_expr1 : exprK (.ok w S) δ = .nx δ S := rfl
theorem v_expr3 {m ds} : exprK (.exc m ds S) δ = .xc m ds δ S := rfl
theorem v_asg {dg : DenG} : cAsg x dg δ S = asgK (x δ S) dg δ := rfl
theorem v_asg1 {dg : DenG} : asgK (.ok w S) dg δ = asgK2 (dg w δ S) := rfl
theorem v_asg2 : asgK2 (some (δ, S)) = .nx δ S := rfl
theorem v_asg3 {dg : DenG} {m ds} : asgK (.exc m ds S) dg δ = .xc m ds δ S := rfl
theorem v_gN {i : Nat} : gN i w δ S = some (δ.set i (some w), S) := rfl
theorem v_gT {bs : DenGs} {ds : List D} : gT n bs (.v (.tup ds)) δ S = if ds.length = n then bs ds δ S else none := rfl
theorem v_gs {dg : DenG} {bs : DenGs} {ds : List D} : gsCons dg bs (d :: ds) δ S = gsK (dg (.v d) δ S) bs ds := rfl
theorem v_gs1 {bs : DenGs} {ds : List D} : gsK (some (δ, S)) bs ds = bs ds δ S := rfl
theorem v_gs2 : gsNil [] δ S = some (δ, S) := rfl
theorem v_nx : cNx δ S = .nx δ S := rfl
theorem v_brk : cBrk δ S = .bk δ S := rfl
theorem v_ct : cCt δ S = .ct δ S := rfl
theorem v_var {i : Nat} : cVar i δ S = varK δ[i]? S := rfl
theorem v_var1 : varK (some (some w)) S = .ok w S := rfl
theorem v_c : cC d δ S = .ok (.v d) S := rfl
theorem v_nil : cNil δ S = .ok [] S := rfl
theorem v_cons : cCons x as δ S = consK (x δ S) as δ := rfl
theorem v_cons1 : consK (.ok w S) as δ = consK2 w (as δ S) := rfl
theorem v_cons2 : consK2 w (.ok ws S) = .ok (w :: ws) S := rfl
theorem v_cons3 {m ds} : consK (.exc m ds S) as δ = .exc m ds S := rfl
theorem v_cons4 {m ds} : consK2 w (.exc m ds S) = .exc m ds S := rfl
theorem v_tup : cTup as δ S = dispK (fun ds S => .ok (.v (.tup ds)) S) (as δ S) := rfl
theorem v_lst : cLst as δ S = dispK (fun ds S => .ok (.v (.lst ds)) S) (as δ S) := rfl
theorem v_lstM : cLstM as δ S = dispK (fun ds S => .ok (.r S.length) (S ++ [.lst ds])) (as δ S) := rfl
theorem v_disp1 {mk : List D → Sto → R W} : dispK mk (.ok ws S) = dispK2 mk (toDs ws) S := rfl
theorem v_disp2 {mk : List D → Sto → R W} {ds : List D} : dispK2 mk (some ds) S = if ds.length ≤ 1000 then mk ds S else .bad := rfl
theorem v_disp3 {mk : List D → Sto → R W} {m ds} : dispK mk (.exc m ds S) = .exc m ds S := rfl
theorem v_toDs0 : toDs [] = some [] := rfl
theorem v_toDs1 : toDs (.v d :: ws) = (toDs ws).map (d :: ·) := by
  show (match toD (.v d), toDs ws with | some d, some ds => some (d :: ds) | _, _ => none) = _
  cases toDs ws <;> rfl
theorem v_b : cB x δ S = bK (x δ S) := rfl
theorem v_b1 : bK (.ok (.v (.bl k)) S) = .ok k S := rfl
theorem v_b3 {m ds} : bK (.exc m ds S) = .exc m ds S := rfl
theorem v_not : cNot t δ S = notK (t δ S) := rfl
theorem v_not1 : notK (.ok k S) = .ok (!k) S := rfl
theorem v_not3 {m ds} : notK (.exc m ds S) = .exc m ds S := rfl
theorem v_or : cOr t u δ S = orK (t δ S) u δ := rfl
theorem v_or1 : orK (.ok true S) u δ = .ok true S := rfl
theorem v_or2 : orK (.ok false S) u δ = u δ S := rfl
theorem v_and : cAnd t u δ S = andK (t δ S) u δ := rfl
theorem v_and1 : andK (.ok true S) u δ = u δ S := rfl
theorem v_and2 : andK (.ok false S) u δ = .ok false S := rfl
theorem v_andV : cAndV x y δ S = andVK (x δ S) y δ := rfl
theorem v_andV1 : andVK (.ok (.v (.bl true)) S) y δ = y δ S := rfl
theorem v_andV2 : andVK (.ok (.v (.bl false)) S) y δ = .ok (.v (.bl false)) S := rfl
theorem v_orV : cOrV x y δ S = orVK (x δ S) y δ := rfl
theorem v_orV1 : orVK (.ok (.v (.bl true)) S) y δ = .ok (.v (.bl true)) S := rfl
theorem v_orV2 : orVK (.ok (.v (.bl false)) S) y δ = y δ S := rfl
theorem v_notV : cNotV x δ S = notVK (x δ S) := rfl
theorem v_notV1 : notVK (.ok (.v (.bl k)) S) = .ok (.v (.bl (!k))) S := rfl
theorem v_if : cIf t x y δ S = ifK (t δ S) x y δ := rfl
theorem v_if1 : ifK (.ok true S) x y δ = x δ S := rfl
theorem v_if2 : ifK (.ok false S) x y δ = y δ S := rfl
theorem v_op : op2 g x y δ S = opK (x δ S) g y δ := rfl
theorem v_op1 : opK (.ok w S) g y δ = opK2 g w (y δ S) := rfl
theorem v_op2 : opK2 g w (.ok v S) = ap2 g w v S := rfl
theorem v_op3 {m ds} : opK (.exc m ds S) g y δ = .exc m ds S := rfl
theorem v_op4 {m ds} : opK2 g w (.exc m ds S) = .exc m ds S := rfl
theorem v_ap2 : ap2 g w v S = ofO2 g (rd S w) (rd S v) S := by
  unfold ap2 ofO2
  cases rd S w <;> cases rd S v <;> rfl
theorem v_ofO2 : ofO2 g (some d) (some e) S = ofO (g d e) S := rfl
theorem v_ofO : ofO (some d) S = .ok (.v d) S := rfl
theorem v_rd : rd S (.v d) = some d := rfl
theorem v_ix : cIx x y δ S = ixK (x δ S) y δ := rfl
theorem v_ix1 : ixK (.ok w S) y δ = ixK2 w (y δ S) := rfl
theorem v_ix2 : ixK2 w (.ok v S) = apIx w v S := rfl
theorem v_ix3 : apIx (.v d) (.v e) S = ofO (gIx d e) S := by
  show ap2 gIx (.v d) (.v e) S = _
  rw [v_ap2]; rfl
theorem v_ix4 {i : Nat} : apIx (.r i) (.v e) S = ofO2 gIx (rd S (.r i)) (some e) S := by
  show ap2 gIx (.r i) (.v e) S = _
  rw [v_ap2]; rfl
theorem v_gIxT {ds : List D} {i : Int} : gIx (.tup ds) (.int i) = atI ds i := rfl
theorem v_gIxL {ds : List D} {i : Int} : gIx (.lst ds) (.int i) = atI ds i := rfl
theorem v_at0 {α : Type} {p : α} {l : List α} : atI (p :: l) 0 = some p := by
  unfold atI ixN
  rw [if_pos (by decide), if_pos (by simp)]
  rfl
theorem v_at1 {α : Type} {p q : α} {l : List α} : atI (p :: q :: l) 1 = some q := by
  unfold atI ixN
  rw [if_pos (by decide), if_pos (by simp; omega)]
  rfl
theorem v_at2 {α : Type} {p q r : α} {l : List α} : atI (p :: q :: r :: l) 2 = some r := by
  unfold atI ixN
  rw [if_pos (by decide), if_pos (by simp; omega)]
  rfl
theorem v_at3 {α : Type} {p q r s : α} {l : List α} : atI (p :: q :: r :: s :: l) 3 = some s := by
  unfold atI ixN
  rw [if_pos (by decide), if_pos (by simp; omega)]
  rfl
theorem v_blt {gg : List D → Option D} : cBlt gg as δ S = bltK gg (as δ S) := by
  show (as δ S).bind _ = (as δ S).bind _
  congr 1
theorem v_blt1 {gg : List D → Option D} : bltK gg (.ok ws S) = bltK2 gg (rdAll S ws) S := rfl
theorem v_blt2 {gg : List D → Option D} {ds : List D} : bltK2 gg (some ds) S = ofO (gg ds) S := rfl
theorem v_blt3 {gg : List D → Option D} {m ds} : bltK gg (.exc m ds S) = .exc m ds S := rfl
theorem v_rdA0 : rdAll S [] = some [] := rfl
theorem v_rdA1 : rdAll S (.v d :: ws) = (rdAll S ws).map (d :: ·) := by
  show (match rd S (.v d), rdAll S ws with | some d, some ds => some (d :: ds) | _, _ => none) = _
  cases rdAll S ws <;> rfl
theorem v_call {f : FDen} : cCall n f as dws δ S = callK n f (as δ S) dws := rfl
theorem v_call1 {f : FDen} : callK n f (.ok ws S) dws = resK (chk n f (ws ++ dws) S) := rfl
theorem v_call3 {f : FDen} {m ds} : callK n f (.exc m ds S) dws = .exc m ds S := rfl
theorem v_chk {f : FDen} : chk n f ws S = if ws.length = n then f ws S else .bad := rfl
theorem v_res1 : resK (.ok (.v d) S) = .ok (.v d) S := rfl
theorem v_res2 {i : Nat} : resK (.ok (.old i) S) = .ok (.r i) S := rfl
theorem v_res3 {ds : List D} : resK (.ok (.new (.lst ds)) S) = .ok (.v (.lst ds)) S := rfl
theorem v_res4 {ds : List (Tx × D)} : resK (.ok (.new (.dct ds)) S) = .ok (.v (.dct ds)) S := rfl
theorem v_res5 {m ds} : resK (.exc m ds S) = .exc m ds S := rfl
theorem v_callM {f : FDen} : cCallM n f as dws δ S = callMK n f (as δ S) dws := rfl
theorem v_callM1 {f : FDen} : callMK n f (.ok ws S) dws = resMK (chk n f (ws ++ dws) S) := rfl
theorem v_resM1 : resMK (.ok (.v d) S) = .ok (.v d) S := rfl
theorem v_resM2 {i : Nat} : resMK (.ok (.old i) S) = .ok (.r i) S := rfl
theorem v_resM3 {ob : Ob} : resMK (.ok (.new ob) S) = .ok (.r S.length) (S ++ [ob]) := rfl
theorem v_m1 {g : Tx → D → Option D} : cM1 g x y δ S = m1K (x δ S) g y δ := rfl
theorem v_m11 {g : Tx → D → Option D} {t : Tx} : m1K (.ok (.v (.str t)) S) g y δ = m1K3 (g t) (y δ S) := rfl
theorem v_m12 {g : D → Option D} : m1K3 g (.ok (.v d) S) = ofO (g d) S := by
  show ap1 g (.v d) S = _
  unfold ap1
  show (match g d with | some r => R.ok (W.v r) S | none => .bad) = _
  cases g d <;> rfl
theorem v_for {it : Den (List D)} {dg : DenG} : cFor it dg b δ S = forK (it δ S) dg b δ := rfl
theorem v_for1 {dg : DenG} {ds : List D} : forK (.ok ds S) dg b δ = forL dg b ds δ S := rfl
theorem v_par {is : List Nat} : cPar is as δ S = parK (as δ S) is δ := rfl
theorem v_par2 {i j : Nat} : parK (.ok [w, v] S) [i, j] δ = .nx ((δ.set i (some w)).set j (some v)) S := rfl
theorem v_par3 {i j l : Nat} {z : W} : parK (.ok [w, v, z] S) [i, j, l] δ = .nx (((δ.set i (some w)).set j (some v)).set l (some z)) S := rfl
theorem v_len : cLen as δ S = (as δ S).bind apLen := rfl
theorem v_len1 : apLen [.v d] S = ofO (gLen [d]) S := by
  show apN gLen [.v d] S = _
  unfold apN
  show (match gLen [d] with | some r => R.ok (W.v r) S | none => .bad) = _
  cases gLen [d] <;> rfl
theorem v_lenL {ds : List D} : gLen [.lst ds] = some (.int ds.length) := rfl
theorem v_lenT {ds : List D} : gLen [.tup ds] = some (.int ds.length) := rfl
theorem v_lenS {t : Tx} (h : t.length ≤ 1000000) : gLen [.str t] = some (.int t.length) := if_pos h
theorem v_itL : itL x δ S = (x δ S).bind asL := rfl
theorem v_itL1 {ds : List D} : asL (.v (.lst ds)) S = .ok ds S := rfl
theorem v_itT : itT x δ S = (x δ S).bind asT := rfl
theorem v_itT1 {ds : List D} : asT (.v (.tup ds)) S = .ok ds S := rfl
theorem v_itR {n : Int} (h0 : 0 ≤ n) (h1 : n < 1000000) : asR0 [.v (.int n)] S = .ok (rangeD 0 n.toNat) S := if_pos ⟨h0, h1⟩
theorem v_itR0 : itR0 as δ S = (as δ S).bind asR0 := rfl
/-! data -/
theorem gEq_of (hd : okD d = true) (he : okD e = true) (h : min (dep d) (dep e) ≤ 64) : gEq d e = some (.bl (deq d e)) := by
  unfold gEq
  rw [if_pos (by rw [hd, he, decide_eq_true h]; rfl)]
theorem gNe_of (hd : okD d = true) (he : okD e = true) (h : min (dep d) (dep e) ≤ 64) : gNe d e = some (.bl (!deq d e)) := by
  unfold gNe
  rw [if_pos (by rw [hd, he, decide_eq_true h]; rfl)]
theorem deqS (p q : Tx) : deq (.str p) (.str q) = decide (p = q) := by
  show (p == q) = _
  by_cases h : p = q
  · subst h; simp
  · simp [h]
theorem v_eqS {p q : Tx} (hp : okT p = true) (hq : okT q = true) : gEq (.str p) (.str q) = some (.bl (decide (p = q))) := by
  rw [gEq_of (d := .str p) (e := .str q) hp hq (Nat.zero_le _), deqS]
theorem v_neS {p q : Tx} (hp : okT p = true) (hq : okT q = true) : gNe (.str p) (.str q) = some (.bl (!decide (p = q))) := by
  rw [gNe_of (d := .str p) (e := .str q) hp hq (Nat.zero_le _), deqS]
theorem v_eqI {i j : Int} : gEq (.int i) (.int j) = some (.bl (decide (i = j))) := rfl
theorem v_neI {i j : Int} : gNe (.int i) (.int j) = some (.bl (!decide (i = j))) := rfl
theorem v_okT0 : okT [] = true := rfl
theorem v_okT1 {c : Nat} {p : Tx} : okT (c :: p) = (decide (c < 1114112) && okT p) := rfl
theorem v_lt {i j : Int} : gLt (.int i) (.int j) = some (.bl (decide (i < j))) := rfl
theorem v_le {i j : Int} : gLe (.int i) (.int j) = some (.bl (decide (i ≤ j))) := rfl
theorem v_gt {i j : Int} : gGt (.int i) (.int j) = some (.bl (decide (j < i))) := rfl
theorem v_ge {i j : Int} : gGe (.int i) (.int j) = some (.bl (decide (j ≤ i))) := rfl
theorem v_add {i j : Int} : gAdd (.int i) (.int j) = some (.int (i + j)) := rfl
theorem v_sub {i j : Int} : gSub (.int i) (.int j) = some (.int (i - j)) := rfl
theorem v_mod {i j : Int} (h : 0 < j) : gMod (.int i) (.int j) = some (.int (i % j)) := if_pos h
theorem v_div {i j : Int} (h : 0 < j) (h2 : j < 1073741824) : gDiv (.int i) (.int j) = some (.int (i / j)) := if_pos ⟨h, h2⟩
theorem v_addS {p q : Tx} (h : p.length + q.length ≤ 1000000) : gAdd (.str p) (.str q) = some (.str (p ++ q)) := if_pos h
theorem v_addL {p q : List D} (h : p.length + q.length ≤ 1000000) : gAdd (.lst p) (.lst q) = some (.lst (p ++ q)) := if_pos h
theorem v_addT {p q : List D} (h : p.length + q.length ≤ 1000000) : gAdd (.tup p) (.tup q) = some (.tup (p ++ q)) := if_pos h
theorem v_int {i : Int} : gInt [.int i] = some (.int i) := rfl
theorem v_intB {k : Bool} : gInt [.bl k] = some (.int (if k then 1 else 0)) := rfl
theorem v_sl0 {n : Nat} {ws : List W} : slots0 n ws = ws.map some ++ List.replicate (n - ws.length) none := rfl
theorem v_frzV : frz (.v d) S = .ok (.v d) S := rfl
theorem v_frz : cFrz x δ S = (x δ S).bind frz := rfl
end
theorem e_while_f {t : Den Bool} {b : DenS} {n : Nat} {δ : Slots} {S S1 : Sto} (h : t δ S = .ok false S1) : whileN t b (n + 1) δ S = .nx δ S1 := by
  unfold whileN; rw [h]; rfl
theorem e_while_t {t : Den Bool} {b : DenS} {n : Nat} {δ δ2 : Slots} {S S1 S2 : Sto} (h : t δ S = .ok true S1) (h2 : b δ S1 = .nx δ2 S2) : whileN t b (n + 1) δ S = whileN t b n δ2 S2 := by
  rw [whileN, h, R.thenS_ok, if_pos rfl, h2]
theorem e_for_nil {dg : DenG} {b : DenS} {δ : Slots} {S : Sto} : forL dg b [] δ S = .nx δ S := rfl
theorem e_for_nx {dg : DenG} {b : DenS} {d : D} {ds : List D} {δ δ1 δ2 : Slots} {S S1 S2 : Sto} (h : dg (.v d) δ S = some (δ1, S1)) (h2 : b δ1 S1 = .nx δ2 S2) : forL dg b (d :: ds) δ S = forL dg b ds δ2 S2 := by
  rw [forL]; simp only [h, h2]
theorem e_for_ct {dg : DenG} {b : DenS} {d : D} {ds : List D} {δ δ1 δ2 : Slots} {S S1 S2 : Sto} (h : dg (.v d) δ S = some (δ1, S1)) (h2 : b δ1 S1 = .ct δ2 S2) : forL dg b (d :: ds) δ S = forL dg b ds δ2 S2 := by
  rw [forL]; simp only [h, h2]
theorem e_for_rt {dg : DenG} {b : DenS} {d : D} {ds : List D} {δ δ1 : Slots} {S S1 S2 : Sto} {w : W} (h : dg (.v d) δ S = some (δ1, S1)) (h2 : b δ1 S1 = .rt w S2) : forL dg b (d :: ds) δ S = .rt w S2 := by
  rw [forL]; simp only [h, h2]
/-- a test on a text in a row of texts -/
def inK (p : Tx) (e : D) (o : Option (List Tx)) : Option D := match o with
  | some ts => some (.bl (decide (p ∈ ts)))
  | none => gIn (.str p) e
theorem txs_stL : ∀ {ds : List D} {ts : List Tx}, txs ds = some ts → ds = stL ts
  | [], ts, e => by cases e; rfl
  | .str t :: r, ts, e => by
    unfold txs at e
    cases q : txs r with
    | none => rw [q] at e; cases e
    | some us =>
      rw [q] at e
      cases e
      rw [txs_stL q]
      rfl
  | .non :: _, _, e => by cases e
  | .bl _ :: _, _, e => by cases e
  | .int _ :: _, _, e => by cases e
  | .tup _ :: _, _, e => by cases e
  | .lst _ :: _, _, e => by cases e
  | .dct _ :: _, _, e => by cases e
  | .ty _ :: _, _, e => by cases e
theorem v_txs0 : txs [] = some [] := rfl
theorem v_txs1 {t : Tx} {r : List D} : txs (.str t :: r) = (txs r).map (t :: ·) := rfl
theorem txs_of : ∀ ts : List Tx, txs (stL ts) = some ts
  | [] => rfl
  | t :: ts => by
    show (txs (stL ts)).map (t :: ·) = _
    rw [txs_of ts]
    rfl
theorem v_in1 {p : Tx} {ds : List D} : gIn (.str p) (.tup ds) = inK p (.tup ds) (txs ds) := by
  unfold inK
  cases q : txs ds with
  | none => rfl
  | some ts => rw [txs_stL q]; exact gIn_tup p ts
theorem v_in2 {p : Tx} {ds : List D} : gIn (.str p) (.lst ds) = inK p (.lst ds) (txs ds) := by
  unfold inK
  cases q : txs ds with
  | none => rfl
  | some ts => rw [txs_stL q]; exact gIn_lst p ts
theorem v_in3 {p : Tx} {e : D} {ts : List Tx} : inK p e (some ts) = some (.bl (decide (p ∈ ts))) := rfl
theorem v_in4 {p : Tx} {ds : List D} : gNotIn (.str p) (.lst ds) = (gIn (.str p) (.lst ds)).map fun d => match d with
    | .bl b => .bl (!b)
    | d => d := by
  unfold gNotIn gIn
  cases gInB (.str p) (.lst ds) <;> rfl
theorem v_in5 {p : Tx} {ds : List D} : gNotIn (.str p) (.tup ds) = (gIn (.str p) (.tup ds)).map fun d => match d with
    | .bl b => .bl (!b)
    | d => d := by
  unfold gNotIn gIn
  cases gInB (.str p) (.tup ds) <;> rfl
/-- a test on a name in a row of texts -/
theorem v_inT {p : Tx} {ts : List Tx} {ds : List D} (h : ds = stL ts) : gIn (.str p) (.tup ds) = some (.bl (decide (p ∈ ts))) := by subst h; exact gIn_tup p ts
theorem v_inL {p : Tx} {ts : List Tx} {ds : List D} (h : ds = stL ts) : gIn (.str p) (.lst ds) = some (.bl (decide (p ∈ ts))) := by subst h; exact gIn_lst p ts
end Fro

namespace Fro
open PySem PySem.Spec L2

theorem set_self {S : Sto} {i : Nat} {o : Ob} (h : S[i]? = some o) : S.set i o = S := by
  apply List.ext_getElem?
  intro j
  by_cases hj : i = j
  · subst hj
    have hl : i < S.length := (List.getElem?_eq_some_iff.mp h).1
    rw [List.getElem?_set_self hl, h]
  · rw [List.getElem?_set_ne hj]
/-! ### evaluation: dicts -/
theorem mergeE_nil : ∀ (l acc : List (Tx × D)), ((acc ++ l).map (·.1)).Nodup → mergeE acc l = acc ++ l
  | [], acc, _ => by rw [List.append_nil]; rfl
  | (t, d) :: r, acc, h => by
    have hn : hasE acc t = false := by
      unfold hasE
      rw [List.any_eq_false]
      intro e he hb
      have heq : e.1 = t := eq_of_beq hb
      rw [List.map_append, List.nodup_append] at h
      exact h.2.2 e.1 (List.mem_map.mpr ⟨e, he, rfl⟩) t (by simp) heq
    show mergeE (putE acc t d) r = _
    have e : putE acc t d = acc ++ [(t, d)] := by
      unfold putE
      rw [hn, if_neg Bool.false_ne_true]
    rw [e, mergeE_nil r (acc ++ [(t, d)]) (by rw [List.append_assoc]; exact h), List.append_assoc]
    rfl
section
variable {x y z : Den W} {δ : Slots} {S S1 S2 S3 : Sto} {es : List (Tx × D)} {t : Tx} {w : W} {d : D}
theorem e_dget2_some (h1 : x δ S = .ok (.v (.dct es)) S1) (h2 : y δ S1 = .ok (.v (.str t)) S2) (h3 : z δ S2 = .ok w S3) (h4 : lkT es t = some d) : cDGet2 x y z δ S = .ok (.v d) S3 := by
  unfold cDGet2
  rw [h1, R.bind_ok, if_pos (show isDct (.v (.dct es)) S1 = true from rfl), h2, R.bind_ok, h3, R.bind_ok]
  unfold apDGet2
  simp only [rd, h4]
theorem e_dget2_none (h1 : x δ S = .ok (.v (.dct es)) S1) (h2 : y δ S1 = .ok (.v (.str t)) S2) (h3 : z δ S2 = .ok w S3) (h4 : lkT es t = none) : cDGet2 x y z δ S = .ok w S3 := by
  unfold cDGet2
  rw [h1, R.bind_ok, if_pos (show isDct (.v (.dct es)) S1 = true from rfl), h2, R.bind_ok, h3, R.bind_ok]
  unfold apDGet2
  simp only [rd, h4]
/-- a dict of one entry -/
theorem e_dict1 (h1 : x δ (S ++ [.dct []]) = .ok (.v (.str t)) (S ++ [.dct []])) (h2 : y δ (S ++ [.dct []]) = .ok (.v d) (S ++ [.dct []])) : cDict [(x, y)] δ S = .ok (.v (.dct [(t, d)])) S := by
  have hp : pairsD [(x, y)] δ (S ++ [.dct []]) = .ok [(t, d)] (S ++ [.dct []]) := by
    unfold pairsD
    rw [h1, R.bind_ok, h2, R.bind_ok]
    rfl
  unfold cDict
  rw [hp, R.bind_ok]
  unfold endDict
  rw [at_last]
  show (if ([(t, d)] : List (Tx × D)).length ≤ 15 ∧ (S ++ [Ob.dct []]).length = S.length + 1 then R.ok (W.v (D.dct (mergeE [] [(t, d)]))) ((S ++ [Ob.dct []]).take S.length) else R.bad) = _
  rw [if_pos ⟨by simp, by simp⟩]
  rw [List.take_left]
  rfl
end
theorem dcomp_ev {it : Den (List D)} {dg : DenG} {tt : Den Bool} {tk tv : Den W} {vs : List Nat} {δ : Slots} {S S1 : Sto} {ds : List D} (f : D → Option (Tx × D)) (hit : it δ S = .ok ds S1) (hl : ds.length ≤ 1000)
    (hs : ∀ d ∈ ds, ∀ acc : List (Tx × D), ∃ δ1, dg (.v d) (wipeD δ vs) (S1 ++ [.dct acc]) = some (δ1, S1 ++ [.dct acc]) ∧ (match f d with
      | none => tt δ1 (S1 ++ [.dct acc]) = .ok false (S1 ++ [.dct acc])
      | some e => tt δ1 (S1 ++ [.dct acc]) = .ok true (S1 ++ [.dct acc]) ∧ tk δ1 (S1 ++ [.dct acc]) = .ok (.v (.str e.1)) (S1 ++ [.dct acc]) ∧ tv δ1 (S1 ++ [.dct acc]) = .ok (.v e.2) (S1 ++ [.dct acc]))) :
    cDComp it dg tt tk tv vs δ S = .ok (.v (.dct (mergeE [] (ds.filterMap f)))) S1 := by
  have put_len : ∀ (acc : List (Tx × D)) (t : Tx) (d : D), (putE acc t d).length ≤ acc.length + 1 := fun acc t d => by
    unfold putE
    split
    · rw [List.length_map]; omega
    · rw [List.length_append]; simp
  have key : ∀ (ds : List D) (acc : List (Tx × D)), acc.length + ds.length ≤ 1000 → (∀ d ∈ ds, ∀ acc : List (Tx × D), ∃ δ1, dg (.v d) (wipeD δ vs) (S1 ++ [.dct acc]) = some (δ1, S1 ++ [.dct acc]) ∧ (match f d with
      | none => tt δ1 (S1 ++ [.dct acc]) = .ok false (S1 ++ [.dct acc])
      | some e => tt δ1 (S1 ++ [.dct acc]) = .ok true (S1 ++ [.dct acc]) ∧ tk δ1 (S1 ++ [.dct acc]) = .ok (.v (.str e.1)) (S1 ++ [.dct acc]) ∧ tv δ1 (S1 ++ [.dct acc]) = .ok (.v e.2) (S1 ++ [.dct acc]))) →
      dcompL dg tt tk tv S1.length ds (wipeD δ vs) (S1 ++ [.dct acc]) = .ok () (S1 ++ [.dct (mergeE acc (ds.filterMap f))]) := by
    intro ds
    induction ds with
    | nil => intro acc _ _; rfl
    | cons d rest ih =>
      intro acc hl h
      rw [List.length_cons] at hl
      obtain ⟨δ1, e1, e2⟩ := h d List.mem_cons_self acc
      unfold dcompL
      simp only [e1]
      cases q : f d with
      | none =>
        rw [q] at e2
        simp only [e2, R.noexc_ok, R.bind_ok]
        rw [if_neg Bool.false_ne_true, ih acc (by omega) (fun d hd => h d (List.mem_cons_of_mem _ hd)), List.filterMap_cons, q]
      | some e =>
        rw [q] at e2
        simp only [e2.1, e2.2.1, e2.2.2, R.noexc_ok, R.bind_ok, if_true]
        have hp : dputL S1.length (.v (.str e.1)) (.v e.2) (S1 ++ [.dct acc]) = some (S1 ++ [.dct (putE acc e.1 e.2)]) := by
          unfold dputL
          rw [at_last]
          simp only [if_pos (show acc.length < 1000000 by omega), set_last]
        rw [hp]
        show dcompL dg tt tk tv S1.length rest (wipeD δ vs) (S1 ++ [.dct (putE acc e.1 e.2)]) = _
        rw [ih (putE acc e.1 e.2) (by have := put_len acc e.1 e.2; omega) (fun d hd => h d (List.mem_cons_of_mem _ hd)), List.filterMap_cons, q]
        rfl
  unfold cDComp
  rw [hit, R.bind_ok, key ds [] (by simpa using hl) hs, R.bind_ok]
  unfold endDComp
  rw [if_pos (by simp), at_last]
  simp only [List.take_left]
/-- a comprehension over two data, by a call -/
theorem comp_two {it : Den (List D)} {f : FDen} {j n : Nat} {vs : List Nat} {as : Den (List W)} {δ : Slots} {S : Sto} {x y r1 r2 : D} {wx wy : List W} (hit : it δ S = .ok [x, y] S)
    (hx : ∀ S, as ((wipeD δ vs).set j (some (.v x))) S = .ok wx S) (hy : ∀ S, as ((wipeD δ vs).set j (some (.v y))) S = .ok wy S) (lx : wx.length = n) (ly : wy.length = n) (h1 : ∀ S, f wx S = .ok (.v r1) S) (h2 : ∀ S, f wy S = .ok (.v r2) S) :
    cComp it (gN j) cYes (cCall n f as []) vs δ S = .ok (.v (.lst [r1, r2])) S := by
  have e1 : ∀ S, cCall n f as [] ((wipeD δ vs).set j (some (.v x))) S = .ok (.v r1) S := fun S => e_call (hx S) (by rw [List.append_nil]; exact lx) (by rw [List.append_nil]; exact h1 S) rfl
  have e2 : ∀ S, cCall n f as [] ((wipeD δ vs).set j (some (.v y))) S = .ok (.v r2) S := fun S => e_call (hy S) (by rw [List.append_nil]; exact ly) (by rw [List.append_nil]; exact h2 S) rfl
  unfold cComp
  rw [hit, R.bind_ok]
  have key : compL (gN j) cYes (cCall n f as []) S.length [x, y] (wipeD δ vs) (S ++ [.lst []]) = .ok () (S ++ [.lst [r1, r2]]) := by
    simp only [compL, gN, cYes, R.noexc_ok, R.bind_ok, if_true, e1, e2, at_last, set_last, List.length_nil, List.length_cons, List.length_append, List.nil_append, List.cons_append]
    rfl
  rw [key, R.bind_ok, if_pos (by simp), at_last]
  simp only [List.take_left]
theorem comp2_nil {it : Den (List D)} {dg : DenG} {it1 : Den (List D)} {dg1 : DenG} {tt1 : Den Bool} {te : Den W} {vs vs1 : List Nat} {δ : Slots} {S S1 : Sto} {ds : List D} (hit : it δ S = .ok ds S1)
    (hs : ∀ d ∈ ds, ∃ δ1, dg (.v d) (wipeD δ vs) (S1 ++ [.lst []]) = some (δ1, S1 ++ [.lst []]) ∧ it1 δ1 (S1 ++ [.lst []]) = .ok [] (S1 ++ [.lst []])) : cComp2 it dg cYes it1 dg1 tt1 te vs vs1 δ S = .ok (.v (.lst [])) S1 := by
  have key : ∀ ds : List D, (∀ d ∈ ds, ∃ δ1, dg (.v d) (wipeD δ vs) (S1 ++ [.lst []]) = some (δ1, S1 ++ [.lst []]) ∧ it1 δ1 (S1 ++ [.lst []]) = .ok [] (S1 ++ [.lst []])) → comp2L dg cYes it1 dg1 tt1 te vs1 S1.length ds (wipeD δ vs) (S1 ++ [.lst []]) = .ok () (S1 ++ [.lst []]) := by
    intro ds
    induction ds with
    | nil => intro _; rfl
    | cons d rest ih =>
      intro h
      obtain ⟨δ1, e1, e2⟩ := h d List.mem_cons_self
      unfold comp2L
      simp only [e1, cYes, R.noexc_ok, R.bind_ok, if_true, e2]
      exact ih fun d hd => h d (List.mem_cons_of_mem _ hd)
  unfold cComp2
  rw [hit, R.bind_ok, key ds hs, R.bind_ok]
  unfold endComp
  rw [if_pos (by simp), at_last]
  simp only [List.take_left]
end Fro

set_option maxHeartbeats 1000000
/-! Fro: evaluation of exceptions and dicts. -/
namespace Fro
open PySem PySem.Spec L2
section
variable {a b : DenS} {x y : Den W} {δ δ' δ1 δ2 : Slots} {S S1 S2 : Sto} {c : Nat} {ds : List D} {w : W} {r : RS}
theorem e_seq_xc (h : a δ S = .xc c ds δ' S1) : cSeq a b δ S = .xc c ds δ' S1 := by unfold cSeq; rw [h]
theorem e_seq_ct (h : a δ S = .ct δ' S1) : cSeq a b δ S = .ct δ' S1 := by unfold cSeq; rw [h]
theorem e_seq_bk (h : a δ S = .bk δ' S1) : cSeq a b δ S = .bk δ' S1 := by unfold cSeq; rw [h]
theorem e_expr_xc (h : x δ S = .exc c ds S1) : cExpr x δ S = .xc c ds δ S1 := by unfold cExpr; rw [h]; rfl
theorem e_ret_xc (h : x δ S = .exc c ds S1) : cRet x δ S = .xc c ds δ S1 := by unfold cRet; rw [h]; rfl
theorem e_asg_xc {g : DenG} (h : x δ S = .exc c ds S1) : cAsg x g δ S = .xc c ds δ S1 := by unfold cAsg; rw [h]; rfl
theorem e_for_xc {dg : DenG} {d : D} {es : List D} (h : dg (.v d) δ S = some (δ1, S1)) (h2 : b δ1 S1 = .xc c ds δ2 S2) : forL dg b (d :: es) δ S = .xc c ds δ2 S2 := by
  unfold forL; simp only [h, h2]
theorem e_for_bk {dg : DenG} {d : D} {es : List D} (h : dg (.v d) δ S = some (δ1, S1)) (h2 : b δ1 S1 = .bk δ2 S2) : forL dg b (d :: es) δ S = .nx δ2 S2 := by
  unfold forL; simp only [h, h2]
theorem e_call_xc {as : Den (List W)} {ws dws : List W} {n : Nat} {f : FDen} (h1 : as δ S = .ok ws S1) (h2 : (ws ++ dws).length = n) (h3 : f (ws ++ dws) S1 = .exc c ds S2) : cCall n f as dws δ S = .exc c ds S2 := by
  unfold cCall chk; rw [h1, R.bind_ok, if_pos h2, h3]; rfl
theorem e_fdef_xc {n : Nat} {body : DenS} {ws : List W} {T : Sto} (h : body (slots0 n ws) S = .xc c ds δ (S ++ T)) : fdef n body ws S = .exc c ds S := by
  unfold fdef; rw [h]; show R.exc c ds ((S ++ T).take S.length) = _; rw [List.take_left]
theorem e_fdef_xc0 {n : Nat} {body : DenS} {ws : List W} (h : body (slots0 n ws) S = .xc c ds δ S) : fdef n body ws S = .exc c ds S := by
  unfold fdef; rw [h]; show R.exc c ds (S.take S.length) = _; rw [List.take_length]
theorem e_raise {as : Den (List W)} {ws : List W} (h1 : as δ S = .ok ws S1) (h2 : toDs ws = some ds) (h3 : ds.length = (xflds c).length) : cRaise c as δ S = .xc c ds δ S1 := by
  unfold cRaise; rw [h1]; show (match toDs ws with | some ds => if ds.length = (xflds c).length then RS.xc c ds δ S1 else .bad | none => .bad) = _; rw [h2]; simp only [if_pos h3]
theorem e_try_nx {hs} (h : b δ S = .nx δ' S1) : cTry b hs δ S = .nx δ' S1 := by unfold cTry; rw [h]
theorem e_try_rt {hs} (h : b δ S = .rt w S1) : cTry b hs δ S = .rt w S1 := by unfold cTry; rw [h]
theorem e_try_xc {hs} (h : b δ S = .xc c ds δ' S1) (h2 : hand hs c ds δ' S1 = r) : cTry b hs δ S = r := by unfold cTry; rw [h]; exact h2
theorem e_din {neg : Bool} {es : List (Tx × D)} {t : Tx} (h1 : y δ S = .ok (.v (.str t)) S1) (h2 : x δ S1 = .ok (.v (.dct es)) S2) : cDIn neg y x δ S = .ok (.v (.bl (if neg then !(lkT es t).isSome else (lkT es t).isSome))) S2 := by
  unfold cDIn; rw [h1, R.bind_ok, h2, R.bind_ok]; rfl
theorem e_dix {es : List (Tx × D)} {t : Tx} {d : D} (h1 : x δ S = .ok (.v (.dct es)) S1) (h2 : y δ S1 = .ok (.v (.str t)) S2) (h3 : lkT es t = some d) : cDIx x y δ S = .ok (.v d) S2 := by
  unfold cDIx; rw [h1, R.bind_ok, h2, R.bind_ok]; show apDIx (.v (.dct es)) (.v (.str t)) S2 = _; unfold apDIx; simp only [v_rd, h3]
theorem e_upd {i : Nat} {es more : List (Tx × D)} (h1 : x δ S = .ok (.r i) S1) (h2 : ∃ es, S1[i]? = some (.dct es)) (h3 : y δ S1 = .ok (.v (.dct more)) S2) (h4 : S2[i]? = some (.dct es)) (h5 : es.length + more.length ≤ 1000) : cUpd x y δ S = .ok (.v .non) (S2.set i (.dct (mergeE es more))) := by
  obtain ⟨e0, h2⟩ := h2
  unfold cUpd; rw [h1, R.bind_ok]; simp only [h2]; rw [h3, R.bind_ok]; unfold apUpd; simp only [h4, if_pos h5]
/-- every turn of a loop goes on, up to one that raises -/
theorem forL_first {dg : DenG} {b : DenS} (P : List D → Slots → Sto → Prop) (Q : List D → Option (Nat × List D)) (hQ : Q [] = none) (step : ∀ (d : D) (rest : List D) (δ : Slots) (S : Sto), P (d :: rest) δ S →
      (∃ δ1 S1 δ2 S2, dg (.v d) δ S = some (δ1, S1) ∧ b δ1 S1 = .nx δ2 S2 ∧ P rest δ2 S2 ∧ Q (d :: rest) = Q rest) ∨ ∃ δ1 S1 δ2 S2 c ds, dg (.v d) δ S = some (δ1, S1) ∧ b δ1 S1 = .xc c ds δ2 S2 ∧ P [] δ2 S2 ∧ Q (d :: rest) = some (c, ds)) :
    ∀ (ds : List D) (δ : Slots) (S : Sto), P ds δ S → ∃ δ2 S2, P [] δ2 S2 ∧ forL dg b ds δ S = (match Q ds with
      | none => .nx δ2 S2
      | some (c, es) => .xc c es δ2 S2)
  | [], δ, S, h => ⟨δ, S, h, by rw [hQ]; rfl⟩
  | d :: rest, δ, S, h => by
    rcases step d rest δ S h with ⟨δ1, S1, δ2, S2, e1, e2, h2, eq⟩ | ⟨δ1, S1, δ2, S2, c, es, e1, e2, h2, eq⟩
    · obtain ⟨δ3, S3, h3, e3⟩ := forL_first P Q hQ step rest δ2 S2 h2
      refine ⟨δ3, S3, h3, ?_⟩
      rw [eq, e_for_nx e1 e2, e3]
    · exact ⟨δ2, S2, h2, by rw [eq, e_for_xc e1 e2]⟩
end
end Fro

set_option maxHeartbeats 1000000
/-! Fro: evaluation of dict displays, get, slices. -/
namespace Fro
open PySem PySem.Spec L2
section
variable {a b c y : Den W} {δ : Slots} {S S1 S2 S3 : Sto}
theorem e_dict {ps : Prs} {es es' : List (Tx × D)} (h : pairsD ps δ (S ++ [.dct []]) = .ok es (S ++ [.dct []])) (hl : es.length ≤ 15) (hm : mergeE [] es = es') : cDict ps δ S = .ok (.v (.dct es')) S := by
  unfold cDict
  rw [h, R.bind_ok]
  unfold endDict
  rw [at_last]
  simp only [List.length_append, List.length_cons, List.length_nil, and_true]
  rw [if_pos hl, List.take_left, hm]
theorem e_dget {es : List (Tx × D)} {t : Tx} {d : D} {z : W} (h1 : a δ S = .ok (.v (.dct es)) S1) (h2 : b δ S1 = .ok (.v (.str t)) S2) (h3 : c δ S2 = .ok z S3) (h4 : lkT es t = some d) : cDGet2 a b c δ S = .ok (.v d) S3 := by
  unfold cDGet2
  rw [h1, R.bind_ok]
  simp only [isDct, v_rd, if_true]
  rw [h2, R.bind_ok, h3, R.bind_ok]
  unfold apDGet2
  simp only [v_rd, h4]
theorem e_dget_no {es : List (Tx × D)} {t : Tx} {z : W} (h1 : a δ S = .ok (.v (.dct es)) S1) (h2 : b δ S1 = .ok (.v (.str t)) S2) (h3 : c δ S2 = .ok z S3) (h4 : lkT es t = none) : cDGet2 a b c δ S = .ok z S3 := by
  unfold cDGet2
  rw [h1, R.bind_ok]
  simp only [isDct, v_rd, if_true]
  rw [h2, R.bind_ok, h3, R.bind_ok]
  unfold apDGet2
  simp only [v_rd, h4]
theorem e_slH {d z : D} {i : Int} (h1 : a δ S = .ok (.v d) S1) (h2 : y δ S1 = .ok (.v (.int i)) S2) (h3 : slD d none (some i) = some z) : cSl a cNoPart (cPart y) δ S = .ok (.v z) S2 := by
  unfold cSl cNoPart cPart
  rw [h1, R.bind_ok, R.bind_ok, h2, R.bind_ok]
  show apSl (.v d) none (some i) S2 = _
  unfold apSl
  simp only [v_rd, h3]
theorem e_slL {d z : D} {i : Int} (h1 : a δ S = .ok (.v d) S1) (h2 : y δ S1 = .ok (.v (.int i)) S2) (h3 : slD d (some i) none = some z) : cSl a (cPart y) cNoPart δ S = .ok (.v z) S2 := by
  unfold cSl cNoPart cPart
  rw [h1, R.bind_ok, h2, R.bind_ok]
  show apSl (.v d) (some i) none S2 = _
  unfold apSl
  simp only [v_rd, h3]
end
end Fro

namespace Fro
open PySem PySem.Spec L2

/-! ### comprehensions of two clauses -/
theorem compL_map {dg : DenG} {te : Den W} {S1 : Sto} {δ : Slots} (g : D → D) : ∀ (es acc : List D), acc.length + es.length ≤ 1000000 →
    (∀ e ∈ es, ∀ acc : List D, ∃ δ2, dg (.v e) δ (S1 ++ [.lst acc]) = some (δ2, S1 ++ [.lst acc]) ∧ te δ2 (S1 ++ [.lst acc]) = .ok (.v (g e)) (S1 ++ [.lst acc])) →
    compL dg cYes te S1.length es δ (S1 ++ [.lst acc]) = .ok () (S1 ++ [.lst (acc ++ es.map g)])
  | [], acc, _, _ => by simp [compL]
  | e :: es, acc, hl, h => by
    obtain ⟨δ2, e1, e2⟩ := h e List.mem_cons_self acc
    rw [List.length_cons] at hl
    unfold compL
    simp only [e1, cYes, R.noexc_ok, R.bind_ok, if_true, e2, at_last, set_last]
    rw [if_pos (show acc.length < 1000000 by omega), compL_map g es (acc ++ [g e]) (by rw [List.length_append]; simp; omega) fun d hd => h d (List.mem_cons_of_mem _ hd)]
    simp
theorem comp2_ev {it : Den (List D)} {dg : DenG} {it1 : Den (List D)} {dg1 : DenG} {te : Den W} {vs vs1 : List Nat} {δ : Slots} {S S1 : Sto} (ps : List (D × List D)) (g : D → D) (hit : it δ S = .ok (ps.map (·.1)) S1) (hl : (ps.flatMap (·.2)).length ≤ 1000000)
    (hs : ∀ p ∈ ps, ∀ acc : List D, ∃ δ1, dg (.v p.1) (wipeD δ vs) (S1 ++ [.lst acc]) = some (δ1, S1 ++ [.lst acc]) ∧ it1 δ1 (S1 ++ [.lst acc]) = .ok p.2 (S1 ++ [.lst acc]) ∧
      ∀ e ∈ p.2, ∀ acc : List D, ∃ δ2, dg1 (.v e) (wipeD δ1 vs1) (S1 ++ [.lst acc]) = some (δ2, S1 ++ [.lst acc]) ∧ te δ2 (S1 ++ [.lst acc]) = .ok (.v (g e)) (S1 ++ [.lst acc])) :
    cComp2 it dg cYes it1 dg1 cYes te vs vs1 δ S = .ok (.v (.lst ((ps.flatMap (·.2)).map g))) S1 := by
  have key : ∀ (ps : List (D × List D)) (acc : List D), acc.length + (ps.flatMap (·.2)).length ≤ 1000000 → (∀ p ∈ ps, ∀ acc : List D, ∃ δ1, dg (.v p.1) (wipeD δ vs) (S1 ++ [.lst acc]) = some (δ1, S1 ++ [.lst acc]) ∧ it1 δ1 (S1 ++ [.lst acc]) = .ok p.2 (S1 ++ [.lst acc]) ∧
      ∀ e ∈ p.2, ∀ acc : List D, ∃ δ2, dg1 (.v e) (wipeD δ1 vs1) (S1 ++ [.lst acc]) = some (δ2, S1 ++ [.lst acc]) ∧ te δ2 (S1 ++ [.lst acc]) = .ok (.v (g e)) (S1 ++ [.lst acc])) →
      comp2L dg cYes it1 dg1 cYes te vs1 S1.length (ps.map (·.1)) (wipeD δ vs) (S1 ++ [.lst acc]) = .ok () (S1 ++ [.lst (acc ++ (ps.flatMap (·.2)).map g)]) := by
    intro ps
    induction ps with
    | nil => intro acc _ _; simp [comp2L]
    | cons p rest ih =>
      intro acc hl h
      obtain ⟨δ1, e1, e2, e3⟩ := h p List.mem_cons_self acc
      rw [List.flatMap_cons, List.length_append] at hl
      rw [List.map_cons]
      unfold comp2L
      simp only [e1, cYes, R.noexc_ok, R.bind_ok, if_true, e2]
      have q := compL_map (dg := dg1) (te := te) (S1 := S1) (δ := wipeD δ1 vs1) g p.2 acc (by omega) e3
      rw [q, R.bind_ok]
      have q2 := ih (acc ++ p.2.map g) (by rw [List.length_append, List.length_map]; omega) fun d hd => h d (List.mem_cons_of_mem _ hd)
      rw [q2, List.flatMap_cons, List.map_append, List.append_assoc]
  unfold cComp2
  have q := key ps [] (by simpa using hl) hs
  rw [hit, R.bind_ok, q, R.bind_ok]
  unfold endComp
  rw [if_pos (by simp), at_last]
  simp only [List.take_left, List.nil_append]
/-! ### a part of a text -/
theorem e_slT {a y : Den W} {t : Tx} {i : Int} {δ : Slots} {S S1 S2 : Sto} (h1 : a δ S = .ok (.v (.str t)) S1) (h2 : y δ S1 = .ok (.v (.int i)) S2) (h3 : t.length ≤ 1000000) : cSlT a (cPart y) cNoPart δ S = .ok (.v (.str (cutD t (some i) none))) S2 := by
  unfold cSlT cNoPart cPart
  rw [h1, R.bind_ok, h2, R.bind_ok]
  show apSlT (.v (.str t)) (some i) none S2 = _
  unfold apSlT
  simp only [if_pos h3]
end Fro

namespace Fro
open PySem PySem.Spec L2
theorem e_fz {b : DenS} {i j : Nat} {δ : Slots} {S : Sto} {es : List (Tx × D)} {r : RS} (h : δ[i]? = some (some (.r j))) (hs : S[j]? = some (.dct es)) (hb : b (δ.set i (some (.v (.dct es)))) (S.set j .dead) = r) : cFz i b δ S = r := by
  unfold cFz
  rw [h]
  show (frz (.r j) S).thenS δ _ = r
  unfold frz
  simp only [hs]
  exact hb
theorem e_fzL {b : DenS} {i j : Nat} {δ : Slots} {S : Sto} {ds : List D} {r : RS} (h : δ[i]? = some (some (.r j))) (hs : S[j]? = some (.lst ds)) (hb : b (δ.set i (some (.v (.lst ds)))) (S.set j .dead) = r) : cFz i b δ S = r := by
  unfold cFz
  rw [h]
  show (frz (.r j) S).thenS δ _ = r
  unfold frz
  simp only [hs]
  exact hb
theorem e_fzV {b : DenS} {i : Nat} {d : D} {δ : Slots} {S : Sto} {r : RS} (h : δ[i]? = some (some (.v d))) (hb : b (δ.set i (some (.v d))) S = r) : cFz i b δ S = r := by
  unfold cFz
  rw [h]
  exact hb
/-- two things at once -/
theorem e_par2 {as : Den (List W)} {i j : Nat} {w v : W} {δ : Slots} {S S1 : Sto} (h : as δ S = .ok [w, v] S1) : cPar [i, j] as δ S = .nx ((δ.set i (some w)).set j (some v)) S1 := by
  unfold cPar
  rw [h]
  rfl
end Fro

namespace Fro
open PySem PySem.Spec L2

/-! ### names -/
def barred : List Tx := [[97, 108, 108], [102, 117, 110], [105, 110], [108, 101, 116], [116, 114, 117, 101], [102, 97, 108, 115, 101]]
def lets : Tx := [97, 98, 99, 100, 101, 102, 103, 104, 105, 106, 107, 108, 109, 110, 111, 112, 113, 114, 115, 116, 117, 118, 119, 120, 121, 122]
def isNm (t : Tx) : Bool := !decide (t ∈ barred) && (decide ((1 : Int) ≤ t.length) && decide ((t.length : Int) ≤ 8)) && t.all fun c => decide (c ∈ lets)
theorem blL_map {α : Type} (f : α → Bool) : ∀ l : List α, blL (l.map fun x => .bl (f x)) = some (l.map f)
  | [] => rfl
  | x :: l => by
    show (blL (l.map fun x => .bl (f x))).map (f x :: ·) = _
    rw [blL_map f l]
    rfl
theorem gAll_map {α : Type} (f : α → Bool) (l : List α) : gAll [.lst (l.map fun x => .bl (f x))] = some (.bl (l.all f)) := by
  unfold gAll
  simp only [blL_map, Option.map_some]
  congr 2
  rw [List.all_map]
  rfl
theorem isNm_ok {t : Tx} (h : isNm t = true) : okT t = true := by
  unfold isNm at h
  rw [Bool.and_eq_true] at h
  unfold okT
  rw [List.all_eq_true]
  intro c hc
  have q := List.all_eq_true.mp h.2 c hc
  have q2 : c ∈ lets := of_decide_eq_true q
  have : c < 123 := by
    have all : ∀ c ∈ lets, c < 123 := by decide
    exact all c q2
  exact decide_eq_true (by omega)
theorem isNm_len {t : Tx} (h : isNm t = true) : t.length ≤ 8 := by
  unfold isNm at h
  simp only [Bool.and_eq_true, decide_eq_true_eq] at h
  omega
theorem is_name_ev (t : Tx) (hl : t.length ≤ 1000000) (S : Sto) : f_is_name [.v (.str t)] S = .ok (.v (.bl (isNm t))) S := by
  unfold f_is_name
  refine e_fdef_v ?_
  unfold b_is_name
  have hin : (cOr (cNot (cB (cBlt gIsi (cCons (cVar 0) (cCons (cC (.ty .str)) cNil))))) (cB (op2 gIn (cVar 0) (cC k_BARRED)))) (slots0 2 [.v (.str t)]) S = .ok (decide (t ∈ barred)) S :=
    e_or_f (e_not (e_b (S1 := S) (c := true) rfl)) (e_b (e_op2v rfl rfl (gIn_tup t barred)))
  by_cases hb : t ∈ barred
  · rw [decide_eq_true hb] at hin
    have e : isNm t = false := by unfold isNm; simp [hb]
    rw [e]
    exact e_seq_rt (e_ifs_t hin (e_ret rfl))
  · rw [decide_eq_false hb] at hin
    refine e_seq_nx (e_ifs_f hin rfl) (e_ret ?_)
    have hlen : cLen (cCons (cVar 0) cNil) (slots0 2 [.v (.str t)]) S = .ok (.v (.int t.length)) S := by
      show apN gLen [.v (.str t)] S = _
      unfold apN
      simp only [rdAll, rd, gLen, if_pos hl]
    have hch : cChain gLe gLe (cC (.int 1)) (cLen (cCons (cVar 0) cNil)) (cC k_MOST_SIGNS) (slots0 2 [.v (.str t)]) S = .ok (.v (.bl (decide ((1 : Int) ≤ t.length) && decide ((t.length : Int) ≤ 8)))) S := by
      unfold cChain
      rw [show cC (.int 1) (slots0 2 [.v (.str t)]) S = .ok (.v (.int 1)) S from rfl, R.bind_ok, hlen, R.bind_ok]
      by_cases h1 : (1 : Int) ≤ t.length
      · rw [show ap2 gLe (.v (.int 1)) (.v (.int t.length)) S = .ok (.v (.bl (decide ((1 : Int) ≤ t.length)))) S from rfl, decide_eq_true h1]
        rfl
      · rw [show ap2 gLe (.v (.int 1)) (.v (.int t.length)) S = .ok (.v (.bl (decide ((1 : Int) ≤ t.length)))) S from rfl, decide_eq_false h1]
        rfl
    have hall : cBlt gAll (cCons (cComp (itS (cVar 0)) (gN 1) cYes (op2 gIn (cVar 1) (cC k_LETTERS)) [1]) cNil) (slots0 2 [.v (.str t)]) S = .ok (.v (.bl (t.all fun c => decide (c ∈ lets)))) S := by
      refine e_blt (ws := [.v (.lst (t.map fun c => .bl (decide (c ∈ lets))))]) (e_cons ?_ rfl) rfl (gAll_map _ t)
      have q := comp_map (it := itS (cVar 0)) (dg := gN 1) (te := op2 gIn (cVar 1) (cC k_LETTERS)) (vs := [1]) (δ := slots0 2 [.v (.str t)]) (S := S) (S1 := S) (ds := t.map fun c => .str [c]) (fun d => match d with
        | .str [c] => .bl (decide (c ∈ lets))
        | _ => .non) rfl (by rw [List.length_map]; exact hl) (fun d hd acc => by
          obtain ⟨c, hc, rfl⟩ := List.mem_map.mp hd
          exact ⟨_, rfl, e_op2v rfl rfl rfl⟩)
      rw [List.map_map] at q
      exact q
    have e : isNm t = ((decide ((1 : Int) ≤ t.length) && decide ((t.length : Int) ≤ 8)) && t.all fun c => decide (c ∈ lets)) := by
      unfold isNm
      rw [decide_eq_false hb]
      rfl
    rw [e]
    cases hq : (decide ((1 : Int) ≤ t.length) && decide ((t.length : Int) ≤ 8)) with
    | false =>
      rw [hq] at hch
      exact e_andV_f hch
    | true =>
      rw [hq] at hch
      rw [Bool.true_and]
      exact e_andV_t hch hall
end Fro

namespace Fro
open PySem PySem.Spec L2

/-! ### kinds -/
inductive C0 where
  | int | bool | unit
  deriving DecidableEq
inductive C2 where
  | pair | to
  deriving DecidableEq
def C0.tx : C0 → Tx
  | .int => [73, 110, 116]
  | .bool => [66, 111, 111, 108]
  | .unit => [85, 110, 105, 116]
def C2.tx : C2 → Tx
  | .pair => [80, 97, 105, 114]
  | .to => [84, 111]
inductive Kd where
  | var (n : Tx) | con0 (c : C0) | list (k : Kd) | con2 (c : C2) (a b : Kd) | all (n : Tx) (k : Kd)
  deriving DecidableEq
def tVarW : Tx := [118, 97, 114]
def tConW : Tx := [99, 111, 110]
def tAllW : Tx := [97, 108, 108]
def tListW : Tx := [76, 105, 115, 116]
def enc : Kd → D
  | .var n => .tup [.str [118, 97, 114], .str n]
  | .con0 c => .tup [.str [99, 111, 110], .str c.tx, .tup []]
  | .list k => .tup [.str [99, 111, 110], .str [76, 105, 115, 116], .tup [enc k]]
  | .con2 c a b => .tup [.str [99, 111, 110], .str c.tx, .tup [enc a, enc b]]
  | .all n k => .tup [.str [97, 108, 108], .str n, enc k]
def Kd.ht : Kd → Nat
  | .var _ => 1
  | .con0 _ => 1
  | .list k => k.ht + 1
  | .con2 _ a b => max a.ht b.ht + 1
  | .all _ k => k.ht + 1
def Kd.nms : Kd → List Tx
  | .var n => [n]
  | .con0 _ => []
  | .list k => k.nms
  | .con2 _ a b => a.nms ++ b.nms
  | .all n k => n :: k.nms
/-- how many leaves -/
def Kd.lvs : Kd → Nat
  | .var _ => 1
  | .con0 _ => 1
  | .list k => k.lvs
  | .con2 _ a b => a.lvs + b.lvs
  | .all _ k => k.lvs
def Good (k : Kd) : Prop := ∀ n ∈ k.nms, isNm n = true
theorem Kd.ht_pos : ∀ k : Kd, 1 ≤ k.ht
  | .var _ => Nat.le_refl _
  | .con0 _ => Nat.le_refl _
  | .list k => Nat.le_add_left _ _
  | .con2 _ a b => Nat.le_add_left _ _
  | .all _ k => Nat.le_add_left _ _
theorem okT_c0 (c : C0) : okT c.tx = true := by cases c <;> decide
theorem okT_c2 (c : C2) : okT c.tx = true := by cases c <;> decide
theorem okD_enc : ∀ {k : Kd}, Good k → okD (enc k) = true
  | .var n, h => by
    have := isNm_ok (h n List.mem_cons_self)
    unfold okT at this
    simp only [enc, okD, okDL, this]
    decide
  | .con0 c, h => by cases c <;> decide
  | .list k, h => by
    simp only [enc, okD, okDL, okD_enc (k := k) h]
    decide
  | .con2 c a b, h => by
    have h1 : okD (enc a) = true := okD_enc fun n hn => h n (List.mem_append_left _ hn)
    have h2 : okD (enc b) = true := okD_enc fun n hn => h n (List.mem_append_right _ hn)
    simp only [enc, okD, okDL, h1, h2]
    cases c <;> decide
  | .all n k, h => by
    have h1 := isNm_ok (h n List.mem_cons_self)
    have h2 : okD (enc k) = true := okD_enc fun m hm => h m (List.mem_cons_of_mem _ hm)
    unfold okT at h1
    simp only [enc, okD, okDL, h1, h2]
    decide
theorem enc_cons (k : Kd) : ∃ d ds, enc k = .tup (d :: ds) := by cases k <;> exact ⟨_, _, rfl⟩
theorem gEq_nil {d : D} {ds : List D} (h : okD (.tup (d :: ds)) = true) : gEq (.tup (d :: ds)) (.tup []) = some (.bl false) := by
  unfold gEq
  rw [h]
  have e2 : dep (.tup []) = 1 := rfl
  rw [e2]
  rw [if_pos (show (true && okD (.tup []) && decide (min (dep (.tup (d :: ds))) 1 ≤ 64)) = true by
    rw [Bool.and_eq_true]
    exact ⟨rfl, decide_eq_true (Nat.le_trans (Nat.min_le_right _ _) (by decide))⟩)]
  rfl
theorem gEq_enc (k : Kd) (h : Good k) : gEq (enc k) (.tup []) = some (.bl false) := by
  obtain ⟨d, ds, e⟩ := enc_cons k
  have := okD_enc h
  rw [e] at this ⊢
  exact gEq_nil this
section
variable {n : Tx} {c : C0} {c2 : C2} {k a b : Kd}
theorem ix_v0 : gIx (enc (.var n)) (.int 0) = some (.str [118, 97, 114]) := rfl
theorem ix_v1 : gIx (enc (.var n)) (.int 1) = some (.str n) := rfl
theorem ix_c0 : gIx (enc (.con0 c)) (.int 0) = some (.str [99, 111, 110]) := rfl
theorem ix_c1 : gIx (enc (.con0 c)) (.int 1) = some (.str c.tx) := rfl
theorem ix_c2 : gIx (enc (.con0 c)) (.int 2) = some (.tup []) := rfl
theorem ix_l0 : gIx (enc (.list k)) (.int 0) = some (.str [99, 111, 110]) := rfl
theorem ix_l1 : gIx (enc (.list k)) (.int 1) = some (.str [76, 105, 115, 116]) := rfl
theorem ix_l2 : gIx (enc (.list k)) (.int 2) = some (.tup [enc k]) := rfl
theorem ix_p0 : gIx (enc (.con2 c2 a b)) (.int 0) = some (.str [99, 111, 110]) := rfl
theorem ix_p1 : gIx (enc (.con2 c2 a b)) (.int 1) = some (.str c2.tx) := rfl
theorem ix_p2 : gIx (enc (.con2 c2 a b)) (.int 2) = some (.tup [enc a, enc b]) := rfl
theorem ix_a0 : gIx (enc (.all n k)) (.int 0) = some (.str [97, 108, 108]) := rfl
theorem ix_a1 : gIx (enc (.all n k)) (.int 1) = some (.str n) := rfl
theorem ix_a2 : gIx (enc (.all n k)) (.int 2) = some (enc k) := rfl
end
theorem is_kind_ev : ∀ (k : Kd) (m : Nat) (S : Sto), Good k → k.ht ≤ m → f_is_kind m [.v (enc k)] S = .ok (.v (.bl true)) S := by
  have t1 : ∀ (k : Kd) (S : Sto), Good k → (cOr (cNot (cB (cBlt gIsi (cCons (cVar 0) (cCons (cC (.ty .tup)) cNil))))) (cB (op2 gEq (cVar 0) (cTup cNil)))) (slots0 2 [.v (enc k)]) S = .ok false S := fun k S h => by
    refine e_or_f (e_not (e_b (S1 := S) (c := true) ?_)) (e_b (e_op2v rfl rfl (gEq_enc k h)))
    obtain ⟨d, ds, e⟩ := enc_cons k
    rw [e]
    rfl
  intro k
  induction k with
  | var n =>
    intro m S h hm
    cases m with
    | zero => exact absurd hm (by unfold Kd.ht; omega)
    | succ m =>
      have hn := h n List.mem_cons_self
      refine e_fdef_v (e_seq_nx (e_ifs_f (t1 _ S h) rfl) (e_seq_rt (e_ifs_t (S1 := S) (e_b rfl) (e_ret (e_andV_t (S1 := S) rfl (e_call (ws := [.v (.str n)]) rfl rfl (is_name_ev n (Nat.le_trans (isNm_len hn) (by decide)) S) ?_))))))
      rw [hn]
      rfl
  | con0 c =>
    intro m S h hm
    cases m with
    | zero => exact absurd hm (by unfold Kd.ht; omega)
    | succ m =>
      refine e_fdef_v (e_seq_nx (e_ifs_f (t1 _ S h) rfl) (e_seq_nx (e_ifs_f (S1 := S) (e_b rfl) rfl) (e_seq_nx (e_ifs_f (S1 := S) (e_b rfl) rfl) (e_seq_nx (e_ifs_f (S1 := S) ?_ rfl) (e_seq_nx (e_ifs_f (S1 := S) ?_ rfl) (e_ret ?_))))))
      · cases c <;> rfl
      · cases c <;> rfl
      · refine e_blt (ws := [.v (.lst [])]) (e_cons ?_ rfl) rfl rfl
        exact comp_map (ds := []) (fun d => d) rfl (by decide) (fun d hd => absurd hd (by simp))
  | list k ih =>
    intro m S h hm
    cases m with
    | zero => exact absurd hm (by have := k.ht_pos; unfold Kd.ht; omega)
    | succ m =>
      have hk : k.ht ≤ m := by unfold Kd.ht at hm; omega
      refine e_fdef_v (e_seq_nx (e_ifs_f (t1 _ S h) rfl) (e_seq_nx (e_ifs_f (S1 := S) (e_b rfl) rfl) (e_seq_nx (e_ifs_f (S1 := S) (e_b rfl) rfl) (e_seq_nx (e_ifs_f (S1 := S) rfl rfl) (e_seq_nx (e_ifs_f (S1 := S) rfl rfl) (e_ret ?_))))))
      refine e_blt (ws := [.v (.lst [.bl true])]) (e_cons ?_ rfl) rfl rfl
      refine comp_map (ds := [enc k]) (fun d => .bl true) rfl (by simp) (fun d hd acc => ?_)
      rw [List.mem_singleton] at hd
      subst hd
      exact ⟨_, rfl, e_call (ws := [.v (enc k)]) rfl rfl (ih m _ h hk) rfl⟩
  | con2 c a b iha ihb =>
    intro m S h hm
    cases m with
    | zero => exact absurd hm (by have := a.ht_pos; unfold Kd.ht; omega)
    | succ m =>
      have h1 : a.ht ≤ m := by unfold Kd.ht at hm; omega
      have h2 : b.ht ≤ m := by unfold Kd.ht at hm; omega
      refine e_fdef_v (e_seq_nx (e_ifs_f (t1 _ S h) rfl) (e_seq_nx (e_ifs_f (S1 := S) (e_b rfl) rfl) (e_seq_nx (e_ifs_f (S1 := S) (e_b rfl) rfl) (e_seq_nx (e_ifs_f (S1 := S) ?_ rfl) (e_seq_nx (e_ifs_f (S1 := S) ?_ rfl) (e_ret ?_))))))
      · cases c <;> rfl
      · cases c <;> rfl
      · refine e_blt (ws := [.v (.lst [.bl true, .bl true])]) (e_cons ?_ rfl) rfl rfl
        refine comp_map (ds := [enc a, enc b]) (fun d => .bl true) rfl (by simp) (fun d hd acc => ?_)
        simp only [List.mem_cons, List.not_mem_nil, or_false] at hd
        rcases hd with rfl | rfl
        · exact ⟨_, rfl, e_call (ws := [.v (enc a)]) rfl rfl (iha m _ (fun n hn => h n (List.mem_append_left _ hn)) h1) rfl⟩
        · exact ⟨_, rfl, e_call (ws := [.v (enc b)]) rfl rfl (ihb m _ (fun n hn => h n (List.mem_append_right _ hn)) h2) rfl⟩
  | all n k ih =>
    intro m S h hm
    cases m with
    | zero => exact absurd hm (by have := k.ht_pos; unfold Kd.ht; omega)
    | succ m =>
      have hk : k.ht ≤ m := by unfold Kd.ht at hm; omega
      have hn := h n List.mem_cons_self
      refine e_fdef_v (e_seq_nx (e_ifs_f (t1 _ S h) rfl) (e_seq_nx (e_ifs_f (S1 := S) (e_b rfl) rfl) (e_seq_rt (e_ifs_t (S1 := S) (e_b rfl) (e_ret (e_andV_t (S1 := S) rfl (e_andV_t (S1 := S) (e_call (ws := [.v (.str n)]) rfl rfl (is_name_ev n (Nat.le_trans (isNm_len hn) (by decide)) S) ?_) (e_call (ws := [.v (enc k)]) rfl rfl (ih m S (fun x hx => h x (List.mem_cons_of_mem _ hx)) hk) rfl))))))))
      rw [hn]
      rfl
end Fro

namespace Fro
open PySem PySem.Spec L2

/-! ### free names -/
def frees : Kd → List Tx → List Tx
  | .var n, ins => if n ∈ ins then [] else [n]
  | .con0 _, _ => []
  | .list k, ins => frees k ins
  | .con2 _ a b, ins => frees a ins ++ (frees b ins).filter fun n => !decide (n ∈ frees a ins)
  | .all n k, ins => frees k (ins ++ [n])
theorem frees_len : ∀ (k : Kd) (ins : List Tx), (frees k ins).length ≤ k.lvs
  | .var n, ins => by unfold frees; split <;> simp [Kd.lvs]
  | .con0 _, _ => Nat.zero_le _
  | .list k, ins => frees_len k ins
  | .con2 _ a b, ins => by
    unfold frees Kd.lvs
    rw [List.length_append]
    exact Nat.add_le_add (frees_len a ins) (Nat.le_trans (List.length_filter_le _ _) (frees_len b ins))
  | .all n k, ins => frees_len k _
theorem free_of_ev : ∀ (k : Kd) (m : Nat) (ins : List Tx) (S : Sto), k.ht ≤ m → k.ht + ins.length ≤ 1000 → k.lvs ≤ 1000 → f_free_of m [.v (enc k), .v (.tup (stL ins))] S = .ok (.new (.lst (stL (frees k ins)))) S := by
  have pos : ∀ (k : Kd) (m : Nat), k.ht ≤ m → ∃ m', m = m' + 1 := fun k m h => ⟨m - 1, by have := k.ht_pos; omega⟩
  intro k
  induction k with
  | var n =>
    intro m ins S hm _ _
    obtain ⟨m, rfl⟩ := pos _ _ hm
    refine e_fdef_new (e_seq_rt (e_ifs_t (S1 := S) (e_b rfl) (e_ret ?_)))
    by_cases h : n ∈ ins
    · refine e_if_t (S1 := S) (e_b (e_op2v rfl rfl ?_)) ?_
      · rw [show (true : Bool) = decide (n ∈ ins) from (decide_eq_true h).symm]
        exact gIn_tup n ins
      · unfold frees
        rw [if_pos h]
        rfl
    · refine e_if_f (S1 := S) (e_b (e_op2v rfl rfl ?_)) ?_
      · rw [show (false : Bool) = decide (n ∈ ins) from (decide_eq_false h).symm]
        exact gIn_tup n ins
      · unfold frees
        rw [if_neg h]
        rfl
  | con0 c =>
    intro m ins S hm _ _
    obtain ⟨m, rfl⟩ := pos _ _ hm
    exact e_fdef_new (e_seq_nx (e_ifs_f (S1 := S) (e_b rfl) rfl) (e_seq_nx (e_ifs_f (S1 := S) (e_b rfl) rfl) (e_seq_nx (e_set rfl) (e_seq_nx (e_for rfl rfl) rfl))))
  | all n k ih =>
    intro m ins S hm h1 h2
    obtain ⟨m, rfl⟩ := pos _ _ hm
    unfold Kd.ht at hm h1
    refine e_fdef_new (e_seq_nx (e_ifs_f (S1 := S) (e_b rfl) rfl) (e_seq_rt (e_ifs_t (S1 := S) (e_b rfl) (e_ret (e_callM (ws := [.v (enc k), .v (.tup (stL (ins ++ [n])))]) (e_cons rfl (e_cons (e_op2v (e := .tup (stL [n])) rfl rfl (gAdd_tups ins [n] (by simp; omega))) rfl)) rfl (ih m (ins ++ [n]) S (by omega) (by simp; omega) h2) rfl)))))
  | list k ih =>
    intro m ins S hm h1 h2
    obtain ⟨m, rfl⟩ := pos _ _ hm
    unfold Kd.ht at hm h1
    unfold Kd.lvs at h2
    have hc := ih m ins (S ++ [.lst []]) (by omega) (by omega) h2
    have hl := frees_len k ins
    refine e_fdef_new (e_seq_nx (e_ifs_f (S1 := S) (e_b rfl) rfl) (e_seq_nx (e_ifs_f (S1 := S) (e_b rfl) rfl) (e_seq_nx (e_set rfl) (e_seq_nx (e_for (S1 := S ++ [.lst []]) (ds := [enc k]) rfl (r := .nx [some (.v (enc (.list k))), some (.v (.tup (stL ins))), some (.r S.length), some (.v (enc k)), none] (S ++ [.lst (stL (frees k ins))])) ?_) rfl))))
    have hb : (cExpr (cExtend (cVar 2) (cComp (itL (cCall 2 (f_free_of m) (cCons (cVar 3) (cCons (cVar 1) cNil)) [])) (gN 4) (cB (op2 gNotIn (cVar 4) (cVar 2))) (cVar 4) [4]))) [some (.v (enc (.list k))), some (.v (.tup (stL ins))), some (.r S.length), some (.v (enc k)), none] (S ++ [.lst []]) = .nx [some (.v (enc (.list k))), some (.v (.tup (stL ins))), some (.r S.length), some (.v (enc k)), none] (S ++ [.lst (stL (frees k ins))]) := by
      refine e_expr (w := .v .non) ?_
      rw [← set_last S (.lst []) (.lst (stL (frees k ins)))]
      refine e_extend (ds := []) (es := stL (frees k ins)) (w := .v (.lst (stL (frees k ins)))) rfl ⟨_, at_last _ _⟩ ?_ (at_last _ _) rfl (by rw [stL_length]; simp; omega)
      have q := comp_ev (it := itL (cCall 2 (f_free_of m) (cCons (cVar 3) (cCons (cVar 1) cNil)) [])) (dg := gN 4) (tt := cB (op2 gNotIn (cVar 4) (cVar 2))) (te := cVar 4) (vs := [4]) (δ := [some (.v (enc (.list k))), some (.v (.tup (stL ins))), some (.r S.length), some (.v (enc k)), none]) (S := S ++ [.lst []]) (S1 := S ++ [.lst []]) (ds := stL (frees k ins)) (flt fun _ => true) (by
          show R.bind _ _ = _
          rw [e_call (ws := [.v (enc k), .v (.tup (stL ins))]) (n := 2) rfl rfl hc rfl]
          rfl) (by rw [stL_length]; omega) (fun d hd acc => by
          obtain ⟨t, ht, rfl⟩ := List.mem_map.mp hd
          exact ⟨_, rfl, e_b (e_op2 rfl rfl rfl (rd_at (at_last2 _ _ _)) rfl), rfl⟩)
      rw [filter_stL, List.filter_eq_self.mpr fun _ _ => rfl] at q
      exact q
    unfold forL
    simp only [gN]
    show (match (cExpr _) [some (.v (enc (.list k))), some (.v (.tup (stL ins))), some (.r S.length), some (.v (enc k)), none] (S ++ [.lst []]) with
      | .nx δ2 S2 => forL _ _ [] δ2 S2
      | .ct δ2 S2 => forL _ _ [] δ2 S2
      | .bk δ2 S2 => .nx δ2 S2
      | r => r) = _
    rw [hb]
    rfl
  | con2 c a b iha ihb =>
    intro m ins S hm h1 h2
    obtain ⟨m, rfl⟩ := pos _ _ hm
    unfold Kd.ht at hm h1
    unfold Kd.lvs at h2
    have hla := frees_len a ins
    have hlb := frees_len b ins
    -- one turn
    have hb : ∀ (k : Kd) (acc : List Tx) (o : Option W), k.ht ≤ m → k.ht + ins.length ≤ 1000 → k.lvs ≤ 1000 → acc.length ≤ 1000 → (∀ S, f_free_of m [.v (enc k), .v (.tup (stL ins))] S = .ok (.new (.lst (stL (frees k ins)))) S) →
        (cExpr (cExtend (cVar 2) (cComp (itL (cCall 2 (f_free_of m) (cCons (cVar 3) (cCons (cVar 1) cNil)) [])) (gN 4) (cB (op2 gNotIn (cVar 4) (cVar 2))) (cVar 4) [4]))) [some (.v (enc (.con2 c a b))), some (.v (.tup (stL ins))), some (.r S.length), some (.v (enc k)), none] (S ++ [.lst (stL acc)]) =
          .nx [some (.v (enc (.con2 c a b))), some (.v (.tup (stL ins))), some (.r S.length), some (.v (enc k)), none] (S ++ [.lst (stL (acc ++ (frees k ins).filter fun n => !decide (n ∈ acc)))]) := by
      intro k acc o hk1 hk2 hk3 hk4 hc
      have hlk := frees_len k ins
      refine e_expr (w := .v .non) ?_
      rw [← set_last S (.lst (stL acc)) (.lst (stL (acc ++ (frees k ins).filter fun n => !decide (n ∈ acc)))), ← stL_append]
      refine e_extend (ds := stL acc) (es := stL ((frees k ins).filter fun n => !decide (n ∈ acc))) (w := .v (.lst (stL ((frees k ins).filter fun n => !decide (n ∈ acc))))) rfl ⟨_, at_last _ _⟩ ?_ (at_last _ _) rfl (by
        rw [stL_length, stL_length]
        have := List.length_filter_le (fun n => !decide (n ∈ acc)) (frees k ins)
        omega)
      have q := comp_ev (it := itL (cCall 2 (f_free_of m) (cCons (cVar 3) (cCons (cVar 1) cNil)) [])) (dg := gN 4) (tt := cB (op2 gNotIn (cVar 4) (cVar 2))) (te := cVar 4) (vs := [4]) (δ := [some (.v (enc (.con2 c a b))), some (.v (.tup (stL ins))), some (.r S.length), some (.v (enc k)), none]) (S := S ++ [.lst (stL acc)]) (S1 := S ++ [.lst (stL acc)]) (ds := stL (frees k ins)) (flt fun n => !decide (n ∈ acc)) (by
          show R.bind _ _ = _
          rw [e_call (ws := [.v (enc k), .v (.tup (stL ins))]) (n := 2) rfl rfl (hc _) rfl]
          rfl) (by rw [stL_length]; omega) (fun d hd acc2 => by
          obtain ⟨t, ht, rfl⟩ := List.mem_map.mp hd
          refine ⟨_, rfl, ?_⟩
          have ht : (cB (op2 gNotIn (cVar 4) (cVar 2))) [some (.v (enc (.con2 c a b))), some (.v (.tup (stL ins))), some (.r S.length), some (.v (enc k)), some (.v (.str t))] (S ++ [.lst (stL acc)] ++ [.lst acc2]) = .ok (!decide (t ∈ acc)) (S ++ [.lst (stL acc)] ++ [.lst acc2]) :=
            e_b (e_op2 rfl rfl rfl (rd_at (at_last2 _ _ _)) (gNotIn_lst t acc))
          by_cases hx : (!decide (t ∈ acc)) = true
          · rw [show flt (fun n => !decide (n ∈ acc)) (.str t) = some (.str t) from if_pos hx]
            rw [hx] at ht
            exact ⟨ht, rfl⟩
          · rw [show flt (fun n => !decide (n ∈ acc)) (.str t) = none from if_neg hx]
            rw [Bool.not_eq_true] at hx
            rw [hx] at ht
            exact ht)
      rw [filter_stL] at q
      exact q
    refine e_fdef_new (e_seq_nx (e_ifs_f (S1 := S) (e_b (by cases c <;> rfl)) rfl) (e_seq_nx (e_ifs_f (S1 := S) (e_b (by cases c <;> rfl)) rfl) (e_seq_nx (e_set rfl) (e_seq_nx (e_for (S1 := S ++ [.lst []]) (ds := [enc a, enc b]) rfl (r := .nx [some (.v (enc (.con2 c a b))), some (.v (.tup (stL ins))), some (.r S.length), some (.v (enc b)), none] (S ++ [.lst (stL (frees (.con2 c a b) ins))])) ?_) rfl))))
    have e1 := hb a [] none (by omega) (by omega) (by omega) (by simp) (fun S => iha m ins S (by omega) (by omega) (by omega))
    have e2 := hb b (frees a ins) none (by omega) (by omega) (by omega) (by omega) (fun S => ihb m ins S (by omega) (by omega) (by omega))
    have e3 : (frees a ins).filter (fun n => !decide (n ∈ ([] : List Tx))) = frees a ins := List.filter_eq_self.mpr fun _ _ => by simp
    rw [List.nil_append, e3] at e1
    unfold forL
    show (match (cExpr _) [some (.v (enc (.con2 c a b))), some (.v (.tup (stL ins))), some (.r S.length), some (.v (enc a)), none] (S ++ [.lst (stL [])]) with
      | .nx δ2 S2 => forL _ _ [enc b] δ2 S2
      | .ct δ2 S2 => forL _ _ [enc b] δ2 S2
      | .bk δ2 S2 => .nx δ2 S2
      | r => r) = _
    rw [e1]
    show forL _ _ [enc b] [some (.v (enc (.con2 c a b))), some (.v (.tup (stL ins))), some (.r S.length), some (.v (enc a)), none] _ = _
    unfold forL
    show (match (cExpr _) [some (.v (enc (.con2 c a b))), some (.v (.tup (stL ins))), some (.r S.length), some (.v (enc b)), none] _ with
      | .nx δ2 S2 => forL _ _ [] δ2 S2
      | .ct δ2 S2 => forL _ _ [] δ2 S2
      | .bk δ2 S2 => .nx δ2 S2
      | r => r) = _
    rw [e2]
    rfl
theorem frees_nms (k : Kd) (ins : List Tx) : ∀ x ∈ frees k ins, x ∈ k.nms := by
  induction k generalizing ins with
  | var n => intro x h; unfold frees at h; split at h
             · cases h
             · exact h
  | con0 c => intro x h; cases h
  | list k ih => exact ih ins
  | con2 c a b iha ihb =>
    intro x h
    rcases List.mem_append.mp h with h | h
    · exact List.mem_append_left _ (iha ins x h)
    · exact List.mem_append_right _ (ihb ins x (List.mem_filter.mp h).1)
  | all n k ih => intro x h; exact List.mem_cons_of_mem _ (ih _ x h)
end Fro

namespace Fro
open PySem PySem.Spec L2

/-! ### names for names -/
abbrev Ren := List (Tx × Tx)
def lkR : Ren → Tx → Option Tx
  | [], _ => none
  | (k, x) :: r, t => if k = t then some x else lkR r t
def cutR (env : Ren) (n : Tx) : Ren := env.filter fun e => !decide (e.1 = n)
theorem lkR_cut (n m : Tx) : ∀ env : Ren, lkR (cutR env n) m = if m = n then none else lkR env m
  | [] => by simp [cutR, lkR]
  | (k, x) :: r => by
    have ih := lkR_cut n m r
    unfold cutR at ih ⊢
    by_cases hk : k = n
    · rw [List.filter_cons_of_neg (by simp [hk]), ih]
      by_cases hm : m = n
      · rw [if_pos hm, if_pos hm]
      · rw [if_neg hm, if_neg hm]
        show _ = if k = m then some x else lkR r m
        rw [if_neg (fun z => hm (by rw [← z, hk]))]
    · rw [List.filter_cons_of_pos (by simp [hk])]
      show (if k = m then some x else lkR (r.filter _) m) = if m = n then none else if k = m then some x else lkR r m
      rw [ih]
      by_cases hm : m = n
      · rw [if_pos hm, if_pos hm, if_neg (fun z => hk (by rw [z, hm]))]
      · rw [if_neg hm, if_neg hm]
def rnm (env : Ren) (n : Tx) : Tx := (lkR env n).getD n
def renK : Kd → Ren → Kd
  | .var n, env => .var (rnm env n)
  | .con0 c, _ => .con0 c
  | .list k, env => .list (renK k env)
  | .con2 c a b, env => .con2 c (renK a env) (renK b env)
  | .all n k, env => .all n (renK k (cutR env n))
theorem renK_ht : ∀ (k : Kd) (env : Ren), (renK k env).ht = k.ht
  | .var _, _ => rfl
  | .con0 _, _ => rfl
  | .list k, env => by unfold renK Kd.ht; rw [renK_ht k]
  | .con2 _ a b, env => by unfold renK Kd.ht; rw [renK_ht a, renK_ht b]
  | .all n k, env => by unfold renK Kd.ht; rw [renK_ht k]
theorem renK_lvs : ∀ (k : Kd) (env : Ren), (renK k env).lvs = k.lvs
  | .var _, _ => rfl
  | .con0 _, _ => rfl
  | .list k, env => by unfold renK Kd.lvs; rw [renK_lvs k]
  | .con2 _ a b, env => by unfold renK Kd.lvs; rw [renK_lvs a, renK_lvs b]
  | .all n k, env => by unfold renK Kd.lvs; rw [renK_lvs k]
theorem renK_nil : ∀ k : Kd, renK k [] = k
  | .var _ => rfl
  | .con0 _ => rfl
  | .list k => by unfold renK; rw [renK_nil k]
  | .con2 _ a b => by unfold renK; rw [renK_nil a, renK_nil b]
  | .all n k => by
    unfold renK
    show Kd.all n (renK k []) = _
    rw [renK_nil k]
/-- two renamings that tell the same -/
theorem renK_congr : ∀ (k : Kd) (e1 e2 : Ren), (∀ n, lkR e1 n = lkR e2 n) → renK k e1 = renK k e2
  | .var n, e1, e2, h => by unfold renK rnm; rw [h]
  | .con0 _, _, _, _ => rfl
  | .list k, e1, e2, h => by unfold renK; rw [renK_congr k e1 e2 h]
  | .con2 _ a b, e1, e2, h => by unfold renK; rw [renK_congr a e1 e2 h, renK_congr b e1 e2 h]
  | .all n k, e1, e2, h => by
    unfold renK
    rw [renK_congr k (cutR e1 n) (cutR e2 n) fun m => by rw [lkR_cut, lkR_cut, h]]
def Fr (env : Ren) (n : Tx) : Prop := lkR env n = none ∧ ∀ m y, lkR env m = some y → y ≠ n
theorem fr_cut {env : Ren} {n b : Tx} (h : Fr env n) : Fr (cutR env b) n := by
  refine ⟨?_, fun m y e => ?_⟩
  · rw [lkR_cut]; split
    · rfl
    · exact h.1
  · rw [lkR_cut] at e
    split at e
    · cases e
    · exact h.2 m y e
/-- one behind others -/
theorem renK_one (n x : Tx) : ∀ (k : Kd) (env : Ren), Fr env n → renK (renK k env) [(n, x)] = renK k ((n, x) :: env)
  | .var m, env, h => by
    show Kd.var (rnm [(n, x)] (rnm env m)) = Kd.var (rnm ((n, x) :: env) m)
    congr 1
    unfold rnm
    cases q : lkR env m with
    | some y =>
      have hy := h.2 m y q
      have hm : n ≠ m := fun z => by rw [← z, h.1] at q; cases q
      show (if n = y then some x else none).getD y = (if n = m then some x else lkR env m).getD m
      rw [if_neg (fun z => hy z.symm), if_neg hm, q]
      rfl
    | none =>
      show (if n = m then some x else none).getD m = (if n = m then some x else lkR env m).getD m
      rw [q]
  | .con0 _, _, _ => rfl
  | .list k, env, h => by
    show Kd.list (renK (renK k env) [(n, x)]) = Kd.list (renK k ((n, x) :: env))
    rw [renK_one n x k env h]
  | .con2 c a b, env, h => by
    show Kd.con2 c (renK (renK a env) [(n, x)]) (renK (renK b env) [(n, x)]) = Kd.con2 c (renK a ((n, x) :: env)) (renK b ((n, x) :: env))
    rw [renK_one n x a env h, renK_one n x b env h]
  | .all b k, env, h => by
    show Kd.all b (renK (renK k (cutR env b)) (cutR [(n, x)] b)) = Kd.all b (renK k (cutR ((n, x) :: env) b))
    congr 1
    by_cases hb : n = b
    · have e1 : cutR [(n, x)] b = [] := by unfold cutR; rw [List.filter_cons_of_neg (by simp [hb])]; rfl
      have e2 : cutR ((n, x) :: env) b = cutR env b := by unfold cutR; rw [List.filter_cons_of_neg (by simp [hb])]
      rw [e1, e2, renK_nil]
    · have e1 : cutR [(n, x)] b = [(n, x)] := by unfold cutR; rw [List.filter_cons_of_pos (by simp [hb])]; rfl
      have e2 : cutR ((n, x) :: env) b = (n, x) :: cutR env b := by unfold cutR; rw [List.filter_cons_of_pos (by simp [hb])]
      rw [e1, e2]
      exact renK_one n x k (cutR env b) (fr_cut h)
/-! ### marks -/
def mark (f : Nat) : Tx := [48, 46] ++ txI f
theorem txI_ok : ∀ f : Nat, f < 1000 → okT (txI f) = true := by
  have : ∀ f : Fin 1000, okT (txI (f.val : Nat)) = true := by decide +kernel
  exact fun f hf => this ⟨f, hf⟩
theorem mark_ok {f : Nat} (h : f < 1000) : okT (mark f) = true := by
  have := txI_ok f h
  unfold mark okT at *
  rw [List.all_append, this]
  rfl
theorem mark_no (f : Nat) : isNm (mark f) = false := by
  have : ((mark f).all fun c => decide (c ∈ lets)) = false := by
    show (decide (48 ∈ lets) && _) = false
    rw [show decide (48 ∈ lets) = false by decide]
    rfl
  unfold isNm
  rw [this, Bool.and_false]
theorem mark_inj {f g : Nat} (hf : f < 10000) (hg : g < 10000) (h : mark f = mark g) : f = g := by
  have h1 : txI f = txI g := by
    unfold mark at h
    exact List.append_cancel_left h
  have h2 : Str.ofString (toString (f : Int)) = Str.ofString (toString (g : Int)) := by rw [← sx_txI, ← sx_txI, h1]
  have e1 := PySem.W.KIN.num_reads (n := (f : Int)) (by omega) (by omega)
  have e2 := PySem.W.KIN.num_reads (n := (g : Int)) (by omega) (by omega)
  rw [h2, e2] at e1
  have := Option.some.inj e1
  omega
theorem txI_len : ∀ f : Nat, f < 1000 → (txI f).length ≤ 10 := by
  have : ∀ f : Fin 1000, (txI (f.val : Nat)).length ≤ 10 := by decide +kernel
  exact fun f hf => this ⟨f, hf⟩
theorem mark_len (f : Nat) (h : f < 1000) : (mark f).length ≤ 12 := by
  have := txI_len f h
  unfold mark
  rw [List.length_append]
  simp
  omega
/-- numbers for the names of quantifiers -/
def mkE : Kd → Ren → Nat → Kd × Nat
  | .var n, env, f => (.var (rnm env n), f)
  | .con0 c, _, f => (.con0 c, f)
  | .list k, env, f => (.list (mkE k env f).1, (mkE k env f).2)
  | .con2 c a b, env, f => (.con2 c (mkE a env f).1 (mkE b env (mkE a env f).2).1, (mkE b env (mkE a env f).2).2)
  | .all n k, env, f => (.all (mark f) (mkE k ((n, mark f) :: cutR env n) (f + 1)).1, (mkE k ((n, mark f) :: cutR env n) (f + 1)).2)
def Kd.qs : Kd → Nat
  | .var _ => 0
  | .con0 _ => 0
  | .list k => k.qs
  | .con2 _ a b => a.qs + b.qs
  | .all _ k => k.qs + 1
theorem mkE_next : ∀ (k : Kd) (env : Ren) (f : Nat), (mkE k env f).2 = f + k.qs
  | .var _, _, _ => rfl
  | .con0 _, _, _ => rfl
  | .list k, env, f => mkE_next k env f
  | .con2 _ a b, env, f => by
    show (mkE b env (mkE a env f).2).2 = f + (a.qs + b.qs)
    rw [mkE_next b, mkE_next a]
    omega
  | .all n k, env, f => by
    show (mkE k _ (f + 1)).2 = f + (k.qs + 1)
    rw [mkE_next k]
    omega
theorem mkE_ht : ∀ (k : Kd) (env : Ren) (f : Nat), (mkE k env f).1.ht = k.ht
  | .var _, _, _ => rfl
  | .con0 _, _, _ => rfl
  | .list k, env, f => by show (mkE k env f).1.ht + 1 = k.ht + 1; rw [mkE_ht k]
  | .con2 _ a b, env, f => by show max (mkE a env f).1.ht (mkE b env _).1.ht + 1 = max a.ht b.ht + 1; rw [mkE_ht a, mkE_ht b]
  | .all n k, env, f => by show (mkE k _ (f + 1)).1.ht + 1 = k.ht + 1; rw [mkE_ht k]
/-! ### letters -/
def letr (n : Nat) : Tx := if n < 26 then [97 + n] else [97 + (n / 26 - 1), 97 + n % 26]
def letrs : List Tx := (List.range 130).map letr
def firstL (t : List Tx) : Tx := ((letrs.filter fun x => !decide (x ∈ t)).head?).getD []
theorem letrs_ok : ∀ x ∈ letrs, isNm x = true := by decide +kernel
theorem letrs_nd : letrs.Nodup := by decide +kernel
theorem firstL_congr {t u : List Tx} (h : ∀ x, x ∈ t ↔ x ∈ u) : firstL t = firstL u := by
  unfold firstL
  have : (fun x : Tx => !decide (x ∈ t)) = fun x => !decide (x ∈ u) := by
    funext x
    rw [decide_eq_decide.mpr (h x)]
  rw [this]
theorem free_letr {t : List Tx} (h : t.length < 130) : ∃ x ∈ letrs, x ∉ t := by
  apply Classical.byContradiction
  intro hn
  have hs : ∀ x ∈ letrs, x ∈ t := fun x hx => Classical.byContradiction fun hy => hn ⟨x, hx, hy⟩
  have : letrs.length ≤ t.length := letrs_nd.length_le_of_subset hs
  have e : letrs.length = 130 := by decide +kernel
  omega
theorem firstL_ok {t : List Tx} (h : t.length < 130) : firstL t ∈ letrs ∧ firstL t ∉ t := by
  obtain ⟨x, hx, hy⟩ := free_letr h
  have hm : x ∈ letrs.filter fun x => !decide (x ∈ t) := List.mem_filter.mpr ⟨hx, by simp [hy]⟩
  unfold firstL
  cases q : letrs.filter fun x => !decide (x ∈ t) with
  | nil => rw [q] at hm; cases hm
  | cons y r =>
    have hy : y ∈ letrs.filter fun x => !decide (x ∈ t) := by rw [q]; exact List.mem_cons_self
    obtain ⟨h1, h2⟩ := List.mem_filter.mp hy
    refine ⟨h1, ?_⟩
    show y ∉ t
    simpa using h2
def rlE : Kd → Ren → List Tx → Kd
  | .var n, env, _ => .var (rnm env n)
  | .con0 c, _, _ => .con0 c
  | .list k, env, t => .list (rlE k env t)
  | .con2 c a b, env, t => .con2 c (rlE a env t) (rlE b env t)
  | .all n k, env, t => .all (firstL t) (rlE k ((n, firstL t) :: cutR env n) (t ++ [firstL t]))
/-- the plain form, as the program has it -/
def plainK (k : Kd) : Kd := rlE (mkE k [] 0).1 [] (frees k [])
end Fro

namespace Fro
open PySem PySem.Spec L2

/-! ### forms with numbers for bound names -/
inductive Fm where
  | var (n : Tx) | at (i : Nat) | con0 (c : C0) | list (f : Fm) | con2 (c : C2) (a b : Fm) | all (f : Fm)
  deriving DecidableEq
def idxT (n : Tx) : List Tx → Option Nat
  | [] => none
  | m :: r => if m = n then some 0 else (idxT n r).map (· + 1)
def inF : Kd → List Tx → Fm
  | .var n, ns => match idxT n ns with
    | some i => .at i
    | none => .var n
  | .con0 c, _ => .con0 c
  | .list k, ns => .list (inF k ns)
  | .con2 c a b, ns => .con2 c (inF a ns) (inF b ns)
  | .all n k, ns => .all (inF k (n :: ns))
def frF : Fm → List Tx
  | .var n => [n]
  | .at _ => []
  | .con0 _ => []
  | .list f => frF f
  | .con2 _ a b => frF a ++ (frF b).filter fun n => !decide (n ∈ frF a)
  | .all f => frF f
def outF : Fm → List Tx → List Tx → Kd
  | .var n, _, _ => .var n
  | .at i, ns, _ => .var ((ns[i]?).getD [])
  | .con0 c, _, _ => .con0 c
  | .list f, ns, t => .list (outF f ns t)
  | .con2 c a b, ns, t => .con2 c (outF a ns t) (outF b ns t)
  | .all f, ns, t => .all (firstL (t ++ ns)) (outF f (firstL (t ++ ns) :: ns) t)
/-- the plain form, as the law has it -/
def lawK (k : Kd) : Kd := outF (inF k []) [] (frF (inF k []))
theorem idxT_none {n : Tx} : ∀ {ns : List Tx}, n ∉ ns → idxT n ns = none
  | [], _ => rfl
  | m :: r, h => by
    unfold idxT
    rw [if_neg (fun z => h (by rw [z]; exact List.mem_cons_self)), idxT_none fun z => h (List.mem_cons_of_mem _ z)]
    rfl
theorem idxT_some {n : Tx} : ∀ {ns : List Tx}, n ∈ ns → ∃ i, idxT n ns = some i ∧ i < ns.length
  | [], h => by cases h
  | m :: r, h => by
    by_cases hm : m = n
    · exact ⟨0, by unfold idxT; rw [if_pos hm], Nat.succ_pos _⟩
    · have hr : n ∈ r := by
        rcases List.mem_cons.mp h with z | z
        · exact absurd z.symm hm
        · exact z
      obtain ⟨i, h1, h2⟩ := idxT_some hr
      exact ⟨i + 1, by unfold idxT; rw [if_neg hm, h1]; rfl, Nat.succ_lt_succ h2⟩
theorem frF_in : ∀ (k : Kd) (ns ins : List Tx), (∀ x, x ∈ ns ↔ x ∈ ins) → frF (inF k ns) = frees k ins
  | .var n, ns, ins, h => by
    unfold inF frees
    by_cases hn : n ∈ ins
    · obtain ⟨i, e, _⟩ := idxT_some ((h n).mpr hn)
      rw [e, if_pos hn]
      rfl
    · rw [idxT_none (fun z => hn ((h n).mp z)), if_neg hn]
      rfl
  | .con0 _, _, _, _ => rfl
  | .list k, ns, ins, h => frF_in k ns ins h
  | .con2 _ a b, ns, ins, h => by
    show frF (inF a ns) ++ (frF (inF b ns)).filter _ = _
    rw [frF_in a ns ins h, frF_in b ns ins h]
    rfl
  | .all n k, ns, ins, h => by
    show frF (inF k (n :: ns)) = frees k (ins ++ [n])
    refine frF_in k _ _ fun x => ?_
    rw [List.mem_cons, List.mem_append, List.mem_singleton, h x]
    exact Or.comm
/-- the names around: as they were, as numbers, as letters -/
structure Bd where
  nm : Tx
  no : Nat
  lt : Tx
def look (bs : List Bd) (n : Tx) : Option Bd := bs.find? fun b => decide (b.nm = n)
theorem look_idx (n : Tx) : ∀ bs : List Bd, match look bs n with
    | some b => ∃ i, idxT n (bs.map Bd.nm) = some i ∧ (bs.map Bd.lt)[i]? = some b.lt ∧ b ∈ bs
    | none => idxT n (bs.map Bd.nm) = none
  | [] => rfl
  | b :: bs => by
    have ih := look_idx n bs
    unfold look at ih ⊢
    rw [List.find?_cons]
    by_cases h : b.nm = n
    · rw [decide_eq_true h]
      exact ⟨0, by rw [List.map_cons]; unfold idxT; rw [if_pos h], rfl, List.mem_cons_self⟩
    · rw [decide_eq_false h]
      dsimp only at ih ⊢
      have e : idxT n ((b :: bs).map Bd.nm) = (idxT n (bs.map Bd.nm)).map (· + 1) := by rw [List.map_cons, idxT, if_neg h]
      cases q : bs.find? fun b => decide (b.nm = n) with
      | none => rw [q] at ih; dsimp only at ih ⊢; rw [e, ih]; rfl
      | some c =>
        rw [q] at ih
        dsimp only at ih ⊢
        obtain ⟨i, h1, h2, h3⟩ := ih
        exact ⟨i + 1, by rw [e, h1]; rfl, by simpa using h2, List.mem_cons_of_mem _ h3⟩
/-- what the three ways know of one another -/
structure Three (bs : List Bd) (e1 e2 : Ren) (f : Nat) : Prop where
  a : ∀ n, lkR e1 n = (look bs n).map fun b => mark b.no
  b : ∀ x ∈ bs, lkR e2 (mark x.no) = some x.lt
  c : ∀ n, isNm n = true → lkR e2 n = none
  d : ∀ x ∈ bs, x.no < f
theorem Three.up {bs : List Bd} {e1 e2 : Ren} {f g : Nat} (h : Three bs e1 e2 f) (hg : f ≤ g) : Three bs e1 e2 g := ⟨h.a, h.b, h.c, fun x hx => Nat.lt_of_lt_of_le (h.d x hx) hg⟩
theorem Three.push {bs : List Bd} {e1 e2 : Ren} {f : Nat} (h : Three bs e1 e2 f) (hf : f < 9000) (n l : Tx) : Three (⟨n, f, l⟩ :: bs) ((n, mark f) :: cutR e1 n) ((mark f, l) :: cutR e2 (mark f)) (f + 1) := by
  refine ⟨fun m => ?_, fun x hx => ?_, fun m hm => ?_, fun x hx => ?_⟩
  · show (if n = m then some (mark f) else lkR (cutR e1 n) m) = (look (⟨n, f, l⟩ :: bs) m).map _
    unfold look
    rw [List.find?_cons]
    by_cases hn : n = m
    · rw [if_pos hn, decide_eq_true hn]; rfl
    · rw [if_neg hn, decide_eq_false hn, lkR_cut, if_neg (fun z => hn z.symm), h.a m]
      rfl
  · show (if mark f = mark x.no then some l else lkR (cutR e2 (mark f)) (mark x.no)) = some x.lt
    rcases List.mem_cons.mp hx with rfl | hx
    · exact if_pos rfl
    · have hlt := h.d x hx
      have ne : mark f ≠ mark x.no := fun z => by
        have := mark_inj (by omega) (by omega) z
        omega
      rw [if_neg ne, lkR_cut, if_neg (fun z => ne z.symm)]
      exact h.b x hx
  · show (if mark f = m then some l else lkR (cutR e2 (mark f)) m) = none
    have ne : mark f ≠ m := fun z => by rw [← z, mark_no] at hm; cases hm
    rw [if_neg ne, lkR_cut, if_neg (fun z => ne z.symm)]
    exact h.c m hm
  · rcases List.mem_cons.mp hx with rfl | hx
    · exact Nat.lt_succ_self _
    · exact Nat.lt_succ_of_lt (h.d x hx)
theorem three_same : ∀ (k : Kd) (bs : List Bd) (e1 e2 : Ren) (f : Nat) (t fr : List Tx), Good k → Three bs e1 e2 f → f + k.qs < 9000 → (∀ x, x ∈ t ↔ x ∈ fr ++ bs.map Bd.lt) → rlE (mkE k e1 f).1 e2 t = outF (inF k (bs.map Bd.nm)) (bs.map Bd.lt) fr
  | .var n, bs, e1, e2, f, t, fr, g, h, _, _ => by
    have hn := g n List.mem_cons_self
    have q := look_idx n bs
    have qa := h.a n
    show Kd.var (rnm e2 (rnm e1 n)) = outF (inF (.var n) _) _ _
    unfold inF rnm
    cases ql : look bs n with
    | none =>
      rw [ql] at q qa
      dsimp only at q
      rw [q, qa]
      show Kd.var ((lkR e2 n).getD n) = Kd.var n
      rw [h.c n hn]
      rfl
    | some b =>
      rw [ql] at q qa
      dsimp only at q
      obtain ⟨i, h1, h2, h3⟩ := q
      rw [h1, qa]
      show Kd.var ((lkR e2 (mark b.no)).getD (mark b.no)) = Kd.var (((bs.map Bd.lt)[i]?).getD [])
      rw [h.b b h3, h2]
      rfl
  | .con0 _, _, _, _, _, _, _, _, _, _, _ => rfl
  | .list k, bs, e1, e2, f, t, fr, g, h, hf, ht => by
    show Kd.list (rlE (mkE k e1 f).1 e2 t) = Kd.list (outF (inF k _) _ _)
    rw [three_same k bs e1 e2 f t fr g h hf ht]
  | .con2 c a b, bs, e1, e2, f, t, fr, g, h, hf, ht => by
    have hq : (Kd.con2 c a b).qs = a.qs + b.qs := rfl
    show Kd.con2 c (rlE (mkE a e1 f).1 e2 t) (rlE (mkE b e1 (mkE a e1 f).2).1 e2 t) = Kd.con2 c (outF (inF a _) _ _) (outF (inF b _) _ _)
    rw [three_same a bs e1 e2 f t fr (fun x hx => g x (List.mem_append_left _ hx)) h (by omega) ht,
      three_same b bs e1 e2 _ t fr (fun x hx => g x (List.mem_append_right _ hx)) (h.up (by rw [mkE_next]; omega)) (by rw [mkE_next]; omega) ht]
  | .all n k, bs, e1, e2, f, t, fr, g, h, hf, ht => by
    have hq : (Kd.all n k).qs = k.qs + 1 := rfl
    have e : firstL t = firstL (fr ++ bs.map Bd.lt) := firstL_congr ht
    show Kd.all (firstL t) (rlE (mkE k ((n, mark f) :: cutR e1 n) (f + 1)).1 ((mark f, firstL t) :: cutR e2 (mark f)) (t ++ [firstL t])) = Kd.all (firstL (fr ++ bs.map Bd.lt)) (outF (inF k (n :: bs.map Bd.nm)) (firstL (fr ++ bs.map Bd.lt) :: bs.map Bd.lt) fr)
    rw [← e]
    congr 1
    refine three_same k (⟨n, f, firstL t⟩ :: bs) _ _ (f + 1) _ fr (fun x hx => g x (List.mem_cons_of_mem _ hx)) (h.push (by omega) n (firstL t)) (by omega) fun x => ?_
    rw [List.mem_append, List.mem_singleton, ht x, List.mem_append, List.mem_append, List.map_cons, List.mem_cons]
    exact ⟨fun z => z.elim (fun z => z.elim .inl (fun y => .inr (.inr y))) (fun y => .inr (.inl y)), fun z => z.elim (fun y => .inl (.inl y)) (fun y => y.elim .inr (fun w => .inl (.inr w)))⟩
theorem plain_law (k : Kd) (g : Good k) (h : k.qs < 1000) : plainK k = lawK k := by
  unfold plainK lawK
  rw [frF_in k [] [] (fun _ => Iff.rfl)]
  exact three_same k [] [] [] 0 (frees k []) (frees k []) g ⟨fun n => rfl, fun x hx => (by cases hx), fun n _ => rfl, fun x hx => (by cases hx)⟩ (by omega) (fun x => by simp)
end Fro

namespace Fro
open PySem PySem.Spec L2

/-! ### kinds for names -/
abbrev Sub := List (Tx × Kd)
def encE (es : Sub) : List (Tx × D) := es.map fun e => (e.1, enc e.2)
def lkK : Sub → Tx → Option Kd
  | [], _ => none
  | (k, x) :: r, t => if k = t then some x else lkK r t
theorem lkT_enc (t : Tx) : ∀ es : Sub, lkT (encE es) t = (lkK es t).map enc
  | [] => rfl
  | (k, x) :: r => by
    show (if k = t then some (enc x) else lkT (encE r) t) = (if k = t then some x else lkK r t).map enc
    rw [lkT_enc t r]
    split <;> rfl
def cutS' (es : Sub) (n : Tx) : Sub := es.filter fun e => !decide (e.1 = n)
def exK : Kd → Sub → Kd
  | .var n, es => (lkK es n).getD (.var n)
  | .con0 c, _ => .con0 c
  | .list k, es => .list (exK k es)
  | .con2 c a b, es => .con2 c (exK a es) (exK b es)
  | .all n k, es => .all n (exK k (cutS' es n))
def OkK (k : Kd) : Prop := ∀ n ∈ k.nms, okT n = true
def OkE (es : Sub) : Prop := (es.map (·.1)).Nodup ∧ (∀ e ∈ es, okT e.1 = true) ∧ es.length ≤ 1000
theorem okE_cut {es : Sub} (h : OkE es) (n : Tx) : OkE (cutS' es n) := by
  refine ⟨?_, fun e he => h.2.1 e (List.mem_filter.mp he).1, Nat.le_trans (List.length_filter_le _ _) h.2.2⟩
  exact List.Sublist.nodup (List.Sublist.map _ List.filter_sublist) h.1
theorem rest_ev (n : Tx) (a : D) (es : Sub) (hn : okT n = true) (he : OkE es) (w2 w3 w4 : Option W) (S : Sto) (ha : gIx a (.int 1) = some (.str n)) :
    cLkS 1 (cAsg (cDComp (itI (cVar 1)) (gT 2 (gsCons (gN 3) (gsCons (gN 4) gsNil))) (cB (op2 gNe (cVar 3) (cIx (cVar 0) (cC (.int 1))))) (cVar 3) (cVar 4) [3, 4]) (gN 2)) [some (.v a), some (.v (.dct (encE es))), w2, none, none] S =
      .nx [some (.v a), some (.v (.dct (encE es))), some (.v (.dct (encE (cutS' es n)))), none, none] S := by
  have key : cDComp (itI (cVar 1)) (gT 2 (gsCons (gN 3) (gsCons (gN 4) gsNil))) (cB (op2 gNe (cVar 3) (cIx (cVar 0) (cC (.int 1))))) (cVar 3) (cVar 4) [3, 4] [some (.v a), some (.lk (encE es)), w2, none, none] S = .ok (.v (.dct (encE (cutS' es n)))) S := by
    have q := dcomp_ev (it := itI (cVar 1)) (dg := gT 2 (gsCons (gN 3) (gsCons (gN 4) gsNil))) (tt := cB (op2 gNe (cVar 3) (cIx (cVar 0) (cC (.int 1))))) (tk := cVar 3) (tv := cVar 4) (vs := [3, 4]) (δ := [some (.v a), some (.lk (encE es)), w2, none, none]) (S := S) (S1 := S) (ds := itemsD (encE es))
      (fun d => match d with
        | .tup [.str t, x] => if t = n then none else some (t, x)
        | _ => none) rfl (by unfold itemsD encE; rw [List.length_map, List.length_map]; exact he.2.2) (fun d hd acc => by
        unfold itemsD encE at hd
        rw [List.map_map] at hd
        obtain ⟨e, hm, rfl⟩ := List.mem_map.mp hd
        have ht : cB (op2 gNe (cVar 3) (cIx (cVar 0) (cC (.int 1)))) [some (.v a), some (.lk (encE es)), w2, some (.v (.str e.1)), some (.v (enc e.2))] (S ++ [.dct acc]) = .ok (!decide (e.1 = n)) (S ++ [.dct acc]) :=
          e_b (e_op2v rfl (e_ix rfl rfl ha) (v_neS (he.2.1 e hm) hn))
        refine ⟨[some (.v a), some (.lk (encE es)), w2, some (.v (.str e.1)), some (.v (enc e.2))], rfl, ?_⟩
        show (match (if e.1 = n then none else some (e.1, enc e.2)) with
          | none => _
          | some e => _)
        by_cases h : e.1 = n
        · rw [if_pos h]
          rw [decide_eq_true h] at ht
          exact ht
        · rw [if_neg h]
          rw [decide_eq_false h] at ht
          exact ⟨ht, rfl, rfl⟩)
    rw [q]
    have hf : (itemsD (encE es)).filterMap (fun d => match d with
        | .tup [.str t, x] => if t = n then none else some (t, x)
        | _ => none) = encE (cutS' es n) := by
      clear q he
      induction es with
      | nil => rfl
      | cons e r ih =>
        show (D.tup [.str e.1, enc e.2] :: itemsD (encE r)).filterMap _ = _
        rw [List.filterMap_cons]
        by_cases h : e.1 = n
        · rw [show (match D.tup [.str e.1, enc e.2] with
            | .tup [.str t, x] => if t = n then none else some (t, x)
            | _ => none) = (none : Option (Tx × D)) from if_pos h]
          rw [ih]
          unfold cutS'
          rw [List.filter_cons_of_neg (by simp [h])]
        · rw [show (match D.tup [.str e.1, enc e.2] with
            | .tup [.str t, x] => if t = n then none else some (t, x)
            | _ => none) = some (e.1, enc e.2) from if_neg h]
          rw [ih]
          unfold cutS'
          rw [List.filter_cons_of_pos (by simp [h])]
          rfl
    rw [hf, mergeE_nil _ [] (by
      rw [List.nil_append]
      have : (encE (cutS' es n)).map (·.1) = (cutS' es n).map (·.1) := by unfold encE; rw [List.map_map]; rfl
      rw [this]
      exact (okE_cut he n).1), List.nil_append]
  have e2 : cAsg (cDComp (itI (cVar 1)) (gT 2 (gsCons (gN 3) (gsCons (gN 4) gsNil))) (cB (op2 gNe (cVar 3) (cIx (cVar 0) (cC (.int 1))))) (cVar 3) (cVar 4) [3, 4]) (gN 2) [some (.v a), some (.lk (encE es)), w2, none, none] S = .nx [some (.v a), some (.lk (encE es)), some (.v (.dct (encE (cutS' es n)))), none, none] S := e_set key
  show okLkS (cAsg _ (gN 2) [some (.v a), some (.lk (encE es)), w2, none, none] S) = _
  rw [e2]
  rfl
theorem exchange_ev : ∀ (k : Kd) (m : Nat) (es : Sub) (S : Sto), OkK k → OkE es → k.ht ≤ m → f_exchange m [.v (enc k), .v (.dct (encE es))] S = .ok (.v (enc (exK k es))) S := by
  have pos : ∀ (k : Kd) (m : Nat), k.ht ≤ m → ∃ m', m = m' + 1 := fun k m h => ⟨m - 1, by have := k.ht_pos; omega⟩
  intro k
  induction k with
  | var n =>
    intro m es S hk he hm
    obtain ⟨m, rfl⟩ := pos _ _ hm
    refine e_fdef_v (e_seq_rt (e_ifs_t (S1 := S) (e_b rfl) (e_ret ?_)))
    have q := lkT_enc n es
    unfold exK
    cases ql : lkK es n with
    | none => rw [ql] at q; exact e_dget2_none (w := .v (enc (.var n))) rfl rfl rfl q
    | some x => rw [ql] at q; exact e_dget2_some (w := .v (enc (.var n))) rfl rfl rfl q
  | con0 c =>
    intro m es S hk he hm
    obtain ⟨m, rfl⟩ := pos _ _ hm
    refine e_fdef_v (e_seq_nx (e_ifs_f (S1 := S) (e_b rfl) rfl) (e_seq_nx (e_ifs_f (S1 := S) (e_b rfl) rfl) (e_ret ?_)))
    refine e_disp (ws := [.v (.str [99, 111, 110]), .v (.str c.tx), .v (.tup [])]) (e_cons rfl (e_cons rfl (e_cons (e_blt (ws := [.v (.lst [])]) (e_cons ?_ rfl) rfl rfl) rfl))) rfl (by simp) rfl
    exact comp_map (ds := []) (fun d => d) rfl (by decide) (fun d hd => absurd hd (by simp))
  | list k ih =>
    intro m es S hk he hm
    obtain ⟨m, rfl⟩ := pos _ _ hm
    unfold Kd.ht at hm
    refine e_fdef_v (e_seq_nx (e_ifs_f (S1 := S) (e_b rfl) rfl) (e_seq_nx (e_ifs_f (S1 := S) (e_b rfl) rfl) (e_ret ?_)))
    refine e_disp (ws := [.v (.str [99, 111, 110]), .v (.str [76, 105, 115, 116]), .v (.tup [enc (exK k es)])]) (e_cons rfl (e_cons rfl (e_cons (e_blt (ws := [.v (.lst [enc (exK k es)])]) (e_cons ?_ rfl) rfl rfl) rfl))) rfl (by simp) rfl
    refine comp_map (ds := [enc k]) (fun d => enc (exK k es)) rfl (by simp) (fun d hd acc => ?_)
    rw [List.mem_singleton] at hd
    subst hd
    exact ⟨_, rfl, e_call (ws := [.v (enc k), .v (.dct (encE es))]) rfl rfl (ih m es _ hk he (by omega)) rfl⟩
  | con2 c a b iha ihb =>
    intro m es S hk he hm
    obtain ⟨m, rfl⟩ := pos _ _ hm
    unfold Kd.ht at hm
    refine e_fdef_v (e_seq_nx (e_ifs_f (S1 := S) (e_b rfl) rfl) (e_seq_nx (e_ifs_f (S1 := S) (e_b rfl) rfl) (e_ret ?_)))
    refine e_disp (ws := [.v (.str [99, 111, 110]), .v (.str c.tx), .v (.tup [enc (exK a es), enc (exK b es)])]) (e_cons rfl (e_cons rfl (e_cons (e_blt (ws := [.v (.lst [enc (exK a es), enc (exK b es)])]) (e_cons ?_ rfl) rfl rfl) rfl))) rfl (by simp) rfl
    have ea := fun S => iha m es S (fun n hn => hk n (List.mem_append_left _ hn)) he (by omega)
    have eb := fun S => ihb m es S (fun n hn => hk n (List.mem_append_right _ hn)) he (by omega)
    have q := comp_two (f := f_exchange m) (δ := [some (.v (enc (.con2 c a b))), some (.v (.dct (encE es))), none, none, none]) (S := S) (j := 4) (vs := [4]) (it := itT (cIx (cVar 0) (cC (.int 2)))) (as := cCons (cVar 4) (cCons (cVar 1) cNil)) (n := 2) (x := enc a) (y := enc b) (wx := [.v (enc a), .v (.dct (encE es))]) (wy := [.v (enc b), .v (.dct (encE es))]) rfl (fun S => rfl) (fun S => rfl) rfl rfl ea eb
    exact q
  | all n k ih =>
    intro m es S hk he hm
    obtain ⟨m, rfl⟩ := pos _ _ hm
    unfold Kd.ht at hm
    have hn := hk n List.mem_cons_self
    refine e_fdef_v (e_seq_nx (e_ifs_f (S1 := S) (e_b rfl) rfl) (e_seq_rt (e_ifs_t (S1 := S) (e_b rfl) (e_seq_nx (rest_ev n (enc (.all n k)) es hn he none none none S rfl) (e_ret ?_)))))
    exact e_disp (ws := [.v (.str [97, 108, 108]), .v (.str n), .v (enc (exK k (cutS' es n)))]) (e_cons rfl (e_cons rfl (e_cons (e_call (ws := [.v (enc k), .v (.dct (encE (cutS' es n)))]) rfl rfl (ih m (cutS' es n) S (fun x hx => hk x (List.mem_cons_of_mem _ hx)) (okE_cut he n) (by omega)) rfl) rfl))) rfl (by simp) rfl
/-! ### names for names -/
def varE (env : Ren) : Sub := env.map fun e => (e.1, .var e.2)
theorem lkK_var (t : Tx) : ∀ env : Ren, lkK (varE env) t = (lkR env t).map .var
  | [] => rfl
  | (k, x) :: r => by
    show (if k = t then some (Kd.var x) else lkK (varE r) t) = (if k = t then some x else lkR r t).map .var
    rw [lkK_var t r]
    split <;> rfl
theorem cut_var (n : Tx) : ∀ env : Ren, cutS' (varE env) n = varE (cutR env n)
  | [] => rfl
  | (k, x) :: r => by
    have ih := cut_var n r
    unfold cutS' cutR varE at ih ⊢
    rw [List.map_cons]
    by_cases h : k = n
    · rw [List.filter_cons_of_neg (by simp [h]), List.filter_cons_of_neg (by simp [h]), ih]
    · rw [List.filter_cons_of_pos (by simp [h]), List.filter_cons_of_pos (by simp [h]), List.map_cons, ih]
theorem exK_ren : ∀ (k : Kd) (env : Ren), exK k (varE env) = renK k env
  | .var n, env => by
    unfold exK renK rnm
    rw [lkK_var]
    cases lkR env n <;> rfl
  | .con0 _, _ => rfl
  | .list k, env => by unfold exK renK; rw [exK_ren k]
  | .con2 _ a b, env => by unfold exK renK; rw [exK_ren a, exK_ren b]
  | .all n k, env => by unfold exK renK; rw [cut_var, exK_ren k]
/-- one name for another -/
theorem rename_ev (k : Kd) (m : Nat) (n x : Tx) (S : Sto) (hk : OkK k) (hn : okT n = true) (hm : k.ht ≤ m) : f_exchange m [.v (enc k), .v (.dct [(n, enc (.var x))])] S = .ok (.v (enc (renK k [(n, x)]))) S := by
  have := exchange_ev k m [(n, .var x)] S hk ⟨by simp, fun e he => by rw [List.mem_singleton] at he; rw [he]; exact hn, by simp⟩ hm
  rw [show ([(n, .var x)] : Sub) = varE [(n, x)] from rfl, exK_ren] at this
  exact this
end Fro

namespace Fro
open PySem PySem.Spec L2

/-! ### marked -/
def Vals (p : Tx → Prop) (env : Ren) : Prop := ∀ n y, lkR env n = some y → p y
theorem vals_cons {p : Tx → Prop} {env : Ren} {n x : Tx} (h : Vals p env) (hx : p x) : Vals p ((n, x) :: cutR env n) := fun m y e => by
  have e' : (if n = m then some x else lkR (cutR env n) m) = some y := e
  split at e'
  · cases e'; exact hx
  · rw [lkR_cut] at e'
    split at e'
    · cases e'
    · exact h m y e'
theorem vals_cut {p : Tx → Prop} {env : Ren} {n : Tx} (h : Vals p env) : Vals p (cutR env n) := fun m y e => by
  rw [lkR_cut] at e
  split at e
  · cases e
  · exact h m y e
theorem okK_ren : ∀ (k : Kd) (env : Ren), OkK k → Vals (fun y => okT y = true) env → OkK (renK k env)
  | .var n, env, hk, hv => fun x hx => by
    have : x = rnm env n := by simpa [renK, Kd.nms] using hx
    rw [this]
    unfold rnm
    cases q : lkR env n with
    | none => exact hk n List.mem_cons_self
    | some y => exact hv n y q
  | .con0 _, _, _, _ => fun x hx => by cases hx
  | .list k, env, hk, hv => okK_ren k env hk hv
  | .con2 _ a b, env, hk, hv => fun x hx => by
    rcases List.mem_append.mp hx with h | h
    · exact okK_ren a env (fun y hy => hk y (List.mem_append_left _ hy)) hv x h
    · exact okK_ren b env (fun y hy => hk y (List.mem_append_right _ hy)) hv x h
  | .all n k, env, hk, hv => fun x hx => by
    rcases List.mem_cons.mp hx with h | h
    · rw [h]; exact hk n List.mem_cons_self
    · exact okK_ren k (cutR env n) (fun y hy => hk y (List.mem_cons_of_mem _ hy)) (vals_cut hv) x h
theorem good_ok {k : Kd} (g : Good k) : OkK k := fun n hn => isNm_ok (g n hn)
def Mk (y : Tx) : Prop := isNm y = false ∧ okT y = true
theorem mark_mk {f : Nat} (h : f < 1000) : Mk (mark f) := ⟨mark_no f, mark_ok h⟩
theorem fr_mk {env : Ren} {n : Tx} (hn : isNm n = true) (hv : Vals Mk env) : Fr (cutR env n) n := by
  refine ⟨by rw [lkR_cut, if_pos rfl], fun m y e z => ?_⟩
  have := (vals_cut (n := n) hv m y e).1
  rw [z, hn] at this
  cases this
theorem gStr_int (f : Nat) (h : f < 1000) : gStr [.int f] = some (.str (txI f)) := if_pos (by omega)
theorem rdr (S : Sto) (ds : List D) : rdAll (S ++ [.lst ds]) [.r S.length] = some [.lst ds] := by
  show (match rd (S ++ [.lst ds]) (.r S.length), rdAll (S ++ [.lst ds]) [] with
    | some d, some ds => some (d :: ds)
    | _, _ => none) = _
  rw [rd_at (at_last S (.lst ds))]
  rfl
theorem starts_no {n : Tx} (h : isNm n = true) : ([48, 46] : Tx).isPrefixOf n = false := by
  cases n with
  | nil => rfl
  | cons c r =>
    have hc : c ∈ lets := by
      unfold isNm at h
      rw [Bool.and_eq_true] at h
      exact of_decide_eq_true (List.all_eq_true.mp h.2 c List.mem_cons_self)
    have : c ≠ 48 := fun z => by rw [z] at hc; exact absurd hc (by decide)
    show ((48 == c) && _) = false
    rw [beq_eq_false_iff_ne.mpr (Ne.symm this)]
    rfl
/-! ### names and numbers -/
def Nq (f : Nat) (n : Tx) : Prop := okT n = true ∧ (([48, 46] : Tx).isPrefixOf n = false ∨ ∃ g, g < f ∧ n = mark g)
theorem nq_nm {f : Nat} {n : Tx} (h : isNm n = true) : Nq f n := ⟨isNm_ok h, .inl (starts_no h)⟩
theorem nq_up {f g : Nat} {n : Tx} (h : Nq f n) (l : f ≤ g) : Nq g n := ⟨h.1, h.2.imp id fun ⟨x, h1, h2⟩ => ⟨x, Nat.lt_of_lt_of_le h1 l, h2⟩⟩
theorem nq_mark {g f : Nat} (h : g < f) (h2 : g < 1000) : Nq f (mark g) := ⟨mark_ok h2, .inr ⟨g, h, rfl⟩⟩
theorem mark_pre (g : Nat) : ([48, 46] : Tx).isPrefixOf (mark g) = true := by
  show ((48 == 48) && ((46 == 46) && ([] : Tx).isPrefixOf (txI g))) = true
  rfl
theorem nq_ne {f g : Nat} {n : Tx} (h : Nq f n) (hf : f ≤ g) (hg : g < 9000) : n ≠ mark g := fun z => by
  rcases h.2 with h | ⟨x, h1, h2⟩
  · rw [z, mark_pre] at h; cases h
  · have := mark_inj (by omega) (by omega) (h2.symm.trans z)
    omega
def GoodQ (f : Nat) (k : Kd) : Prop := ∀ n ∈ k.nms, Nq f n
theorem good_q {k : Kd} (f : Nat) (g : Good k) : GoodQ f k := fun n hn => nq_nm (g n hn)
def MkF (f : Nat) (y : Tx) : Prop := ∃ g, f ≤ g ∧ g < 1000 ∧ y = mark g
theorem fr_mkQ {f : Nat} {env : Ren} {n : Tx} (hn : Nq f n) (hv : Vals (MkF f) env) : Fr (cutR env n) n := by
  refine ⟨by rw [lkR_cut, if_pos rfl], fun m y e z => ?_⟩
  obtain ⟨g, h1, h2, h3⟩ := vals_cut (n := n) hv m y e
  exact nq_ne hn h1 (by omega) (z.symm.trans h3)
/-- one turn over the parts -/
theorem marked_turn {m : Nat} {x r : D} {f g : Int} {acc : List D} {w0 w2 w3 w4 : Option W} {S : Sto} (hl : acc.length < 1000) (e : f_marked_from m [.v x, .v (.int f)] (S ++ [.lst acc]) = .ok (.v (.tup [r, .int g])) (S ++ [.lst acc])) :
    l1_marked_from (f_marked_from m) [w0, some (.v (.int f)), w2, w3, w4, some (.r S.length), some (.v x)] (S ++ [.lst acc]) = .nx [w0, some (.v (.int g)), w2, some (.v r), w4, some (.r S.length), some (.v x)] (S ++ [.lst (acc ++ [r])]) := by
  refine e_seq_nx (δ' := [w0, some (.v (.int g)), w2, some (.v r), w4, some (.r S.length), some (.v x)]) (S1 := S ++ [.lst acc]) (e_asg (e_call (ws := [.v x, .v (.int f)]) rfl rfl e rfl) rfl) ?_
  rw [← set_last S (.lst acc) (.lst (acc ++ [r]))]
  exact e_expr (e_append (i := S.length) (d := r) (ds := acc) rfl ⟨_, at_last _ _⟩ rfl (at_last _ _) (by omega))
theorem marked_from_evQ (f0 : Nat) : ∀ (k : Kd) (m : Nat) (env : Ren) (f : Nat) (S : Sto), f0 ≤ f → GoodQ f0 k → Vals (MkF f0) env → k.ht ≤ m → k.ht ≤ 30 → f + k.qs < 900 → f_marked_from m [.v (enc (renK k env)), .v (.int f)] S = .ok (.v (.tup [enc (mkE k env f).1, .int (mkE k env f).2])) S := by
  have pos : ∀ (k : Kd) (m : Nat), k.ht ≤ m → ∃ m', m = m' + 1 := fun k m h => ⟨m - 1, by have := k.ht_pos; omega⟩
  intro k
  induction k with
  | var n =>
    intro m env f S hz g hv hm h30 hf
    obtain ⟨m, rfl⟩ := pos _ _ hm
    exact e_fdef_v (e_seq_rt (e_ifs_t (S1 := S) (e_b rfl) rfl))
  | con0 c =>
    intro m env f S hz g hv hm h30 hf
    obtain ⟨m, rfl⟩ := pos _ _ hm
    refine e_fdef_va (T := [.lst []]) (e_seq_nx (e_ifs_f (S1 := S) (e_b rfl) rfl) (e_seq_nx (e_ifs_f (S1 := S) (e_b rfl) rfl) (e_seq_nx (e_set rfl) (e_seq_nx (e_for rfl rfl) (e_ret ?_)))))
    refine e_disp (ws := [.v (enc (.con0 c)), .v (.int f)]) (e_cons (e_disp (ws := [.v (.str [99, 111, 110]), .v (.str c.tx), .v (.tup [])]) (e_cons rfl (e_cons rfl (e_cons (e_blt (ws := [.r S.length]) (ds := [.lst []]) rfl (rdr S []) rfl) rfl))) rfl (by simp) rfl) (e_cons rfl rfl)) rfl (by simp) rfl
  | list k ih =>
    intro m env f S hz g hv hm h30 hf
    obtain ⟨m, rfl⟩ := pos _ _ hm
    unfold Kd.ht at hm h30
    have ec := ih m env f (S ++ [.lst []]) hz g hv (by omega) (by omega) hf
    refine e_fdef_va (T := [.lst [enc (mkE k env f).1]]) (e_seq_nx (e_ifs_f (S1 := S) (e_b rfl) rfl) (e_seq_nx (e_ifs_f (S1 := S) (e_b rfl) rfl) (e_seq_nx (e_set rfl) (e_seq_nx (δ' := [some (.v (enc (.list (renK k env)))), some (.v (.int (mkE k env f).2)), none, some (.v (enc (mkE k env f).1)), none, some (.r S.length), some (.v (enc (renK k env)))]) (S1 := S ++ [.lst [enc (mkE k env f).1]]) (e_for (ds := [enc (renK k env)]) rfl ?_) (e_ret ?_)))))
    · exact Eq.trans (e_for_nx (δ1 := [some (.v (enc (.list (renK k env)))), some (.v (.int f)), none, none, none, some (.r S.length), some (.v (enc (renK k env)))]) (S1 := S ++ [.lst []]) rfl (marked_turn (by simp) ec)) rfl
    · refine e_disp (ws := [.v (enc (.list (mkE k env f).1)), .v (.int (mkE k env f).2)]) (e_cons (e_disp (ws := [.v (.str [99, 111, 110]), .v (.str [76, 105, 115, 116]), .v (.tup [enc (mkE k env f).1])]) (e_cons rfl (e_cons rfl (e_cons (e_blt (ws := [.r S.length]) (ds := [.lst [enc (mkE k env f).1]]) rfl (rdr S [enc (mkE k env f).1]) rfl) rfl))) rfl (by simp) rfl) (e_cons rfl rfl)) rfl (by simp) rfl
  | con2 c a b iha ihb =>
    intro m env f S hz g hv hm h30 hf
    obtain ⟨m, rfl⟩ := pos _ _ hm
    unfold Kd.ht at hm h30
    have hq : (Kd.con2 c a b).qs = a.qs + b.qs := rfl
    have g1 : GoodQ f0 a := fun x hx => g x (List.mem_append_left _ hx)
    have g2 : GoodQ f0 b := fun x hx => g x (List.mem_append_right _ hx)
    have ea := iha m env f (S ++ [.lst []]) hz g1 hv (by omega) (by omega) (by omega)
    have eb := ihb m env (mkE a env f).2 (S ++ [.lst [enc (mkE a env f).1]]) (by rw [mkE_next]; omega) g2 hv (by omega) (by omega) (by rw [mkE_next]; omega)
    refine e_fdef_va (T := [.lst [enc (mkE a env f).1, enc (mkE b env (mkE a env f).2).1]]) (e_seq_nx (e_ifs_f (S1 := S) (e_b rfl) rfl) (e_seq_nx (e_ifs_f (S1 := S) (e_b rfl) rfl) (e_seq_nx (e_set rfl) (e_seq_nx (δ' := [some (.v (enc (.con2 c (renK a env) (renK b env)))), some (.v (.int (mkE b env (mkE a env f).2).2)), none, some (.v (enc (mkE b env (mkE a env f).2).1)), none, some (.r S.length), some (.v (enc (renK b env)))]) (S1 := S ++ [.lst [enc (mkE a env f).1, enc (mkE b env (mkE a env f).2).1]]) (e_for (ds := [enc (renK a env), enc (renK b env)]) rfl ?_) (e_ret ?_)))))
    · exact Eq.trans (e_for_nx (δ1 := [some (.v (enc (.con2 c (renK a env) (renK b env)))), some (.v (.int f)), none, none, none, some (.r S.length), some (.v (enc (renK a env)))]) (S1 := S ++ [.lst []]) rfl (marked_turn (by simp) ea)) (Eq.trans (e_for_nx (δ1 := [some (.v (enc (.con2 c (renK a env) (renK b env)))), some (.v (.int (mkE a env f).2)), none, some (.v (enc (mkE a env f).1)), none, some (.r S.length), some (.v (enc (renK b env)))]) (S1 := S ++ [.lst [enc (mkE a env f).1]]) rfl (marked_turn (by simp) eb)) rfl)
    · refine e_disp (ws := [.v (enc (.con2 c (mkE a env f).1 (mkE b env (mkE a env f).2).1)), .v (.int (mkE b env (mkE a env f).2).2)]) (e_cons (e_disp (ws := [.v (.str [99, 111, 110]), .v (.str c.tx), .v (.tup [enc (mkE a env f).1, enc (mkE b env (mkE a env f).2).1])]) (e_cons rfl (e_cons rfl (e_cons (e_blt (ws := [.r S.length]) (ds := [.lst [enc (mkE a env f).1, enc (mkE b env (mkE a env f).2).1]]) rfl (rdr S [enc (mkE a env f).1, enc (mkE b env (mkE a env f).2).1]) rfl) rfl))) rfl (by simp) rfl) (e_cons rfl rfl)) rfl (by simp) rfl
  | all n k ih =>
    intro m env f S hz g hv hm h30 hf
    obtain ⟨m, rfl⟩ := pos _ _ hm
    unfold Kd.ht at hm h30
    have hq : (Kd.all n k).qs = k.qs + 1 := rfl
    have hn := g n List.mem_cons_self
    have gk : GoodQ f0 k := fun x hx => g x (List.mem_cons_of_mem _ hx)
    have hl := txI_len f (by omega)
    have e1 : op2 gAdd (cC k_MARK) (cBlt gStr (cCons (cVar 1) cNil)) [some (.v (enc (.all n (renK k (cutR env n))))), some (.v (.int f)), none, none, none, none, none] S = .ok (.v (.str (mark f))) S :=
      e_op2v (d := .str [48, 46]) rfl (e_blt (ws := [.v (.int f)]) rfl rfl (gStr_int f (by omega))) (v_addS (by simp; omega))
    have ok : OkK (renK k (cutR env n)) := okK_ren k _ (fun x hx => (gk x hx).1) (fun a y e => by obtain ⟨q, h1, h2, h3⟩ := vals_cut hv a y e; rw [h3]; exact mark_ok h2)
    have ex := rename_ev (renK k (cutR env n)) 30 n (mark f) S ok hn.1 (by rw [renK_ht]; omega)
    rw [renK_one n (mark f) k (cutR env n) (fr_mkQ hn hv)] at ex
    have er := ih m ((n, mark f) :: cutR env n) (f + 1) S (by omega) gk (vals_cons hv ⟨f, hz, by omega, rfl⟩) (by omega) (by omega) (by omega)
    refine e_fdef_v (e_seq_nx (e_ifs_f (S1 := S) (e_b rfl) rfl) (e_seq_rt (e_ifs_t (S1 := S) (e_b rfl) (e_seq_nx (e_set e1) (e_seq_nx (e_asg (S2 := S) (δ' := [some (.v (enc (.all n (renK k (cutR env n))))), some (.v (.int f)), some (.v (.str (mark f))), some (.v (enc (mkE k ((n, mark f) :: cutR env n) (f + 1)).1)), some (.v (.int (mkE k ((n, mark f) :: cutR env n) (f + 1)).2)), none, none]) (e_call (S1 := S) (ws := [.v (enc (renK k ((n, mark f) :: cutR env n))), .v (.int ((f + 1 : Nat) : Int))]) (e_cons (e_call (ws := [.v (enc (renK k (cutR env n))), .v (.dct [(n, enc (.var (mark f)))])]) (e_cons rfl (e_cons (e_dict1 (t := n) (d := enc (.var (mark f))) rfl rfl) rfl)) rfl ex rfl) (e_cons rfl rfl)) rfl er rfl) rfl) rfl)))))
/-! ### numbers in names -/
def nuL (ns : List Nat) : List D := ns.map fun g : Nat => D.int g
theorem cut_mark (g : Nat) : cutD (mark g) (some 2) none = txI g := by
  have h : HT.sIx (mark g).length 0 (some 2) = 2 := by
    rw [show (2 : Int) = ((2 : Nat) : Int) from rfl, HT.sIx_nat]
    have : (mark g).length = (txI g).length + 2 := by unfold mark; rw [List.length_append]; simp; omega
    omega
  unfold cutD
  rw [h]
  show ((mark g).drop 2).take ((mark g).length - 2) = txI g
  have : (mark g).drop 2 = txI g := rfl
  rw [this, List.take_of_length_le (by unfold mark; rw [List.length_append]; simp)]
theorem gIntT_mark {g : Nat} (h : g < 1000) : gIntT [.str (txI g)] = some (.int g) := by
  have hl := txI_len g h
  show (if (txI g).length ≤ 640 then (PySem.intText? (sx (txI g))).map D.int else none) = _
  rw [if_pos (by omega), sx_txI, PySem.W.KIN.num_reads (n := (g : Int)) (by omega) (by omega)]
  rfl
theorem numbers_evQ (f : Nat) (hf : f ≤ 900) : ∀ (k : Kd) (m : Nat), GoodQ f k → k.ht ≤ m → k.nms.length ≤ 9000 → ∃ ns : List Nat, ns.length ≤ k.nms.length ∧ (∀ g ∈ ns, g < f) ∧ (∀ n ∈ k.nms, ([48, 46] : Tx).isPrefixOf n = true → ∃ g ∈ ns, n = mark g) ∧ ∀ S, f_numbers_in m [.v (enc k)] S = .ok (.v (.lst (nuL ns))) S := by
  have pos : ∀ (k : Kd) (m : Nat), k.ht ≤ m → ∃ m', m = m' + 1 := fun k m h => ⟨m - 1, by have := k.ht_pos; omega⟩
  have last : ∀ (d : D) (n : Tx) (ns : List Nat), Nq f n → ns.length ≤ 9000 → gIx d (.int 1) = some (.str n) → ∃ ms : List Nat, ms.length ≤ ns.length + 1 ∧ (∀ g ∈ ns, g ∈ ms) ∧ (∀ g ∈ ms, g ∈ ns ∨ g < f) ∧ (([48, 46] : Tx).isPrefixOf n = true → ∃ g ∈ ms, n = mark g) ∧
      ∀ S, cRet (cIf (cB (cM1 gStarts (cIx (cVar 0) (cC (.int 1))) (cC k_MARK))) (op2 gAdd (cVar 3) (cLst (cCons (cBlt gIntT (cCons (cSlT (cIx (cVar 0) (cC (.int 1))) (cPart (cC (.int 2))) cNoPart) cNil)) cNil))) (cVar 3)) [some (.v d), none, none, some (.v (.lst (nuL ns)))] S = .rt (.v (.lst (nuL ms))) S := fun d n ns hn hl hd => by
    have e : ∀ S, cIx (cVar 0) (cC (.int 1)) [some (.v d), none, none, some (.v (.lst (nuL ns)))] S = .ok (.v (.str n)) S := fun S => e_ix rfl rfl hd
    have t : ∀ S, cB (cM1 gStarts (cIx (cVar 0) (cC (.int 1))) (cC k_MARK)) [some (.v d), none, none, some (.v (.lst (nuL ns)))] S = .ok (([48, 46] : Tx).isPrefixOf n) S := fun S => by
      refine e_b ?_
      unfold cM1
      rw [e, R.bind_ok]
      rfl
    cases hp : ([48, 46] : Tx).isPrefixOf n with
    | false =>
      rw [hp] at t
      exact ⟨ns, Nat.le_succ _, fun g h => h, fun g h => .inl h, fun h => (by cases h), fun S => e_ret (e_if_f (t S) rfl)⟩
    | true =>
      rw [hp] at t
      rcases hn.2 with h | ⟨g, h1, rfl⟩
      · rw [hp] at h; cases h
      · refine ⟨ns ++ [g], by simp, fun x h => List.mem_append_left _ h, fun x h => ?_, fun _ => ⟨g, by simp, rfl⟩, fun S => e_ret (e_if_t (t S) (e_op2v (d := .lst (nuL ns)) (e := .lst [.int g]) rfl ?_ ?_))⟩
        · rcases List.mem_append.mp h with h | h
          · exact .inl h
          · rw [List.mem_singleton.mp h]; exact .inr h1
        · have hml := mark_len g (by omega)
          refine e_disp (ws := [.v (.int g)]) (e_cons (e_blt (ws := [.v (.str (txI g))]) (e_cons ?_ rfl) rfl (gIntT_mark (by omega))) rfl) rfl (by simp) rfl
          rw [← cut_mark g]
          exact e_slT (e S) rfl (by omega)
        · rw [v_addL (by unfold nuL; rw [List.length_map]; simp; omega)]
          unfold nuL
          rw [List.map_append]
          rfl
  intro k
  induction k with
  | var n =>
    intro m g hm hl
    obtain ⟨m, rfl⟩ := pos _ _ hm
    obtain ⟨ms, h1, h2, h3, h4, h5⟩ := last (enc (.var n)) n [] (g n List.mem_cons_self) (by simp) rfl
    refine ⟨ms, h1, fun x hx => (h3 x hx).elim (fun z => by cases z) id, fun x hx hp => ?_, fun S => e_fdef_v (e_seq_nx (e_ifs_f (S1 := S) (e_b rfl) rfl) (e_seq_nx (e_set (e_if_f (S1 := S) (e_b rfl) rfl)) (h5 S)))⟩
    have : x = n := by simpa [Kd.nms] using hx
    subst this
    exact h4 hp
  | all n k ih =>
    intro m g hm hl
    obtain ⟨m, rfl⟩ := pos _ _ hm
    unfold Kd.ht at hm
    have hll : k.nms.length + 1 ≤ 9000 := hl
    obtain ⟨ns, a1, a2, a3, a4⟩ := ih m (fun x hx => g x (List.mem_cons_of_mem _ hx)) (by omega) (by omega)
    obtain ⟨ms, h1, h2, h3, h4, h5⟩ := last (enc (.all n k)) n ns (g n List.mem_cons_self) (by omega) rfl
    refine ⟨ms, by show _ ≤ k.nms.length + 1; omega, fun x hx => (h3 x hx).elim (a2 x) id, fun x hx hp => ?_, fun S => e_fdef_v (e_seq_nx (e_ifs_f (S1 := S) (e_b rfl) rfl) (e_seq_nx (e_set (e_if_t (S1 := S) (e_b rfl) (e_call (ws := [.v (enc k)]) rfl rfl (a4 S) rfl))) (h5 S)))⟩
    rcases List.mem_cons.mp hx with rfl | hx
    · exact h4 hp
    · obtain ⟨y, y1, y2⟩ := a3 x hx hp
      exact ⟨y, h2 y y1, y2⟩
  | con0 c =>
    intro m g hm hl
    obtain ⟨m, rfl⟩ := pos _ _ hm
    refine ⟨[], Nat.zero_le _, fun x hx => (by cases hx), fun x hx => (by cases hx), fun S => e_fdef_v (e_seq_rt (e_ifs_t (S1 := S) (e_b rfl) (e_ret ?_)))⟩
    exact comp2_nil (ds := []) rfl (fun d hd => by cases hd)
  | list k ih =>
    intro m g hm hl
    obtain ⟨m, rfl⟩ := pos _ _ hm
    unfold Kd.ht at hm
    obtain ⟨ns, a1, a2, a3, a4⟩ := ih m g (by omega) hl
    refine ⟨ns, a1, a2, a3, fun S => e_fdef_v (e_seq_rt (e_ifs_t (S1 := S) (e_b rfl) (e_ret ?_)))⟩
    have hll : k.nms.length ≤ 9000 := hl
    have q := comp2_ev (it := itT (cIx (cVar 0) (cC (.int 2)))) (dg := gN 1) (it1 := itL (cCall 1 (f_numbers_in m) (cCons (cVar 1) cNil) [])) (dg1 := gN 2) (te := cVar 2) (vs := [1, 2]) (vs1 := [2]) (δ := [some (.v (enc (.list k))), none, none, none]) (S := S) (S1 := S) [(enc k, nuL ns)] (fun e => e) rfl (by simp [nuL]; omega) (fun d hd acc => by
      rw [List.mem_singleton] at hd
      subst hd
      exact ⟨_, rfl, e_itL (e_call (ws := [.v (enc k)]) rfl rfl (a4 _) rfl), fun e he acc => ⟨_, rfl, rfl⟩⟩)
    rw [show (([(enc k, nuL ns)] : List (D × List D)).flatMap (·.2)).map (fun e => e) = nuL ns by simp] at q
    exact q
  | con2 c a b iha ihb =>
    intro m g hm hl
    obtain ⟨m, rfl⟩ := pos _ _ hm
    unfold Kd.ht at hm
    have hll : (a.nms ++ b.nms).length ≤ 9000 := hl
    rw [List.length_append] at hll
    obtain ⟨ns, a1, a2, a3, a4⟩ := iha m (fun x hx => g x (List.mem_append_left _ hx)) (by omega) (by omega)
    obtain ⟨ms, b1, b2, b3, b4⟩ := ihb m (fun x hx => g x (List.mem_append_right _ hx)) (by omega) (by omega)
    refine ⟨ns ++ ms, ?_, fun x hx => ?_, fun x hx hp => ?_, fun S => e_fdef_v (e_seq_rt (e_ifs_t (S1 := S) (e_b rfl) (e_ret ?_)))⟩
    · show _ ≤ (a.nms ++ b.nms).length
      rw [List.length_append, List.length_append]
      omega
    · rcases List.mem_append.mp hx with h | h
      · exact a2 x h
      · exact b2 x h
    · rcases List.mem_append.mp hx with h | h
      · obtain ⟨y, y1, y2⟩ := a3 x h hp
        exact ⟨y, List.mem_append_left _ y1, y2⟩
      · obtain ⟨y, y1, y2⟩ := b3 x h hp
        exact ⟨y, List.mem_append_right _ y1, y2⟩
    · have q := comp2_ev (it := itT (cIx (cVar 0) (cC (.int 2)))) (dg := gN 1) (it1 := itL (cCall 1 (f_numbers_in m) (cCons (cVar 1) cNil) [])) (dg1 := gN 2) (te := cVar 2) (vs := [1, 2]) (vs1 := [2]) (δ := [some (.v (enc (.con2 c a b))), none, none, none]) (S := S) (S1 := S) [(enc a, nuL ns), (enc b, nuL ms)] (fun e => e) rfl (by simp [nuL]; omega) (fun d hd acc => by
        simp only [List.mem_cons, List.not_mem_nil, or_false] at hd
        rcases hd with rfl | rfl
        · exact ⟨_, rfl, e_itL (e_call (ws := [.v (enc a)]) rfl rfl (a4 _) rfl), fun e he acc => ⟨_, rfl, rfl⟩⟩
        · exact ⟨_, rfl, e_itL (e_call (ws := [.v (enc b)]) rfl rfl (b4 _) rfl), fun e he acc => ⟨_, rfl, rfl⟩⟩)
      rw [show (([(enc a, nuL ns), (enc b, nuL ms)] : List (D × List D)).flatMap (·.2)).map (fun e => e) = nuL (ns ++ ms) by simp [nuL, Function.comp_def]] at q
      exact q
theorem maxI_nat (f : Nat) : ∀ (ns : List Nat) (m : Nat), (∀ g ∈ ns, g ≤ f) → m ≤ f → ∃ r : Nat, maxI m (ns.map fun g : Nat => (g : Int)) = r ∧ m ≤ r ∧ r ≤ f ∧ ∀ g ∈ ns, g ≤ r
  | [], m, _, h => ⟨m, rfl, Nat.le_refl _, h, fun g hg => by cases hg⟩
  | n :: ns, m, h, hm => by
    have hn := h n List.mem_cons_self
    obtain ⟨r, h1, h2, h3, h4⟩ := maxI_nat f ns (max m n) (fun g hg => h g (List.mem_cons_of_mem _ hg)) (by omega)
    refine ⟨r, ?_, by omega, h3, fun g hg => ?_⟩
    · rw [← h1]
      show maxI (if (m : Int) < (n : Int) then (n : Int) else (m : Int)) _ = _
      congr 1
      split <;> omega
    · rcases List.mem_cons.mp hg with rfl | hg
      · omega
      · exact h4 g hg
theorem intL_nat : ∀ ns : List Nat, intL (nuL ns) = some (ns.map fun g : Nat => (g : Int))
  | [] => rfl
  | n :: ns => by
    show (intL (nuL ns)).map ((n : Int) :: ·) = _
    rw [intL_nat ns]
    rfl
theorem gMax_nat {f : Nat} {ns : List Nat} {m : Nat} (h : ∀ g ∈ ns, g < f) (hm : m ≤ f) : ∃ r : Nat, gMaxL [.lst (nuL (m :: ns.map (· + 1)))] = some (.int r) ∧ m ≤ r ∧ r ≤ f ∧ ∀ g ∈ ns, g < r := by
  obtain ⟨r, h1, h2, h3, h4⟩ := maxI_nat f (ns.map (· + 1)) m (fun g hg => by
    obtain ⟨x, hx, rfl⟩ := List.mem_map.mp hg
    exact h x hx) hm
  refine ⟨r, ?_, h2, h3, fun g hg => h4 (g + 1) (List.mem_map.mpr ⟨g, hg, rfl⟩)⟩
  show (match intL (nuL (m :: ns.map (· + 1))) with
    | some (n :: ns) => some (D.int (maxI n ns))
    | _ => none) = _
  rw [intL_nat]
  show some (D.int (maxI (m : Int) ((ns.map (· + 1)).map fun g : Nat => (g : Int)))) = _
  rw [h1]
theorem marked_evQ (f first : Nat) (k : Kd) (g : GoodQ f k) (h30 : k.ht ≤ 30) (hl : k.nms.length ≤ 9000) (hff : first ≤ f) (hq : f + k.qs < 900) : ∃ f1, first ≤ f1 ∧ f1 ≤ f ∧ GoodQ f1 k ∧
    ∀ S, f_marked [.v (enc k), .v (.int first)] S = .ok (.v (.tup [enc (mkE k [] f1).1, .int (mkE k [] f1).2])) S := by
  obtain ⟨ns, a1, a2, a3, a4⟩ := numbers_evQ f (by omega) k 30 g h30 hl
  obtain ⟨f1, b1, b2, b3, b4⟩ := gMax_nat (m := first) a2 hff
  have gq : GoodQ f1 k := fun n hn => ⟨(g n hn).1, by
    cases hp : ([48, 46] : Tx).isPrefixOf n with
    | false => exact .inl rfl
    | true =>
      obtain ⟨x, x1, x2⟩ := a3 n hn hp
      exact .inr ⟨x, b4 x x1, x2⟩⟩
  refine ⟨f1, b2, b3, gq, fun S => ?_⟩
  have e := marked_from_evQ f1 k 30 [] f1 S (Nat.le_refl _) gq (fun n y h => by cases h) h30 h30 (by omega)
  rw [renK_nil] at e
  refine e_fdef_v (e_ret (e_call (ws := [.v (enc k), .v (.int f1)]) (e_cons rfl (e_cons (e_blt (ws := [.v (.lst (nuL (first :: ns.map (· + 1))))]) (e_cons (e_op2v (d := .lst [.int first]) (e := .lst (nuL (ns.map (· + 1)))) rfl ?_ ?_) rfl) rfl b1) rfl)) rfl e rfl))
  · have q := comp_map (it := itL (cCall 1 (f_numbers_in 30) (cCons (cVar 0) cNil) [])) (dg := gN 2) (te := op2 gAdd (cVar 2) (cC (.int 1))) (vs := [2]) (δ := [some (.v (enc k)), some (.v (.int first)), none]) (S := S) (S1 := S) (ds := nuL ns) (fun d => match d with
      | .int i => .int (i + 1)
      | d => d) (e_itL (e_call (ws := [.v (enc k)]) rfl rfl (a4 S) rfl)) (by unfold nuL; rw [List.length_map]; omega) (fun d hd acc => by
        obtain ⟨x, hx, rfl⟩ := List.mem_map.mp hd
        exact ⟨_, rfl, e_op2v rfl rfl rfl⟩)
    rw [show (nuL ns).map (fun d => match d with
      | .int i => .int (i + 1)
      | d => d) = nuL (ns.map (· + 1)) by
        unfold nuL
        rw [List.map_map, List.map_map]
        exact List.map_congr_left fun x _ => by simp] at q
    exact q
  · have hnl : (nuL (ns.map (· + 1))).length = ns.length := by unfold nuL; simp
    exact v_addL (by rw [hnl]; simp; omega)
/-! ### names that are no numbers -/
theorem vals_mk {env : Ren} (h : Vals (MkF 0) env) : Vals Mk env := fun n y e => by
  obtain ⟨g, _, h2, h3⟩ := h n y e
  rw [h3]
  exact mark_mk h2
theorem nms_len : ∀ k : Kd, k.nms.length ≤ k.lvs + k.qs
  | .var _ => Nat.le_refl _
  | .con0 _ => Nat.zero_le _
  | .list k => nms_len k
  | .con2 _ a b => by
    have h1 := nms_len a
    have h2 := nms_len b
    show (a.nms ++ b.nms).length ≤ a.lvs + b.lvs + (a.qs + b.qs)
    rw [List.length_append]
    omega
  | .all n k => by
    have h1 := nms_len k
    show k.nms.length + 1 ≤ k.lvs + (k.qs + 1)
    omega
theorem marked_ev (k : Kd) (S : Sto) (g : Good k) (h30 : k.ht ≤ 30) (hq : k.qs < 900) (hl : k.lvs ≤ 900) : f_marked [.v (enc k), .v (.int 0)] S = .ok (.v (.tup [enc (mkE k [] 0).1, .int (mkE k [] 0).2])) S := by
  obtain ⟨f1, h1, h2, h3, h4⟩ := marked_evQ 0 0 k (good_q 0 g) h30 (by have := nms_len k; omega) (Nat.le_refl _) (by omega)
  have : f1 = 0 := by omega
  subst this
  exact h4 S
end Fro

namespace Fro
open PySem PySem.Spec L2
theorem want_kind_ev (k : Kd) (S : Sto) (h : Good k) (hh : k.ht ≤ 30) : f_want_kind [.v (enc k)] S = .ok (.v .non) S := by
  have := e_fdefN (n := 1) (body := b_want_kind) (ws := [.v (enc k)]) (S := S) (S' := S) (δ := [some (.v (enc k))]) (e_ifs_f (S1 := S) (e_not (c := true) (e_b (e_call (ws := [.v (enc k)]) rfl rfl (is_kind_ev k 30 S h hh) rfl))) rfl)
  rw [List.take_length] at this
  exact this
end Fro

namespace Fro
open PySem PySem.Spec L2

/-! ### letters -/
theorem let_at : ∀ r : Nat, r < 26 → atI lets (r : Int) = some (97 + r) := by
  have : ∀ r : Fin 26, atI lets ((r.val : Nat) : Int) = some (97 + r.val) := by decide
  exact fun r h => this ⟨r, h⟩
theorem let_ix (r : Nat) (h : r < 26) : gIx k_LETTERS (.int r) = some (.str [97 + r]) := by
  show (if lets.length ≤ 1000000 then (atI lets (r : Int)).map (fun c => D.str [c]) else none) = _
  rw [if_pos (by decide), let_at r h]
  rfl
theorem letter_ev (n : Nat) (h : n < 130) (S : Sto) : f_letter [.v (.int n)] S = .ok (.v (.str (letr n))) S := by
  have hm : (n : Int) % 26 = ((n % 26 : Nat) : Int) := by omega
  have hd : (n : Int) / 26 = ((n / 26 : Nat) : Int) := by omega
  have e1 : cIx (cC k_LETTERS) (op2 gMod (cBlt gInt (cCons (cVar 0) cNil)) (cC (.int 26))) [some (.v (.int n)), none, none] S = .ok (.v (.str [97 + n % 26])) S := by
    refine e_ix (e := .int ((n % 26 : Nat) : Int)) rfl (e_op2v (e_blt (ws := [.v (.int n)]) rfl rfl rfl) rfl ?_) (let_ix _ (Nat.mod_lt _ (by decide)))
    rw [v_mod (by decide), hm]
  have e2 : op2 gDiv (cVar 0) (cC (.int 26)) [some (.v (.int n)), some (.v (.str [97 + n % 26])), none] S = .ok (.v (.int ((n / 26 : Nat) : Int))) S := by
    refine e_op2v rfl rfl ?_
    rw [v_div (by decide) (by decide), hd]
  have stop : ∀ (t : Tx) (m : Nat), whileN (cB (op2 gGt (cVar 2) (cC (.int 0)))) l1_letter (m + 1) [some (.v (.int n)), some (.v (.str t)), some (.v (.int 0))] S = .nx [some (.v (.int n)), some (.v (.str t)), some (.v (.int 0))] S := fun t m => e_while_f (e_b (e_op2v rfl rfl rfl))
  refine e_fdef_v (e_seq_nx (e_set e1) (e_seq_nx (e_set e2) (e_seq_nx (δ' := [some (.v (.int n)), some (.v (.str (letr n))), some (.v (.int 0))]) (S1 := S) ?_ (e_ret rfl))))
  show whileN _ _ 100000 _ S = _
  by_cases hn : n < 26
  · have h0 : n / 26 = 0 := Nat.div_eq_of_lt hn
    have h1 : n % 26 = n := Nat.mod_eq_of_lt hn
    have hl : letr n = [97 + n] := if_pos hn
    rw [hl, h0, h1]
    exact stop _ 99999
  · have hl : letr n = [97 + (n / 26 - 1), 97 + n % 26] := if_neg hn
    have hq : 0 < n / 26 := Nat.div_pos (by omega) (by decide)
    have hq4 : n / 26 < 5 := by omega
    generalize hqq : n / 26 = q at *
    generalize n % 26 = r at *
    have hqi : (q : Int) - 1 = ((q - 1 : Nat) : Int) := by omega
    have hgt : gGt (.int (q : Int)) (.int 0) = some (.bl true) := by
      rw [v_gt, decide_eq_true (by omega)]
    have hmo : ((q - 1 : Nat) : Int) % 26 = ((q - 1 : Nat) : Int) := by omega
    have hdo : ((q - 1 : Nat) : Int) / 26 = 0 := by omega
    have b1 : cAsg (op2 gAdd (cIx (cC k_LETTERS) (op2 gMod (cBlt gInt (cCons (op2 gSub (cVar 2) (cC (.int 1))) cNil)) (cC (.int 26)))) (cVar 1)) (gN 1) [some (.v (.int n)), some (.v (.str [97 + r])), some (.v (.int q))] S = .nx [some (.v (.int n)), some (.v (.str [97 + (q - 1), 97 + r])), some (.v (.int q))] S := by
      refine e_set (e_op2v (d := .str [97 + (q - 1)]) (e_ix (e := .int ((q - 1 : Nat) : Int)) rfl (e_op2v (e_blt (ws := [.v (.int ((q - 1 : Nat) : Int))]) (e_cons (e_op2v rfl rfl ?_) rfl) rfl rfl) rfl ?_) (let_ix _ (by omega))) rfl (v_addS (by simp)))
      · rw [v_sub, hqi]
      · rw [v_mod (by decide), hmo]
    have b2 : cAsg (op2 gDiv (op2 gSub (cVar 2) (cC (.int 1))) (cC (.int 26))) (gN 2) [some (.v (.int n)), some (.v (.str [97 + (q - 1), 97 + r])), some (.v (.int q))] S = .nx [some (.v (.int n)), some (.v (.str [97 + (q - 1), 97 + r])), some (.v (.int 0))] S := by
      refine e_set (e_op2v (d := .int ((q - 1 : Nat) : Int)) (e_op2v rfl rfl ?_) rfl ?_)
      · rw [v_sub, hqi]
      · rw [v_div (by decide) (by decide), hdo]
    rw [hl]
    refine Eq.trans (e_while_t (n := 99999) (S1 := S) (S2 := S) (δ2 := [some (.v (.int n)), some (.v (.str [97 + (q - 1), 97 + r])), some (.v (.int 0))]) (e_b (e_op2v rfl rfl hgt)) (e_seq_nx b1 b2)) (stop _ 99998)
theorem first_idx (t : List Tx) : ∀ (n s : Nat), (∃ j, s ≤ j ∧ j < s + n ∧ letr j ∉ t) → ∃ p, s ≤ p ∧ p < s + n ∧ letr p ∉ t ∧ (∀ j, s ≤ j → j < p → letr j ∈ t) ∧ ((((List.range' s n).map letr).filter fun x => !decide (x ∈ t)).head?).getD [] = letr p
  | 0, s, ⟨j, h1, h2, _⟩ => by omega
  | n + 1, s, ⟨j, h1, h2, h3⟩ => by
    rw [List.range'_succ, List.map_cons]
    by_cases h : letr s ∈ t
    · have hj : s ≠ j := fun z => h3 (z ▸ h)
      obtain ⟨p, p1, p2, p3, p4, p5⟩ := first_idx t n (s + 1) ⟨j, by omega, by omega, h3⟩
      refine ⟨p, by omega, by omega, p3, fun i hi hp => ?_, ?_⟩
      · by_cases z : i = s
        · rw [z]; exact h
        · exact p4 i (by omega) hp
      · rw [List.filter_cons_of_neg (by simp [h])]
        exact p5
    · refine ⟨s, Nat.le_refl _, by omega, h, fun i hi hp => by omega, ?_⟩
      rw [List.filter_cons_of_pos (by simp [h])]
      rfl
theorem letr_barred : ∀ i : Nat, i < 130 → letr i ∉ barred := by
  have : ∀ i : Fin 130, letr i.val ∉ barred := by decide +kernel
  exact fun i h => this ⟨i, h⟩
theorem first_letters_ev (t : List Tx) (h : t.length < 130) (S : Sto) : f_first_letters [.v (.lst (stL t))] S = .ok (.v (.str (firstL t))) S := by
  obtain ⟨x, hx, hy⟩ := free_letr h
  obtain ⟨j, hj, rfl⟩ := List.mem_map.mp hx
  obtain ⟨p, p1, p2, p3, p4, p5⟩ := first_idx t 130 0 ⟨j, Nat.zero_le _, by simpa using List.mem_range.mp hj, hy⟩
  have ep : firstL t = letr p := by
    unfold firstL letrs
    rw [List.range_eq_range']
    exact p5
  have test : ∀ i : Nat, i < 130 → (cOr (cB (op2 gIn (cCall 1 f_letter (cCons (cVar 1) cNil) []) (cVar 0))) (cB (op2 gIn (cCall 1 f_letter (cCons (cVar 1) cNil) []) (cC k_BARRED)))) [some (.v (.lst (stL t))), some (.v (.int i))] S = .ok (decide (letr i ∈ t)) S := fun i hi => by
    have ec : cCall 1 f_letter (cCons (cVar 1) cNil) [] [some (.v (.lst (stL t))), some (.v (.int i))] S = .ok (.v (.str (letr i))) S := e_call (ws := [.v (.int i)]) rfl rfl (letter_ev i hi S) rfl
    have t1 := e_b (e_op2v ec (show cVar 0 [some (.v (.lst (stL t))), some (.v (.int i))] S = .ok (.v (.lst (stL t))) S from rfl) (gIn_lst (letr i) t))
    have t2 := e_b (e_op2v ec (show cC k_BARRED [some (.v (.lst (stL t))), some (.v (.int i))] S = .ok (.v (.tup (stL barred))) S from rfl) (gIn_tup (letr i) barred))
    rw [decide_eq_false (letr_barred i hi)] at t2
    by_cases hm : letr i ∈ t
    · rw [decide_eq_true hm] at t1 ⊢
      exact e_or_t t1
    · rw [decide_eq_false hm] at t1 ⊢
      exact e_or_f t1 t2
  have loop : ∀ (d i fuel : Nat), i + d = p → d < fuel → whileN (cOr (cB (op2 gIn (cCall 1 f_letter (cCons (cVar 1) cNil) []) (cVar 0))) (cB (op2 gIn (cCall 1 f_letter (cCons (cVar 1) cNil) []) (cC k_BARRED)))) l1_first_letters fuel [some (.v (.lst (stL t))), some (.v (.int i))] S = .nx [some (.v (.lst (stL t))), some (.v (.int p))] S := by
    intro d
    induction d with
    | zero =>
      intro i fuel hi hf
      obtain ⟨fuel, rfl⟩ : ∃ k, fuel = k + 1 := ⟨fuel - 1, by omega⟩
      have : i = p := by omega
      subst this
      have q := test i (by omega)
      rw [decide_eq_false p3] at q
      exact e_while_f q
    | succ d ih =>
      intro i fuel hi hf
      obtain ⟨fuel, rfl⟩ : ∃ k, fuel = k + 1 := ⟨fuel - 1, by omega⟩
      have q := test i (by omega)
      rw [decide_eq_true (p4 i (Nat.zero_le _) (by omega))] at q
      refine Eq.trans (e_while_t (S2 := S) (δ2 := [some (.v (.lst (stL t))), some (.v (.int ((i + 1 : Nat) : Int)))]) q (e_set (e_op2v rfl rfl rfl))) (ih (i + 1) fuel (by omega) (by omega))
  rw [ep]
  refine e_fdef_v (e_seq_nx (e_set rfl) (e_seq_nx (loop p 0 100000 (by omega) (by omega)) (e_ret (e_call (ws := [.v (.int p)]) rfl rfl (letter_ev p (by omega) S) rfl))))
/-! ### relettered -/
def Kd.bnds : Kd → List Tx
  | .var _ => []
  | .con0 _ => []
  | .list k => k.bnds
  | .con2 _ a b => a.bnds ++ b.bnds
  | .all n k => n :: k.bnds
theorem relettered_ev : ∀ (k : Kd) (m : Nat) (env : Ren) (t : List Tx) (S : Sto), OkK k → (∀ n ∈ k.bnds, isNm n = false) → Vals (fun y => isNm y = true) env → k.ht ≤ m → k.ht ≤ 30 → t.length + k.ht < 130 → f_relettered m [.v (enc (renK k env)), .v (.lst (stL t))] S = .ok (.v (enc (rlE k env t))) S := by
  have pos : ∀ (k : Kd) (m : Nat), k.ht ≤ m → ∃ m', m = m' + 1 := fun k m h => ⟨m - 1, by have := k.ht_pos; omega⟩
  intro k
  induction k with
  | var n =>
    intro m env t S ok hb hv hm h30 hl
    obtain ⟨m, rfl⟩ := pos _ _ hm
    exact e_fdef_v (e_seq_rt (e_ifs_t (S1 := S) (e_b rfl) rfl))
  | con0 c =>
    intro m env t S ok hb hv hm h30 hl
    obtain ⟨m, rfl⟩ := pos _ _ hm
    refine e_fdef_v (e_seq_nx (e_ifs_f (S1 := S) (e_b rfl) rfl) (e_seq_nx (e_ifs_f (S1 := S) (e_b rfl) rfl) (e_ret ?_)))
    refine e_disp (ws := [.v (.str [99, 111, 110]), .v (.str c.tx), .v (.tup [])]) (e_cons rfl (e_cons rfl (e_cons (e_blt (ws := [.v (.lst [])]) (e_cons ?_ rfl) rfl rfl) rfl))) rfl (by simp) rfl
    exact comp_map (ds := []) (fun d => d) rfl (by decide) (fun d hd => absurd hd (by simp))
  | list k ih =>
    intro m env t S ok hb hv hm h30 hl
    obtain ⟨m, rfl⟩ := pos _ _ hm
    unfold Kd.ht at hm h30 hl
    refine e_fdef_v (e_seq_nx (e_ifs_f (S1 := S) (e_b rfl) rfl) (e_seq_nx (e_ifs_f (S1 := S) (e_b rfl) rfl) (e_ret ?_)))
    refine e_disp (ws := [.v (.str [99, 111, 110]), .v (.str [76, 105, 115, 116]), .v (.tup [enc (rlE k env t)])]) (e_cons rfl (e_cons rfl (e_cons (e_blt (ws := [.v (.lst [enc (rlE k env t)])]) (e_cons ?_ rfl) rfl rfl) rfl))) rfl (by simp) rfl
    refine comp_map (ds := [enc (renK k env)]) (fun d => enc (rlE k env t)) rfl (by simp) (fun d hd acc => ?_)
    rw [List.mem_singleton] at hd
    subst hd
    exact ⟨_, rfl, e_call (ws := [.v (enc (renK k env)), .v (.lst (stL t))]) rfl rfl (ih m env t _ ok hb hv (by omega) (by omega) (by omega)) rfl⟩
  | con2 c a b iha ihb =>
    intro m env t S ok hb hv hm h30 hl
    obtain ⟨m, rfl⟩ := pos _ _ hm
    unfold Kd.ht at hm h30 hl
    refine e_fdef_v (e_seq_nx (e_ifs_f (S1 := S) (e_b rfl) rfl) (e_seq_nx (e_ifs_f (S1 := S) (e_b rfl) rfl) (e_ret ?_)))
    refine e_disp (ws := [.v (.str [99, 111, 110]), .v (.str c.tx), .v (.tup [enc (rlE a env t), enc (rlE b env t)])]) (e_cons rfl (e_cons rfl (e_cons (e_blt (ws := [.v (.lst [enc (rlE a env t), enc (rlE b env t)])]) (e_cons ?_ rfl) rfl rfl) rfl))) rfl (by simp) rfl
    have ea := fun S => iha m env t S (fun n hn => ok n (List.mem_append_left _ hn)) (fun n hn => hb n (List.mem_append_left _ hn)) hv (by omega) (by omega) (by omega)
    have eb := fun S => ihb m env t S (fun n hn => ok n (List.mem_append_right _ hn)) (fun n hn => hb n (List.mem_append_right _ hn)) hv (by omega) (by omega) (by omega)
    exact comp_two (f := f_relettered m) (δ := [some (.v (enc (.con2 c (renK a env) (renK b env)))), some (.v (.lst (stL t))), none, none]) (S := S) (j := 3) (vs := [3]) (it := itT (cIx (cVar 0) (cC (.int 2)))) (as := cCons (cVar 3) (cCons (cVar 1) cNil)) (n := 2) (x := enc (renK a env)) (y := enc (renK b env)) (wx := [.v (enc (renK a env)), .v (.lst (stL t))]) (wy := [.v (enc (renK b env)), .v (.lst (stL t))]) rfl (fun S => rfl) (fun S => rfl) rfl rfl ea eb
  | all n k ih =>
    intro m env t S ok hb hv hm h30 hl
    obtain ⟨m, rfl⟩ := pos _ _ hm
    unfold Kd.ht at hm h30 hl
    have hn := hb n List.mem_cons_self
    have okn := ok n List.mem_cons_self
    have okk : OkK k := fun x hx => ok x (List.mem_cons_of_mem _ hx)
    have hx := letrs_ok _ (firstL_ok (t := t) (by omega)).1
    have e1 := first_letters_ev t (by omega) S
    have hvo : Vals (fun y => okT y = true) (cutR env n) := fun a y e => isNm_ok (vals_cut hv a y e)
    have fr : Fr (cutR env n) n := by
      refine ⟨by rw [lkR_cut, if_pos rfl], fun a y e z => ?_⟩
      have := vals_cut (n := n) hv a y e
      rw [z, hn] at this
      cases this
    have ex := rename_ev (renK k (cutR env n)) 30 n (firstL t) S (okK_ren k _ okk hvo) okn (by rw [renK_ht]; omega)
    rw [renK_one n (firstL t) k (cutR env n) fr] at ex
    have er := ih m ((n, firstL t) :: cutR env n) (t ++ [firstL t]) S okk (fun x hx => hb x (List.mem_cons_of_mem _ hx)) (vals_cons hv hx) (by omega) (by omega) (by rw [List.length_append]; simp; omega)
    refine e_fdef_v (e_seq_nx (e_ifs_f (S1 := S) (e_b rfl) rfl) (e_seq_rt (e_ifs_t (S1 := S) (e_b rfl) (e_seq_nx (e_set (e_call (ws := [.v (.lst (stL t))]) rfl rfl e1 rfl)) (e_ret ?_)))))
    exact e_disp (ws := [.v (.str [97, 108, 108]), .v (.str (firstL t)), .v (enc (rlE k ((n, firstL t) :: cutR env n) (t ++ [firstL t])))]) (e_cons rfl (e_cons rfl (e_cons (e_call (S1 := S) (ws := [.v (enc (renK k ((n, firstL t) :: cutR env n))), .v (.lst (stL (t ++ [firstL t])))]) (e_cons (e_call (ws := [.v (enc (renK k (cutR env n))), .v (.dct [(n, enc (.var (firstL t)))])]) (e_cons rfl (e_cons (e_dict1 (t := n) (d := enc (.var (firstL t))) rfl rfl) rfl)) rfl ex rfl) (e_cons (e_op2v (d := .lst (stL t)) (e := .lst (stL [firstL t])) rfl rfl (gAdd_lsts t [firstL t] (by simp; omega))) rfl)) rfl er rfl) rfl))) rfl (by simp) rfl
/-! ### the plain form -/
theorem mkE_ok : ∀ (k : Kd) (env : Ren) (f : Nat), OkK k → Vals (fun y => okT y = true) env → f + k.qs < 1000 → OkK (mkE k env f).1 ∧ ∀ n ∈ (mkE k env f).1.bnds, isNm n = false
  | .var n, env, f, hk, hv, _ => ⟨okK_ren (.var n) env hk hv, fun n hn => by cases hn⟩
  | .con0 _, _, _, _, _, _ => ⟨fun n hn => (by cases hn), fun n hn => by cases hn⟩
  | .list k, env, f, hk, hv, hf => mkE_ok k env f hk hv hf
  | .con2 c a b, env, f, hk, hv, hf => by
    have hq : (Kd.con2 c a b).qs = a.qs + b.qs := rfl
    obtain ⟨h1, h2⟩ := mkE_ok a env f (fun y hy => hk y (List.mem_append_left _ hy)) hv (by omega)
    obtain ⟨h3, h4⟩ := mkE_ok b env (mkE a env f).2 (fun y hy => hk y (List.mem_append_right _ hy)) hv (by rw [mkE_next]; omega)
    refine ⟨fun n hn => ?_, fun n hn => ?_⟩
    · rcases List.mem_append.mp hn with z | z
      · exact h1 n z
      · exact h3 n z
    · rcases List.mem_append.mp hn with z | z
      · exact h2 n z
      · exact h4 n z
  | .all n k, env, f, hk, hv, hf => by
    have hq : (Kd.all n k).qs = k.qs + 1 := rfl
    obtain ⟨h1, h2⟩ := mkE_ok k ((n, mark f) :: cutR env n) (f + 1) (fun y hy => hk y (List.mem_cons_of_mem _ hy)) (vals_cons hv (mark_ok (by omega))) (by omega)
    refine ⟨fun x hx => ?_, fun x hx => ?_⟩
    · rcases List.mem_cons.mp hx with z | z
      · rw [z]; exact mark_ok (by omega)
      · exact h1 x z
    · rcases List.mem_cons.mp hx with z | z
      · rw [z]; exact mark_no f
      · exact h2 x z
structure Fine (k : Kd) : Prop where
  good : Good k
  ht : k.ht ≤ 30
  lvs : k.lvs ≤ 900
  qs : k.qs < 900
  few : (frees k []).length + k.ht < 130
theorem plain_of_ev {k : Kd} (h : Fine k) (S : Sto) : f_plain_of [.v (enc k)] S = .ok (.v (enc (plainK k))) S := by
  have e1 := marked_ev k S h.good h.ht h.qs h.lvs
  have e2 := free_of_ev k 30 [] S h.ht (by simp; have := h.ht; omega) (by have := h.lvs; omega)
  obtain ⟨ok, hb⟩ := mkE_ok k [] 0 (good_ok h.good) (fun n y z => by cases z) (by have := h.qs; omega)
  have e3 := relettered_ev (mkE k [] 0).1 30 [] (frees k []) S ok hb (fun n y z => by cases z) (by rw [mkE_ht]; exact h.ht) (by rw [mkE_ht]; exact h.ht) (by rw [mkE_ht]; exact h.few)
  rw [renK_nil] at e3
  exact e_fdef_v (e_ret (e_call (ws := [.v (enc (mkE k [] 0).1), .v (.lst (stL (frees k [])))]) (e_cons (e_ix (d := .tup [enc (mkE k [] 0).1, .int (mkE k [] 0).2]) (e_call (ws := [.v (enc k)]) rfl rfl e1 rfl) rfl rfl) (e_cons (e_call (ws := [.v (enc k)]) rfl rfl e2 rfl) rfl)) rfl e3 rfl))
theorem plain_ev {k : Kd} (h : Fine k) (S : Sto) : f_plain [.v (enc k)] S = .ok (.v (enc (lawK k))) S := by
  rw [← plain_law k h.good (by have := h.qs; omega)]
  exact e_fdef_v (e_seq_nx (e_expr (e_call (ws := [.v (enc k)]) rfl rfl (want_kind_ev k S h.good h.ht) rfl)) (e_ret (e_call (ws := [.v (enc k)]) rfl rfl (plain_of_ev h S) rfl)))
end Fro

namespace Fro
open PySem PySem.Spec L2
def encF : Fm → D
  | .var n => .tup [.str [118, 97, 114], .str n]
  | .at i => .tup [.str [97, 116], .int i]
  | .con0 c => .tup [.str [99, 111, 110], .str c.tx, .tup []]
  | .list f => .tup [.str [99, 111, 110], .str [76, 105, 115, 116], .tup [encF f]]
  | .con2 c a b => .tup [.str [99, 111, 110], .str c.tx, .tup [encF a, encF b]]
  | .all f => .tup [.str [97, 108, 108], encF f]
def Fm.ht : Fm → Nat
  | .var _ => 1
  | .at _ => 1
  | .con0 _ => 1
  | .list f => f.ht + 1
  | .con2 _ a b => max a.ht b.ht + 1
  | .all f => f.ht + 1
theorem Fm.ht_pos : ∀ k : Fm, 1 ≤ k.ht
  | .var _ => Nat.le_refl _
  | .at _ => Nat.le_refl _
  | .con0 _ => Nat.le_refl _
  | .list k => Nat.le_add_left _ _
  | .con2 _ a b => Nat.le_add_left _ _
  | .all k => Nat.le_add_left _ _
theorem inF_ht : ∀ (k : Kd) (ns : List Tx), (inF k ns).ht = k.ht
  | .var n, ns => by
    unfold inF
    split <;> rfl
  | .con0 _, _ => rfl
  | .list k, ns => by show (inF k ns).ht + 1 = _; rw [inF_ht k]; rfl
  | .con2 _ a b, ns => by show max (inF a ns).ht (inF b ns).ht + 1 = _; rw [inF_ht a, inF_ht b]; rfl
  | .all n k, ns => by show (inF k (n :: ns)).ht + 1 = _; rw [inF_ht k]; rfl
def Inn : Fm → Nat → Prop
  | .var _, _ => True
  | .at i, n => i < n
  | .con0 _, _ => True
  | .list f, n => Inn f n
  | .con2 _ a b, n => Inn a n ∧ Inn b n
  | .all f, n => Inn f (n + 1)
theorem inF_inn : ∀ (k : Kd) (ns : List Tx), Inn (inF k ns) ns.length
  | .var n, ns => by
    unfold inF
    by_cases h : n ∈ ns
    · obtain ⟨i, h1, h2⟩ := idxT_some h
      rw [h1]
      exact h2
    · rw [idxT_none h]
      exact trivial
  | .con0 _, _ => trivial
  | .list k, ns => inF_inn k ns
  | .con2 _ a b, ns => ⟨inF_inn a ns, inF_inn b ns⟩
  | .all n k, ns => inF_inn k (n :: ns)
def Fm.lvs : Fm → Nat
  | .var _ => 1
  | .at _ => 1
  | .con0 _ => 1
  | .list f => f.lvs
  | .con2 _ a b => a.lvs + b.lvs
  | .all f => f.lvs
theorem frF_len : ∀ f : Fm, (frF f).length ≤ f.lvs
  | .var _ => Nat.le_refl _
  | .at _ => Nat.zero_le _
  | .con0 _ => Nat.zero_le _
  | .list f => frF_len f
  | .all f => frF_len f
  | .con2 _ a b => by
    have h1 := frF_len a
    have h2 := frF_len b
    have h3 := List.length_filter_le (fun n => !decide (n ∈ frF a)) (frF b)
    show (frF a ++ (frF b).filter _).length ≤ a.lvs + b.lvs
    rw [List.length_append]
    omega
theorem inF_lvs : ∀ (k : Kd) (ns : List Tx), (inF k ns).lvs = k.lvs
  | .var n, ns => by
    unfold inF
    split <;> rfl
  | .con0 _, _ => rfl
  | .list k, ns => inF_lvs k ns
  | .con2 _ a b, ns => by show (inF a ns).lvs + (inF b ns).lvs = _; rw [inF_lvs a, inF_lvs b]; rfl
  | .all n k, ns => inF_lvs k _
end Fro

namespace Fro
open PySem PySem.Spec L2
/-! ### the plain form's own form -/
theorem idxT_at : ∀ {ls : List Tx} {i : Nat} {x : Tx}, ls.Nodup → ls[i]? = some x → idxT x ls = some i
  | [], _, _, _, h => by simp at h
  | m :: r, 0, x, _, h => by
    have : m = x := by simpa using h
    unfold idxT
    rw [if_pos this]
  | m :: r, i + 1, x, hn, h => by
    have h' : r[i]? = some x := by simpa using h
    obtain ⟨h1, h2⟩ := List.nodup_cons.mp hn
    have hm : m ≠ x := fun z => h1 (z ▸ List.mem_of_getElem? h')
    unfold idxT
    rw [if_neg hm, idxT_at h2 h']
    rfl
theorem inF_out : ∀ (f : Fm) (ls fr : List Tx), Inn f ls.length → ls.Nodup → (∀ x ∈ ls, x ∉ fr) → (∀ x ∈ frF f, x ∈ fr) → fr.length + ls.length + f.ht < 130 → inF (outF f ls fr) ls = f
  | .var n, ls, fr, _, hn, hd, hf, _ => by
    have : n ∉ ls := fun z => hd n z (hf n List.mem_cons_self)
    show inF (.var n) ls = _
    unfold inF
    rw [idxT_none this]
  | .at i, ls, fr, hi, hn, hd, hf, _ => by
    have hi' : i < ls.length := hi
    show inF (.var ((ls[i]?).getD [])) ls = _
    unfold inF
    rw [List.getElem?_eq_getElem hi', Option.getD_some, idxT_at hn (List.getElem?_eq_getElem hi')]
  | .con0 _, _, _, _, _, _, _, _ => rfl
  | .list f, ls, fr, hi, hn, hd, hf, hl => by
    have hh : (Fm.list f).ht = f.ht + 1 := rfl
    show Fm.list (inF (outF f ls fr) ls) = _
    rw [inF_out f ls fr hi hn hd hf (by omega)]
  | .con2 c a b, ls, fr, hi, hn, hd, hf, hl => by
    have hh : (Fm.con2 c a b).ht = max a.ht b.ht + 1 := rfl
    show Fm.con2 c (inF (outF a ls fr) ls) (inF (outF b ls fr) ls) = _
    rw [inF_out a ls fr hi.1 hn hd (fun x hx => hf x (List.mem_append_left _ hx)) (by omega), inF_out b ls fr hi.2 hn hd (fun x hx => by
      by_cases h : x ∈ frF a
      · exact hf x (List.mem_append_left _ h)
      · exact hf x (List.mem_append_right _ (List.mem_filter.mpr ⟨hx, by simp [h]⟩))) (by omega)]
  | .all f, ls, fr, hi, hn, hd, hf, hl => by
    have hh : (Fm.all f).ht = f.ht + 1 := rfl
    have hx := (firstL_ok (t := fr ++ ls) (by rw [List.length_append]; omega)).2
    show Fm.all (inF (outF f (firstL (fr ++ ls) :: ls) fr) (firstL (fr ++ ls) :: ls)) = _
    rw [inF_out f (firstL (fr ++ ls) :: ls) fr hi (List.nodup_cons.mpr ⟨fun z => hx (List.mem_append_right _ z), hn⟩) (fun x h => by
      rcases List.mem_cons.mp h with rfl | h
      · exact fun z => hx (List.mem_append_left _ z)
      · exact hd x h) hf (by rw [List.length_cons]; omega)]
theorem out_ht : ∀ (k : Kd) (ns ls fr : List Tx), (outF (inF k ns) ls fr).ht = k.ht
  | .var n, ns, ls, fr => by
    unfold inF
    split <;> rfl
  | .con0 _, _, _, _ => rfl
  | .list k, ns, ls, fr => by show (outF (inF k ns) ls fr).ht + 1 = _; rw [out_ht k]; rfl
  | .con2 _ a b, ns, ls, fr => by show max (outF (inF a ns) ls fr).ht (outF (inF b ns) ls fr).ht + 1 = _; rw [out_ht a, out_ht b]; rfl
  | .all n k, ns, ls, fr => by show (outF (inF k (n :: ns)) _ fr).ht + 1 = _; rw [out_ht k]; rfl
theorem out_lvs : ∀ (k : Kd) (ns ls fr : List Tx), (outF (inF k ns) ls fr).lvs = k.lvs
  | .var n, ns, ls, fr => by
    unfold inF
    split <;> rfl
  | .con0 _, _, _, _ => rfl
  | .list k, ns, ls, fr => out_lvs k ns ls fr
  | .con2 _ a b, ns, ls, fr => by show (outF (inF a ns) ls fr).lvs + (outF (inF b ns) ls fr).lvs = _; rw [out_lvs a, out_lvs b]; rfl
  | .all n k, ns, ls, fr => out_lvs k (n :: ns) _ fr
theorem out_qs : ∀ (k : Kd) (ns ls fr : List Tx), (outF (inF k ns) ls fr).qs = k.qs
  | .var n, ns, ls, fr => by
    unfold inF
    split <;> rfl
  | .con0 _, _, _, _ => rfl
  | .list k, ns, ls, fr => out_qs k ns ls fr
  | .con2 _ a b, ns, ls, fr => by show (outF (inF a ns) ls fr).qs + (outF (inF b ns) ls fr).qs = _; rw [out_qs a, out_qs b]; rfl
  | .all n k, ns, ls, fr => by show (outF (inF k (n :: ns)) _ fr).qs + 1 = _; rw [out_qs k]; rfl
theorem out_good : ∀ (f : Fm) (ls fr : List Tx), Inn f ls.length → (∀ x ∈ ls, isNm x = true) → (∀ x ∈ frF f, isNm x = true) → fr.length + ls.length + f.ht < 130 → Good (outF f ls fr)
  | .var n, ls, fr, _, hl, hf, _ => fun x hx => by
    have : x = n := by simpa [outF, Kd.nms] using hx
    rw [this]; exact hf n List.mem_cons_self
  | .at i, ls, fr, hi, hl, hf, _ => fun x hx => by
    have hi' : i < ls.length := hi
    have : x = (ls[i]?).getD [] := by simpa [outF, Kd.nms] using hx
    rw [this, List.getElem?_eq_getElem hi', Option.getD_some]
    exact hl _ (List.getElem_mem hi')
  | .con0 _, _, _, _, _, _, _ => fun x hx => by cases hx
  | .list f, ls, fr, hi, hl, hf, h => out_good f ls fr hi hl hf (by have hh : (Fm.list f).ht = f.ht + 1 := rfl; omega)
  | .con2 c a b, ls, fr, hi, hl, hf, h => fun x hx => by
    have hh : (Fm.con2 c a b).ht = max a.ht b.ht + 1 := rfl
    rcases List.mem_append.mp hx with z | z
    · exact out_good a ls fr hi.1 hl (fun y hy => hf y (List.mem_append_left _ hy)) (by omega) x z
    · exact out_good b ls fr hi.2 hl (fun y hy => by
        by_cases q : y ∈ frF a
        · exact hf y (List.mem_append_left _ q)
        · exact hf y (List.mem_append_right _ (List.mem_filter.mpr ⟨hy, by simp [q]⟩))) (by omega) x z
  | .all f, ls, fr, hi, hl, hf, h => fun x hx => by
    have hh : (Fm.all f).ht = f.ht + 1 := rfl
    have hg := letrs_ok _ (firstL_ok (t := fr ++ ls) (by rw [List.length_append]; omega)).1
    rcases List.mem_cons.mp hx with z | z
    · rw [z]; exact hg
    · exact out_good f (firstL (fr ++ ls) :: ls) fr hi (fun y hy => by
        rcases List.mem_cons.mp hy with q | q
        · rw [q]; exact hg
        · exact hl y q) hf (by rw [List.length_cons]; omega) x z
theorem frees_good : ∀ (k : Kd) (ins : List Tx), Good k → ∀ x ∈ frees k ins, isNm x = true
  | .var n, ins, g, x, hx => by
    unfold frees at hx
    split at hx
    · cases hx
    · rw [List.mem_singleton.mp hx]; exact g n List.mem_cons_self
  | .con0 _, _, _, x, hx => by cases hx
  | .list k, ins, g, x, hx => frees_good k ins g x hx
  | .con2 _ a b, ins, g, x, hx => by
    rcases List.mem_append.mp hx with z | z
    · exact frees_good a ins (fun y hy => g y (List.mem_append_left _ hy)) x z
    · exact frees_good b ins (fun y hy => g y (List.mem_append_right _ hy)) x (List.mem_filter.mp z).1
  | .all n k, ins, g, x, hx => frees_good k _ (fun y hy => g y (List.mem_cons_of_mem _ hy)) x hx
theorem in_law {k : Kd} (h : Fine k) : inF (lawK k) [] = inF k [] := by
  have h3 := h.few
  refine inF_out (inF k []) [] (frF (inF k [])) (inF_inn k []) List.nodup_nil (fun x hx => by cases hx) (fun x hx => hx) ?_
  rw [inF_ht, frF_in k [] [] (fun _ => Iff.rfl)]
  simpa using h3
theorem law_law {k : Kd} (h : Fine k) : lawK (lawK k) = lawK k := by
  show outF (inF (lawK k) []) [] (frF (inF (lawK k) [])) = lawK k
  rw [in_law h]
  rfl
theorem frees_law {k : Kd} (h : Fine k) : frees (lawK k) [] = frees k [] := by
  rw [← frF_in (lawK k) [] [] (fun _ => Iff.rfl), in_law h, frF_in k [] [] (fun _ => Iff.rfl)]
theorem fine_law {k : Kd} (h : Fine k) : Fine (lawK k) := by
  have h1 : (lawK k).ht = k.ht := out_ht k [] [] _
  have h2 : (lawK k).lvs = k.lvs := out_lvs k [] [] _
  have h3 : (lawK k).qs = k.qs := out_qs k [] [] _
  refine ⟨?_, by rw [h1]; exact h.ht, by rw [h2]; exact h.lvs, by rw [h3]; exact h.qs, by rw [frees_law h, h1]; exact h.few⟩
  refine out_good (inF k []) [] (frF (inF k [])) (inF_inn k []) (fun x hx => by cases hx) ?_ ?_
  · rw [frF_in k [] [] (fun _ => Iff.rfl)]
    exact frees_good k [] h.good
  · rw [inF_ht, frF_in k [] [] (fun _ => Iff.rfl)]
    simpa using h.few
/-! ### == of data -/
mutual
theorem deq_refl : ∀ d : D, okD d = true → deq d d = true
  | .non, _ => rfl
  | .bl b, _ => by show (b == b) = true; simp
  | .int i, _ => by show (i == i) = true; simp
  | .str t, _ => by show (t == t) = true; simp
  | .tup ds, h => deqL_refl ds (by simpa [okD] using h)
  | .lst ds, h => deqL_refl ds (by simpa [okD] using h)
  | .dct _, h => by simp [okD] at h
  | .ty _, h => by simp [okD] at h
theorem deqL_refl : ∀ ds : List D, okDL ds = true → deqL ds ds = true
  | [], _ => rfl
  | d :: ds, h => by
    have h' : okD d = true ∧ okDL ds = true := by simpa [okDL] using h
    show (deq d d && deqL ds ds) = true
    rw [deq_refl d h'.1, deqL_refl ds h'.2]
    rfl
end
theorem dep_enc : ∀ k : Kd, dep (enc k) ≤ 2 * k.ht
  | .var n => by show max 0 (max 0 0) + 1 ≤ 2 * 1; decide
  | .con0 c => by show max 0 (max 0 (max (0 + 1) 0)) + 1 ≤ 2 * 1; decide
  | .list k => by
    have := dep_enc k
    show max 0 (max 0 (max (max (dep (enc k)) 0 + 1) 0)) + 1 ≤ 2 * (k.ht + 1)
    omega
  | .con2 _ a b => by
    have h1 := dep_enc a
    have h2 := dep_enc b
    show max 0 (max 0 (max (max (dep (enc a)) (max (dep (enc b)) 0) + 1) 0)) + 1 ≤ 2 * (max a.ht b.ht + 1)
    omega
  | .all n k => by
    have := dep_enc k
    show max 0 (max 0 (max (dep (enc k)) 0)) + 1 ≤ 2 * (k.ht + 1)
    omega
theorem gEq_same {k : Kd} (g : Good k) (h : k.ht ≤ 30) : gEq (enc k) (enc k) = some (.bl true) := by
  have hd := dep_enc k
  rw [gEq_of (okD_enc g) (okD_enc g) (by omega), deq_refl _ (okD_enc g)]
end Fro

namespace Fro
open PySem PySem.Spec L2

/-! ### == of kinds and forms -/
mutual
def sD : D → Bool
  | .str _ => true
  | .int _ => true
  | .tup ds => sDL ds
  | .lst ds => sDL ds
  | _ => false
def sDL : List D → Bool
  | [] => true
  | d :: ds => sD d && sDL ds
end
mutual
theorem deq_eq : ∀ d e : D, sD d = true → sD e = true → deq d e = true → d = e
  | .str t, .str u, _, _, h => by
    have : t = u := eq_of_beq h
    rw [this]
  | .str _, .int _, _, _, h => by cases h
  | .str _, .tup _, _, _, h => by cases h
  | .str _, .lst _, _, _, h => by cases h
  | .int i, .int j, _, _, h => by
    have : i = j := eq_of_beq h
    rw [this]
  | .int _, .str _, _, _, h => by cases h
  | .int _, .tup _, _, _, h => by cases h
  | .int _, .lst _, _, _, h => by cases h
  | .tup ds, .tup es, h1, h2, h => by rw [deqL_eq ds es h1 h2 h]
  | .tup _, .str _, _, _, h => by cases h
  | .tup _, .int _, _, _, h => by cases h
  | .tup _, .lst _, _, _, h => by cases h
  | .lst ds, .lst es, h1, h2, h => by rw [deqL_eq ds es h1 h2 h]
  | .lst _, .str _, _, _, h => by cases h
  | .lst _, .int _, _, _, h => by cases h
  | .lst _, .tup _, _, _, h => by cases h
  | .non, _, h, _, _ => by cases h
  | .bl _, _, h, _, _ => by cases h
  | .dct _, _, h, _, _ => by cases h
  | .ty _, _, h, _, _ => by cases h
  | .str _, .non, _, h, _ => by cases h
  | .str _, .bl _, _, h, _ => by cases h
  | .str _, .dct _, _, h, _ => by cases h
  | .str _, .ty _, _, h, _ => by cases h
  | .int _, .non, _, h, _ => by cases h
  | .int _, .bl _, _, h, _ => by cases h
  | .int _, .dct _, _, h, _ => by cases h
  | .int _, .ty _, _, h, _ => by cases h
  | .tup _, .non, _, h, _ => by cases h
  | .tup _, .bl _, _, h, _ => by cases h
  | .tup _, .dct _, _, h, _ => by cases h
  | .tup _, .ty _, _, h, _ => by cases h
  | .lst _, .non, _, h, _ => by cases h
  | .lst _, .bl _, _, h, _ => by cases h
  | .lst _, .dct _, _, h, _ => by cases h
  | .lst _, .ty _, _, h, _ => by cases h
theorem deqL_eq : ∀ ds es : List D, sDL ds = true → sDL es = true → deqL ds es = true → ds = es
  | [], [], _, _, _ => rfl
  | [], _ :: _, _, _, h => by cases h
  | _ :: _, [], _, _, h => by cases h
  | d :: ds, e :: es, h1, h2, h => by
    have a1 : sD d = true ∧ sDL ds = true := by simpa [sDL] using h1
    have a2 : sD e = true ∧ sDL es = true := by simpa [sDL] using h2
    have a3 : deq d e = true ∧ deqL ds es = true := by simpa [deqL] using h
    rw [deq_eq d e a1.1 a2.1 a3.1, deqL_eq ds es a1.2 a2.2 a3.2]
end
theorem sD_enc : ∀ k : Kd, sD (enc k) = true
  | .var _ => rfl
  | .con0 _ => rfl
  | .list k => by
    show (true && (true && ((sD (enc k) && true) && true))) = true
    rw [sD_enc k]; rfl
  | .con2 _ a b => by
    show (true && (true && ((sD (enc a) && (sD (enc b) && true)) && true))) = true
    rw [sD_enc a, sD_enc b]; rfl
  | .all _ k => by
    show (true && (true && (sD (enc k) && true))) = true
    rw [sD_enc k]; rfl
theorem sD_encF : ∀ k : Fm, sD (encF k) = true
  | .var _ => rfl
  | .at _ => rfl
  | .con0 _ => rfl
  | .list k => by
    show (true && (true && ((sD (encF k) && true) && true))) = true
    rw [sD_encF k]; rfl
  | .con2 _ a b => by
    show (true && (true && ((sD (encF a) && (sD (encF b) && true)) && true))) = true
    rw [sD_encF a, sD_encF b]; rfl
  | .all k => by
    show (true && (sD (encF k) && true)) = true
    rw [sD_encF k]; rfl
theorem c0_inj : ∀ {a b : C0}, a.tx = b.tx → a = b := by
  intro a b h
  cases a <;> cases b <;> first | rfl | exact absurd h (by decide)
theorem c2_inj : ∀ {a b : C2}, a.tx = b.tx → a = b := by
  intro a b h
  cases a <;> cases b <;> first | rfl | exact absurd h (by decide)
theorem enc_inj : ∀ a b : Kd, enc a = enc b → a = b
  | .var n, b, h => by
    cases b <;> simp [enc] at h
    rw [h]
  | .con0 c, b, h => by
    cases b <;> simp [enc] at h
    rw [c0_inj h]
  | .list k, b, h => by
    cases b <;> simp [enc] at h
    rw [enc_inj k _ h]
  | .con2 c x y, b, h => by
    cases b <;> simp [enc] at h
    rw [c2_inj h.1, enc_inj x _ h.2.1, enc_inj y _ h.2.2]
  | .all n k, b, h => by
    cases b <;> simp [enc] at h
    rw [h.1, enc_inj k _ h.2]
theorem encF_inj : ∀ a b : Fm, encF a = encF b → a = b
  | .var n, b, h => by
    cases b <;> simp [encF] at h
    rw [h]
  | .at i, b, h => by
    cases b <;> simp [encF] at h
    congr 1
    omega
  | .con0 c, b, h => by
    cases b <;> simp [encF] at h
    rw [c0_inj h]
  | .list k, b, h => by
    cases b <;> simp [encF] at h
    rw [encF_inj k _ h]
  | .con2 c x y, b, h => by
    cases b <;> simp [encF] at h
    rw [c2_inj h.1, encF_inj x _ h.2.1, encF_inj y _ h.2.2]
  | .all k, b, h => by
    cases b <;> simp [encF] at h
    rw [encF_inj k _ h]
theorem deq_enc {a b : Kd} (g1 : Good a) : deq (enc a) (enc b) = decide (a = b) := by
  by_cases h : a = b
  · subst h
    rw [deq_refl _ (okD_enc g1), decide_eq_true rfl]
  · rw [decide_eq_false h]
    cases q : deq (enc a) (enc b) with
    | false => rfl
    | true => exact absurd (enc_inj a b (deq_eq _ _ (sD_enc a) (sD_enc b) q)) h
theorem gEq_enc2 {a b : Kd} (g1 : Good a) (g2 : Good b) (h1 : a.ht ≤ 30) : gEq (enc a) (enc b) = some (.bl (decide (a = b))) := by
  have hd := dep_enc a
  rw [gEq_of (okD_enc g1) (okD_enc g2) (by omega), deq_enc g1]
def GoodF (f : Fm) : Prop := ∀ n ∈ frF f, isNm n = true
theorem okD_encF : ∀ f : Fm, GoodF f → okD (encF f) = true
  | .var n, g => by
    have := isNm_ok (g n List.mem_cons_self)
    unfold okT at this
    simp only [encF, okD, okDL, this]
    decide
  | .at i, _ => rfl
  | .con0 c, _ => by cases c <;> decide
  | .list f, g => by
    have := okD_encF f g
    simp only [encF, okD, okDL, this]
    decide
  | .con2 c a b, g => by
    have h1 := okD_encF a fun n hn => g n (List.mem_append_left _ hn)
    have h2 := okD_encF b fun n hn => by
      by_cases q : n ∈ frF a
      · exact g n (List.mem_append_left _ q)
      · exact g n (List.mem_append_right _ (List.mem_filter.mpr ⟨hn, by simp [q]⟩))
    simp only [encF, okD, okDL, h1, h2]
    cases c <;> decide
  | .all f, g => by
    have := okD_encF f g
    simp only [encF, okD, okDL, this]
    decide
theorem dep_encF : ∀ k : Fm, dep (encF k) ≤ 2 * k.ht
  | .var n => by show max 0 (max 0 0) + 1 ≤ 2 * 1; decide
  | .at n => by show max 0 (max 0 0) + 1 ≤ 2 * 1; decide
  | .con0 c => by show max 0 (max 0 (max (0 + 1) 0)) + 1 ≤ 2 * 1; decide
  | .list k => by
    have := dep_encF k
    show max 0 (max 0 (max (max (dep (encF k)) 0 + 1) 0)) + 1 ≤ 2 * (k.ht + 1)
    omega
  | .con2 _ a b => by
    have h1 := dep_encF a
    have h2 := dep_encF b
    show max 0 (max 0 (max (max (dep (encF a)) (max (dep (encF b)) 0) + 1) 0)) + 1 ≤ 2 * (max a.ht b.ht + 1)
    omega
  | .all k => by
    have := dep_encF k
    show max 0 (max (dep (encF k)) 0) + 1 ≤ 2 * (k.ht + 1)
    omega
theorem goodF_in {k : Kd} (g : Good k) : GoodF (inF k []) := by
  intro n hn
  rw [frF_in k [] [] (fun _ => Iff.rfl)] at hn
  exact frees_good k [] g n hn
theorem gEq_encF {a b : Kd} (g1 : Good a) (g2 : Good b) (h1 : a.ht ≤ 30) : gEq (encF (inF a [])) (encF (inF b [])) = some (.bl (decide (inF a [] = inF b []))) := by
  have hd := dep_encF (inF a [])
  rw [inF_ht] at hd
  rw [gEq_of (okD_encF _ (goodF_in g1)) (okD_encF _ (goodF_in g2)) (by omega)]
  congr 2
  by_cases h : inF a [] = inF b []
  · rw [h, deq_refl _ (okD_encF _ (goodF_in g2)), decide_eq_true rfl]
  · rw [decide_eq_false h]
    cases q : deq (encF (inF a [])) (encF (inF b [])) with
    | false => rfl
    | true => exact absurd (encF_inj _ _ (deq_eq _ _ (sD_encF _) (sD_encF _) q)) h
theorem law_same {a b : Kd} (h1 : Fine a) (h2 : Fine b) : decide (lawK a = lawK b) = decide (inF a [] = inF b []) := by
  refine decide_eq_decide.mpr ⟨fun h => ?_, fun h => ?_⟩
  · rw [← in_law h1, ← in_law h2, h]
  · unfold lawK
    rw [h]
end Fro

namespace Fro
open PySem PySem.Spec L2

/-! ### the plain form of kinds some of whose names are numbers -/
structure ThreeQ (f0 : Nat) (bs : List Bd) (e1 e2 : Ren) (f : Nat) : Prop where
  a : ∀ n, lkR e1 n = (look bs n).map fun b => mark b.no
  b : ∀ x ∈ bs, lkR e2 (mark x.no) = some x.lt
  c : ∀ n, Nq f0 n → lkR e2 n = none
  d : ∀ x ∈ bs, x.no < f
  e : f0 ≤ f
theorem ThreeQ.up {f0 : Nat} {bs : List Bd} {e1 e2 : Ren} {f g : Nat} (h : ThreeQ f0 bs e1 e2 f) (hg : f ≤ g) : ThreeQ f0 bs e1 e2 g := ⟨h.a, h.b, h.c, fun x hx => Nat.lt_of_lt_of_le (h.d x hx) hg, Nat.le_trans h.e hg⟩
theorem look_push {bs : List Bd} {e1 : Ren} (h : ∀ n, lkR e1 n = (look bs n).map fun b => mark b.no) (n l : Tx) (f : Nat) (m : Tx) : lkR ((n, mark f) :: cutR e1 n) m = (look (⟨n, f, l⟩ :: bs) m).map fun b => mark b.no := by
  show (if n = m then some (mark f) else lkR (cutR e1 n) m) = (look (⟨n, f, l⟩ :: bs) m).map _
  unfold look
  rw [List.find?_cons]
  by_cases hn : n = m
  · rw [if_pos hn, decide_eq_true hn]; rfl
  · rw [if_neg hn, decide_eq_false hn, lkR_cut, if_neg (fun z => hn z.symm), h m]
    rfl
theorem ThreeQ.push {f0 : Nat} {bs : List Bd} {e1 e2 : Ren} {f : Nat} (h : ThreeQ f0 bs e1 e2 f) (hf : f < 9000) (n l : Tx) : ThreeQ f0 (⟨n, f, l⟩ :: bs) ((n, mark f) :: cutR e1 n) ((mark f, l) :: cutR e2 (mark f)) (f + 1) := by
  refine ⟨look_push h.a n l f, fun x hx => ?_, fun m hm => ?_, fun x hx => ?_, Nat.le_succ_of_le h.e⟩
  · show (if mark f = mark x.no then some l else lkR (cutR e2 (mark f)) (mark x.no)) = some x.lt
    rcases List.mem_cons.mp hx with rfl | hx
    · exact if_pos rfl
    · have hlt := h.d x hx
      have ne : mark f ≠ mark x.no := fun z => by
        have := mark_inj (by omega) (by omega) z
        omega
      rw [if_neg ne, lkR_cut, if_neg (fun z => ne z.symm)]
      exact h.b x hx
  · show (if mark f = m then some l else lkR (cutR e2 (mark f)) m) = none
    have ne : mark f ≠ m := fun z => nq_ne hm h.e hf z.symm
    rw [if_neg ne, lkR_cut, if_neg (fun z => ne z.symm)]
    exact h.c m hm
  · rcases List.mem_cons.mp hx with rfl | hx
    · exact Nat.lt_succ_self _
    · exact Nat.lt_succ_of_lt (h.d x hx)
theorem three_sameQ (f0 : Nat) : ∀ (k : Kd) (bs : List Bd) (e1 e2 : Ren) (f : Nat) (t fr : List Tx), GoodQ f0 k → ThreeQ f0 bs e1 e2 f → f + k.qs < 9000 → (∀ x, x ∈ t ↔ x ∈ fr ++ bs.map Bd.lt) → rlE (mkE k e1 f).1 e2 t = outF (inF k (bs.map Bd.nm)) (bs.map Bd.lt) fr
  | .var n, bs, e1, e2, f, t, fr, g, h, _, _ => by
    have hn := g n List.mem_cons_self
    have q := look_idx n bs
    have qa := h.a n
    show Kd.var (rnm e2 (rnm e1 n)) = outF (inF (.var n) _) _ _
    unfold inF rnm
    cases ql : look bs n with
    | none =>
      rw [ql] at q qa
      dsimp only at q
      rw [q, qa]
      show Kd.var ((lkR e2 n).getD n) = Kd.var n
      rw [h.c n hn]
      rfl
    | some b =>
      rw [ql] at q qa
      dsimp only at q
      obtain ⟨i, h1, h2, h3⟩ := q
      rw [h1, qa]
      show Kd.var ((lkR e2 (mark b.no)).getD (mark b.no)) = Kd.var (((bs.map Bd.lt)[i]?).getD [])
      rw [h.b b h3, h2]
      rfl
  | .con0 _, _, _, _, _, _, _, _, _, _, _ => rfl
  | .list k, bs, e1, e2, f, t, fr, g, h, hf, ht => by
    show Kd.list (rlE (mkE k e1 f).1 e2 t) = Kd.list (outF (inF k _) _ _)
    rw [three_sameQ f0 k bs e1 e2 f t fr g h hf ht]
  | .con2 c a b, bs, e1, e2, f, t, fr, g, h, hf, ht => by
    have hq : (Kd.con2 c a b).qs = a.qs + b.qs := rfl
    show Kd.con2 c (rlE (mkE a e1 f).1 e2 t) (rlE (mkE b e1 (mkE a e1 f).2).1 e2 t) = Kd.con2 c (outF (inF a _) _ _) (outF (inF b _) _ _)
    rw [three_sameQ f0 a bs e1 e2 f t fr (fun x hx => g x (List.mem_append_left _ hx)) h (by omega) ht,
      three_sameQ f0 b bs e1 e2 _ t fr (fun x hx => g x (List.mem_append_right _ hx)) (h.up (by rw [mkE_next]; omega)) (by rw [mkE_next]; omega) ht]
  | .all n k, bs, e1, e2, f, t, fr, g, h, hf, ht => by
    have hq : (Kd.all n k).qs = k.qs + 1 := rfl
    have e : firstL t = firstL (fr ++ bs.map Bd.lt) := firstL_congr ht
    show Kd.all (firstL t) (rlE (mkE k ((n, mark f) :: cutR e1 n) (f + 1)).1 ((mark f, firstL t) :: cutR e2 (mark f)) (t ++ [firstL t])) = Kd.all (firstL (fr ++ bs.map Bd.lt)) (outF (inF k (n :: bs.map Bd.nm)) (firstL (fr ++ bs.map Bd.lt) :: bs.map Bd.lt) fr)
    rw [← e]
    congr 1
    refine three_sameQ f0 k (⟨n, f, firstL t⟩ :: bs) _ _ (f + 1) _ fr (fun x hx => g x (List.mem_cons_of_mem _ hx)) (h.push (by omega) n (firstL t)) (by omega) fun x => ?_
    rw [List.mem_append, List.mem_singleton, ht x, List.mem_append, List.mem_append, List.map_cons, List.mem_cons]
    exact ⟨fun z => z.elim (fun z => z.elim .inl (fun y => .inr (.inr y))) (fun y => .inr (.inl y)), fun z => z.elim (fun y => .inl (.inl y)) (fun y => y.elim .inr (fun w => .inl (.inr w)))⟩
theorem plain_lawQ (f0 : Nat) (k : Kd) (g : GoodQ f0 k) (h : f0 + k.qs < 1000) : rlE (mkE k [] f0).1 [] (frees k []) = lawK k := by
  unfold lawK
  rw [frF_in k [] [] (fun _ => Iff.rfl)]
  exact three_sameQ f0 k [] [] [] f0 (frees k []) (frees k []) g ⟨fun n => rfl, fun x hx => (by cases hx), fun n _ => rfl, fun x hx => (by cases hx), Nat.le_refl _⟩ (by omega) (fun x => by simp)
structure FineQ (f : Nat) (k : Kd) : Prop where
  good : GoodQ f k
  ht : k.ht ≤ 30
  lvs : k.lvs ≤ 900
  qs : f + k.qs < 900
  few : (frees k []).length + k.ht < 130
theorem plain_of_evQ {f : Nat} {k : Kd} (h : FineQ f k) (S : Sto) : f_plain_of [.v (enc k)] S = .ok (.v (enc (lawK k))) S := by
  obtain ⟨f1, _, h2, h3, h4⟩ := marked_evQ f 0 k h.good h.ht (by have := nms_len k; have := h.lvs; have := h.qs; omega) (Nat.zero_le _) h.qs
  have hq := h.qs
  have e2 := free_of_ev k 30 [] S h.ht (by simp; have := h.ht; omega) (by have := h.lvs; omega)
  obtain ⟨ok, hb⟩ := mkE_ok k [] f1 (fun n hn => (h.good n hn).1) (fun n y z => by cases z) (by omega)
  have e3 := relettered_ev (mkE k [] f1).1 30 [] (frees k []) S ok hb (fun n y z => by cases z) (by rw [mkE_ht]; exact h.ht) (by rw [mkE_ht]; exact h.ht) (by rw [mkE_ht]; exact h.few)
  rw [renK_nil, plain_lawQ f1 k h3 (by omega)] at e3
  exact e_fdef_v (e_ret (e_call (ws := [.v (enc (mkE k [] f1).1), .v (.lst (stL (frees k [])))]) (e_cons (e_ix (d := .tup [enc (mkE k [] f1).1, .int (mkE k [] f1).2]) (e_call (ws := [.v (enc k)]) rfl rfl (h4 S) rfl) rfl rfl) (e_cons (e_call (ws := [.v (enc k)]) rfl rfl e2 rfl) rfl)) rfl e3 rfl))
/-! ### kinds put for names, in forms -/
def fillF : Fm → (Tx → Option Fm) → Fm
  | .var n, s => (s n).getD (.var n)
  | .at i, _ => .at i
  | .con0 c, _ => .con0 c
  | .list f, s => .list (fillF f s)
  | .con2 c a b, s => .con2 c (fillF a s) (fillF b s)
  | .all f, s => .all (fillF f s)
def subF (es : Sub) : Tx → Option Fm := fun n => (lkK es n).map fun k => inF k []
theorem idxT_drop {x : Tx} {ms : List Tx} (h : x ∉ ms) : ∀ ds : List Tx, idxT x (ds ++ ms) = idxT x ds
  | [] => by rw [List.nil_append, idxT_none h]; rfl
  | d :: ds => by
    rw [List.cons_append]
    unfold idxT
    rw [idxT_drop h ds]
theorem inF_drop {ms : List Tx} : ∀ (k : Kd) (ds : List Tx), (∀ x ∈ k.nms, x ∉ ms) → inF k (ds ++ ms) = inF k ds
  | .var n, ds, h => by
    unfold inF
    rw [idxT_drop (h n List.mem_cons_self)]
  | .con0 _, _, _ => rfl
  | .list k, ds, h => by
    show Fm.list (inF k (ds ++ ms)) = _
    rw [inF_drop k ds h]
    rfl
  | .con2 c a b, ds, h => by
    show Fm.con2 c (inF a (ds ++ ms)) (inF b (ds ++ ms)) = _
    rw [inF_drop a ds (fun x hx => h x (List.mem_append_left _ hx)), inF_drop b ds (fun x hx => h x (List.mem_append_right _ hx))]
    rfl
  | .all n k, ds, h => by
    show Fm.all (inF k ((n :: ds) ++ ms)) = _
    rw [inF_drop k (n :: ds) (fun x hx => h x (List.mem_cons_of_mem _ hx))]
    rfl
theorem lkK_mem {t : Tx} {v : Kd} : ∀ {es : Sub}, lkK es t = some v → (t, v) ∈ es
  | [], h => by cases h
  | (k, x) :: r, h => by
    have h' : (if k = t then some x else lkK r t) = some v := h
    split at h'
    · rename_i e
      cases h'
      rw [e]
      exact List.mem_cons_self
    · exact List.mem_cons_of_mem _ (lkK_mem h')
theorem lkK_cut (n m : Tx) : ∀ es : Sub, lkK (cutS' es n) m = if m = n then none else lkK es m
  | [] => by simp [cutS', lkK]
  | (k, x) :: r => by
    have ih := lkK_cut n m r
    unfold cutS' at ih ⊢
    by_cases hk : k = n
    · rw [List.filter_cons_of_neg (by simp [hk]), ih]
      by_cases hm : m = n
      · rw [if_pos hm, if_pos hm]
      · rw [if_neg hm, if_neg hm]
        show _ = if k = m then some x else lkK r m
        rw [if_neg (fun z => hm (by rw [← z, hk]))]
    · rw [List.filter_cons_of_pos (by simp [hk])]
      show (if k = m then some x else lkK (r.filter _) m) = if m = n then none else if k = m then some x else lkK r m
      rw [ih]
      by_cases hm : m = n
      · rw [if_pos hm, if_pos hm, if_neg (fun z => hk (by rw [z, hm]))]
      · rw [if_neg hm, if_neg hm]
theorem in_ex (f0 : Nat) (es : Sub) (hes : ∀ e ∈ es, GoodQ f0 e.2) : ∀ (k : Kd) (bs : List Bd) (e1 : Ren) (es' : Sub) (f : Nat), GoodQ f0 k → f0 ≤ f → f + k.qs < 9000 →
    (∀ n, lkR e1 n = (look bs n).map fun b => mark b.no) → (∀ x ∈ bs, f0 ≤ x.no ∧ x.no < f ∧ x.lt = mark x.no) → (bs.map Bd.lt).Nodup → (∀ n, lkK es' n = if n ∈ bs.map Bd.lt then none else lkK es n) →
    inF (exK (mkE k e1 f).1 es') (bs.map Bd.lt) = fillF (inF k (bs.map Bd.nm)) (subF es)
  | .var n, bs, e1, es', f, g, hf, hq, h1, h2, h3, h4 => by
    have hn := g n List.mem_cons_self
    have q := look_idx n bs
    have qa := h1 n
    have out : ∀ y, Nq f0 y → y ∉ bs.map Bd.lt := fun y hy hm => by
      obtain ⟨b, hb, rfl⟩ := List.mem_map.mp hm
      obtain ⟨z1, z2, z3⟩ := h2 b hb
      exact nq_ne hy z1 (by have : f + 0 < 9000 := by { have hq' : (Kd.var n).qs = 0 := rfl; omega }; omega) z3
    show inF (exK (.var (rnm e1 n)) es') _ = fillF (inF (.var n) _) _
    unfold rnm
    rw [qa]
    cases ql : look bs n with
    | none =>
      rw [ql] at q
      dsimp only at q
      show inF ((lkK es' n).getD (.var n)) _ = _
      rw [h4 n, if_neg (out n hn)]
      have e0 : inF (.var n) (bs.map Bd.nm) = .var n := by unfold inF; rw [q]
      rw [e0]
      show _ = ((lkK es n).map fun k => inF k []).getD (.var n)
      cases qe : lkK es n with
      | none =>
        show inF (.var n) (bs.map Bd.lt) = _
        unfold inF
        rw [idxT_none (out n hn)]
        rfl
      | some v =>
        show inF v ([] ++ bs.map Bd.lt) = inF v []
        exact inF_drop v [] fun x hx => out x (hes _ (lkK_mem qe) x hx)
    | some b =>
      rw [ql] at q
      dsimp only at q
      obtain ⟨i, a1, a2, a3⟩ := q
      obtain ⟨z1, z2, z3⟩ := h2 b a3
      have e0 : inF (.var n) (bs.map Bd.nm) = .at i := by unfold inF; rw [a1]
      rw [e0]
      show inF ((lkK es' (mark b.no)).getD (.var (mark b.no))) _ = .at i
      rw [h4, if_pos (List.mem_map.mpr ⟨b, a3, z3⟩)]
      show inF (.var (mark b.no)) (bs.map Bd.lt) = .at i
      unfold inF
      rw [idxT_at h3 (z3 ▸ a2)]
  | .con0 _, _, _, _, _, _, _, _, _, _, _, _ => rfl
  | .list k, bs, e1, es', f, g, hf, hq, h1, h2, h3, h4 => by
    show Fm.list (inF (exK (mkE k e1 f).1 es') _) = Fm.list _
    rw [in_ex f0 es hes k bs e1 es' f g hf hq h1 h2 h3 h4]
  | .con2 c a b, bs, e1, es', f, g, hf, hq, h1, h2, h3, h4 => by
    have hqq : (Kd.con2 c a b).qs = a.qs + b.qs := rfl
    show Fm.con2 c (inF (exK (mkE a e1 f).1 es') _) (inF (exK (mkE b e1 (mkE a e1 f).2).1 es') _) = Fm.con2 c _ _
    rw [in_ex f0 es hes a bs e1 es' f (fun x hx => g x (List.mem_append_left _ hx)) hf (by omega) h1 h2 h3 h4,
      in_ex f0 es hes b bs e1 es' _ (fun x hx => g x (List.mem_append_right _ hx)) (by rw [mkE_next]; omega) (by rw [mkE_next]; omega) h1 (fun x hx => by
        obtain ⟨z1, z2, z3⟩ := h2 x hx
        exact ⟨z1, by rw [mkE_next]; omega, z3⟩) h3 h4]
  | .all n k, bs, e1, es', f, g, hf, hq, h1, h2, h3, h4 => by
    have hqq : (Kd.all n k).qs = k.qs + 1 := rfl
    have hnot : mark f ∉ bs.map Bd.lt := fun hm => by
      obtain ⟨b, hb, e⟩ := List.mem_map.mp hm
      obtain ⟨z1, z2, z3⟩ := h2 b hb
      have := mark_inj (by omega) (by omega) (z3.symm.trans e)
      omega
    show Fm.all (inF (exK (mkE k ((n, mark f) :: cutR e1 n) (f + 1)).1 (cutS' es' (mark f))) (mark f :: bs.map Bd.lt)) = Fm.all (fillF (inF k (n :: bs.map Bd.nm)) _)
    congr 1
    refine in_ex f0 es hes k (⟨n, f, mark f⟩ :: bs) _ _ (f + 1) (fun x hx => g x (List.mem_cons_of_mem _ hx)) (by omega) (by omega) (look_push h1 n (mark f) f) (fun x hx => ?_) (List.nodup_cons.mpr ⟨hnot, h3⟩) (fun m => ?_)
    · rcases List.mem_cons.mp hx with rfl | hx
      · exact ⟨hf, Nat.lt_succ_self _, rfl⟩
      · obtain ⟨z1, z2, z3⟩ := h2 x hx
        exact ⟨z1, by omega, z3⟩
    · rw [lkK_cut, h4, List.map_cons]
      by_cases hm : m = mark f
      · rw [if_pos hm, if_pos (by rw [hm]; exact List.mem_cons_self)]
      · rw [if_neg hm]
        by_cases hb : m ∈ bs.map Bd.lt
        · rw [if_pos hb, if_pos (List.mem_cons_of_mem _ hb)]
        · rw [if_neg hb, if_neg (fun z => (List.mem_cons.mp z).elim hm hb)]
/-! ### sizes -/
theorem cut_sub {es : Sub} {n : Tx} {e : Tx × Kd} (h : e ∈ cutS' es n) : e ∈ es := (List.mem_filter.mp h).1
theorem exK_ht (h : Nat) (hh : 1 ≤ h) : ∀ (k : Kd) (es : Sub), (∀ e ∈ es, e.2.ht ≤ h) → (exK k es).ht + 1 ≤ k.ht + h
  | .var n, es, he => by
    show ((lkK es n).getD (.var n)).ht + 1 ≤ 1 + h
    cases q : lkK es n with
    | none => show 1 + 1 ≤ 1 + h; omega
    | some v =>
      have := he _ (lkK_mem q)
      show v.ht + 1 ≤ 1 + h
      dsimp only at this
      omega
  | .con0 _, es, he => by show 1 + 1 ≤ 1 + h; omega
  | .list k, es, he => by
    have := exK_ht h hh k es he
    show (exK k es).ht + 1 + 1 ≤ k.ht + 1 + h
    omega
  | .con2 _ a b, es, he => by
    have h1 := exK_ht h hh a es he
    have h2 := exK_ht h hh b es he
    show max (exK a es).ht (exK b es).ht + 1 + 1 ≤ max a.ht b.ht + 1 + h
    omega
  | .all n k, es, he => by
    have := exK_ht h hh k (cutS' es n) fun e h => he e (cut_sub h)
    show (exK k (cutS' es n)).ht + 1 + 1 ≤ k.ht + 1 + h
    omega
theorem exK_nms : ∀ (k : Kd) (es : Sub), ∀ x ∈ (exK k es).nms, x ∈ k.nms ∨ ∃ e ∈ es, x ∈ e.2.nms
  | .var n, es, x, hx => by
    have hx' : x ∈ ((lkK es n).getD (.var n)).nms := hx
    cases q : lkK es n with
    | none => rw [q] at hx'; exact .inl hx'
    | some v => rw [q] at hx'; exact .inr ⟨_, lkK_mem q, hx'⟩
  | .con0 _, es, x, hx => by cases hx
  | .list k, es, x, hx => exK_nms k es x hx
  | .con2 _ a b, es, x, hx => by
    rcases List.mem_append.mp hx with z | z
    · exact (exK_nms a es x z).imp (List.mem_append_left _) id
    · exact (exK_nms b es x z).imp (List.mem_append_right _) id
  | .all n k, es, x, hx => by
    rcases List.mem_cons.mp hx with z | z
    · exact .inl (by rw [z]; exact List.mem_cons_self)
    · exact (exK_nms k _ x z).imp (List.mem_cons_of_mem _) fun ⟨e, h1, h2⟩ => ⟨e, cut_sub h1, h2⟩
theorem mkE_q (f0 F : Nat) (hF : f0 ≤ F) (hF2 : F ≤ 1000) : ∀ (k : Kd) (env : Ren) (f : Nat), GoodQ f0 k → Vals (Nq F) env → f + k.qs ≤ F → GoodQ F (mkE k env f).1
  | .var n, env, f, g, hv, hf => fun x hx => by
    have : x = rnm env n := by simpa [mkE, Kd.nms] using hx
    rw [this]
    unfold rnm
    cases q : lkR env n with
    | none => exact nq_up (g n List.mem_cons_self) hF
    | some y => exact hv n y q
  | .con0 _, _, _, _, _, _ => fun x hx => by cases hx
  | .list k, env, f, g, hv, hf => mkE_q f0 F hF hF2 k env f g hv hf
  | .con2 c a b, env, f, g, hv, hf => fun x hx => by
    have hqq : (Kd.con2 c a b).qs = a.qs + b.qs := rfl
    rcases List.mem_append.mp hx with z | z
    · exact mkE_q f0 F hF hF2 a env f (fun y hy => g y (List.mem_append_left _ hy)) hv (by omega) x z
    · exact mkE_q f0 F hF hF2 b env _ (fun y hy => g y (List.mem_append_right _ hy)) hv (by rw [mkE_next]; omega) x z
  | .all n k, env, f, g, hv, hf => fun x hx => by
    have hqq : (Kd.all n k).qs = k.qs + 1 := rfl
    rcases List.mem_cons.mp hx with z | z
    · rw [z]; exact nq_mark (by omega) (by omega)
    · exact mkE_q f0 F hF hF2 k _ (f + 1) (fun y hy => g y (List.mem_cons_of_mem _ hy)) (vals_cons hv (nq_mark (by omega) (by omega))) (by omega) x z
theorem kd_sz : ∀ k : Kd, k.lvs ≤ 2 ^ (k.ht - 1) ∧ k.qs ≤ 2 ^ (k.ht - 1)
  | .var _ => ⟨Nat.le_refl _, Nat.zero_le _⟩
  | .con0 _ => ⟨Nat.le_refl _, Nat.zero_le _⟩
  | .list k => by
    obtain ⟨h1, h2⟩ := kd_sz k
    have : 2 ^ (k.ht - 1) ≤ 2 ^ (k.ht + 1 - 1) := Nat.pow_le_pow_right (by decide) (by omega)
    exact ⟨Nat.le_trans h1 this, Nat.le_trans h2 this⟩
  | .con2 _ a b => by
    obtain ⟨h1, h2⟩ := kd_sz a
    obtain ⟨h3, h4⟩ := kd_sz b
    have pa := a.ht_pos
    have pb := b.ht_pos
    have e1 : 2 ^ (a.ht - 1) ≤ 2 ^ (max a.ht b.ht - 1) := Nat.pow_le_pow_right (by decide) (by omega)
    have e2 : 2 ^ (b.ht - 1) ≤ 2 ^ (max a.ht b.ht - 1) := Nat.pow_le_pow_right (by decide) (by omega)
    have e3 : 2 ^ (max a.ht b.ht + 1 - 1) = 2 ^ (max a.ht b.ht - 1) * 2 := by rw [← Nat.pow_succ]; congr 1; omega
    refine ⟨?_, ?_⟩
    · show a.lvs + b.lvs ≤ 2 ^ (max a.ht b.ht + 1 - 1)
      omega
    · show a.qs + b.qs ≤ 2 ^ (max a.ht b.ht + 1 - 1)
      omega
  | .all n k => by
    obtain ⟨h1, h2⟩ := kd_sz k
    have pk := k.ht_pos
    have e3 : 2 ^ (k.ht + 1 - 1) = 2 ^ (k.ht - 1) * 2 := by rw [← Nat.pow_succ]; congr 1; omega
    have e4 : 1 ≤ 2 ^ (k.ht - 1) := Nat.one_le_two_pow
    refine ⟨?_, ?_⟩
    · show k.lvs ≤ 2 ^ (k.ht + 1 - 1)
      omega
    · show k.qs + 1 ≤ 2 ^ (k.ht + 1 - 1)
      omega
theorem kd_sz9 {k : Kd} (h : k.ht ≤ 9) : k.lvs ≤ 256 ∧ k.qs ≤ 256 := by
  obtain ⟨h1, h2⟩ := kd_sz k
  have : 2 ^ (k.ht - 1) ≤ 2 ^ 8 := Nat.pow_le_pow_right (by decide) (by omega)
  have e : (2 : Nat) ^ 8 = 256 := by decide
  omega
theorem frF_nodup : ∀ f : Fm, (frF f).Nodup
  | .var _ => by simp [frF]
  | .at _ => List.nodup_nil
  | .con0 _ => List.nodup_nil
  | .list f => frF_nodup f
  | .con2 _ a b => by
    show (frF a ++ (frF b).filter fun n => !decide (n ∈ frF a)).Nodup
    rw [List.nodup_append]
    refine ⟨frF_nodup a, List.Sublist.nodup List.filter_sublist (frF_nodup b), fun x hx y hy e => ?_⟩
    have := (List.mem_filter.mp hy).2
    rw [← e] at this
    simp [hx] at this
  | .all f => frF_nodup f
theorem mem_fr2 {c : C2} {a b : Fm} {x : Tx} : x ∈ frF (.con2 c a b) ↔ x ∈ frF a ∨ x ∈ frF b := by
  show x ∈ frF a ++ (frF b).filter _ ↔ _
  rw [List.mem_append, List.mem_filter]
  constructor
  · exact fun h => h.imp id And.left
  · intro h
    by_cases q : x ∈ frF a
    · exact .inl q
    · exact .inr ⟨h.resolve_left q, by simp [q]⟩
theorem mem_fill : ∀ (f : Fm) (s : Tx → Option Fm) (x : Tx), x ∈ frF (fillF f s) ↔ ∃ n ∈ frF f, x ∈ frF ((s n).getD (.var n))
  | .var n, s, x => by
    show x ∈ frF ((s n).getD (.var n)) ↔ ∃ m ∈ [n], _
    simp
  | .at _, s, x => by
    show x ∈ [] ↔ ∃ m ∈ [], _
    simp
  | .con0 _, s, x => by
    show x ∈ [] ↔ ∃ m ∈ [], _
    simp
  | .list f, s, x => mem_fill f s x
  | .con2 c a b, s, x => by
    show x ∈ frF (.con2 c (fillF a s) (fillF b s)) ↔ _
    rw [mem_fr2, mem_fill a s x, mem_fill b s x]
    constructor
    · rintro (⟨n, h1, h2⟩ | ⟨n, h1, h2⟩)
      · exact ⟨n, mem_fr2.mpr (.inl h1), h2⟩
      · exact ⟨n, mem_fr2.mpr (.inr h1), h2⟩
    · rintro ⟨n, h1, h2⟩
      exact (mem_fr2.mp h1).imp (fun z => ⟨n, z, h2⟩) fun z => ⟨n, z, h2⟩
  | .all f, s, x => mem_fill f s x
theorem fr_few {f : Fm} {ns : List Tx} (h : ∀ x ∈ frF f, x ∈ ns) : (frF f).length ≤ ns.length := (frF_nodup f).length_le_of_subset h
end Fro

namespace Fro
open PySem PySem.Spec L2

/-! ### kinds put for names -/
def putF (k : Kd) (es : Sub) : Fm := fillF (inF k []) (subF es)
def putK (k : Kd) (es : Sub) : Kd := outF (putF k es) [] (frF (putF k es))
theorem nums_of (f : Nat) (hf : f ≤ 900) (es : Sub) (h : ∀ e ∈ es, GoodQ f e.2 ∧ e.2.ht ≤ 9) : ∃ nm : Kd → List Nat, ∀ e ∈ es, (nm e.2).length ≤ 512 ∧ (∀ g ∈ nm e.2, g < f) ∧ (∀ n ∈ e.2.nms, ([48, 46] : Tx).isPrefixOf n = true → ∃ g ∈ nm e.2, n = mark g) ∧ ∀ S, f_numbers_in 30 [.v (enc e.2)] S = .ok (.v (.lst (nuL (nm e.2)))) S := by
  classical
  let P : Kd → List Nat → Prop := fun k ns => ns.length ≤ 512 ∧ (∀ g ∈ ns, g < f) ∧ (∀ n ∈ k.nms, ([48, 46] : Tx).isPrefixOf n = true → ∃ g ∈ ns, n = mark g) ∧ ∀ S, f_numbers_in 30 [.v (enc k)] S = .ok (.v (.lst (nuL ns))) S
  refine ⟨fun k => if q : ∃ ns, P k ns then Classical.choose q else [], fun e he => ?_⟩
  obtain ⟨g, hh⟩ := h e he
  have hs := kd_sz9 hh
  have hn := nms_len e.2
  obtain ⟨ns, a1, a2, a3, a4⟩ := numbers_evQ f hf e.2 30 g (by omega) (by omega)
  have q : ∃ ns, P e.2 ns := ⟨ns, by omega, a2, a3, a4⟩
  show P e.2 (if q : ∃ ns, P e.2 ns then Classical.choose q else [])
  rw [dif_pos q]
  exact Classical.choose_spec q
theorem putnums_ev (nm : Kd → List Nat) (es : Sub) (hl : es.length ≤ 1000) (h : ∀ e ∈ es, (nm e.2).length ≤ 512 ∧ ∀ S, f_numbers_in 30 [.v (enc e.2)] S = .ok (.v (.lst (nuL (nm e.2)))) S) (a : W) (w2 : Option W) (S : Sto) :
    cLkS 1 (cAsg (cComp2 (itV (cVar 1)) (gN 3) cYes (itL (cCall 1 (f_numbers_in 30) (cCons (cVar 3) cNil) [])) (gN 4) cYes (op2 gAdd (cVar 4) (cC (.int 1))) [3, 4] [4]) (gN 2)) [some a, some (.v (.dct (encE es))), w2, none, none] S =
      .nx [some (unlk a), some (.v (.dct (encE es))), some (.v (.lst (nuL ((es.flatMap fun e => nm e.2).map (· + 1))))), none, none] S := by
  have len : (es.flatMap fun e => nm e.2).length ≤ es.length * 512 := by
    clear hl
    induction es with
    | nil => simp
    | cons e r ih =>
      rw [List.flatMap_cons, List.length_append, List.length_cons]
      have h1 := (h e List.mem_cons_self).1
      have h2 := ih fun x hx => h x (List.mem_cons_of_mem _ hx)
      omega
  have fm : (es.map fun e => (enc e.2, nuL (nm e.2))).flatMap (·.2) = nuL (es.flatMap fun e => nm e.2) := by
    rw [List.flatMap_map]
    unfold nuL
    rw [List.map_flatMap]
  have q := comp2_ev (it := itV (cVar 1)) (dg := gN 3) (it1 := itL (cCall 1 (f_numbers_in 30) (cCons (cVar 3) cNil) [])) (dg1 := gN 4) (te := op2 gAdd (cVar 4) (cC (.int 1))) (vs := [3, 4]) (vs1 := [4]) (δ := [some a, some (.lk (encE es)), w2, none, none]) (S := S) (S1 := S)
    (es.map fun e => (enc e.2, nuL (nm e.2))) (fun d => match d with
      | .int i => .int (i + 1)
      | d => d) (by
      show R.ok (valsD (encE es)) S = _
      unfold valsD encE
      rw [List.map_map, List.map_map]
      rfl) (by rw [fm]; unfold nuL; rw [List.length_map]; omega) (fun p hp acc => by
      obtain ⟨e, he, rfl⟩ := List.mem_map.mp hp
      refine ⟨_, rfl, e_itL (e_call (ws := [.v (enc e.2)]) rfl rfl ((h e he).2 _) rfl), fun x hx acc => ?_⟩
      obtain ⟨n, hn, rfl⟩ := List.mem_map.mp hx
      exact ⟨_, rfl, e_op2v rfl rfl rfl⟩)
  rw [fm] at q
  have e2 : (nuL (es.flatMap fun e => nm e.2)).map (fun d => match d with
      | .int i => .int (i + 1)
      | d => d) = nuL ((es.flatMap fun e => nm e.2).map (· + 1)) := by
    unfold nuL
    rw [List.map_map, List.map_map]
    exact List.map_congr_left fun x _ => by simp
  rw [e2] at q
  show okLkS (cAsg _ (gN 2) [some a, some (.lk (encE es)), w2, none, none] S) = _
  rw [e_set q]
  rfl
theorem put_of_ev {f h : Nat} {k : Kd} {es : Sub} (gk : GoodQ f k) (ge : ∀ e ∈ es, GoodQ f e.2 ∧ e.2.ht ≤ h) (ok : OkE es) (hh : 1 ≤ h) (ht : k.ht + h ≤ 10) (hf : f ≤ 100) (few : (frF (putF k es)).length ≤ 100) (S : Sto) :
    f_put_of [.v (enc k), .v (.dct (encE es))] S = .ok (.v (enc (putK k es))) S := by
  obtain ⟨nm, hn⟩ := nums_of f (by omega) es fun e he => ⟨(ge e he).1, by have := (ge e he).2; have := k.ht_pos; omega⟩
  have c1 := putnums_ev nm es ok.2.2 (fun e he => ⟨(hn e he).1, (hn e he).2.2.2⟩) (.v (enc k)) none S
  generalize hall : (es.flatMap fun e => nm e.2) = all at c1
  have hlt : ∀ g ∈ all, g < f := fun g hg => by
    rw [← hall] at hg
    obtain ⟨e, he, hg⟩ := List.mem_flatMap.mp hg
    exact (hn e he).2.1 g hg
  obtain ⟨r, r1, r2, r3, r4⟩ := gMax_nat (m := 0) hlt (Nat.zero_le f)
  have sk := kd_sz9 (k := k) (by omega)
  have nk := nms_len k
  obtain ⟨f1, m1, m2, m3, m4⟩ := marked_evQ f r k gk (by omega) (by omega) r3 (by omega)
  have ge1 : ∀ e ∈ es, GoodQ f1 e.2 := fun e he n hm => ⟨((ge e he).1 n hm).1, by
    cases hp : ([48, 46] : Tx).isPrefixOf n with
    | false => exact .inl rfl
    | true =>
      obtain ⟨x, x1, x2⟩ := (hn e he).2.2.1 n hm hp
      have : x ∈ all := by rw [← hall]; exact List.mem_flatMap.mpr ⟨e, he, x1⟩
      exact .inr ⟨x, Nat.lt_of_lt_of_le (r4 x this) m1, x2⟩⟩
  have q1 : GoodQ (f1 + k.qs) (mkE k [] f1).1 := mkE_q f1 (f1 + k.qs) (by omega) (by omega) k [] f1 m3 (fun n y z => by cases z) (Nat.le_refl _)
  have ee := exchange_ev (mkE k [] f1).1 30 es S (fun n hm => (q1 n hm).1) ok (by rw [mkE_ht]; omega)
  have ein : inF (exK (mkE k [] f1).1 es) [] = putF k es := in_ex f1 es ge1 k [] [] es f1 m3 (Nat.le_refl _) (by omega) (fun n => rfl) (fun x hx => by cases hx) List.nodup_nil (fun n => by simp)
  have h2 : (exK (mkE k [] f1).1 es).ht ≤ 9 := by
    have := exK_ht h hh (mkE k [] f1).1 es fun e he => (ge e he).2
    rw [mkE_ht] at this
    omega
  have s2 := kd_sz9 h2
  have fq : FineQ (f1 + k.qs) (exK (mkE k [] f1).1 es) := by
    refine ⟨fun n hm => ?_, by omega, by omega, by omega, ?_⟩
    · rcases exK_nms _ _ n hm with z | ⟨e, he, z⟩
      · exact q1 n z
      · exact nq_up (ge1 e he n z) (by omega)
    · rw [← frF_in _ [] [] (fun _ => Iff.rfl), ein]
      omega
  have ep := plain_of_evQ fq S
  have el : lawK (exK (mkE k [] f1).1 es) = putK k es := by
    unfold lawK putK
    rw [ein]
  rw [el] at ep
  refine e_fdef_v (e_seq_nx c1 (e_ret (e_call (ws := [.v (enc (exK (mkE k [] f1).1 es))]) (e_cons (e_call (S1 := S) (ws := [.v (enc (mkE k [] f1).1), .v (.dct (encE es))]) (e_cons (e_ix (S1 := S) (d := .tup [enc (mkE k [] f1).1, .int (mkE k [] f1).2]) (e_call (S1 := S) (ws := [.v (enc k), .v (.int r)]) (e_cons rfl (e_cons (e_blt (ws := [.v (.lst (nuL (0 :: all.map (· + 1))))]) (e_cons (e_op2v (d := .lst [.int 0]) (e := .lst (nuL (all.map (· + 1)))) rfl rfl ?_) rfl) rfl r1) rfl)) rfl (m4 S) rfl) rfl rfl) (e_cons rfl rfl)) rfl ee rfl) rfl) rfl ep rfl)))
  have len : (nuL (all.map (· + 1))).length ≤ 512000 := by
    unfold nuL
    rw [List.length_map, List.length_map, ← hall]
    have : ∀ (l : Sub), (∀ e ∈ l, (nm e.2).length ≤ 512) → (l.flatMap fun e => nm e.2).length ≤ l.length * 512 := by
      intro l
      induction l with
      | nil => intro _; simp
      | cons e r ih =>
        intro hl
        rw [List.flatMap_cons, List.length_append, List.length_cons]
        have h1 := hl e List.mem_cons_self
        have h2 := ih fun x hx => hl x (List.mem_cons_of_mem _ hx)
        omega
    have := this es fun e he => (hn e he).1
    have := ok.2.2
    omega
  exact v_addL (by simp; omega)
/-! ### what comes of it -/
theorem inn_mono : ∀ (f : Fm) (n m : Nat), Inn f n → n ≤ m → Inn f m
  | .var _, _, _, _, _ => trivial
  | .at i, n, m, h, l => Nat.lt_of_lt_of_le (show i < n from h) l
  | .con0 _, _, _, _, _ => trivial
  | .list f, n, m, h, l => inn_mono f n m h l
  | .con2 _ a b, n, m, h, l => ⟨inn_mono a n m h.1 l, inn_mono b n m h.2 l⟩
  | .all f, n, m, h, l => inn_mono f (n + 1) (m + 1) h (Nat.succ_le_succ l)
theorem inn_fill (s : Tx → Option Fm) (hs : ∀ t g, s t = some g → Inn g 0) : ∀ (f : Fm) (n : Nat), Inn f n → Inn (fillF f s) n
  | .var t, n, h => by
    show Inn ((s t).getD (.var t)) n
    cases q : s t with
    | none => trivial
    | some g => exact inn_mono g 0 n (hs t g q) (Nat.zero_le _)
  | .at _, _, h => h
  | .con0 _, _, h => h
  | .list f, n, h => inn_fill s hs f n h
  | .con2 _ a b, n, h => ⟨inn_fill s hs a n h.1, inn_fill s hs b n h.2⟩
  | .all f, n, h => inn_fill s hs f (n + 1) h
theorem fill_ht (s : Tx → Option Fm) (h : Nat) (hh : 1 ≤ h) (hs : ∀ t g, s t = some g → g.ht ≤ h) : ∀ f : Fm, (fillF f s).ht + 1 ≤ f.ht + h
  | .var t => by
    show ((s t).getD (.var t)).ht + 1 ≤ 1 + h
    cases q : s t with
    | none => show 1 + 1 ≤ 1 + h; omega
    | some g => have := hs t g q; show g.ht + 1 ≤ 1 + h; omega
  | .at _ => by show 1 + 1 ≤ 1 + h; omega
  | .con0 _ => by show 1 + 1 ≤ 1 + h; omega
  | .list f => by have := fill_ht s h hh hs f; show (fillF f s).ht + 1 + 1 ≤ f.ht + 1 + h; omega
  | .con2 _ a b => by
    have h1 := fill_ht s h hh hs a
    have h2 := fill_ht s h hh hs b
    show max (fillF a s).ht (fillF b s).ht + 1 + 1 ≤ max a.ht b.ht + 1 + h
    omega
  | .all f => by have := fill_ht s h hh hs f; show (fillF f s).ht + 1 + 1 ≤ f.ht + 1 + h; omega
theorem subF_some {es : Sub} {t : Tx} {g : Fm} (h : subF es t = some g) : ∃ v, (t, v) ∈ es ∧ g = inF v [] := by
  unfold subF at h
  cases q : lkK es t with
  | none => rw [q] at h; cases h
  | some v => rw [q] at h; cases h; exact ⟨v, lkK_mem q, rfl⟩
theorem subF_inn (es : Sub) : ∀ t g, subF es t = some g → Inn g 0 := fun t g h => by
  obtain ⟨v, _, rfl⟩ := subF_some h
  exact inF_inn v []
theorem out_htF : ∀ (f : Fm) (ls fr : List Tx), (outF f ls fr).ht = f.ht
  | .var _, _, _ => rfl
  | .at _, _, _ => rfl
  | .con0 _, _, _ => rfl
  | .list f, ls, fr => by show (outF f ls fr).ht + 1 = f.ht + 1; rw [out_htF f]
  | .con2 _ a b, ls, fr => by show max (outF a ls fr).ht (outF b ls fr).ht + 1 = max a.ht b.ht + 1; rw [out_htF a, out_htF b]
  | .all f, ls, fr => by show (outF f _ fr).ht + 1 = f.ht + 1; rw [out_htF f]
def outK (f : Fm) : Kd := outF f [] (frF f)
structure FineF (f : Fm) : Prop where
  inn : Inn f 0
  good : ∀ n ∈ frF f, isNm n = true
  ht : f.ht ≤ 9
  few : (frF f).length ≤ 100
theorem in_outK {f : Fm} (h : FineF f) : inF (outK f) [] = f := by
  have h1 := h.ht
  have h2 := h.few
  exact inF_out f [] (frF f) h.inn List.nodup_nil (fun x hx => by cases hx) (fun x hx => hx) (by simp; omega)
theorem fine_outK {f : Fm} (h : FineF f) : Fine (outK f) := by
  have h1 := h.ht
  have h2 := h.few
  have ht : (outK f).ht = f.ht := out_htF f [] _
  have s := kd_sz9 (k := outK f) (by rw [ht]; exact h1)
  refine ⟨out_good f [] (frF f) h.inn (fun x hx => by cases hx) h.good (by simp; omega), by omega, by omega, by omega, ?_⟩
  rw [← frF_in _ [] [] (fun _ => Iff.rfl), in_outK h]
  omega
theorem fineF_in {k : Kd} (g : Good k) (h : k.ht ≤ 9) (f : (frF (inF k [])).length ≤ 100) : FineF (inF k []) := ⟨inF_inn k [], goodF_in g, by rw [inF_ht]; exact h, f⟩
theorem lawK_outK (k : Kd) : lawK k = outK (inF k []) := rfl
end Fro

namespace Fro
open PySem PySem.Spec L2

/-- a dict of kinds that may be put for names -/
structure GoodE (es : Sub) (h : Nat) : Prop where
  nd : (es.map (·.1)).Nodup
  keys : ∀ e ∈ es, isNm e.1 = true
  vals : ∀ e ∈ es, Good e.2 ∧ e.2.ht ≤ h
  len : es.length ≤ 1000
theorem GoodE.ok {es : Sub} {h : Nat} (g : GoodE es h) : OkE es := ⟨g.nd, fun e he => isNm_ok (g.keys e he), g.len⟩
theorem wants_ev (es : Sub) (h : Nat) (h30 : h ≤ 30) (g : ∀ e ∈ es, Good e.2 ∧ e.2.ht ≤ h) (a : W) (w2 : Option W) (S : Sto) :
    ∃ w2', cLkS 1 (cFor (itV (cVar 1)) (gN 2) l1_put) [some a, some (.v (.dct (encE es))), w2] S = .nx [some (unlk a), some (.v (.dct (encE es))), w2'] S := by
  have key : ∀ (l : Sub) (w : Option W), (∀ e ∈ l, Good e.2 ∧ e.2.ht ≤ h) → ∃ w', forL (gN 2) l1_put (valsD (encE l)) [some a, some (.lk (encE es)), w] S = .nx [some a, some (.lk (encE es)), w'] S ∧ ((∃ x, w' = some (.v x)) ∨ w' = w) := by
    intro l
    induction l with
    | nil => intro w _; exact ⟨w, rfl, .inr rfl⟩
    | cons e r ih =>
      intro w hl
      obtain ⟨w', e1, e2⟩ := ih (some (.v (enc e.2))) fun x hx => hl x (List.mem_cons_of_mem _ hx)
      refine ⟨w', ?_, .inl (e2.elim id fun z => ⟨_, z⟩)⟩
      obtain ⟨g1, g2⟩ := hl e List.mem_cons_self
      refine Eq.trans (e_for_nx (δ1 := [some a, some (.lk (encE es)), some (.v (enc e.2))]) (S1 := S) rfl (e_expr (e_call (ws := [.v (enc e.2)]) rfl rfl (want_kind_ev e.2 S g1 (by omega)) rfl))) e1
  obtain ⟨w', e1, _⟩ := key es w2 g
  refine ⟨w'.map unlk, ?_⟩
  show okLkS (cFor (itV (cVar 1)) (gN 2) l1_put [some a, some (.lk (encE es)), w2] S) = _
  rw [e_for (S1 := S) (ds := valsD (encE es)) rfl e1]
  cases w' <;> rfl
theorem put_ev {h : Nat} {k : Kd} {es : Sub} (gk : Good k) (ge : GoodE es h) (hh : 1 ≤ h) (ht : k.ht + h ≤ 10) (few : (frF (putF k es)).length ≤ 100) (S : Sto) :
    f_put [.v (enc k), .v (.dct (encE es))] S = .ok (.v (enc (outK (putF k es)))) S := by
  obtain ⟨w', e1⟩ := wants_ev es h (by omega) ge.vals (.v (enc k)) none S
  have e2 := put_of_ev (f := 0) (good_q 0 gk) (fun e he => ⟨good_q 0 (ge.vals e he).1, (ge.vals e he).2⟩) ge.ok hh ht (by decide) few S
  exact e_fdef_v (e_seq_nx (e_expr (e_call (ws := [.v (enc k)]) rfl rfl (want_kind_ev k S gk (by omega)) rfl)) (e_seq_nx e1 (e_ret (e_call (ws := [.v (enc k), .v (.dct (encE es))]) rfl rfl e2 rfl))))
theorem fine_put {h : Nat} {k : Kd} {es : Sub} (gk : Good k) (ge : GoodE es h) (hh : 1 ≤ h) (ht : k.ht + h ≤ 10) (few : (frF (putF k es)).length ≤ 100) : FineF (putF k es) := by
  refine ⟨inn_fill _ (subF_inn es) _ 0 (inF_inn k []), fun n hn => ?_, ?_, few⟩
  · obtain ⟨m, h1, h2⟩ := (mem_fill _ _ _).mp hn
    cases q : subF es m with
    | none =>
      rw [q] at h2
      have : n = m := by simpa [frF] using h2
      rw [this]
      exact goodF_in gk m h1
    | some g =>
      rw [q] at h2
      obtain ⟨v, hv, rfl⟩ := subF_some q
      exact goodF_in (ge.vals _ hv).1 n h2
  · have := fill_ht (subF es) h hh (fun t g hg => by
      obtain ⟨v, hv, rfl⟩ := subF_some hg
      rw [inF_ht]
      exact (ge.vals _ hv).2) (inF k [])
    rw [inF_ht] at this
    show (fillF (inF k []) (subF es)).ht ≤ 9
    omega
theorem fill_none (s : Tx → Option Fm) : ∀ f : Fm, (∀ n ∈ frF f, s n = none) → fillF f s = f
  | .var n, h => by
    show (s n).getD (.var n) = _
    rw [h n List.mem_cons_self]
    rfl
  | .at _, _ => rfl
  | .con0 _, _ => rfl
  | .list f, h => by show Fm.list (fillF f s) = _; rw [fill_none s f h]
  | .con2 c a b, h => by
    show Fm.con2 c (fillF a s) (fillF b s) = _
    rw [fill_none s a fun n hn => h n (mem_fr2.mpr (.inl hn)), fill_none s b fun n hn => h n (mem_fr2.mpr (.inr hn))]
  | .all f, h => by show Fm.all (fillF f s) = _; rw [fill_none s f h]
/-- put twice -/
theorem fill_fill (s t : Tx → Option Fm) : ∀ f : Fm, (∀ n g, s n = some g → Inn g 0) → fillF (fillF f s) t = fillF f (fun n => match s n with
    | some g => some (fillF g t)
    | none => t n)
  | .var n, _ => by
    show fillF ((s n).getD (.var n)) t = ((match s n with
      | some g => some (fillF g t)
      | none => t n) : Option Fm).getD (.var n)
    cases s n <;> rfl
  | .at _, _ => rfl
  | .con0 _, _ => rfl
  | .list f, h => by show Fm.list (fillF (fillF f s) t) = Fm.list _; rw [fill_fill s t f h]
  | .con2 c a b, h => by
    show Fm.con2 c (fillF (fillF a s) t) (fillF (fillF b s) t) = Fm.con2 c _ _
    rw [fill_fill s t a h, fill_fill s t b h]
  | .all f, h => by show Fm.all (fillF (fillF f s) t) = Fm.all _; rw [fill_fill s t f h]
theorem fill_congr (s t : Tx → Option Fm) : ∀ f : Fm, (∀ n ∈ frF f, (s n).getD (.var n) = (t n).getD (.var n)) → fillF f s = fillF f t
  | .var n, h => h n List.mem_cons_self
  | .at _, _ => rfl
  | .con0 _, _ => rfl
  | .list f, h => by show Fm.list (fillF f s) = Fm.list _; rw [fill_congr s t f h]
  | .con2 c a b, h => by
    show Fm.con2 c (fillF a s) (fillF b s) = Fm.con2 c _ _
    rw [fill_congr s t a fun n hn => h n (mem_fr2.mpr (.inl hn)), fill_congr s t b fun n hn => h n (mem_fr2.mpr (.inr hn))]
  | .all f, h => by show Fm.all (fillF f s) = Fm.all _; rw [fill_congr s t f h]
theorem gEq_fine {k : Kd} (h : Fine k) : gEq (enc k) (enc k) = some (.bl true) := gEq_same h.good h.ht
theorem gNe_fine {k : Kd} (h : Fine k) : gNe (enc k) (enc k) = some (.bl false) := by
  have hd := dep_enc k
  have := h.ht
  rw [gNe_of (okD_enc h.good) (okD_enc h.good) (by omega), deq_refl _ (okD_enc h.good)]
  rfl
/-- d[k] = v -/
def putS (es : Sub) (t : Tx) (v : Kd) : Sub := if t ∈ es.map (·.1) then es.map fun e => if e.1 = t then (e.1, v) else e else es ++ [(t, v)]
theorem putE_enc (es : Sub) (t : Tx) (v : Kd) : putE (encE es) t (enc v) = encE (putS es t v) := by
  have h : hasE (encE es) t = decide (t ∈ es.map (·.1)) := by
    unfold hasE encE
    rw [List.any_map]
    induction es with
    | nil => rfl
    | cons e r ih =>
      rw [List.any_cons, ih, List.map_cons]
      show (e.1 == t || decide (t ∈ r.map (·.1))) = _
      by_cases z : e.1 = t
      · rw [beq_iff_eq.mpr z, show decide (t ∈ e.1 :: r.map (·.1)) = true from decide_eq_true (by rw [z]; exact List.mem_cons_self)]; rfl
      · rw [beq_eq_false_iff_ne.mpr z, Bool.false_or]
        exact decide_eq_decide.mpr ⟨List.mem_cons_of_mem _, fun q => (List.mem_cons.mp q).resolve_left fun y => z y.symm⟩
  unfold putE putS
  rw [h]
  by_cases z : t ∈ es.map (·.1)
  · rw [if_pos (decide_eq_true z), if_pos z]
    unfold encE
    rw [List.map_map, List.map_map]
    refine List.map_congr_left fun e _ => ?_
    show (if e.1 = t then (e.1, enc v) else (e.1, enc e.2)) = ((if e.1 = t then (e.1, v) else e).1, enc (if e.1 = t then (e.1, v) else e).2)
    split <;> rfl
  · rw [if_neg (by rw [decide_eq_false z]; decide), if_neg z]
    unfold encE
    rw [List.map_append]
    rfl
theorem putS_keys (es : Sub) (t : Tx) (v : Kd) (h : (es.map (·.1)).Nodup) : ((putS es t v).map (·.1)).Nodup := by
  unfold putS
  split
  · have : (es.map fun e => if e.1 = t then (e.1, v) else e).map (·.1) = es.map (·.1) := by
      rw [List.map_map]
      refine List.map_congr_left fun e _ => ?_
      show (if e.1 = t then (e.1, v) else e).1 = e.1
      split <;> rfl
    rw [this]
    exact h
  · rename_i z
    rw [List.map_append, List.nodup_append]
    refine ⟨h, by simp, fun x hx y hy e => z ?_⟩
    have : y = t := by simpa using hy
    rw [← this, ← e]
    exact hx
theorem putS_mem {es : Sub} {t : Tx} {v : Kd} {e : Tx × Kd} (h : e ∈ putS es t v) : e = (t, v) ∨ e ∈ es := by
  unfold putS at h
  split at h
  · obtain ⟨x, hx, rfl⟩ := List.mem_map.mp h
    split
    · rename_i z
      exact .inl (by rw [z])
    · exact .inr hx
  · rcases List.mem_append.mp h with h | h
    · exact .inr h
    · exact .inl (by simpa using h)
end Fro

namespace Fro
open PySem PySem.Spec L2

/-! ### the source of draws -/
def SrcO (o : Ob) : Prop := ∃ a b c : Int, o = .lst [.int a, .int b, .int c]
def Src (S : Sto) (i : Nat) : Prop := ∃ o, S[i]? = some o ∧ SrcO o
theorem src_lt {S : Sto} {i : Nat} (h : Src S i) : i < S.length := by
  obtain ⟨o, h, _⟩ := h
  rcases Nat.lt_or_ge i S.length with z | z
  · exact z
  · rw [List.getElem?_eq_none z] at h; cases h
theorem src_set {S : Sto} {i : Nat} {o : Ob} (h : Src S i) (ho : SrcO o) : Src (S.set i o) i := ⟨o, List.getElem?_set_self (src_lt h), ho⟩
theorem src_app {S T : Sto} {i : Nat} (h : Src S i) : Src (S ++ T) i := by
  obtain ⟨o, h1, h2⟩ := h
  exact ⟨o, by rw [List.getElem?_append_left (src_lt ⟨o, h1, h2⟩)]; exact h1, h2⟩
theorem gMod_ev {i j : Int} (h : 0 < j) : gMod (.int i) (.int j) = some (.int (i % j)) := if_pos h
theorem gDiv_ev {i j : Int} (h : 0 < j) (h2 : j < 1073741824) : gDiv (.int i) (.int j) = some (.int (i / j)) := if_pos ⟨h, h2⟩
theorem gMul_l {i j : Int} (h : -18446744073709551616 < i) (h2 : i < 18446744073709551616) : gMul (.int i) (.int j) = some (.int (i * j)) := if_pos (.inl ⟨h, h2⟩)
theorem gMul_r {i j : Int} (h : -18446744073709551616 < j) (h2 : j < 18446744073709551616) : gMul (.int i) (.int j) = some (.int (i * j)) := if_pos (.inr ⟨h, h2⟩)
theorem gSubD_ev {x y : Den W} {δ : Slots} {S : Sto} {i : Nat} {ds : List D} {k : Int} {j : Nat} {d : D} (h1 : x δ S = .ok (.r i) S) (h2 : y δ S = .ok (.v (.int k)) S) (h3 : S[i]? = some (.lst ds)) (h4 : ixN ds.length k = some j) : gSubD x y (.v d) δ S = some (δ, S.set i (.lst (ds.set j d))) := by
  unfold gSubD
  simp only [h1, h2, isRL_at h3, toD, h4]
theorem next_ev {S : Sto} {i : Nat} (hs : Src S i) (m : Int) (h0 : 0 < m) (h1 : m < 1073741824) : ∃ (d : Int) (o : Ob), f__law_next [.r i, .v (.int m)] S = .ok (.v (.int d)) (S.set i o) ∧ 0 ≤ d ∧ d < m ∧ SrcO o := by
  obtain ⟨o, ho, a, b, c, rfl⟩ := hs
  have hlt : i < S.length := by
    rcases Nat.lt_or_ge i S.length with z | z
    · exact z
    · rw [List.getElem?_eq_none z] at ho; cases ho
  have ix0 : ∀ δ : Slots, cVar 0 δ S = .ok (.r i) S → cIx (cVar 0) (cC (.int 0)) δ S = .ok (.v (.int a)) S := fun δ h => e_ixr h rfl (rd_at ho) rfl
  by_cases ha : 0 < a
  · refine ⟨a % m, .lst [.int (a / m), .int b, .int c], ?_, Int.emod_nonneg _ (by omega), Int.emod_lt_of_pos _ h0, ⟨_, _, _, rfl⟩⟩
    refine e_fdef_vs (e_seq_rt (e_ifs_t (S1 := S) (e_b (e_op2v (ix0 _ rfl) rfl ?_)) (e_seq_nx (e_set (e_op2v (e_blt (ws := [.v (.int a)]) (e_cons (ix0 _ rfl) rfl) rfl rfl) rfl (gMod_ev h0))) (e_seq_nx (e_asg (e_op2v (ix0 _ rfl) rfl (gDiv_ev h0 h1)) (gSubD_ev (j := 0) rfl rfl ho rfl)) (e_ret rfl)))))
    show some (D.bl (decide (0 < a))) = _
    rw [decide_eq_true ha]
  · -- the second way
    have hS1 : (S.set i (.lst [.int a, .int b, .int (c + 1)]))[i]? = some (.lst [.int a, .int b, .int (c + 1)]) := List.getElem?_set_self hlt
    generalize hg : S.set i (.lst [.int a, .int b, .int (c + 1)]) = S1 at hS1
    have ix1 : ∀ δ : Slots, cVar 0 δ S1 = .ok (.r i) S1 → cIx (cVar 0) (cC (.int 1)) δ S1 = .ok (.v (.int b)) S1 := fun δ h => e_ixr h rfl (rd_at hS1) rfl
    have ix2 : ∀ δ : Slots, cVar 0 δ S1 = .ok (.r i) S1 → cIx (cVar 0) (cC (.int 2)) δ S1 = .ok (.v (.int (c + 1))) S1 := fun δ h => e_ixr h rfl (rd_at hS1) rfl
    have n0 := Int.emod_nonneg (b + 104729 * (c + 1) + 7919) (show (2147483647 : Int) ≠ 0 by decide)
    have n0' := Int.emod_lt_of_pos (b + 104729 * (c + 1) + 7919) (show (0 : Int) < 2147483647 by decide)
    generalize hx0 : (b + 104729 * (c + 1) + 7919) % 2147483647 = x0 at n0 n0'
    have n1 := Int.emod_nonneg (x0 * 48271) (show (2147483647 : Int) ≠ 0 by decide)
    have n1' := Int.emod_lt_of_pos (x0 * 48271) (show (0 : Int) < 2147483647 by decide)
    generalize hx1 : (x0 * 48271) % 2147483647 = x1 at n1 n1'
    have n2 := Int.emod_nonneg (x1 * (x1 / 1009 + 69621)) (show (2147483647 : Int) ≠ 0 by decide)
    have n2' := Int.emod_lt_of_pos (x1 * (x1 / 1009 + 69621)) (show (0 : Int) < 2147483647 by decide)
    generalize hx2 : (x1 * (x1 / 1009 + 69621)) % 2147483647 = x2 at n2 n2'
    generalize hx3 : (x2 * (x2 / 2003 + 40692)) % 2147483399 = x3
    refine ⟨x3 / 7 % m, .lst [.int a, .int b, .int (c + 1)], ?_, Int.emod_nonneg _ (by omega), Int.emod_lt_of_pos _ h0, ⟨_, _, _, rfl⟩⟩
    have hgt : gGt (.int a) (.int 0) = some (.bl false) := by
      show some (D.bl (decide (0 < a))) = _
      rw [decide_eq_false ha]
    refine e_fdef_vs (e_seq_nx (e_ifs_f (S1 := S) (e_b (e_op2v (ix0 _ rfl) rfl hgt)) rfl) (e_seq_nx (S1 := S1) (δ' := slots0 5 [.r i, .v (.int m)]) (e_asg (e_op2v (e_ixr (d := .lst [.int a, .int b, .int c]) rfl rfl (rd_at ho) rfl) rfl rfl) ?_) ?_))
    · rw [← hg]
      exact gSubD_ev (j := 2) rfl rfl ho rfl
    · rw [hg]
      refine e_seq_nx (e_set rfl) (e_seq_nx (e_set (e_op2v (e_blt (ws := [.v (.int (b + 104729 * (c + 1) + 7919))]) (e_cons (e_op2v (e_op2v (ix1 _ rfl) (e_op2v rfl (ix2 _ rfl) (gMul_l (by decide) (by decide))) rfl) rfl rfl) rfl) rfl rfl) rfl (gMod_ev (by decide)))) ?_)
      rw [hx0]
      refine e_seq_nx (e_set (e_op2v (e_blt (ws := [.v (.int (x0 * 48271))]) (e_cons (e_op2v rfl rfl (gMul_l (by omega) (by omega))) rfl) rfl rfl) rfl (gMod_ev (by decide)))) ?_
      rw [hx1]
      refine e_seq_nx (e_set (e_op2v (e_blt (ws := [.v (.int (x1 * (x1 / 1009 + 69621)))]) (e_cons (e_op2v rfl (e_op2v (e_op2v rfl rfl (gDiv_ev (by decide) (by decide))) rfl rfl) (gMul_l (by omega) (by omega))) rfl) rfl rfl) rfl (gMod_ev (by decide)))) ?_
      rw [hx2]
      refine e_seq_nx (e_set (e_op2v (e_blt (ws := [.v (.int (x2 * (x2 / 2003 + 40692)))]) (e_cons (e_op2v rfl (e_op2v (e_op2v rfl rfl (gDiv_ev (by decide) (by decide))) rfl rfl) (gMul_l (by omega) (by omega))) rfl) rfl rfl) rfl (gMod_ev (by decide)))) ?_
      rw [hx3]
      exact e_ret (e_op2v (e_blt (ws := [.v (.int (x3 / 7))]) (e_cons (e_op2v rfl rfl (gDiv_ev (by decide) (by decide))) rfl) rfl rfl) rfl (gMod_ev h0))
/-- .. as an argument of a call -/
theorem next_call {S : Sto} {i : Nat} (hs : Src S i) (m : Int) (h0 : 0 < m) (h1 : m < 1073741824) : ∃ (d : Int) (o : Ob), 0 ≤ d ∧ d < m ∧ SrcO o ∧ ∀ (as : Den (List W)) (δ : Slots), as δ S = .ok [.r i, .v (.int m)] S → cCall 2 f__law_next as [] δ S = .ok (.v (.int d)) (S.set i o) := by
  obtain ⟨d, o, e, h2, h3, h4⟩ := next_ev hs m h0 h1
  exact ⟨d, o, h2, h3, h4, fun as δ h => e_call h rfl e rfl⟩
theorem atI_lt {α : Type} {l : List α} {d : Int} (h0 : 0 ≤ d) (h1 : d < l.length) : ∃ x, atI l d = some x ∧ x ∈ l := by
  have hd : d.toNat < l.length := by omega
  refine ⟨l[d.toNat], ?_, List.getElem_mem hd⟩
  unfold atI ixN
  rw [if_pos h0, if_pos h1]
  exact List.getElem?_eq_getElem hd
theorem one_ev {S : Sto} {i : Nat} (hs : Src S i) (ds : List D) (h0 : ds ≠ []) (h1 : ds.length < 1073741824) : ∃ (d : D) (o : Ob), f__law_one [.r i, .v (.lst ds)] S = .ok (.v d) (S.set i o) ∧ d ∈ ds ∧ SrcO o := by
  have hp : 0 < ds.length := List.length_pos_iff.mpr h0
  obtain ⟨k, o, h2, h3, h4, h5⟩ := next_call hs (ds.length : Int) (by omega) (by omega)
  obtain ⟨x, e1, e2⟩ := atI_lt (l := ds) h2 h3
  refine ⟨x, o, e_fdef_vs (e_ret (e_ix rfl (h5 _ _ (e_cons rfl (e_cons rfl rfl))) e1)), e2, h4⟩
theorem one_call {S : Sto} {i : Nat} (hs : Src S i) (ds : List D) (h0 : ds ≠ []) (h1 : ds.length < 1073741824) : ∃ (d : D) (o : Ob), d ∈ ds ∧ SrcO o ∧ ∀ (as : Den (List W)) (δ : Slots), as δ S = .ok [.r i, .v (.lst ds)] S → cCall 2 f__law_one as [] δ S = .ok (.v d) (S.set i o) := by
  obtain ⟨d, o, e, h2, h3⟩ := one_ev hs ds h0 h1
  exact ⟨d, o, h2, h3, fun as δ h => e_call h rfl e rfl⟩
theorem set_set (S : Sto) (i : Nat) (o o' : Ob) : (S.set i o).set i o' = S.set i o' := List.set_set _
/-- a script's cell, and the source made of it -/
theorem cell_ev (ns : List Int) (k : Int) (h : 0 ≤ k) (S : Sto) : ∃ n : Int, f__law_cell_at [.s ns, .v (.int k)] S = .ok (.v (.int n)) S := by
  by_cases hk : k < ns.length
  · obtain ⟨x, e1, _⟩ := atI_lt (l := ns) h hk
    refine ⟨x, e_fdef_v (e_seq_rt (e_ifs_t (S1 := S) (e_b (e_op2v (d := .int k) (e := .int ns.length) rfl rfl ?_)) (e_ret ?_)))⟩
    · show some (D.bl (decide (k < ns.length))) = _
      rw [decide_eq_true hk]
    · show apIx (.s ns) (.v (.int k)) S = _
      unfold apIx
      simp only [e1]
  · refine ⟨0, e_fdef_v (e_seq_nx (e_ifs_f (S1 := S) (e_b (e_op2v (d := .int k) (e := .int ns.length) rfl rfl ?_)) rfl) (e_ret rfl))⟩
    show some (D.bl (decide (k < ns.length))) = _
    rw [decide_eq_false hk]
theorem source_ev (n : Int) (S : Sto) : ∃ o, f__law_source_of [.v (.int n)] S = .ok (.new o) S ∧ SrcO o := by
  have key : ∀ c : Int, ∃ o, (cRet (cLstM (cCons (op2 gMul (cVar 0) (cBlt gInt (cCons (op2 gGe (cVar 0) (op2 gPow (cC (.int 10)) (cC (.int 18)))) cNil))) (cCons (op2 gMod (cBlt gInt (cCons (cVar 0) cNil)) (cC (.int 2147483647))) (cCons (cC (.int 0)) cNil))))) [some (.v (.int c))] S = .rt (.r S.length) (S ++ [o]) ∧ SrcO o := fun c => by
    refine ⟨.lst [.int (c * (if decide ((10 ^ 18 : Int) ≤ c) then 1 else 0)), .int (c % 2147483647), .int 0], e_ret (e_disp (ws := [.v (.int (c * (if decide ((10 ^ 18 : Int) ≤ c) then 1 else 0))), .v (.int (c % 2147483647)), .v (.int 0)]) (e_cons (e_op2v (e := .int (if decide ((10 ^ 18 : Int) ≤ c) then 1 else 0)) rfl (e_blt (ws := [.v (.bl (decide ((10 ^ 18 : Int) ≤ c)))]) (e_cons (e_op2v (e := .int (10 ^ 18)) rfl (e_op2v rfl rfl rfl) rfl) rfl) rfl rfl) (gMul_r ?_ ?_)) (e_cons (e_op2v rfl rfl (gMod_ev (by decide))) rfl)) rfl (by simp) rfl), ⟨_, _, _, rfl⟩⟩
    · split <;> decide
    · split <;> decide
  by_cases hn : 0 ≤ n
  · obtain ⟨o, e, h⟩ := key n
    refine ⟨o, e_fdef_new (e_seq_nx (e_set (i := 0) (w := .v (.int n)) (e_if_t (S1 := S) (e_b (e_op2v rfl rfl ?_)) rfl)) e), h⟩
    show some (D.bl (decide (0 ≤ n))) = _
    rw [decide_eq_true hn]
  · obtain ⟨o, e, h⟩ := key (0 - 3 * n - 1)
    refine ⟨o, e_fdef_new (e_seq_nx (e_set (i := 0) (w := .v (.int (0 - 3 * n - 1))) (e_if_f (S1 := S) (e_b (e_op2v rfl rfl ?_)) (e_op2v (e_op2v rfl (e_op2v rfl rfl (gMul_l (by decide) (by decide))) rfl) rfl rfl))) e), h⟩
    show some (D.bl (decide (0 ≤ n))) = _
    rw [decide_eq_false hn]
end Fro

namespace Fro
open PySem PySem.Spec L2

theorem e_orb {t u : Den Bool} {δ : Slots} {S : Sto} {a b : Bool} (h : t δ S = .ok a S) (h2 : u δ S = .ok b S) : cOr t u δ S = .ok (a || b) S := by
  cases a with
  | true => exact e_or_t h
  | false => exact e_or_f h h2
theorem gEq_int (i j : Int) : gEq (.int i) (.int j) = some (.bl (i == j)) := rfl
theorem mem_stL {d : D} {ts : List Tx} (h : d ∈ stL ts) : ∃ t, d = .str t ∧ t ∈ ts := by
  obtain ⟨t, ht, rfl⟩ := List.mem_map.mp h
  exact ⟨t, rfl, ht⟩
theorem stL_ne {ts : List Tx} (h : ts ≠ []) : stL ts ≠ [] := by
  unfold stL
  intro e
  exact h (List.map_eq_nil_iff.mp e)
/-- a drawn kind -/
theorem kind_ev (names : List Tx) (hne : names ≠ []) (hnl : names.length < 1073741824) : ∀ (n deep : Nat) (S : Sto) (i : Nat), deep < n → Src S i →
    ∃ (k : Kd) (o : Ob), f__law_kind n [.r i, .v (.int deep), .v (.lst (stL names))] S = .ok (.v (enc k)) (S.set i o) ∧ SrcO o ∧ (∀ x ∈ k.nms, x ∈ names) ∧ k.ht ≤ deep + 1 ∧ k.lvs ≤ 2 ^ deep := by
  intro n
  induction n with
  | zero => intro deep S i h; omega
  | succ n ih =>
    intro deep S i hd hs
    obtain ⟨way, o1, w0, w1, so1, hw⟩ := next_call hs 12 (by decide) (by decide)
    have hs1 : Src (S.set i o1) i := src_set hs so1
    have e0 : cCall 2 f__law_next (cCons (cVar 0) (cCons (cC (.int 12)) cNil)) [] (slots0 5 [.r i, .v (.int deep), .v (.lst (stL names))]) S = .ok (.v (.int way)) (S.set i o1) := hw _ _ rfl
    generalize hS1 : S.set i o1 = S1 at hs1 e0
    have back : ∀ o, S1.set i o = S.set i o := fun o => by rw [← hS1, set_set]
    have t1 : cOr (cB (op2 gEq (cVar 1) (cC (.int 0)))) (cB (op2 gLt (cVar 3) (cC (.int 4)))) [some (.r i), some (.v (.int deep)), some (.v (.lst (stL names))), some (.v (.int way)), none] S1 = .ok (((deep : Int) == 0) || decide (way < 4)) S1 :=
      e_orb (e_b (e_op2v rfl rfl (gEq_int _ _))) (e_b (e_op2v rfl rfl rfl))
    by_cases hA : (((deep : Int) == 0) || decide (way < 4)) = true
    · rw [hA] at t1
      have t2 : cOr (cB (op2 gEq (cVar 3) (cC (.int 3)))) (cB (op2 gEq (op2 gMod (cBlt gInt (cCons (cVar 3) cNil)) (cC (.int 12))) (cC (.int 11)))) [some (.r i), some (.v (.int deep)), some (.v (.lst (stL names))), some (.v (.int way)), none] S1 = .ok ((way == 3) || (way % 12 == 11)) S1 :=
        e_orb (e_b (e_op2v rfl rfl (gEq_int _ _))) (e_b (e_op2v (e_op2v rfl rfl (gMod_ev (by decide))) rfl (gEq_int _ _)))
      by_cases hB : ((way == 3) || (way % 12 == 11)) = true
      · rw [hB] at t2
        obtain ⟨d, o2, hm, so2, he⟩ := one_call hs1 (stL [C0.int.tx, C0.bool.tx, C0.unit.tx]) (by decide) (by decide)
        obtain ⟨t, rfl, ht⟩ := mem_stL hm
        have hc : ∃ c : C0, t = c.tx := by
          simp only [List.mem_cons, List.not_mem_nil, or_false] at ht
          rcases ht with rfl | rfl | rfl
          · exact ⟨.int, rfl⟩
          · exact ⟨.bool, rfl⟩
          · exact ⟨.unit, rfl⟩
        obtain ⟨c, rfl⟩ := hc
        refine ⟨.con0 c, o2, e_fdef_vs (e_seq_nx (e_set e0) (e_seq_rt (e_ifs_t t1 (e_seq_rt (e_ifs_t t2 ?_))))), so2, (fun x hx => by cases hx), by unfold Kd.ht; omega, Nat.one_le_two_pow⟩
        rw [← back]
        exact e_ret (e_disp (ws := [.v (.str [99, 111, 110]), .v (.str c.tx), .v (.tup [])]) (e_cons rfl (e_cons (he _ _ rfl) rfl)) rfl (by simp) rfl)
      · rw [Bool.not_eq_true] at hB
        rw [hB] at t2
        obtain ⟨d, o2, hm, so2, he⟩ := one_call hs1 (stL names) (stL_ne hne) (by rw [stL_length]; exact hnl)
        obtain ⟨t, rfl, ht⟩ := mem_stL hm
        refine ⟨.var t, o2, e_fdef_vs (e_seq_nx (e_set e0) (e_seq_rt (e_ifs_t t1 (e_seq_nx (e_ifs_f t2 rfl) ?_)))), so2, (fun x hx => by
          have : x = t := by simpa [Kd.nms] using hx
          rw [this]; exact ht), by unfold Kd.ht; omega, Nat.one_le_two_pow⟩
        rw [← back]
        exact e_ret (e_disp (ws := [.v (.str [118, 97, 114]), .v (.str t)]) (e_cons rfl (e_cons (he _ _ rfl) rfl)) rfl (by simp) rfl)
    · rw [Bool.not_eq_true] at hA
      rw [hA] at t1
      rw [Bool.or_eq_false_iff] at hA
      have hdeep : deep ≠ 0 := fun z => by
        have := hA.1
        rw [z] at this
        exact absurd this (by decide)
      obtain ⟨dp, rfl⟩ : ∃ dp, deep = dp + 1 := ⟨deep - 1, by omega⟩
      have esub : ∀ δ : Slots, ∀ S, cVar 1 δ S = .ok (.v (.int ((dp + 1 : Nat) : Int))) S → op2 gSub (cVar 1) (cC (.int 1)) δ S = .ok (.v (.int (dp : Int))) S := fun δ S h => by
        have e := e_op2v (g := gSub) (y := cC (.int 1)) (k := .int (((dp + 1 : Nat) : Int) - 1)) h rfl rfl
        rw [show ((dp + 1 : Nat) : Int) - 1 = (dp : Int) by omega] at e
        exact e
      -- the recursive calls
      have rec_call : ∀ (T : Sto), Src T i → ∃ (k : Kd) (o : Ob), (∀ (as : Den (List W)) (δ : Slots), as δ T = .ok [.r i, .v (.int dp), .v (.lst (stL names))] T → cCall 3 (f__law_kind n) as [] δ T = .ok (.v (enc k)) (T.set i o)) ∧ SrcO o ∧ (∀ x ∈ k.nms, x ∈ names) ∧ k.ht ≤ dp + 1 ∧ k.lvs ≤ 2 ^ dp := fun T hT => by
        obtain ⟨k, o, e, h2, h3, h4, h5⟩ := ih dp T i (by omega) hT
        exact ⟨k, o, fun as δ h => e_call h rfl e rfl, h2, h3, h4, h5⟩
      have t3 : cB (op2 gLt (cVar 3) (cC (.int 8))) [some (.r i), some (.v (.int ((dp + 1 : Nat) : Int))), some (.v (.lst (stL names))), some (.v (.int way)), none] S1 = .ok (decide (way < 8)) S1 := e_b (e_op2v rfl rfl rfl)
      by_cases hC : way < 8
      · rw [decide_eq_true hC] at t3
        obtain ⟨d, o2, hm, so2, he⟩ := one_call hs1 (stL names) (stL_ne hne) (by rw [stL_length]; exact hnl)
        obtain ⟨t, rfl, ht⟩ := mem_stL hm
        obtain ⟨k, o3, hk, so3, hn3, hh3, hl3⟩ := rec_call (S1.set i o2) (src_set hs1 so2)
        refine ⟨.all t k, o3, e_fdef_vs (e_seq_nx (e_set e0) (e_seq_nx (e_ifs_f t1 rfl) (e_seq_rt (e_ifs_t t3 ?_)))), so3, fun x hx => ?_, by unfold Kd.ht; omega, ?_⟩
        · rw [← back, ← set_set S1 i o2 o3]
          exact e_ret (e_disp (ws := [.v (.str [97, 108, 108]), .v (.str t), .v (enc k)]) (e_cons rfl (e_cons (he _ _ rfl) (e_cons (hk _ _ (e_cons rfl (e_cons (esub _ _ rfl) rfl))) rfl))) rfl (by simp) rfl)
        · rcases List.mem_cons.mp hx with rfl | hx
          · exact ht
          · exact hn3 x hx
        · unfold Kd.lvs
          exact Nat.le_trans hl3 (Nat.pow_le_pow_right (by decide) (by omega))
      · rw [decide_eq_false hC] at t3
        have t4 : cB (op2 gEq (cVar 3) (cC (.int 8))) [some (.r i), some (.v (.int ((dp + 1 : Nat) : Int))), some (.v (.lst (stL names))), some (.v (.int way)), none] S1 = .ok (way == 8) S1 := e_b (e_op2v rfl rfl (gEq_int _ _))
        obtain ⟨k, o3, hk, so3, hn3, hh3, hl3⟩ := rec_call S1 hs1
        by_cases hD : (way == 8) = true
        · rw [hD] at t4
          refine ⟨.list k, o3, e_fdef_vs (e_seq_nx (e_set e0) (e_seq_nx (e_ifs_f t1 rfl) (e_seq_nx (e_ifs_f t3 rfl) (e_seq_rt (e_ifs_t t4 ?_))))), so3, hn3, by unfold Kd.ht; omega, ?_⟩
          · rw [← back]
            exact e_ret (e_disp (ws := [.v (.str [99, 111, 110]), .v (.str [76, 105, 115, 116]), .v (.tup [enc k])]) (e_cons rfl (e_cons rfl (e_cons (e_disp (ws := [.v (enc k)]) (e_cons (hk _ _ (e_cons rfl (e_cons (esub _ _ rfl) rfl))) rfl) rfl (by simp) rfl) rfl))) rfl (by simp) rfl)
          · unfold Kd.lvs
            exact Nat.le_trans hl3 (Nat.pow_le_pow_right (by decide) (by omega))
        · rw [Bool.not_eq_true] at hD
          rw [hD] at t4
          obtain ⟨d, o4, hm, so4, he⟩ := one_call (src_set hs1 so3) (stL [C2.to.tx, C2.pair.tx, C2.to.tx]) (by decide) (by decide)
          obtain ⟨t, rfl, ht⟩ := mem_stL hm
          have hc : ∃ c : C2, t = c.tx := by
            simp only [List.mem_cons, List.not_mem_nil, or_false] at ht
            rcases ht with rfl | rfl | rfl
            · exact ⟨.to, rfl⟩
            · exact ⟨.pair, rfl⟩
            · exact ⟨.to, rfl⟩
          obtain ⟨c, rfl⟩ := hc
          obtain ⟨k2, o5, hk2, so5, hn5, hh5, hl5⟩ := rec_call ((S1.set i o3).set i o4) (src_set (src_set hs1 so3) so4)
          refine ⟨.con2 c k k2, o5, e_fdef_vs (e_seq_nx (e_set e0) (e_seq_nx (e_ifs_f t1 rfl) (e_seq_nx (e_ifs_f t3 rfl) (e_seq_nx (e_ifs_f t4 rfl) (e_seq_nx (e_set (hk _ _ (e_cons rfl (e_cons (esub _ _ rfl) rfl)))) ?_))))), so5, fun x hx => ?_, by unfold Kd.ht; omega, ?_⟩
          · rw [← back, ← set_set S1 i o3 o5, ← set_set (S1.set i o3) i o4 o5]
            exact e_ret (e_disp (ws := [.v (.str [99, 111, 110]), .v (.str c.tx), .v (.tup [enc k, enc k2])]) (e_cons rfl (e_cons (he _ _ rfl) (e_cons (e_disp (ws := [.v (enc k), .v (enc k2)]) (e_cons rfl (e_cons (hk2 _ _ (e_cons rfl (e_cons (esub _ _ rfl) rfl))) rfl)) rfl (by simp) rfl) rfl))) rfl (by simp) rfl)
          · rcases List.mem_append.mp hx with hx | hx
            · exact hn3 x hx
            · exact hn5 x hx
          · unfold Kd.lvs
            rw [Nat.pow_succ]
            omega
end Fro

namespace Fro
open PySem PySem.Spec L2

/-! ### sorted lists of texts, keys of dicts -/
theorem srt_eq {a b : List Tx} (h : a.Perm b) : srtT a = srtT b := by
  refine List.Perm.eq_of_pairwise (le := fun a b : Tx => ¬ b < a) (fun x y _ _ h1 h2 => ?_) (srtT_sorted a) (srtT_sorted b) ((srtT_perm a).trans (h.trans (srtT_perm b).symm))
  exact List.le_antisymm h1 h2
theorem perm_nd {a b : List Tx} (ha : a.Nodup) (hb : b.Nodup) (h : ∀ x, x ∈ a ↔ x ∈ b) : a.Perm b :=
  (List.perm_ext_iff_of_nodup ha hb).mpr h
theorem putE_keys (es : List (Tx × D)) (t : Tx) (d : D) : (putE es t d).map (·.1) = if t ∈ es.map (·.1) then es.map (·.1) else es.map (·.1) ++ [t] := by
  have h : hasE es t = decide (t ∈ es.map (·.1)) := by
    unfold hasE
    induction es with
    | nil => rfl
    | cons e r ih =>
      rw [List.any_cons, ih, List.map_cons]
      by_cases z : e.1 = t
      · rw [beq_iff_eq.mpr z, show decide (t ∈ e.1 :: r.map (·.1)) = true from decide_eq_true (by rw [z]; exact List.mem_cons_self)]; rfl
      · rw [beq_eq_false_iff_ne.mpr z, Bool.false_or]
        exact decide_eq_decide.mpr ⟨List.mem_cons_of_mem _, fun q => (List.mem_cons.mp q).resolve_left fun y => z y.symm⟩
  unfold putE
  rw [h]
  by_cases z : t ∈ es.map (·.1)
  · rw [if_pos (decide_eq_true z), if_pos z, List.map_map]
    refine List.map_congr_left fun e _ => ?_
    show (if e.1 = t then (e.1, d) else e).1 = e.1
    split <;> rfl
  · rw [if_neg (by rw [decide_eq_false z]; decide), if_neg z, List.map_append]
    rfl
theorem mergeE_keys : ∀ (l acc : List (Tx × D)), (acc.map (·.1)).Nodup → ((mergeE acc l).map (·.1)).Nodup ∧ ∀ x, x ∈ (mergeE acc l).map (·.1) ↔ x ∈ acc.map (·.1) ∨ x ∈ l.map (·.1)
  | [], acc, h => ⟨h, fun x => by show x ∈ acc.map (·.1) ↔ _; simp⟩
  | e :: l, acc, h => by
    have hk := putE_keys acc e.1 e.2
    have hn : ((putE acc e.1 e.2).map (·.1)).Nodup := by
      rw [hk]
      split
      · exact h
      · rename_i z
        rw [List.nodup_append]
        refine ⟨h, by simp, fun x hx y hy q => z ?_⟩
        have : y = e.1 := by simpa using hy
        rw [← this, ← q]
        exact hx
    obtain ⟨h1, h2⟩ := mergeE_keys l (putE acc e.1 e.2) hn
    refine ⟨h1, fun x => ?_⟩
    show x ∈ (mergeE (putE acc e.1 e.2) l).map (·.1) ↔ _
    rw [h2 x, hk, List.map_cons, List.mem_cons]
    split
    · rename_i z
      constructor
      · exact fun q => q.imp id .inr
      · rintro (q | q | q)
        · exact .inl q
        · exact .inl (by rw [q]; exact z)
        · exact .inr q
    · rw [List.mem_append, List.mem_singleton]
      constructor
      · rintro ((q | q) | q)
        · exact .inl q
        · exact .inr (.inl q)
        · exact .inr (.inr q)
      · rintro (q | q | q)
        · exact .inl (.inl q)
        · exact .inl (.inr q)
        · exact .inr q
theorem textsOf_stL : ∀ ts : List Tx, textsOf (stL ts) = some ts
  | [] => rfl
  | t :: ts => by
    show (textsOf (stL ts)).map (t :: ·) = _
    rw [textsOf_stL ts]
    rfl
theorem zip_fst : ∀ (ts : List Tx) (ds : List D), ts.length = ds.length → (ts.zip ds).map (·.1) = ts
  | [], _, _ => by simp
  | t :: ts, [], h => by cases h
  | t :: ts, d :: ds, h => by
    rw [List.zip_cons_cons, List.map_cons, zip_fst ts ds (by simpa using h)]
/-- sorted(dict(zip(rows, rows))) and sorted of a list with the same texts -/
theorem sorted_same {rows fr : List Tx} (hn : fr.Nodup) (hl : fr.length < 64) (h : ∀ x, x ∈ rows ↔ x ∈ fr) : ∃ es, gDictZip [.lst (stL rows), .lst (stL rows)] = some (.dct es) ∧ gSortD [.dct es] = some (.lst (stL (srtT fr))) ∧ gSortL [.lst (stL fr)] = some (.lst (stL (srtT fr))) := by
  refine ⟨mergeE [] (rows.zip (stL rows)), ?_, ?_, ?_⟩
  · show (textsOf (stL rows)).map _ = _
    rw [textsOf_stL]
    rfl
  · obtain ⟨h1, h2⟩ := mergeE_keys (rows.zip (stL rows)) [] List.nodup_nil
    rw [zip_fst _ _ (by rw [stL_length])] at h2
    have p : ((mergeE [] (rows.zip (stL rows))).map (·.1)).Perm fr := perm_nd h1 hn fun x => by rw [h2 x]; simp [h x]
    have hlen : (mergeE [] (rows.zip (stL rows))).length < 64 := by
      have := p.length_eq
      rw [List.length_map] at this
      omega
    show (if (mergeE [] (rows.zip (stL rows))).length < 64 then some (D.lst ((srtT ((mergeE [] (rows.zip (stL rows))).map (·.1))).map D.str)) else none) = _
    rw [if_pos hlen, srt_eq p]
    rfl
  · unfold gSortL
    simp only [textsOf_stL, if_pos hl]
    rfl
theorem srt_mem {l : List Tx} {x : Tx} : x ∈ srtT l ↔ x ∈ l := (srtT_perm l).mem_iff
end Fro

namespace Fro
open PySem PySem.Spec L2
theorem free_ev (k : Kd) (S : Sto) (h : Good k) (hh : k.ht ≤ 30) (hl : k.lvs ≤ 1000) : f_free [.v (enc k)] S = .ok (.new (.lst (stL (frees k [])))) S :=
  e_fdef_new (e_seq_nx (e_expr (e_call (ws := [.v (enc k)]) rfl rfl (want_kind_ev k S h hh) rfl)) (e_ret (e_callM (ws := [.v (enc k)]) rfl rfl (free_of_ev k 30 [] S hh (by simp; omega) hl) rfl)))
end Fro

namespace Fro
open PySem PySem.Spec L2

theorem e_fdef_vsa {n : Nat} {body : DenS} {ws : List W} {S X : Sto} {d : D} {i : Nat} {o : Ob} (h : body (slots0 n ws) S = .rt (.v d) (S.set i o ++ X)) : fdef n body ws S = .ok (.v d) (S.set i o) := by
  refine e_fdef h ?_
  show R.ok (Rv.v d) ((S.set i o ++ X).take S.length) = _
  rw [List.take_left' (by rw [List.length_set])]
theorem set_app {S T : Sto} {i : Nat} {o : Ob} (h : i < S.length) : (S ++ T).set i o = S.set i o ++ T := List.set_append_left _ _ h
def names4 : List Tx := [[97], [98], [99], [120]]
def OkN (ns : List Tx) : Prop := ns = names4 ∨ ns = names4.drop 1
theorem okN_nm {ns : List Tx} (h : OkN ns) : (∀ t ∈ ns, isNm t = true) ∧ ns ≠ [] ∧ ns.length ≤ 4 ∧ ns.Nodup ∧ ns.take 2 ≠ [] := by
  rcases h with rfl | rfl <;> decide +kernel
/-- kinds over these names -/
def Ov (ns : List Tx) (k : Kd) : Prop := ∀ x ∈ k.nms, x ∈ ns
theorem ov_good {ns : List Tx} (hn : OkN ns) {k : Kd} (h : Ov ns k) : Good k := fun x hx => (okN_nm hn).1 x (h x hx)
/-- forms over these names -/
def OvF (ns : List Tx) (f : Fm) : Prop := ∀ x ∈ frF f, x ∈ ns
theorem ovF_in {ns : List Tx} {k : Kd} (h : Ov ns k) : OvF ns (inF k []) := fun x hx => by
  rw [frF_in k [] [] (fun _ => Iff.rfl)] at hx
  exact h x (frees_nms k [] x hx)
theorem ovF_few {ns : List Tx} (hn : OkN ns) {f : Fm} (h : OvF ns f) : (frF f).length ≤ 100 := by
  have h1 := fr_few (f := f) (ns := ns) h
  have := (okN_nm hn).2.2.1
  omega
structure OkS (ns : List Tx) (h : Nat) (es : Sub) : Prop where
  nd : (es.map (·.1)).Nodup
  keys : ∀ e ∈ es, e.1 ∈ ns
  vals : ∀ e ∈ es, Good e.2 ∧ OvF ns (inF e.2 []) ∧ e.2.ht ≤ h
theorem okS_len {ns : List Tx} {h : Nat} {es : Sub} (hn : OkN ns) (ok : OkS ns h es) : es.length ≤ 4 := by
  have h1 := ok.nd.length_le_of_subset (l₂ := ns) fun x hx => by
    obtain ⟨e, he, rfl⟩ := List.mem_map.mp hx
    exact ok.keys e he
  rw [List.length_map] at h1
  have := (okN_nm hn).2.2.1
  omega
theorem okS_good {ns : List Tx} {h : Nat} {es : Sub} (hn : OkN ns) (ok : OkS ns h es) : GoodE es h := ⟨ok.nd, fun e he => (okN_nm hn).1 _ (ok.keys e he), fun e he => ⟨(ok.vals e he).1, (ok.vals e he).2.2⟩, by have := okS_len hn ok; omega⟩
theorem ovF_fill {ns : List Tx} {h : Nat} {f : Fm} {es : Sub} (hf : OvF ns f) (ok : OkS ns h es) : OvF ns (fillF f (subF es)) := fun x hx => by
  obtain ⟨m, h1, h2⟩ := (mem_fill _ _ _).mp hx
  cases q : subF es m with
  | none =>
    rw [q] at h2
    have : x = m := by simpa [frF] using h2
    rw [this]; exact hf m h1
  | some g =>
    rw [q] at h2
    obtain ⟨v, hv, rfl⟩ := subF_some q
    exact (ok.vals _ hv).2.1 x h2
/-- what is put, and all about it -/
theorem put_all {ns : List Tx} (hn : OkN ns) {h : Nat} {k : Kd} {es : Sub} (g : Good k) (o : OvF ns (inF k [])) (ok : OkS ns h es) (hh : 1 ≤ h) (ht : k.ht + h ≤ 10) :
    (∀ S, f_put [.v (enc k), .v (.dct (encE es))] S = .ok (.v (enc (outK (putF k es)))) S) ∧ FineF (putF k es) ∧ OvF ns (putF k es) ∧ (outK (putF k es)).ht + 1 ≤ k.ht + h := by
  have ge := okS_good hn ok
  have ov : OvF ns (putF k es) := ovF_fill o ok
  have few := ovF_few hn ov
  refine ⟨fun S => put_ev g ge hh ht few S, fine_put g ge hh ht few, ov, ?_⟩
  show (outF (putF k es) [] _).ht + 1 ≤ _
  rw [out_htF]
  have := fill_ht (subF es) h hh (fun t x hx => by
    obtain ⟨v, hv, rfl⟩ := subF_some hx
    rw [inF_ht]
    exact (ge.vals _ hv).2) (inF k [])
  rw [inF_ht] at this
  exact this
theorem fine_of {ns : List Tx} (hn : OkN ns) {k : Kd} (g : Good k) (o : OvF ns (inF k [])) (h : k.ht ≤ 9) : Fine k := by
  have s := kd_sz9 h
  have few := ovF_few hn o
  exact ⟨g, by omega, by omega, by omega, by rw [← frF_in k [] [] (fun _ => Iff.rfl)]; omega⟩
/-! ### a drawn dict -/
theorem turnF_ev {ns : List Tx} (hn : OkN ns) {T : Sto} {j : Nat} {o : Ob} (hs : Src T j) (so : SrcO o) (rows : List (Tx × Kd)) (hl : rows.length < 1000) (n : Tx) :
    ∃ (o' : Ob) (more : List (Tx × Kd)), SrcO o' ∧ (more = [] ∨ ∃ v, more = [(n, v)] ∧ Ov ns v ∧ v.ht ≤ 3) ∧ l1__law_filling [some (.r j), some (.v (.lst (stL ns))), some (.r T.length), some (.v (.str n))] (T.set j o ++ [.lst (rows.map fun e => .tup [.str e.1, enc e.2])]) =
      .nx [some (.r j), some (.v (.lst (stL ns))), some (.r T.length), some (.v (.str n))] (T.set j o' ++ [.lst ((rows ++ more).map fun e => .tup [.str e.1, enc e.2])]) := by
  have hj := src_lt hs
  have back : ∀ (x : Ob) (o1 o2 : Ob), ((T.set j o1) ++ [x]).set j o2 = T.set j o2 ++ [x] := fun x o1 o2 => by rw [set_app (by rw [List.length_set]; exact hj), set_set]
  generalize hob : Ob.lst (rows.map fun e => D.tup [.str e.1, enc e.2]) = ob
  have hX : Src (T.set j o ++ [ob]) j := src_app (src_set hs so)
  obtain ⟨d2, o1, a0, a1, so1, e1⟩ := next_call hX 2 (by decide) (by decide)
  rw [back] at e1
  have t1 : cB (op2 gEq (cCall 2 f__law_next (cCons (cVar 0) (cCons (cC (.int 2)) cNil)) []) (cC (.int 0))) [some (.r j), some (.v (.lst (stL ns))), some (.r T.length), some (.v (.str n))] (T.set j o ++ [ob]) = .ok (decide (d2 = 0)) (T.set j o1 ++ [ob]) := e_b (e_op2v (e1 _ _ rfl) rfl v_eqI)
  by_cases hz : d2 = 0
  · rw [decide_eq_true hz] at t1
    have hX1 : Src (T.set j o1 ++ [ob]) j := src_app (src_set hs so1)
    obtain ⟨d3, o2, b0, b1, so2, e2⟩ := next_call hX1 3 (by decide) (by decide)
    obtain ⟨dp, rfl⟩ : ∃ n : Nat, d3 = n := ⟨d3.toNat, by omega⟩
    rw [back] at e2
    have hX2 : Src (T.set j o2 ++ [ob]) j := src_app (src_set hs so2)
    obtain ⟨v, o3, e3, so3, hv1, hv2, hv3⟩ := kind_ev ns (okN_nm hn).2.1 (by have := (okN_nm hn).2.2.1; omega) 7 dp _ j (by omega) hX2
    rw [back] at e3
    refine ⟨o3, [(n, v)], so3, .inr ⟨v, rfl, hv1, by omega⟩, e_ifs_t t1 (e_expr (w := .v .non) ?_)⟩
    have at3 : ∀ x : Ob, (T.set j x ++ [ob])[T.length]? = some ob := fun x => by
      have : T.length = (T.set j x).length := by rw [List.length_set]
      rw [this]; exact at_last _ _
    have q := e_append (x := cVar 2) (y := cTup (cCons (cVar 3) (cCons (cCall 3 (f__law_kind 7) (cCons (cVar 0) (cCons (cCall 2 f__law_next (cCons (cVar 0) (cCons (cC (.int 3)) cNil)) []) (cCons (cVar 1) cNil))) []) cNil))) (δ := [some (.r j), some (.v (.lst (stL ns))), some (.r T.length), some (.v (.str n))]) (S := T.set j o1 ++ [ob]) (S1 := T.set j o1 ++ [ob]) (i := T.length) (d := .tup [.str n, enc v]) (ds := rows.map fun e => D.tup [.str e.1, enc e.2]) (S2 := T.set j o3 ++ [ob])
      rfl ⟨_, by rw [at3 o1, ← hob]⟩ (e_disp (ws := [.v (.str n), .v (enc v)]) (e_cons rfl (e_cons (e_call (S1 := T.set j o2 ++ [ob]) (ws := [.r j, .v (.int dp), .v (.lst (stL ns))]) (e_cons rfl (e_cons (e2 _ _ rfl) (e_cons rfl rfl))) rfl e3 rfl) rfl)) rfl (by simp) rfl) (by rw [at3 o3, hob]) (by rw [List.length_map]; omega)
    rw [q]
    congr 1
    have : T.length = (T.set j o3).length := by rw [List.length_set]
    rw [this, set_last, List.map_append]
    rfl
  · rw [decide_eq_false hz] at t1
    refine ⟨o1, [], so1, .inl rfl, e_ifs_f t1 ?_⟩
    rw [List.append_nil, ← hob]
    rfl
theorem pairs_rows : ∀ rows : List (Tx × Kd), pairsOf (rows.map fun e => D.tup [.str e.1, enc e.2]) = some (encE rows)
  | [] => rfl
  | e :: r => by
    show (pairsOf (r.map fun e => D.tup [.str e.1, enc e.2])).map _ = _
    rw [pairs_rows r]
    rfl
theorem filling_ev {ns : List Tx} (hn : OkN ns) {T : Sto} {j : Nat} (hs : Src T j) : ∃ (o : Ob) (es : Sub), SrcO o ∧ OkS ns 3 es ∧ f__law_filling [.r j, .v (.lst (stL ns))] T = .ok (.v (.dct (encE es))) (T.set j o) := by
  obtain ⟨hnm, hne, hnl, hnd, _⟩ := okN_nm hn
  have hj := src_lt hs
  obtain ⟨o0, hs0, so0⟩ := id hs
  have hT : T = T.set j o0 := (set_self hs0).symm
  obtain ⟨δ1, S1, eloop, ⟨w3, hδ⟩, o1, rows, so1, hrows, hkeys, hnd2, hvals, hS⟩ := forL_all (dg := gN 3) (b := l1__law_filling)
    (fun rest δ S => (∃ w3, δ = [some (.r j), some (.v (.lst (stL ns))), some (.r T.length), w3]) ∧ ∃ (o : Ob) (rows : List (Tx × Kd)), SrcO o ∧ (∃ l, rest = stL l ∧ ∀ x ∈ rows.map (·.1), x ∉ l ∧ l.Nodup ∧ True) ∧ (∃ l, rest = stL l ∧ l.Nodup ∧ (∀ x ∈ l, x ∈ ns) ∧ ∀ e ∈ rows, e.1 ∈ ns ∧ e.1 ∉ l) ∧ (rows.map (·.1)).Nodup ∧ (∀ e ∈ rows, Ov ns e.2 ∧ e.2.ht ≤ 3) ∧ S = T.set j o ++ [.lst (rows.map fun e => .tup [.str e.1, enc e.2])])
    (stL ns) (fun d rest δ S ⟨⟨w3, hδ⟩, o, rows, so, _, ⟨l, hl, hlnd, hlns, hk⟩, hnd2, hv, hS⟩ => by
      subst hδ; subst hS
      cases l with
      | nil => cases hl
      | cons n l =>
        have hd : d = .str n := (List.cons.inj hl).1
        have hr : rest = stL l := (List.cons.inj hl).2
        subst hd
        obtain ⟨h1, h2⟩ := List.nodup_cons.mp hlnd
        have hlen : rows.length < 1000 := by
          have := hnd2.length_le_of_subset (l₂ := ns) fun x hx => by
            obtain ⟨e, he, rfl⟩ := List.mem_map.mp hx
            exact (hk e he).1
          rw [List.length_map] at this
          omega
        obtain ⟨o', more, so', hm, heq⟩ := turnF_ev hn hs so rows hlen n
        refine ⟨_, _, _, _, rfl, heq, ⟨_, rfl⟩, o', rows ++ more, so', ?_⟩
        have hk' : ∀ e ∈ rows ++ more, e.1 ∈ ns ∧ e.1 ∉ l := fun e he => by
          rcases List.mem_append.mp he with he | he
          · exact ⟨(hk e he).1, fun z => (hk e he).2 (List.mem_cons_of_mem _ z)⟩
          · rcases hm with rfl | ⟨v, rfl, _⟩
            · cases he
            · have : e = (n, v) := by simpa using he
              rw [this]
              exact ⟨hlns n List.mem_cons_self, h1⟩
        refine ⟨⟨l, hr, fun x hx => ⟨?_, h2, trivial⟩⟩, ⟨l, hr, h2, fun x hx => hlns x (List.mem_cons_of_mem _ hx), hk'⟩, ?_, fun e he => ?_, rfl⟩
        · obtain ⟨e, he, rfl⟩ := List.mem_map.mp hx
          exact (hk' e he).2
        · rw [List.map_append, List.nodup_append]
          refine ⟨hnd2, ?_, fun x hx y hy q => ?_⟩
          · rcases hm with rfl | ⟨v, rfl, _⟩ <;> simp
          · rcases hm with rfl | ⟨v, rfl, _⟩
            · cases hy
            · have : y = n := by simpa using hy
              obtain ⟨e, he, rfl⟩ := List.mem_map.mp hx
              exact (hk e he).2 (by rw [q, this]; exact List.mem_cons_self)
        · rcases List.mem_append.mp he with he | he
          · exact hv e he
          · rcases hm with rfl | ⟨v, rfl, hv1, hv2⟩
            · cases he
            · have : e = (n, v) := by simpa using he
              rw [this]; exact ⟨hv1, hv2⟩)
    [some (.r j), some (.v (.lst (stL ns))), some (.r T.length), none] (T.set j o0 ++ [.lst []]) ⟨⟨_, rfl⟩, o0, [], so0, ⟨ns, rfl, fun x hx => by cases hx⟩, ⟨ns, rfl, hnd, fun x hx => hx, fun e he => by cases he⟩, List.nodup_nil, fun e he => (by cases he), rfl⟩
  subst hδ; subst hS
  obtain ⟨l, hl, _, _, hkk⟩ := hkeys
  refine ⟨o1, rows, so1, ⟨hnd2, fun e he => (hkk e he).1, fun e he => ⟨ov_good hn (hvals e he).1, ovF_in (hvals e he).1, (hvals e he).2⟩⟩, e_fdef_vsa (X := [.lst (rows.map fun e => .tup [.str e.1, enc e.2])]) ?_⟩
  rw [← hT] at eloop
  refine e_seq_nx (δ' := [some (.r j), some (.v (.lst (stL ns))), some (.r T.length), none]) (S1 := T ++ [.lst []]) (e_set rfl) (e_seq_nx (e_for (S1 := T ++ [.lst []]) rfl eloop) (e_ret (e_blt (ws := [.r T.length]) (ds := [.lst (rows.map fun e => .tup [.str e.1, enc e.2])]) rfl ?_ ?_)))
  · have at3 : (T.set j o1 ++ [Ob.lst (rows.map fun e => D.tup [.str e.1, enc e.2])])[T.length]? = some (Ob.lst (rows.map fun e => D.tup [.str e.1, enc e.2])) := by
      have : T.length = (T.set j o1).length := by rw [List.length_set]
      rw [this]; exact at_last _ _
    show (match rd _ (.r T.length), rdAll _ [] with
      | some d, some ds => some (d :: ds)
      | _, _ => none) = _
    rw [rd_at at3]
    rfl
  · show (pairsOf _).map _ = _
    rw [pairs_rows]
    show some (D.dct (mergeE [] (encE rows))) = _
    rw [mergeE_nil _ [] (by
      rw [List.nil_append]
      have : (encE rows).map (·.1) = rows.map (·.1) := by unfold encE; rw [List.map_map]; rfl
      rw [this]
      exact hnd2), List.nil_append]
/-! ### put twice -/
theorem lkK_put (es : Sub) (t : Tx) (v : Kd) (n : Tx) : lkK (putS es t v) n = if t = n then some v else lkK es n := by
  have h1 : ∀ es : Sub, t ∈ es.map (·.1) → lkK (es.map fun e => if e.1 = t then (e.1, v) else e) n = if t = n then some v else lkK es n := by
    intro es
    induction es with
    | nil => intro h; cases h
    | cons e r ih =>
      intro h
      rw [List.map_cons]
      by_cases he : e.1 = t
      · rw [if_pos he]
        show (if e.1 = n then some v else lkK _ n) = _
        rw [he]
        by_cases hn : t = n
        · rw [if_pos hn, if_pos hn]
        · rw [if_neg hn, if_neg hn]
          show _ = if e.1 = n then some e.2 else lkK r n
          rw [he, if_neg hn]
          by_cases hr : t ∈ r.map (·.1)
          · rw [ih hr, if_neg hn]
          · congr 1
            rw [show (r.map fun e => if e.1 = t then (e.1, v) else e) = r.map id from List.map_congr_left fun x hx => if_neg fun z => hr (by rw [← z]; exact List.mem_map.mpr ⟨x, hx, rfl⟩), List.map_id]
      · rw [if_neg he]
        have hr : t ∈ r.map (·.1) := (List.mem_cons.mp h).resolve_left fun z => he z.symm
        show (if e.1 = n then some e.2 else lkK _ n) = if t = n then some v else if e.1 = n then some e.2 else lkK r n
        rw [ih hr]
        by_cases hn : t = n
        · rw [if_pos hn, if_neg (fun z => he (z.trans hn.symm)), if_pos hn]
        · rw [if_neg hn, if_neg hn]
  have h2 : ∀ es : Sub, t ∉ es.map (·.1) → lkK (es ++ [(t, v)]) n = if t = n then some v else lkK es n := by
    intro es
    induction es with
    | nil => intro _; rfl
    | cons e r ih =>
      intro h
      have he : e.1 ≠ t := fun z => h (by rw [← z]; exact List.mem_cons_self)
      show (if e.1 = n then some e.2 else lkK (r ++ [(t, v)]) n) = if t = n then some v else if e.1 = n then some e.2 else lkK r n
      rw [ih fun z => h (List.mem_cons_of_mem _ z)]
      by_cases hn : t = n
      · rw [if_pos hn, if_neg (fun z => he (z.trans hn.symm)), if_pos hn]
      · rw [if_neg hn, if_neg hn]
  unfold putS
  by_cases h : t ∈ es.map (·.1)
  · rw [if_pos h]; exact h1 es h
  · rw [if_neg h]; exact h2 es h
def bothS (second : Sub) (acc l : Sub) : Sub := l.foldl (fun acc e => putS acc e.1 (outK (putF e.2 second))) acc
theorem lkK_both (second : Sub) (n : Tx) : ∀ (l acc : Sub), (l.map (·.1)).Nodup → lkK (bothS second acc l) n = match lkK l n with
    | some v => some (outK (putF v second))
    | none => lkK acc n
  | [], acc, _ => rfl
  | e :: l, acc, h => by
    obtain ⟨h1, h2⟩ := List.nodup_cons.mp h
    show lkK (bothS second (putS acc e.1 (outK (putF e.2 second))) l) n = match (if e.1 = n then some e.2 else lkK l n) with
      | some v => some (outK (putF v second))
      | none => lkK acc n
    rw [lkK_both second n l _ h2, lkK_put]
    by_cases hn : e.1 = n
    · have : lkK l n = none := by
        cases q : lkK l n with
        | none => rfl
        | some v => exact absurd (show e.1 ∈ l.map (·.1) by rw [hn]; exact List.mem_map.mpr ⟨_, lkK_mem q, rfl⟩) h1
      rw [this, if_pos hn, if_pos hn]
    · rw [if_neg hn, if_neg hn]
theorem ok_both {ns : List Tx} (hn : OkN ns) {second : Sub} (hs : OkS ns 3 second) : ∀ (l acc : Sub), OkS ns 3 l → OkS ns 5 acc → OkS ns 5 (bothS second acc l)
  | [], acc, _, h => h
  | e :: l, acc, hl, h => by
    obtain ⟨g1, g2, g3⟩ := hl.vals e List.mem_cons_self
    obtain ⟨_, f1, f2, f3⟩ := put_all hn g1 g2 hs (by decide) (by omega)
    have nd := hl.nd
    rw [List.map_cons] at nd
    refine ok_both hn hs l _ ⟨(List.nodup_cons.mp nd).2, fun x hx => hl.keys x (List.mem_cons_of_mem _ hx), fun x hx => hl.vals x (List.mem_cons_of_mem _ hx)⟩ ⟨putS_keys acc e.1 _ h.nd, fun x hx => ?_, fun x hx => ?_⟩
    · rcases putS_mem hx with rfl | hx
      · exact hl.keys e List.mem_cons_self
      · exact h.keys x hx
    · rcases putS_mem hx with rfl | hx
      · refine ⟨(fine_outK f1).good, ?_, by show (outK _).ht ≤ 5; omega⟩
        show OvF ns (inF (outK (putF e.2 second)) [])
        rw [in_outK f1]
        exact f2
      · exact h.vals x hx
theorem both_fill {first second : Sub} (nd : (first.map (·.1)).Nodup) (hf : ∀ e ∈ first, FineF (putF e.2 second)) (f : Fm) : fillF (fillF f (subF first)) (subF second) = fillF f (subF (bothS second second first)) := by
  rw [fill_fill _ _ f (subF_inn first)]
  congr 1
  funext n
  unfold subF
  rw [lkK_both second n first second nd]
  cases q : lkK first n with
  | none => rfl
  | some v =>
    have := in_outK (hf _ (lkK_mem q))
    show some (fillF (inF v []) (subF second)) = some (inF (outK (putF v second)) [])
    rw [this]
    rfl
theorem loopB_ev {ns : List Tx} (hn : OkN ns) {first second : Sub} (hs : OkS ns 3 second) (S : Sto) (a : W) (w5 w6 : Option W) (hfl : first.length ≤ 1000) : ∀ (l acc : Sub) (w4 : Option W), OkS ns 3 l → OkS ns 5 acc → (∀ e ∈ l, lkK first e.1 = some e.2) →
    ∃ w4', (w4' = w4 ∨ ∃ d, w4' = some (.v d)) ∧ forL (gN 4) l1__law_put_right (l.map fun e => .str e.1) [some a, some (.lk (encE first)), some (.v (.dct (encE second))), some (.r S.length), w4, w5, w6] (S ++ [.dct (encE acc)]) =
      .nx [some a, some (.lk (encE first)), some (.v (.dct (encE second))), some (.r S.length), w4', w5, w6] (S ++ [.dct (encE (bothS second acc l))])
  | [], acc, w4, _, _, _ => ⟨w4, .inl rfl, rfl⟩
  | e :: l, acc, w4, hl, ha, hk => by
    obtain ⟨g1, g2, g3⟩ := hl.vals e List.mem_cons_self
    obtain ⟨f0, f1, f2, f3⟩ := put_all hn g1 g2 hs (by decide) (by omega)
    have nd := hl.nd
    rw [List.map_cons] at nd
    have one : OkS ns 3 [e] := ⟨by simp, fun x hx => by rw [List.mem_singleton.mp hx]; exact hl.keys e List.mem_cons_self, fun x hx => by rw [List.mem_singleton.mp hx]; exact hl.vals e List.mem_cons_self⟩
    have ok1 : OkS ns 5 (putS acc e.1 (outK (putF e.2 second))) := ok_both hn hs [e] acc one ha
    obtain ⟨w4', hw, ih⟩ := loopB_ev hn hs S a w5 w6 hfl l (putS acc e.1 (outK (putF e.2 second))) (some (.v (.str e.1))) ⟨(List.nodup_cons.mp nd).2, fun x hx => hl.keys x (List.mem_cons_of_mem _ hx), fun x hx => hl.vals x (List.mem_cons_of_mem _ hx)⟩ ok1 fun x hx => hk x (List.mem_cons_of_mem _ hx)
    refine ⟨w4', .inr (hw.elim (fun z => ⟨_, z⟩) id), Eq.trans (e_for_nx (δ1 := [some a, some (.lk (encE first)), some (.v (.dct (encE second))), some (.r S.length), some (.v (.str e.1)), w5, w6]) (S1 := S ++ [.dct (encE acc)]) rfl ?_) ih⟩
    have ex : cDIx (cVar 1) (cVar 4) [some a, some (.lk (encE first)), some (.v (.dct (encE second))), some (.r S.length), some (.v (.str e.1)), w5, w6] (S ++ [.dct (encE acc)]) = .ok (.v (enc e.2)) (S ++ [.dct (encE acc)]) := by
      have hlk : lkT (encE first) e.1 = some (enc e.2) := by rw [lkT_enc, hk e List.mem_cons_self]; rfl
      unfold cDIx
      show (cVar 1 _ _).bind _ = _
      rw [show cVar 1 [some a, some (.lk (encE first)), some (.v (.dct (encE second))), some (.r S.length), some (.v (.str e.1)), w5, w6] (S ++ [.dct (encE acc)]) = .ok (.lk (encE first)) (S ++ [.dct (encE acc)]) from rfl, R.bind_ok]
      rw [show cVar 4 [some a, some (.lk (encE first)), some (.v (.dct (encE second))), some (.r S.length), some (.v (.str e.1)), w5, w6] (S ++ [.dct (encE acc)]) = .ok (.v (.str e.1)) (S ++ [.dct (encE acc)]) from rfl, R.bind_ok]
      unfold apDIx
      simp only [rd, hlk]
    refine e_asg (S1 := S ++ [.dct (encE acc)]) (w := .v (enc (outK (putF e.2 second)))) (e_call (S1 := S ++ [.dct (encE acc)]) (ws := [.v (enc e.2), .v (.dct (encE second))]) (e_cons ex (e_cons rfl rfl)) rfl (f0 _) rfl) ?_
    unfold gSubE
    have q1 : cVar 3 [some a, some (.lk (encE first)), some (.v (.dct (encE second))), some (.r S.length), some (.v (.str e.1)), w5, w6] (S ++ [.dct (encE acc)]) = .ok (.r S.length) (S ++ [.dct (encE acc)]) := rfl
    have q2 : cVar 4 [some a, some (.lk (encE first)), some (.v (.dct (encE second))), some (.r S.length), some (.v (.str e.1)), w5, w6] (S ++ [.dct (encE acc)]) = .ok (.v (.str e.1)) (S ++ [.dct (encE acc)]) := rfl
    have q3 : isRD (.r S.length) (S ++ [.dct (encE acc)]) = some (S.length, encE acc) := by
      unfold isRD
      simp only [at_last]
    have el : (encE acc).length < 1000 := by
      unfold encE
      rw [List.length_map]
      have := okS_len hn ha
      omega
    simp only [q1, q2, q3, toD, if_pos el]
    rw [putE_enc, set_last]
/-! ### same -/
theorem same_ev {a b : Kd} (h1 : Fine a) (h2 : Fine b) (S : Sto) : f_same [.v (enc a), .v (enc b)] S = .ok (.v (.bl (decide (inF a [] = inF b [])))) S := by
  have e1 := plain_of_ev h1 S
  have e2 := plain_of_ev h2 S
  rw [plain_law a h1.good (by have := h1.qs; omega)] at e1
  rw [plain_law b h2.good (by have := h2.qs; omega)] at e2
  have q := gEq_enc2 (fine_law h1).good (fine_law h2).good (fine_law h1).ht
  rw [law_same h1 h2] at q
  exact e_fdef_v (e_seq_nx (e_expr (e_call (ws := [.v (enc a)]) rfl rfl (want_kind_ev a S h1.good h1.ht) rfl)) (e_seq_nx (e_expr (e_call (ws := [.v (enc b)]) rfl rfl (want_kind_ev b S h2.good h2.ht) rfl)) (e_ret (e_op2v (e_call (ws := [.v (enc a)]) rfl rfl e1 rfl) (e_call (ws := [.v (enc b)]) rfl rfl e2 rfl) q))))
/-- a free name is bound -/
def bindF (x : Tx) : Fm → Nat → Fm
  | .var n, d => if n = x then .at d else .var n
  | .at i, _ => .at i
  | .con0 c, _ => .con0 c
  | .list f, d => .list (bindF x f d)
  | .con2 c a b, d => .con2 c (bindF x a d) (bindF x b d)
  | .all f, d => .all (bindF x f (d + 1))
theorem idxT_snoc (n x : Tx) : ∀ ns : List Tx, idxT n (ns ++ [x]) = match idxT n ns with
    | some i => some i
    | none => if n = x then some ns.length else none
  | [] => by
    show (if x = n then some 0 else (idxT n []).map (· + 1)) = if n = x then some 0 else none
    by_cases h : x = n
    · rw [if_pos h, if_pos h.symm]
    · rw [if_neg h, if_neg fun z => h z.symm]; rfl
  | m :: r => by
    show (if m = n then some 0 else (idxT n (r ++ [x])).map (· + 1)) = match (if m = n then some 0 else (idxT n r).map (· + 1)) with
      | some i => some i
      | none => if n = x then some (r.length + 1) else none
    by_cases h : m = n
    · rw [if_pos h, if_pos h]
    · rw [if_neg h, if_neg h, idxT_snoc n x r]
      cases idxT n r with
      | some i => rfl
      | none =>
        by_cases hx : n = x
        · rw [if_pos hx]; show some (r.length + 1) = if n = x then some (r.length + 1) else none; rw [if_pos hx]
        · rw [if_neg hx]; show none = if n = x then some (r.length + 1) else none; rw [if_neg hx]
theorem in_bind (x : Tx) : ∀ (k : Kd) (ns : List Tx), inF k (ns ++ [x]) = bindF x (inF k ns) ns.length
  | .var n, ns => by
    unfold inF
    rw [idxT_snoc]
    cases idxT n ns with
    | some i => rfl
    | none =>
      show (match (if n = x then some ns.length else none : Option Nat) with
        | some i => Fm.at i
        | none => .var n) = if n = x then .at ns.length else .var n
      by_cases hx : n = x
      · rw [if_pos hx, if_pos hx]
      · rw [if_neg hx, if_neg hx]
  | .con0 _, _ => rfl
  | .list k, ns => by show Fm.list _ = Fm.list _; rw [in_bind x k ns]
  | .con2 c a b, ns => by show Fm.con2 c _ _ = Fm.con2 c _ _; rw [in_bind x a ns, in_bind x b ns]
  | .all n k, ns => by
    show Fm.all (inF k ((n :: ns) ++ [x])) = Fm.all (bindF x (inF k (n :: ns)) (ns.length + 1))
    rw [in_bind x k (n :: ns)]
    rfl
theorem bind_fill (a x : Tx) (s : Tx → Option Fm) (hs : ∀ n, s n = if n = a then some (.var x) else none) : ∀ (f : Fm) (d : Nat), x ∉ frF f → bindF x (fillF f s) d = bindF a f d
  | .var n, d, h => by
    show bindF x ((s n).getD (.var n)) d = if n = a then .at d else .var n
    rw [hs]
    by_cases ha : n = a
    · rw [if_pos ha, if_pos ha]
      show (if x = x then Fm.at d else _) = _
      rw [if_pos rfl]
    · rw [if_neg ha, if_neg ha]
      show (if n = x then Fm.at d else .var n) = _
      rw [if_neg fun z => h (by rw [z]; exact List.mem_cons_self)]
  | .at _, _, _ => rfl
  | .con0 _, _, _ => rfl
  | .list f, d, h => by show Fm.list _ = Fm.list _; rw [bind_fill a x s hs f d h]
  | .con2 c f g, d, h => by
    show Fm.con2 c _ _ = Fm.con2 c _ _
    rw [bind_fill a x s hs f d fun z => h (mem_fr2.mpr (.inl z)), bind_fill a x s hs g d fun z => h (mem_fr2.mpr (.inr z))]
  | .all f, d, h => by show Fm.all _ = Fm.all _; rw [bind_fill a x s hs f (d + 1) h]
theorem gEqB (c d : Bool) : gEq (.bl c) (.bl d) = some (.bl (c == d)) := by cases c <;> cases d <;> rfl
theorem gNeB (c d : Bool) : gNe (.bl c) (.bl d) = some (.bl (!(c == d))) := by cases c <;> cases d <;> rfl
end Fro

namespace Fro
open PySem PySem.Spec L2

def gvK (es : Sub) (n : Tx) : Kd := (lkK es n).getD (.var n)
theorem gv_fr (es : Sub) (n : Tx) : frees (gvK es n) [] = frF ((subF es n).getD (.var n)) := by
  rw [← frF_in _ [] [] (fun _ => Iff.rfl)]
  unfold gvK subF
  cases lkK es n <;> rfl
theorem loopR_ev {ns : List Tx} (hn : OkN ns) {es : Sub} (ok : OkS ns 3 es) (a b c d : Option W) (S : Sto) : ∀ (l acc : List Tx) (w4 : Option W), (∀ n ∈ l, n ∈ ns) → acc.length + l.length * 10 ≤ 1000 →
    ∃ w4', forL (gN 4) l2__law_put_right (stL l) [a, some (.v (.dct (encE es))), b, c, w4, d, some (.v (.lst (stL acc)))] S = .nx [a, some (.v (.dct (encE es))), b, c, w4', d, some (.v (.lst (stL (acc ++ l.flatMap fun n => frees (gvK es n) []))))] S
  | [], acc, w4, _, _ => ⟨w4, by rw [List.flatMap_nil, List.append_nil]; rfl⟩
  | n :: l, acc, w4, hl, hlen => by
    have hnn := hl n List.mem_cons_self
    have g : Good (gvK es n) ∧ OvF ns (inF (gvK es n) []) ∧ (gvK es n).ht ≤ 3 := by
      unfold gvK
      cases q : lkK es n with
      | some v => exact ok.vals _ (lkK_mem q)
      | none => exact ⟨fun x hx => by rw [List.mem_singleton.mp hx]; exact (okN_nm hn).1 n hnn, fun x hx => by rw [List.mem_singleton.mp (show x ∈ [n] from hx)]; exact hnn, (by show 1 ≤ 3; decide)⟩
    have fl : (frees (gvK es n) []).length ≤ 4 := by
      rw [← frF_in _ [] [] (fun _ => Iff.rfl)]
      have := fr_few g.2.1
      have := (okN_nm hn).2.2.1
      omega
    rw [List.length_cons] at hlen
    obtain ⟨w4', ih⟩ := loopR_ev hn ok a b c d S l (acc ++ frees (gvK es n) []) (some (.v (.str n))) (fun x hx => hl x (List.mem_cons_of_mem _ hx)) (by rw [List.length_append]; omega)
    refine ⟨w4', Eq.trans (e_for_nx (δ1 := [a, some (.v (.dct (encE es))), b, c, some (.v (.str n)), d, some (.v (.lst (stL acc)))]) (S1 := S) rfl (e_set (e_op2v (d := .lst (stL acc)) (e := .lst (stL (frees (gvK es n) []))) rfl (e_call (ws := [.v (enc (gvK es n))]) (e_cons ?_ rfl) rfl (free_ev (gvK es n) S g.1 (by omega) (by have := (kd_sz9 (k := gvK es n) (by omega)).1; omega)) rfl) (gAdd_lsts acc _ (by omega))))) (by rw [List.flatMap_cons, ← List.append_assoc]; exact ih)⟩
    unfold gvK
    cases q : lkK es n with
    | some v => exact e_dget2_some (z := cTup (cCons (cC (.str [118, 97, 114])) (cCons (cVar 4) cNil))) (w := .v (enc (.var n))) (es := encE es) (t := n) rfl rfl (e_disp (ws := [.v (.str [118, 97, 114]), .v (.str n)]) rfl rfl (by simp) rfl) (by rw [lkT_enc, q]; rfl)
    | none => exact e_dget2_none (z := cTup (cCons (cC (.str [118, 97, 114])) (cCons (cVar 4) cNil))) (w := .v (enc (.var n))) (es := encE es) (t := n) rfl rfl (e_disp (ws := [.v (.str [118, 97, 114]), .v (.str n)]) rfl rfl (by simp) rfl) (by rw [lkT_enc, q]; rfl)
theorem put_right_ev {ns : List Tx} (hn : OkN ns) {k : Kd} {first second : Sub} (gk : Good k) (ok : OvF ns (inF k [])) (hk : k.ht ≤ 5) (h1 : OkS ns 3 first) (h2 : OkS ns 3 second) (S : Sto) :
    f__law_put_right [.v (enc k), .v (.dct (encE first)), .v (.dct (encE second))] S = .ok (.v (.bl true)) S := by
  have okb : OkS ns 5 (bothS second second first) := ok_both hn h2 first second h1 ⟨h2.nd, h2.keys, fun e he => ⟨(h2.vals e he).1, (h2.vals e he).2.1, by have := (h2.vals e he).2.2; omega⟩⟩
  generalize hb : bothS second second first = both at okb
  have nd1 := h1.nd
  have lk1 : ∀ e ∈ first, lkK first e.1 = some e.2 := by
    have : ∀ l : Sub, (l.map (·.1)).Nodup → ∀ e ∈ l, lkK l e.1 = some e.2 := by
      intro l
      induction l with
      | nil => intro _ e he; cases he
      | cons x r ih =>
        intro nd e he
        rw [List.map_cons] at nd
        obtain ⟨n1, n2⟩ := List.nodup_cons.mp nd
        show (if x.1 = e.1 then some x.2 else lkK r e.1) = _
        rcases List.mem_cons.mp he with rfl | he
        · rw [if_pos rfl]
        · rw [if_neg fun z => n1 (by rw [z]; exact List.mem_map.mpr ⟨e, he, rfl⟩)]
          exact ih n2 e he
    exact this first nd1
  -- what is put
  obtain ⟨p1, f1, o1, t1⟩ := put_all hn gk ok h1 (by decide) (by omega)
  have g1 := fine_outK f1
  have i1 := in_outK f1
  have ov1 : OvF ns (inF (outK (putF k first)) []) := by rw [i1]; exact o1
  obtain ⟨p2, f2, _, _⟩ := put_all hn g1.good ov1 h2 (by decide) (by omega)
  obtain ⟨p3, f3, _, _⟩ := put_all hn gk ok okb (by decide) (by omega)
  have e23 : putF (outK (putF k first)) second = putF k both := by
    unfold putF
    have := i1
    unfold putF at this
    rw [this, ← hb]
    exact both_fill h1.nd (fun e he => by
      obtain ⟨a, b, c⟩ := h1.vals e he
      exact (put_all hn a b h2 (by decide) (by omega)).2.1) _
  rw [e23] at p2
  generalize honce : outK (putF k first) = once at *
  have fon : Fine once := g1
  have hon : once.ht ≤ 9 := by omega
  have epl : ∀ S, f_plain [.v (enc once)] S = .ok (.v (enc once)) S := fun S => by
    have e := plain_ev fon S
    rw [lawK_outK, i1, honce] at e
    exact e
  have gp : gNe (enc (outK (putF k both))) (enc (outK (putF k both))) = some (.bl false) := gNe_fine (fine_outK f3)
  have go : gNe (enc once) (enc once) = some (.bl false) := gNe_fine fon
  -- the loop
  obtain ⟨w4', hw4, el⟩ := loopB_ev hn h2 S (.v (enc k)) none none (by have := okS_len hn h1; omega) first second none h1 ⟨h2.nd, h2.keys, fun e he => ⟨(h2.vals e he).1, (h2.vals e he).2.1, by have := (h2.vals e he).2.2; omega⟩⟩ lk1
  rw [hb] at el
  have s2 : ∃ w4, cLkS 1 (cFor (itK (cVar 1)) (gN 4) l1__law_put_right) [some (.v (enc k)), some (.v (.dct (encE first))), some (.v (.dct (encE second))), some (.r S.length), none, none, none] (S ++ [.dct (encE second)]) =
      .nx [some (.v (enc k)), some (.v (.dct (encE first))), some (.v (.dct (encE second))), some (.r S.length), w4, none, none] (S ++ [.dct (encE both)]) := by
    refine ⟨w4'.map unlk, ?_⟩
    show okLkS (cFor (itK (cVar 1)) (gN 4) l1__law_put_right [some (.v (enc k)), some (.lk (encE first)), some (.v (.dct (encE second))), some (.r S.length), none, none, none] (S ++ [.dct (encE second)])) = _
    rw [e_for (S1 := S ++ [.dct (encE second)]) (ds := first.map fun e => .str e.1) (by
      show R.ok _ _ = _
      congr 1
      show (encE first).map _ = _
      unfold encE
      rw [List.map_map]
      rfl) el]
    cases w4' <;> rfl
  obtain ⟨w4, s2⟩ := s2
  have s3 : cFz 3 (cAsg (cCall 2 f_put (cCons (cVar 0) (cCons (cVar 1) cNil)) []) (gN 5)) [some (.v (enc k)), some (.v (.dct (encE first))), some (.v (.dct (encE second))), some (.r S.length), w4, none, none] (S ++ [.dct (encE both)]) =
      .nx [some (.v (enc k)), some (.v (.dct (encE first))), some (.v (.dct (encE second))), some (.v (.dct (encE both))), w4, some (.v (enc once)), none] (S ++ [.dead]) := by
    refine e_fz (j := S.length) (es := encE both) rfl (at_last _ _) ?_
    rw [set_last]
    exact e_set (e_call (ws := [.v (enc k), .v (.dct (encE first))]) rfl rfl (p1 _) rfl)
  generalize hSd : S ++ [Ob.dead] = Sd at s3
  have t2 : (cOr (cB (op2 gNe (cCall 2 f_put (cCons (cVar 5) (cCons (cVar 2) cNil)) []) (cCall 2 f_put (cCons (cVar 0) (cCons (cVar 3) cNil)) []))) (cOr (cNot (cB (cCall 1 (f_is_kind 30) (cCons (cVar 5) cNil) []))) (cB (op2 gNe (cCall 1 f_plain (cCons (cVar 5) cNil) []) (cVar 5))))) [some (.v (enc k)), some (.v (.dct (encE first))), some (.v (.dct (encE second))), some (.v (.dct (encE both))), w4, some (.v (enc once)), none] Sd = .ok false Sd :=
    e_or_f (e_b (e_op2v (e_call (ws := [.v (enc once), .v (.dct (encE second))]) rfl rfl (p2 _) rfl) (e_call (ws := [.v (enc k), .v (.dct (encE both))]) rfl rfl (p3 _) rfl) gp)) (e_or_f (e_not (c := true) (e_b (e_call (ws := [.v (enc once)]) rfl rfl (is_kind_ev once 30 Sd fon.good fon.ht) rfl))) (e_b (e_op2v (e_call (ws := [.v (enc once)]) rfl rfl (epl _) rfl) rfl go)))
  -- the free names
  have frk : ∀ n ∈ frees k [], n ∈ ns := fun n hm => ok n (by rw [frF_in k [] [] (fun _ => Iff.rfl)]; exact hm)
  have frl : (frees k []).length ≤ 4 := by
    rw [← frF_in k [] [] (fun _ => Iff.rfl)]
    have := fr_few ok
    have := (okN_nm hn).2.2.1
    omega
  obtain ⟨w4b, er⟩ := loopR_ev hn h1 (some (.v (enc k))) (some (.v (.dct (encE second)))) (some (.v (.dct (encE both)))) (some (.v (enc once))) Sd (frees k []) [] w4 frk (by simp; omega)
  have feq : frees once [] = frF (putF k first) := by rw [← frF_in _ [] [] (fun _ => Iff.rfl), ← honce, honce, i1]
  obtain ⟨es, z1, z2, z3⟩ := sorted_same (rows := [] ++ (frees k []).flatMap fun n => frees (gvK first n) []) (fr := frees once []) (by rw [feq]; exact frF_nodup _) (by
    rw [feq]
    have := fr_few o1
    have := (okN_nm hn).2.2.1
    omega) fun x => by
      rw [List.nil_append, List.mem_flatMap, feq]
      unfold putF
      rw [mem_fill, frF_in k [] [] (fun _ => Iff.rfl)]
      exact ⟨fun ⟨n, a, b⟩ => ⟨n, a, by rw [← gv_fr]; exact b⟩, fun ⟨n, a, b⟩ => ⟨n, a, by rw [gv_fr]; exact b⟩⟩
  have okt : ∀ t ∈ srtT (frees once []), okT t = true := fun t ht => by
    rw [srt_mem, feq] at ht
    exact isNm_ok ((okN_nm hn).1 t (o1 t ht))
  have ge := gEq_stL _ _ okt okt
  rw [decide_eq_true rfl] at ge
  have fe1 := free_ev k Sd gk (by omega) (by have := (kd_sz9 (k := k) (by omega)).1; omega)
  have fe2 := free_ev once Sd fon.good fon.ht (by have := fon.lvs; omega)
  refine e_fdef_va (T := [.dead]) ?_
  rw [hSd]
  refine e_seq_nx (δ' := [some (.v (enc k)), some (.v (.dct (encE first))), some (.v (.dct (encE second))), some (.r S.length), none, none, none]) (S1 := S ++ [.dct (encE second)]) (e_set ?_) (e_seq_nx s2 (e_seq_nx s3 (e_seq_nx (e_ifs_f t2 rfl) (e_seq_nx (δ' := [some (.v (enc k)), some (.v (.dct (encE first))), some (.v (.dct (encE second))), some (.v (.dct (encE both))), w4, some (.v (enc once)), some (.v (.lst (stL [])))]) (S1 := Sd) rfl (e_seq_nx (e_for (S1 := Sd) (e_itL (e_call (ws := [.v (enc k)]) rfl rfl fe1 rfl)) er) (e_ret (e_op2v (e_blt (ws := [.v (.dct es)]) (e_cons (e_blt (ws := [.v (.lst (stL _)), .v (.lst (stL _))]) rfl rfl z1) rfl) rfl z2) (e_blt (ws := [.v (.lst (stL (frees once [])))]) (e_cons (e_call (ws := [.v (enc once)]) rfl rfl fe2 rfl) rfl) rfl z3) ge)))))))
  rfl
def fresh : Tx := [102, 114, 101, 115, 104]
theorem same_right_ev {ns : List Tx} (hn : OkN ns) {a b : Kd} {es : Sub} (ga : Good a) (oa : OvF ns (inF a [])) (ha : a.ht ≤ 5) (gb : Good b) (ob : OvF ns (inF b [])) (hb : b.ht ≤ 5) (he : OkS ns 3 es) (S : Sto) :
    f__law_same_right [.v (enc a), .v (enc b), .v (.dct (encE es))] S = .ok (.v (.bl true)) S := by
  have fa := fine_of hn ga oa (by omega)
  have fb := fine_of hn gb ob (by omega)
  have la := fine_law fa
  have lb := fine_law fb
  have sab := same_ev fa fb S
  have saa := same_ev fa fa S
  have sal := same_ev fa la S
  have sla := same_ev la fa S
  have slb := same_ev lb fa S
  rw [decide_eq_true rfl] at saa
  rw [in_law fa, decide_eq_true rfl] at sal sla
  rw [in_law fb] at slb
  have pa := plain_ev fa S
  have pb := plain_ev fb S
  have gab := gEq_enc2 la.good lb.good la.ht
  rw [law_same fa fb] at gab
  have dc : decide (inF b [] = inF a []) = decide (inF a [] = inF b []) := decide_eq_decide.mpr ⟨Eq.symm, Eq.symm⟩
  rw [dc] at slb
  have t1 : (cOr (cNot (cB (cCall 2 f_same (cCons (cVar 0) (cCons (cVar 0) cNil)) []))) (cOr (cNot (cB (cCall 2 f_same (cCons (cVar 0) (cCons (cCall 1 f_plain (cCons (cVar 0) cNil) []) cNil)) []))) (cNot (cB (cCall 2 f_same (cCons (cCall 1 f_plain (cCons (cVar 0) cNil) []) (cCons (cVar 0) cNil)) []))))) [some (.v (enc a)), some (.v (enc b)), some (.v (.dct (encE es)))] S = .ok false S :=
    e_or_f (e_not (c := true) (e_b (e_call (ws := [.v (enc a), .v (enc a)]) rfl rfl saa rfl))) (e_or_f (e_not (c := true) (e_b (e_call (ws := [.v (enc a), .v (enc (lawK a))]) (e_cons rfl (e_cons (e_call (ws := [.v (enc a)]) rfl rfl pa rfl) rfl)) rfl sal rfl))) (e_not (c := true) (e_b (e_call (ws := [.v (enc (lawK a)), .v (enc a)]) (e_cons (e_call (ws := [.v (enc a)]) rfl rfl pa rfl) rfl) rfl sla rfl))))
  have t2 : (cOr (cB (op2 gNe (cCall 2 f_same (cCons (cVar 0) (cCons (cVar 1) cNil)) []) (op2 gEq (cCall 1 f_plain (cCons (cVar 0) cNil) []) (cCall 1 f_plain (cCons (cVar 1) cNil) [])))) (cB (op2 gNe (cCall 2 f_same (cCons (cVar 0) (cCons (cVar 1) cNil)) []) (cCall 2 f_same (cCons (cCall 1 f_plain (cCons (cVar 1) cNil) []) (cCons (cVar 0) cNil)) [])))) [some (.v (enc a)), some (.v (enc b)), some (.v (.dct (encE es)))] S = .ok false S := by
    have q : gNe (.bl (decide (inF a [] = inF b []))) (.bl (decide (inF a [] = inF b []))) = some (.bl false) := by rw [gNeB]; simp
    exact e_or_f (e_b (e_op2v (e_call (ws := [.v (enc a), .v (enc b)]) rfl rfl sab rfl) (e_op2v (e_call (ws := [.v (enc a)]) rfl rfl pa rfl) (e_call (ws := [.v (enc b)]) rfl rfl pb rfl) gab) q)) (e_b (e_op2v (e_call (ws := [.v (enc a), .v (enc b)]) rfl rfl sab rfl) (e_call (ws := [.v (enc (lawK b)), .v (enc a)]) (e_cons (e_call (ws := [.v (enc b)]) rfl rfl pb rfl) rfl) rfl slb rfl) q))
  obtain ⟨qa, ja, _, _⟩ := put_all hn ga oa he (by decide) (by omega)
  obtain ⟨qb, jb, _, _⟩ := put_all hn gb ob he (by decide) (by omega)
  have spp := same_ev (fine_outK ja) (fine_outK jb) S
  rw [in_outK ja, in_outK jb] at spp
  have t3 : (cAnd (cB (cCall 2 f_same (cCons (cVar 0) (cCons (cVar 1) cNil)) [])) (cNot (cB (cCall 2 f_same (cCons (cCall 2 f_put (cCons (cVar 0) (cCons (cVar 2) cNil)) []) (cCons (cCall 2 f_put (cCons (cVar 1) (cCons (cVar 2) cNil)) []) cNil)) [])))) [some (.v (enc a)), some (.v (enc b)), some (.v (.dct (encE es)))] S = .ok false S := by
    by_cases h : inF a [] = inF b []
    · have : putF a es = putF b es := by unfold putF; rw [h]
      rw [decide_eq_true this] at spp
      rw [decide_eq_true h] at sab
      exact e_and_t (e_b (e_call (ws := [.v (enc a), .v (enc b)]) rfl rfl sab rfl)) (e_not (c := true) (e_b (e_call (ws := [.v (enc (outK (putF a es))), .v (enc (outK (putF b es)))]) (e_cons (e_call (ws := [.v (enc a), .v (.dct (encE es))]) rfl rfl (qa S) rfl) (e_cons (e_call (ws := [.v (enc b), .v (.dct (encE es))]) rfl rfl (qb S) rfl) rfl)) rfl spp rfl)))
    · rw [decide_eq_false h] at sab
      exact e_and_f (e_b (e_call (ws := [.v (enc a), .v (enc b)]) rfl rfl sab rfl))
  -- the last
  let E : Sub := [([97], .var fresh)]
  have nf : isNm fresh = true := by decide +kernel
  have hsub : ∀ n, subF E n = if n = [97] then some (.var fresh) else none := fun n => by
    show ((if ([97] : Tx) = n then some (Kd.var fresh) else none).map fun k => inF k []) = _
    by_cases h : n = [97]
    · rw [if_pos h, if_pos h.symm]; rfl
    · rw [if_neg h, if_neg fun z => h z.symm]; rfl
  have geE : GoodE E 1 := ⟨by simp [E], fun e he => by rw [List.mem_singleton.mp he]; decide +kernel, fun e he => by rw [List.mem_singleton.mp he]; exact ⟨fun x hx => by rw [List.mem_singleton.mp hx]; exact nf, Nat.le_refl _⟩, by simp [E]⟩
  have hmem : ∀ x ∈ frF (putF a E), x ∈ fresh :: ns := fun x hx => by
    obtain ⟨m, h1, h2⟩ := (mem_fill _ _ _).mp hx
    rw [hsub] at h2
    by_cases hm : m = [97]
    · rw [if_pos hm] at h2
      have : x = fresh := List.mem_singleton.mp (show x ∈ [fresh] from h2)
      rw [this]; exact List.mem_cons_self
    · rw [if_neg hm] at h2
      have : x = m := List.mem_singleton.mp (show x ∈ [m] from h2)
      rw [this]; exact List.mem_cons_of_mem _ (oa m h1)
  have few : (frF (putF a E)).length ≤ 5 := by
    have := fr_few hmem
    have := (okN_nm hn).2.2.1
    rw [List.length_cons] at *
    omega
  have qe := put_ev ga geE (by decide) (by omega) (by omega) S
  have je := fine_put ga geE (by decide) (by omega) (by omega)
  have ke := fine_outK je
  have hte : (outK (putF a E)).ht ≤ 5 := by
    show (outF (putF a E) [] _).ht ≤ 5
    rw [out_htF]
    have := fill_ht (subF E) 1 (Nat.le_refl _) (fun t x hx => by
      obtain ⟨v, hv, rfl⟩ := subF_some hx
      rw [inF_ht]
      exact (geE.vals _ hv).2) (inF a [])
    rw [inF_ht] at this
    show (fillF (inF a []) (subF E)).ht ≤ 5
    omega
  have fin : ∀ (n : Tx) (k : Kd), isNm n = true → Fine k → k.ht ≤ 5 → (frees k []).length ≤ 10 → Fine (.all n k) := fun n k hnm f h fl => by
    have s := kd_sz9 (k := .all n k) (by show k.ht + 1 ≤ 9; omega)
    refine ⟨fun x hx => ?_, (by show k.ht + 1 ≤ 30; omega), by omega, by omega, ?_⟩
    · rcases List.mem_cons.mp hx with rfl | hx
      · exact hnm
      · exact f.good x hx
    · have e : frees (.all n k) [] = frF (bindF n (inF k []) 0) := by
        rw [← frF_in _ [] [] (fun _ => Iff.rfl)]
        show frF (inF k ([] ++ [n])) = _
        rw [in_bind n k []]
        rfl
      have bl : ∀ (f : Fm) (d : Nat), ∀ x ∈ frF (bindF n f d), x ∈ frF f := by
        intro f
        induction f with
        | var m =>
          intro d x hx
          have hx' : x ∈ frF (if m = n then Fm.at d else .var m) := hx
          split at hx'
          · cases hx'
          · exact hx'
        | «at» i => intro d x hx; cases hx
        | con0 c => intro d x hx; cases hx
        | list f ih => intro d x hx; exact ih d x hx
        | con2 c f g ihf ihg =>
          intro d x hx
          exact mem_fr2.mpr ((mem_fr2.mp (show x ∈ frF (.con2 c (bindF n f d) (bindF n g d)) from hx)).imp (ihf d x) (ihg d x))
        | all f ih => intro d x hx; exact ih (d + 1) x hx
      have l1 := fr_few (f := bindF n (inF k []) 0) (ns := frF (inF k [])) (bl _ 0)
      rw [e]
      rw [frF_in k [] [] (fun _ => Iff.rfl)] at l1
      show _ + (k.ht + 1) < 130
      omega
  have fra : (frees a []).length ≤ 10 := by
    rw [← frF_in a [] [] (fun _ => Iff.rfl)]
    have := fr_few oa
    have := (okN_nm hn).2.2.1
    omega
  have fre : (frees (outK (putF a E)) []).length ≤ 10 := by
    rw [← frF_in _ [] [] (fun _ => Iff.rfl), in_outK je]
    omega
  have F1 := fin [97] a (by decide +kernel) fa ha fra
  have F2 := fin fresh (outK (putF a E)) nf ke hte fre
  have last := same_ev F1 F2 S
  have eqs : inF (.all [97] a) [] = inF (.all fresh (outK (putF a E))) [] := by
    show Fm.all (inF a ([] ++ [[97]])) = Fm.all (inF (outK (putF a E)) ([] ++ [fresh]))
    rw [in_bind, in_bind, in_outK je]
    show _ = Fm.all (bindF fresh (fillF (inF a []) (subF E)) 0)
    rw [bind_fill [97] fresh (subF E) hsub (inF a []) 0 fun z => ?_]
    · rfl
    · have := oa fresh z
      rcases hn with rfl | rfl <;> exact absurd this (by decide +kernel)
  rw [decide_eq_true eqs] at last
  refine e_fdef_v (e_seq_nx (e_ifs_f t1 rfl) (e_seq_nx (e_ifs_f t2 rfl) (e_seq_nx (e_ifs_f t3 rfl) (e_ret (e_call (S1 := S) (ws := [.v (enc (.all [97] a)), .v (enc (.all fresh (outK (putF a E))))]) (e_cons (e_disp (ws := [.v (.str [97, 108, 108]), .v (.str [97]), .v (enc a)]) rfl rfl (by simp) rfl) (e_cons (e_disp (ws := [.v (.str [97, 108, 108]), .v (.str fresh), .v (enc (outK (putF a E)))]) (e_cons rfl (e_cons rfl (e_cons (e_call (ws := [.v (enc a), .v (.dct (encE E))]) (e_cons rfl (e_cons (e_dict1 (t := [97]) (d := enc (.var fresh)) rfl rfl) rfl)) rfl qe rfl) rfl))) rfl (by simp) rfl) rfl)) rfl last rfl)))))
theorem rangeD_pos : ∀ (n : Nat) (lo : Int), 0 ≤ lo → ∀ d ∈ rangeD lo n, ∃ k : Int, 0 ≤ k ∧ d = .int k
  | 0, _, _, d, h => by cases h
  | n + 1, lo, h0, d, h => by
    rcases List.mem_cons.mp h with rfl | h
    · exact ⟨lo, h0, rfl⟩
    · exact rangeD_pos n (lo + 1) (by omega) d h
theorem cut4 : ∀ m : Nat, m < 2 → cutD (stL names4) (some (m : Int)) none = stL (names4.drop m) ∧ OkN (names4.drop m) := by
  intro m hm
  rcases (show m = 0 ∨ m = 1 by omega) with rfl | rfl
  · exact ⟨rfl, .inl rfl⟩
  · exact ⟨rfl, .inr rfl⟩
theorem take2 {ns : List Tx} (h : OkN ns) : cutD (stL ns) none (some 2) = stL (ns.take 2) ∧ ∀ x ∈ ns.take 2, x ∈ ns := by
  rcases h with rfl | rfl <;> exact ⟨rfl, fun x hx => List.mem_of_mem_take hx⟩
theorem law_true (ns : List Int) (hl : ns.length ≤ 63) : f_law [.s ns] [] = .ok (.v (.bl true)) [] := by
  have inner : ∀ (T : Sto) (j : Nat) (w1 w3 w4 w5 w6 w7 w8 : Option W), Src T j → ∃ T' w4' w5' w6' w7' w8', Src T' j ∧ l2_law [some (.s ns), w1, some (.r j), w3, w4, w5, w6, w7, w8] T = .nx [some (.s ns), w1, some (.r j), w3, w4', w5', w6', w7', w8'] T' := fun T j w1 w3 w4 w5 w6 w7 w8 hT => by
    obtain ⟨mi, o1, m0, m1, so1, hm⟩ := next_call hT 2 (by decide) (by decide)
    obtain ⟨m, rfl⟩ : ∃ m : Nat, mi = m := ⟨mi.toNat, by omega⟩
    obtain ⟨c1, hn⟩ := cut4 m (by omega)
    have s1 : cAsg (cSl (cLst (cCons (cC (.str [97])) (cCons (cC (.str [98])) (cCons (cC (.str [99])) (cCons (cC (.str [120])) cNil))))) (cPart (cCall 2 f__law_next (cCons (cVar 2) (cCons (cC (.int 2)) cNil)) [])) cNoPart) (gN 4) [some (.s ns), w1, some (.r j), w3, w4, w5, w6, w7, w8] T = .nx [some (.s ns), w1, some (.r j), w3, some (.v (.lst (stL (names4.drop m)))), w5, w6, w7, w8] (T.set j o1) := by
      refine e_set (e_slL (d := .lst (stL names4)) (i := m) (S1 := T) rfl (hm _ _ rfl) ?_)
      show some (D.lst (cutD (stL names4) (some (m : Int)) none)) = _
      rw [c1]
    have hT1 := src_set hT so1
    generalize names4.drop m = nms at *
    generalize hT1e : T.set j o1 = T1 at *
    obtain ⟨hnm, hne, hnl, hnd, hne2⟩ := okN_nm hn
    obtain ⟨c2, sub2⟩ := take2 hn
    obtain ⟨a, o2, ea, so2, ha1, ha2, ha3⟩ := kind_ev nms hne (by omega) 7 4 T1 j (by decide) hT1
    have hT2 := src_set hT1 so2
    obtain ⟨d3, o3, b0, b1, so3, e3⟩ := next_call hT2 3 (by decide) (by decide)
    obtain ⟨dp, rfl⟩ : ∃ n : Nat, d3 = n := ⟨d3.toNat, by omega⟩
    have hT3 := src_set hT2 so3
    obtain ⟨b, o4, eb, so4, hb1, hb2, hb3⟩ := kind_ev (nms.take 2) hne2 (by rw [List.length_take]; omega) 7 dp _ j (by omega) hT3
    have hT4 := src_set hT3 so4
    have s2 : cPar [5, 6] (cCons (cCall 3 (f__law_kind 7) (cCons (cVar 2) (cCons (cC (.int 4)) (cCons (cVar 4) cNil))) []) (cCons (cCall 3 (f__law_kind 7) (cCons (cVar 2) (cCons (cCall 2 f__law_next (cCons (cVar 2) (cCons (cC (.int 3)) cNil)) []) (cCons (cSl (cVar 4) cNoPart (cPart (cC (.int 2)))) cNil))) []) cNil)) [some (.s ns), w1, some (.r j), w3, some (.v (.lst (stL nms))), w5, w6, w7, w8] T1 = .nx [some (.s ns), w1, some (.r j), w3, some (.v (.lst (stL nms))), some (.v (enc a)), some (.v (enc b)), w7, w8] (((T1.set j o2).set j o3).set j o4) := by
      have e := e_cons (x := cCall 3 (f__law_kind 7) (cCons (cVar 2) (cCons (cC (.int 4)) (cCons (cVar 4) cNil))) []) (as := cCons (cCall 3 (f__law_kind 7) (cCons (cVar 2) (cCons (cCall 2 f__law_next (cCons (cVar 2) (cCons (cC (.int 3)) cNil)) []) (cCons (cSl (cVar 4) cNoPart (cPart (cC (.int 2)))) cNil))) []) cNil) (δ := [some (.s ns), w1, some (.r j), w3, some (.v (.lst (stL nms))), w5, w6, w7, w8]) (S := T1) (w := .v (enc a)) (ws := [.v (enc b)]) (S2 := ((T1.set j o2).set j o3).set j o4)
        (e_call (ws := [.r j, .v (.int 4), .v (.lst (stL nms))]) rfl rfl ea rfl) (e_cons (e_call (S1 := (T1.set j o2).set j o3) (ws := [.r j, .v (.int dp), .v (.lst (stL (nms.take 2)))]) (e_cons rfl (e_cons (e3 _ _ rfl) (e_cons (e_slH (d := .lst (stL nms)) (i := 2) rfl rfl (by show some (D.lst (cutD (stL nms) none (some 2))) = _; rw [c2])) rfl))) rfl eb rfl) rfl)
      unfold cPar
      rw [e]
      rfl
    generalize hT4e : ((T1.set j o2).set j o3).set j o4 = T4 at *
    obtain ⟨o5, first, so5, h1, e5⟩ := filling_ev hn hT4
    have hT5 := src_set hT4 so5
    obtain ⟨o6, second, so6, h2, e6⟩ := filling_ev hn hT5
    have hT6 := src_set hT5 so6
    have s3 : cPar [7, 8] (cCons (cCall 2 f__law_filling (cCons (cVar 2) (cCons (cVar 4) cNil)) []) (cCons (cCall 2 f__law_filling (cCons (cVar 2) (cCons (cVar 4) cNil)) []) cNil)) [some (.s ns), w1, some (.r j), w3, some (.v (.lst (stL nms))), some (.v (enc a)), some (.v (enc b)), w7, w8] T4 = .nx [some (.s ns), w1, some (.r j), w3, some (.v (.lst (stL nms))), some (.v (enc a)), some (.v (enc b)), some (.v (.dct (encE first))), some (.v (.dct (encE second)))] ((T4.set j o5).set j o6) := by
      have e := e_cons (x := cCall 2 f__law_filling (cCons (cVar 2) (cCons (cVar 4) cNil)) []) (as := cCons (cCall 2 f__law_filling (cCons (cVar 2) (cCons (cVar 4) cNil)) []) cNil) (δ := [some (.s ns), w1, some (.r j), w3, some (.v (.lst (stL nms))), some (.v (enc a)), some (.v (enc b)), w7, w8]) (S := T4) (w := .v (.dct (encE first))) (ws := [.v (.dct (encE second))]) (S2 := (T4.set j o5).set j o6)
        (e_call (ws := [.r j, .v (.lst (stL nms))]) rfl rfl e5 rfl) (e_cons (e_call (ws := [.r j, .v (.lst (stL nms))]) rfl rfl e6 rfl) rfl)
      unfold cPar
      rw [e]
      rfl
    generalize hT6e : (T4.set j o5).set j o6 = T6 at *
    have ova : Ov nms a := ha1
    have ovb : Ov nms b := fun x hx => sub2 x (hb1 x hx)
    have ga := ov_good hn ova
    have gb := ov_good hn ovb
    have p1 := put_right_ev hn ga (ovF_in ova) (by omega) h1 h2 T6
    have p2 := put_right_ev hn gb (ovF_in ovb) (by omega) h2 h1 T6
    have q1 := same_right_ev hn ga (ovF_in ova) (by omega) gb (ovF_in ovb) (by omega) h1 T6
    have fb := fine_of hn gb (ovF_in ovb) (by omega)
    have lb := fine_law fb
    have hlb : (lawK b).ht = b.ht := out_ht b [] [] _
    have q2 := same_right_ev hn gb (ovF_in ovb) (by omega) lb.good (by rw [in_law fb]; exact ovF_in ovb) (by omega) h2 T6
    have pb := plain_ev fb T6
    exact ⟨T6, _, _, _, _, _, hT6, e_seq_nx s1 (e_seq_nx s2 (e_seq_nx s3 (e_seq_nx (e_ifs_f (S1 := T6) (e_or_f (e_not (c := true) (e_b (e_call (ws := [.v (enc a), .v (.dct (encE first)), .v (.dct (encE second))]) rfl rfl p1 rfl))) (e_not (c := true) (e_b (e_call (ws := [.v (enc b), .v (.dct (encE second)), .v (.dct (encE first))]) rfl rfl p2 rfl)))) rfl)
      (e_ifs_f (S1 := T6) (e_or_f (e_not (c := true) (e_b (e_call (ws := [.v (enc a), .v (enc b), .v (.dct (encE first))]) rfl rfl q1 rfl))) (e_not (c := true) (e_b (e_call (ws := [.v (enc b), .v (enc (lawK b)), .v (.dct (encE second))]) (e_cons rfl (e_cons (e_call (ws := [.v (enc b)]) rfl rfl pb rfl) (e_cons rfl rfl))) rfl q2 rfl)))) rfl))))⟩
  have cnt : ∃ n : Nat, ∀ S : Sto, itR0 (cCons (cBlt gMax2 (cCons (cC (.int 1)) (cCons (cBlt gMin2 (cCons (cC (.int 4)) (cCons (cLen (cCons (cVar 0) cNil)) cNil))) cNil))) cNil) (slots0 9 [.s ns]) S = .ok (rangeD 0 n) S := by
    refine ⟨(max 1 (min 4 (ns.length : Int))).toNat, fun S => e_itR (n := max 1 (min 4 (ns.length : Int))) (e_cons (e_blt (ws := [.v (.int 1), .v (.int (min 4 (ns.length : Int)))]) (e_cons rfl (e_cons (e_blt (ws := [.v (.int 4), .v (.int (ns.length : Int))]) (e_cons rfl (e_cons rfl rfl)) rfl ?_) rfl)) rfl ?_) rfl) (by omega) (by omega)⟩
    · show some (D.int _) = some (D.int _)
      congr 2
      by_cases h : (ns.length : Int) < 4
      · first | omega | (simp only [h]; split <;> omega) | (split <;> omega)
      · first | omega | (simp only [h]; split <;> omega) | (split <;> omega)
    · show some (D.int _) = some (D.int _)
      congr 2
      first | omega | (split <;> omega) | (split <;> split <;> omega)
  obtain ⟨n, hcnt⟩ := cnt
  obtain ⟨δ1, S1, eloop, ⟨a1, b1, c1, x4, x5, x6, x7, x8, hδ1⟩, _⟩ := forL_all (dg := gN 1) (b := l1_law)
    (fun rest δ S => (∃ a b c x4 x5 x6 x7 x8, δ = [some (.s ns), a, b, c, x4, x5, x6, x7, x8]) ∧ ∀ d ∈ rest, ∃ k : Int, 0 ≤ k ∧ d = .int k) (rangeD 0 n) (fun d rest δ S ⟨⟨a, b, c, x4, x5, x6, x7, x8, hδ⟩, hr⟩ => by
      subst hδ
      obtain ⟨k, hk, rfl⟩ := hr d List.mem_cons_self
      obtain ⟨cell, ecell⟩ := cell_ev ns k hk S
      obtain ⟨o, es, so⟩ := source_ev cell S
      have hsrc : Src (S ++ [o]) S.length := ⟨o, at_last _ _, so⟩
      obtain ⟨δ3, S3, e3, w3, w3', y4, y5, y6, y7, y8, hw3, hs3⟩ := forL_all (dg := gN 3) (b := l2_law) (fun _ δ T => ∃ w w' y4 y5 y6 y7 y8, δ = [some (.s ns), w, some (.r S.length), w', y4, y5, y6, y7, y8] ∧ Src T S.length) (rangeD 0 8) (fun d rest δ T ⟨w, w', y4, y5, y6, y7, y8, hδ, hT⟩ => by
          subst hδ
          obtain ⟨T', z4, z5, z6, z7, z8, hT', e⟩ := inner T S.length w (some (.v d)) y4 y5 y6 y7 y8 hT
          exact ⟨_, _, _, _, rfl, e, _, _, _, _, _, _, _, rfl, hT'⟩) [some (.s ns), some (.v (.int k)), some (.r S.length), c, x4, x5, x6, x7, x8] (S ++ [o]) ⟨_, _, _, _, _, _, _, rfl, hsrc⟩
      subst hw3
      refine ⟨_, _, _, _, rfl, e_seq_nx (δ' := [some (.s ns), some (.v (.int k)), some (.r S.length), c, x4, x5, x6, x7, x8]) (S1 := S ++ [o]) (e_set (e_callM (ws := [.v (.int cell)]) (e_cons (e_call (ws := [.s ns, .v (.int k)]) rfl rfl ecell rfl) rfl) rfl es rfl)) (e_for (S1 := S ++ [o]) rfl e3), ⟨_, _, _, _, _, _, _, _, rfl⟩, fun d hd => hr d (List.mem_cons_of_mem _ hd)⟩)
    (slots0 9 [.s ns]) [] ⟨⟨_, _, _, _, _, _, _, _, rfl⟩, rangeD_pos n 0 (Int.le_refl _)⟩
  subst hδ1
  exact e_fdef (S' := S1) (w := .v (.bl true)) (e_seq_nx (e_for (hcnt _) eloop) (e_ret rfl)) rfl
end Fro

open PySem PySem.W PyProof.Rows
set_option maxRecDepth 100000 in
set_option maxHeartbeats 0 in
theorem PySem.Challenge.cw_frostkinds_k06_whole_kinds_go_together_holds : PySem.Challenge.rw_frostkinds_k06_whole_kinds_go_together.Holds := by
  w_on; o_law; k_head; (case hw => w_witness2)
  k_fill
  refine Fro.walk_of (l := PySem.Challenge.rw_frostkinds_k06_whole_kinds_go_together) (n := 63) (k := 66) (x := "_law_script") (sp := fun w => Fro.spF _ 1 Fro.f_law) rfl (by decide) rfl ⟨rfl, by decide, by decide⟩ (fun w h Y => PySem.W.kIn_of Y) ?F (fun _ H a ns hl _ hS => Fro.end_sp (Fro.law_true ns hl) hS)
  case F =>
    intro w mg fa h KX G hmg
    refine' Fro.all_mk KX G hmg ?z_all ?z_dict ?z_int ?z_isinstance ?z_len ?z_max ?z_min ?z_range ?z_sorted ?z_str ?z_tuple ?z_zip ?a_BARRED ?c_BARRED ?a_MOST_SIGNS ?c_MOST_SIGNS ?a_LETTERS ?c_LETTERS ?a_MARK ?c_MARK ?a_WORDS ?l_WORDS ?y_WORDS ?o_WORDS ?e_WORDS ?q0 ?a_KindError ?a_NoKind ?qs ?qo ?if_KindError ?il_KindError ?ib_KindError ?fb_KindError ?if_NoKind ?il_NoKind ?ib_NoKind ?fb_NoKind ?xl_NoKind ?xk_NoKind ?ra_NoKind ?a__law_source_of ?l__law_source_of ?c__law_source_of ?k__law_source_of ?a__law_cell_at ?l__law_cell_at ?c__law_cell_at ?k__law_cell_at ?a__law_next ?l__law_next ?c__law_next ?k__law_next ?a__law_one ?l__law_one ?c__law_one ?k__law_one ?a__law_kind ?l__law_kind ?c__law_kind ?k__law_kind ?a__law_filling ?l__law_filling ?c__law_filling ?k__law_filling ?a_is_name ?l_is_name ?c_is_name ?k_is_name ?a_is_kind ?l_is_kind ?c_is_kind ?k_is_kind ?a_want_kind ?l_want_kind ?c_want_kind ?k_want_kind ?a_letter ?l_letter ?c_letter ?k_letter ?a_first_letters ?l_first_letters ?c_first_letters ?k_first_letters ?a_exchange ?l_exchange ?c_exchange ?k_exchange ?a_relettered ?l_relettered ?c_relettered ?k_relettered ?a_free_of ?l_free_of ?c_free_of ?k_free_of ?lT_free_of ?ed0_free_of ?a_marked_from ?l_marked_from ?c_marked_from ?k_marked_from ?a_numbers_in ?l_numbers_in ?c_numbers_in ?k_numbers_in ?a_marked ?l_marked ?c_marked ?k_marked ?lT_marked ?ed0_marked ?a_plain_of ?l_plain_of ?c_plain_of ?k_plain_of ?a_put_of ?l_put_of ?c_put_of ?k_put_of ?a_put ?l_put ?c_put ?k_put ?a_free ?l_free ?c_free ?k_free ?a_plain ?l_plain ?c_plain ?k_plain ?a__law_put_right ?l__law_put_right ?c__law_put_right ?k__law_put_right ?a_same ?l_same ?c_same ?k_same ?a__law_same_right ?l__law_same_right ?c__law_same_right ?k__law_same_right ?a_law ?l_law ?c_law ?k_law
    (case z_all => k_is)
    (case z_dict => k_is)
    (case z_int => k_is)
    (case z_isinstance => k_is)
    (case z_len => k_is)
    (case z_max => k_is)
    (case z_min => k_is)
    (case z_range => k_is)
    (case z_sorted => k_is)
    (case z_str => k_is)
    (case z_tuple => k_is)
    (case z_zip => k_is)
    (case a_BARRED => k_is)
    (case c_BARRED => kernel_rfl)
    (case a_MOST_SIGNS => k_is)
    (case c_MOST_SIGNS => kernel_rfl)
    (case a_LETTERS => k_is)
    (case c_LETTERS => kernel_rfl)
    (case a_MARK => k_is)
    (case c_MARK => kernel_rfl)
    (case a_WORDS => k_is)
    (case l_WORDS => k_is)
    (case y_WORDS => k_keys)
    (case o_WORDS => decide)
    (case e_WORDS => kernel_rfl)
    (case q0 => kernel_rfl)
    (case a_KindError => k_is)
    (case a_NoKind => k_is)
    (case qs => k_is)
    (case qo => k_is)
    (case if_KindError => k_is)
    (case il_KindError => k_is)
    (case ib_KindError => kernel_rfl)
    (case fb_KindError => kernel_rfl)
    (case if_NoKind => k_is)
    (case il_NoKind => k_is)
    (case ib_NoKind => kernel_rfl)
    (case fb_NoKind => kernel_rfl)
    (case xl_NoKind => k_is)
    (case xk_NoKind => kernel_rfl)
    (case ra_NoKind => kernel_rfl)
    (case a__law_source_of => k_is)
    (case l__law_source_of => k_is)
    (case c__law_source_of => k_is)
    (case k__law_source_of => k_is)
    (case a__law_cell_at => k_is)
    (case l__law_cell_at => k_is)
    (case c__law_cell_at => k_is)
    (case k__law_cell_at => k_is)
    (case a__law_next => k_is)
    (case l__law_next => k_is)
    (case c__law_next => k_is)
    (case k__law_next => k_is)
    (case a__law_one => k_is)
    (case l__law_one => k_is)
    (case c__law_one => k_is)
    (case k__law_one => k_is)
    (case a__law_kind => k_is)
    (case l__law_kind => k_is)
    (case c__law_kind => k_is)
    (case k__law_kind => k_is)
    (case a__law_filling => k_is)
    (case l__law_filling => k_is)
    (case c__law_filling => k_is)
    (case k__law_filling => k_is)
    (case a_is_name => k_is)
    (case l_is_name => k_is)
    (case c_is_name => k_is)
    (case k_is_name => k_is)
    (case a_is_kind => k_is)
    (case l_is_kind => k_is)
    (case c_is_kind => k_is)
    (case k_is_kind => k_is)
    (case a_want_kind => k_is)
    (case l_want_kind => k_is)
    (case c_want_kind => k_is)
    (case k_want_kind => k_is)
    (case a_letter => k_is)
    (case l_letter => k_is)
    (case c_letter => k_is)
    (case k_letter => k_is)
    (case a_first_letters => k_is)
    (case l_first_letters => k_is)
    (case c_first_letters => k_is)
    (case k_first_letters => k_is)
    (case a_exchange => k_is)
    (case l_exchange => k_is)
    (case c_exchange => k_is)
    (case k_exchange => k_is)
    (case a_relettered => k_is)
    (case l_relettered => k_is)
    (case c_relettered => k_is)
    (case k_relettered => k_is)
    (case a_free_of => k_is)
    (case l_free_of => k_is)
    (case c_free_of => k_is)
    (case k_free_of => k_is)
    (case lT_free_of => k_is)
    (case ed0_free_of => kernel_rfl)
    (case a_marked_from => k_is)
    (case l_marked_from => k_is)
    (case c_marked_from => k_is)
    (case k_marked_from => k_is)
    (case a_numbers_in => k_is)
    (case l_numbers_in => k_is)
    (case c_numbers_in => k_is)
    (case k_numbers_in => k_is)
    (case a_marked => k_is)
    (case l_marked => k_is)
    (case c_marked => k_is)
    (case k_marked => k_is)
    (case lT_marked => k_is)
    (case ed0_marked => kernel_rfl)
    (case a_plain_of => k_is)
    (case l_plain_of => k_is)
    (case c_plain_of => k_is)
    (case k_plain_of => k_is)
    (case a_put_of => k_is)
    (case l_put_of => k_is)
    (case c_put_of => k_is)
    (case k_put_of => k_is)
    (case a_put => k_is)
    (case l_put => k_is)
    (case c_put => k_is)
    (case k_put => k_is)
    (case a_free => k_is)
    (case l_free => k_is)
    (case c_free => k_is)
    (case k_free => k_is)
    (case a_plain => k_is)
    (case l_plain => k_is)
    (case c_plain => k_is)
    (case k_plain => k_is)
    (case a__law_put_right => k_is)
    (case l__law_put_right => k_is)
    (case c__law_put_right => k_is)
    (case k__law_put_right => k_is)
    (case a_same => k_is)
    (case l_same => k_is)
    (case c_same => k_is)
    (case k_same => k_is)
    (case a__law_same_right => k_is)
    (case l__law_same_right => k_is)
    (case c__law_same_right => k_is)
    (case k__law_same_right => k_is)
    (case a_law => k_is)
    (case l_law => k_is)
    (case c_law => k_is)
    (case k_law => k_is)

