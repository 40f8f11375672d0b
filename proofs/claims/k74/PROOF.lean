import PyProof.Rows.All
import Wide.All
import OpenK.AllK
import Wide.FinOn
import HandS.ForMost
import HandS.ForExc
import HandS.CallSlots
import HandS.Wide
import HandS.TupAny
import HandS.TupMul
import HandS.TupLe
import PyProof.AutoSeq1
import HandS.IsInst
import HandS.Conv
import HandS.Style
import HandS.Deep
import HandS.Zip
import HandS.SortInts
import KE.KDictZip
import KE.SortData
import HandS.ExcInit
import HandS.Nested
import KE.KExcSuper
import HandS.ExcField
import HandS.Text
import HandS.StrMore
import HandS.Iter
import KE.DataMinMax
import PySem.Challenge.RW_servedasmade_k74_whole_deltas_by_runs
import HandS.Codes
set_option Elab.async false
set_option linter.all false
set_option maxRecDepth 100000
set_option autoImplicit false
set_option Elab.async false
set_option maxHeartbeats 1000000
/-! Fl: values as plain data, states as lists of them; each construct of Python as a function upon these. -/
namespace Fl
open PySem PySem.Spec PyProof.Rows L2

inductive D where
  | non | bl (b : Bool) | int (i : Int) | str (s : Str) | tup (xs : List D) | lst (xs : List D) | scr (xs : List D)
  | dic (es : List (Key × D)) | dit (es : List (List Key × D))

abbrev Rho := List (Option D)
abbrev Fp := Nat → Addr → Prop

def Ex (H H' : Hp) : Prop := ∀ a o, H a = some o → H' a = some o
theorem Ex.refl (H : Hp) : Ex H H := fun _ _ h => h
theorem Ex.trans {H H1 H2 : Hp} (a : Ex H H1) (b : Ex H1 H2) : Ex H H2 := fun x o h => b x o (a x o h)
theorem Ex.new {H : Hp} {p : Addr} {o : HO} (h : H p = none) : Ex H (upd H p o) := fun a u e => by
  rw [upd_ne (ne_of_none e h)]
  exact e
theorem Ex.rd {H H' : Hp} {a : Addr} {u : HO} (e : Ex H H') (h : Rd H a u) : Rd H' a u := by
  rcases h with h | ⟨o, h⟩
  · exact Or.inl (e a _ h)
  · exact Or.inr ⟨o, e a _ h⟩
theorem Ex.l {K : PySem.W.Frag} {H H' : Hp} {a : Addr} {xs : List V} (e : Ex H H') (h : SqL K H a xs) : SqL K H' a xs := h.elim (fun h => .inl (e.rd h)) .inr
theorem Ex.t {K : PySem.W.Frag} {H H' : Hp} {a : Addr} {xs : List V} (e : Ex H H') (h : SqT K H a xs) : SqT K H' a xs := h.elim (fun h => .inl (e.rd h)) .inr
theorem Ex.free {H H' : Hp} {p : Addr} (e : Ex H H') (h : H' p = none) : H p = none := by
  cases h1 : H p with
  | none => rfl
  | some o => rw [e p o h1] at h; cases h

/-! ### what a value stands for -/
mutual
inductive Rep (K : PySem.W.Frag) (B : Hp) : V → D → Prop
  | non : Rep K B .non .non
  | bl (b : Bool) : Rep K B (.bl b) (.bl b)
  | int (i : Int) : Rep K B (.int i) (.int i)
  | str (x : Str) : Rep K B (.str x) (.str x)
  | tup {a : Addr} {xs : List V} {ds : List D} : B a = some (.tup xs) → RepL K B xs ds → Rep K B (.ref a) (.tup ds)
  | lst {a : Addr} {xs : List V} {ds : List D} : B a = some (.lst xs) → RepL K B xs ds → Rep K B (.ref a) (.lst ds)
  | scr {a : Addr} {xs : List V} {ds : List D} : SqL K B a xs → RepL K B xs ds → Rep K B (.ref a) (.scr ds)
  | dic {a : Addr} {xs : List (Key × V)} {es : List (Key × D)} : B a = some (.dK xs) → RepK K B xs es → Rep K B (.ref a) (.dic es)
  | dit {a : Addr} {xs : List (List Key × V)} {es : List (List Key × D)} : B a = some (.dT xs) → RepT K B xs es → Rep K B (.ref a) (.dit es)
inductive RepL (K : PySem.W.Frag) (B : Hp) : List V → List D → Prop
  | nil : RepL K B [] []
  | cons {x : V} {xs : List V} {d : D} {ds : List D} : Rep K B x d → RepL K B xs ds → RepL K B (x :: xs) (d :: ds)
inductive RepK (K : PySem.W.Frag) (B : Hp) : List (Key × V) → List (Key × D) → Prop
  | nil : RepK K B [] []
  | cons {k : Key} {x : V} {xs : List (Key × V)} {d : D} {es : List (Key × D)} : Rep K B x d → RepK K B xs es → RepK K B ((k, x) :: xs) ((k, d) :: es)
inductive RepT (K : PySem.W.Frag) (B : Hp) : List (List Key × V) → List (List Key × D) → Prop
  | nil : RepT K B [] []
  | cons {k : List Key} {x : V} {xs : List (List Key × V)} {d : D} {es : List (List Key × D)} : Rep K B x d → RepT K B xs es → RepT K B ((k, x) :: xs) ((k, d) :: es)
end

section
variable {K : PySem.W.Frag} {B B' : Hp}
theorem Rep.mono (e : Ex B B') {v : V} {d : D} (h : Rep K B v d) : Rep K B' v d :=
  Rep.rec (motive_1 := fun v d _ => Rep K B' v d) (motive_2 := fun v d _ => RepL K B' v d) (motive_3 := fun v d _ => RepK K B' v d) (motive_4 := fun v d _ => RepT K B' v d)
    .non .bl .int .str (fun h _ i => .tup (e _ _ h) i) (fun h _ i => .lst (e _ _ h) i) (fun h _ i => .scr (e.l h) i) (fun h _ i => .dic (e _ _ h) i) (fun h _ i => .dit (e _ _ h) i)
    .nil (fun _ _ a b => .cons a b) .nil (fun _ _ a b => .cons a b) .nil (fun _ _ a b => .cons a b) h
theorem RepL.mono (e : Ex B B') : ∀ {v : List V} {d : List D}, RepL K B v d → RepL K B' v d
  | _, _, .nil => .nil
  | _, _, .cons a b => .cons (a.mono e) (RepL.mono e b)
theorem RepK.mono (e : Ex B B') : ∀ {v : List (Key × V)} {d : List (Key × D)}, RepK K B v d → RepK K B' v d
  | _, _, .nil => .nil
  | _, _, .cons a b => .cons (a.mono e) (RepK.mono e b)
theorem RepT.mono (e : Ex B B') : ∀ {v : List (List Key × V)} {d : List (List Key × D)}, RepT K B v d → RepT K B' v d
  | _, _, .nil => .nil
  | _, _, .cons a b => .cons (a.mono e) (RepT.mono e b)
theorem RepL.length : ∀ {xs : List V} {ds : List D}, RepL K B xs ds → xs.length = ds.length
  | _, _, .nil => rfl
  | _, _, .cons _ t => congrArg (· + 1) t.length
theorem RepL.get : ∀ {xs : List V} {ds : List D} {i : Nat} {d : D}, RepL K B xs ds → ds[i]? = some d → ∃ v, xs[i]? = some v ∧ Rep K B v d
  | _, _, _, _, .nil, h => by simp at h
  | _, _, 0, _, .cons a _, h => by simp at h; subst h; exact ⟨_, rfl, a⟩
  | _, _, i + 1, _, .cons _ t, h => by
    obtain ⟨v, h1, h2⟩ := RepL.get (i := i) t (by simpa using h)
    exact ⟨v, by simpa using h1, h2⟩
theorem RepL.getV : ∀ {xs : List V} {ds : List D} {i : Nat} {v : V}, RepL K B xs ds → xs[i]? = some v → ∃ d, ds[i]? = some d ∧ Rep K B v d
  | _, _, _, _, .nil, h => by simp at h
  | _, _, 0, _, .cons a _, h => by simp at h; subst h; exact ⟨_, rfl, a⟩
  | _, _, i + 1, _, .cons _ t, h => by
    obtain ⟨v, h1, h2⟩ := RepL.getV (i := i) t (by simpa using h)
    exact ⟨v, by simpa using h1, h2⟩
theorem RepL.app : ∀ {xs ys : List V} {ds es : List D}, RepL K B xs ds → RepL K B ys es → RepL K B (xs ++ ys) (ds ++ es)
  | _, _, _, _, .nil, h => h
  | _, _, _, _, .cons a t, h => .cons a (t.app h)
theorem RepL.take : ∀ (n : Nat) {xs : List V} {ds : List D}, RepL K B xs ds → RepL K B (xs.take n) (ds.take n)
  | 0, _, _, _ => .nil
  | _ + 1, _, _, .nil => .nil
  | n + 1, _, _, .cons a t => .cons a (t.take n)
theorem RepL.drop : ∀ (n : Nat) {xs : List V} {ds : List D}, RepL K B xs ds → RepL K B (xs.drop n) (ds.drop n)
  | 0, _, _, h => h
  | _ + 1, _, _, .nil => .nil
  | n + 1, _, _, .cons _ t => t.drop n
theorem RepL.set {x : V} {d : D} (h : Rep K B x d) : ∀ (i : Nat) {xs : List V} {ds : List D}, RepL K B xs ds → RepL K B (xs.set i x) (ds.set i d)
  | _, _, _, .nil => .nil
  | 0, _, _, .cons _ t => .cons h t
  | i + 1, _, _, .cons a t => .cons a (RepL.set h i t)
theorem RepL.one {x : V} {d : D} (h : Rep K B x d) : RepL K B [x] [d] := .cons h .nil
theorem RepL.rev : ∀ {xs : List V} {ds : List D}, RepL K B xs ds → RepL K B xs.reverse ds.reverse
  | _, _, .nil => .nil
  | _, _, .cons a t => by rw [List.reverse_cons, List.reverse_cons]; exact t.rev.app (.one a)
theorem RepL.erase : ∀ (i : Nat) {xs : List V} {ds : List D}, RepL K B xs ds → RepL K B (xs.eraseIdx i) (ds.eraseIdx i)
  | _, _, _, .nil => .nil
  | 0, _, _, .cons _ t => t
  | i + 1, _, _, .cons a t => .cons a (t.erase i)
theorem RepL.ints : ∀ {xs : List V} {ns : List Int}, RepL K B xs (ns.map D.int) → xs = ns.map V.int
  | _, [], .nil => rfl
  | _, _ :: _, .cons (.int _) t => congrArg _ (RepL.ints t)
theorem RepL.ofInts : ∀ (ns : List Int), RepL K B (ns.map V.int) (ns.map D.int)
  | [] => .nil
  | n :: ns => .cons (.int n) (RepL.ofInts ns)
end

/-! ### things of the frame's own: nobody else holds them -/
inductive Own (K : PySem.W.Frag) (B H : Hp) (P : Addr → Prop) : V → D → Prop
  | lst {a : Addr} {xs : List V} {ds : List D} : P a → H a = some (.lst xs) → RepL K B xs ds → Own K B H P (.ref a) (.lst ds)
  | dic {a : Addr} {xs : List (Key × V)} {es : List (Key × D)} : P a → H a = some (.dK xs) → RepK K B xs es → Own K B H P (.ref a) (.dic es)
  | dit {a : Addr} {xs : List (List Key × V)} {es : List (List Key × D)} : P a → H a = some (.dT xs) → RepT K B xs es → Own K B H P (.ref a) (.dit es)
theorem Own.mono {K : PySem.W.Frag} {B B' H H' : Hp} {P : Addr → Prop} {v : V} {d : D} (e : Ex B B') (k : ∀ a o, P a → H a = some o → H' a = some o) (h : Own K B H P v d) : Own K B' H' P v d := by
  cases h with
  | lst p q r => exact .lst p (k _ _ p q) (r.mono e)
  | dic p q r => exact .dic p (k _ _ p q) (r.mono e)
  | dit p q r => exact .dit p (k _ _ p q) (r.mono e)
theorem Own.reg {K : PySem.W.Frag} {B H : Hp} {P P' : Addr → Prop} {v : V} {d : D} (k : ∀ a, P a → P' a) (h : Own K B H P v d) : Own K B H P' v d := by
  cases h with
  | lst p q r => exact .lst (k _ p) q r
  | dic p q r => exact .dic (k _ p) q r
  | dit p q r => exact .dit (k _ p) q r
/-- frozen -/
noncomputable def frz (B H : Hp) (P : Addr → Prop) : Hp := fun a => open Classical in if P a then H a else B a
theorem Own.froze {K : PySem.W.Frag} {B H B' : Hp} {P : Addr → Prop} {v : V} {d : D} (h : Own K B H P v d) (e : Ex B B') (k : ∀ a o, P a → H a = some o → B' a = some o) : Rep K B' v d := by
  cases h with
  | lst p q r => exact .lst (k _ _ p q) (r.mono e)
  | dic p q r => exact .dic (k _ _ p q) (r.mono e)
  | dit p q r => exact .dit (k _ _ p q) (r.mono e)

/-! ### the state -/
structure SR (K : PySem.W.Frag) (ow : Nat → Bool) (B H : Hp) (σ : L2.St) (ρ : Rho) (fp : Fp) : Prop where
  ln : σ.length = ρ.length
  ex : Ex B H
  sl : ∀ i d, ρ[i]? = some (some d) → ∃ v, σ[i]? = some (some v) ∧ if ow i = true then Own K B H (fp i) v d else Rep K B v d
  dj : ∀ i j a, fp i a → fp j a → i = j
  ub : ∀ i a, fp i a → B a = none
  al : ∀ i a, fp i a → ∃ o, H a = some o
structure Go (K : PySem.W.Frag) (ow : Nat → Bool) (fp : Fp) (B H : Hp) (σ : L2.St) (ρ : Rho) (fp' : Fp) (B' H' : Hp) : Prop where
  sr : SR K ow B' H' σ ρ fp'
  b : Ex B B'
  h : ∀ a o, H a = some o → (¬ ∃ i, fp i a) → H' a = some o
  t : ∀ a o, H a = some o → ∃ o', H' a = some o'
  f : ∀ a o, H a = some o → B a = none → (¬ ∃ i, fp i a) → B' a = none
  s : ∀ i a, fp' i a → fp i a ∨ H a = none
section
variable {K : PySem.W.Frag} {ow : Nat → Bool} {B H B1 H1 B2 H2 : Hp} {σ σ1 σ2 : L2.St} {ρ ρ1 ρ2 : Rho} {fp fp1 fp2 : Fp}
theorem SR.val (S : SR K ow B H σ ρ fp) {i : Nat} {d : D} (ho : ow i = false) (h : ρ[i]? = some (some d)) : ∃ v, σ[i]? = some (some v) ∧ Rep K B v d := by
  obtain ⟨v, h1, h2⟩ := S.sl i d h
  rw [ho] at h2
  exact ⟨v, h1, by simpa using h2⟩
theorem SR.own (S : SR K ow B H σ ρ fp) {i : Nat} {d : D} (ho : ow i = true) (h : ρ[i]? = some (some d)) : ∃ v, σ[i]? = some (some v) ∧ Own K B H (fp i) v d := by
  obtain ⟨v, h1, h2⟩ := S.sl i d h
  rw [ho] at h2
  exact ⟨v, h1, by simpa using h2⟩
theorem Go.non (g : Go K ow fp B H σ1 ρ1 fp1 B1 H1) {a : Addr} (h : H1 a = none) : H a = none := by
  cases e : H a with
  | none => rfl
  | some o => obtain ⟨o', q⟩ := g.t a o e; rw [q] at h; cases h
theorem Go.refl (S : SR K ow B H σ ρ fp) : Go K ow fp B H σ ρ fp B H := ⟨S, Ex.refl _, fun _ _ h _ => h, fun _ o h => ⟨o, h⟩, fun _ _ _ h _ => h, fun _ _ h => .inl h⟩
theorem Go.nreg (g : Go K ow fp B H σ1 ρ1 fp1 B1 H1) {a : Addr} {o : HO} (h : H a = some o) (n : ¬ ∃ i, fp i a) : ¬ ∃ i, fp1 i a := fun ⟨i, q⟩ => by
  rcases g.s i a q with z | z
  · exact n ⟨i, z⟩
  · rw [h] at z; cases z
theorem Go.trans (g : Go K ow fp B H σ1 ρ1 fp1 B1 H1) (k : Go K ow fp1 B1 H1 σ2 ρ2 fp2 B2 H2) : Go K ow fp B H σ2 ρ2 fp2 B2 H2 where
  sr := k.sr
  b := g.b.trans k.b
  h := fun a o q n => k.h a o (g.h a o q n) (g.nreg q n)
  t := fun a o q => let ⟨o1, q1⟩ := g.t a o q; k.t a o1 q1
  f := fun a o q z n => k.f a o (g.h a o q n) (g.f a o q z n) (g.nreg q n)
  s := fun i a q => (k.s i a q).elim (g.s i a) fun z => .inr (g.non z)
/-- a new thing is laid and frozen -/
theorem SR.laid (S : SR K ow B H σ ρ fp) {p : Addr} (o : HO) (hp : H p = none) : Go K ow fp B H σ ρ fp (upd B p o) (upd H p o) := by
  have hb : B p = none := S.ex.free hp
  have hn : ∀ i a, fp i a → a ≠ p := fun i a q z => by obtain ⟨o', e⟩ := S.al i a q; rw [z, hp] at e; cases e
  refine ⟨⟨S.ln, fun a u e => ?_, fun i d e => ?_, S.dj, fun i a q => ?_, fun i a q => ?_⟩, Ex.new hb, fun a u e _ => Ex.new hp a u e, fun a u e => ⟨u, Ex.new hp a u e⟩, fun a u e z _ => ?_, fun _ _ q => .inl q⟩
  · by_cases ha : a = p
    · subst ha; rw [upd_same] at e ⊢; exact e
    · rw [upd_ne ha] at e ⊢; exact S.ex a u e
  · obtain ⟨v, h1, h2⟩ := S.sl i d e
    refine ⟨v, h1, ?_⟩
    split
    · rename_i ho; rw [if_pos ho] at h2
      exact h2.mono (Ex.new hb) fun a u _ e => Ex.new hp a u e
    · rename_i ho; rw [if_neg ho] at h2
      exact h2.mono (Ex.new hb)
  · rw [upd_ne (hn i a q)]; exact S.ub i a q
  · obtain ⟨u, e⟩ := S.al i a q; exact ⟨u, Ex.new hp a u e⟩
  · rw [upd_ne (ne_of_none e hp)]; exact z
/-- a new thing is laid, nobody's yet -/
theorem SR.fresh (S : SR K ow B H σ ρ fp) {p : Addr} (o : HO) (hp : H p = none) : Go K ow fp B H σ ρ fp B (upd H p o) := by
  refine ⟨⟨S.ln, S.ex.trans (Ex.new hp), fun i d e => ?_, S.dj, S.ub, fun i a q => ?_⟩, Ex.refl _, fun a u e _ => Ex.new hp a u e, fun a u e => ⟨u, Ex.new hp a u e⟩, fun a u e z _ => z, fun _ _ q => .inl q⟩
  · obtain ⟨v, h1, h2⟩ := S.sl i d e
    refine ⟨v, h1, ?_⟩
    split
    · rename_i ho; rw [if_pos ho] at h2
      exact h2.mono (Ex.refl _) fun a u _ e => Ex.new hp a u e
    · rename_i ho; rw [if_neg ho] at h2
      exact h2
  · obtain ⟨u, e⟩ := S.al i a q; exact ⟨u, Ex.new hp a u e⟩
theorem getE_set {α : Type} {l : List α} {i j : Nat} {x y : α} (h : (l.set i x)[j]? = some y) : (j = i ∧ y = x ∧ i < l.length) ∨ (j ≠ i ∧ l[j]? = some y) := by
  by_cases e : i = j
  · subst e
    by_cases hl : i < l.length
    · rw [List.getElem?_set_self hl] at h; exact .inl ⟨rfl, (Option.some.inj h).symm, hl⟩
    · rw [List.getElem?_eq_none (by simpa using hl)] at h; cases h
  · rw [List.getElem?_set_ne e] at h; exact .inr ⟨fun z => e z.symm, h⟩
/-- a value into a slot -/
theorem SR.setV (S : SR K ow B H σ ρ fp) {i : Nat} {v : V} {d : D} (ho : ow i = false) (r : Rep K B v d) : SR K ow B H (σ.set i (some v)) (ρ.set i (some d)) fp := by
  refine ⟨by simpa using S.ln, S.ex, fun j e h => ?_, S.dj, S.ub, S.al⟩
  rcases getE_set h with ⟨rfl, e2, hi⟩ | ⟨hj, e2⟩
  · cases e2
    exact ⟨v, List.getElem?_set_self (S.ln ▸ hi), by rw [if_neg (by rw [ho]; decide)]; exact r⟩
  · obtain ⟨u, h1, h2⟩ := S.sl j e e2
    exact ⟨u, by rw [List.getElem?_set_ne (Ne.symm hj)]; exact h1, h2⟩
/-- a thing of one's own into a slot: P is nobody's -/
theorem SR.setO (S : SR K ow B H σ ρ fp) {i : Nat} {v : V} {d : D} {P : Addr → Prop} (ho : ow i = true) (r : Own K B H P v d) (hn : ∀ a, P a → ∀ j, ¬ fp j a) (hu : ∀ a, P a → B a = none) (ha : ∀ a, P a → ∃ o, H a = some o) :
    SR K ow B H (σ.set i (some v)) (ρ.set i (some d)) (fun j => if j = i then P else fp j) := by
  refine ⟨by simpa using S.ln, S.ex, fun j e h => ?_, fun j k a h1 h2 => ?_, fun j a h => ?_, fun j a h => ?_⟩
  · rcases getE_set h with ⟨rfl, e2, hi⟩ | ⟨hj, e2⟩
    · cases e2
      exact ⟨v, List.getElem?_set_self (S.ln ▸ hi), by rw [if_pos ho, if_pos rfl]; exact r⟩
    · obtain ⟨u, h1, h2⟩ := S.sl j e e2
      exact ⟨u, by rw [List.getElem?_set_ne (Ne.symm hj)]; exact h1, by rw [if_neg hj]; exact h2⟩
  · by_cases hj : j = i
    · by_cases hk : k = i
      · rw [hj, hk]
      · simp only [if_pos hj, if_neg hk] at h1 h2; exact (hn a h1 k h2).elim
    · by_cases hk : k = i
      · simp only [if_neg hj, if_pos hk] at h1 h2; exact (hn a h2 j h1).elim
      · simp only [if_neg hj, if_neg hk] at h1 h2; exact S.dj j k a h1 h2
  · by_cases hj : j = i
    · simp only [if_pos hj] at h; exact hu a h
    · simp only [if_neg hj] at h; exact S.ub j a h
  · by_cases hj : j = i
    · simp only [if_pos hj] at h; exact ha a h
    · simp only [if_neg hj] at h; exact S.al j a h
/-- the thing at a slot of one's own is written -/
theorem SR.write (S : SR K ow B H σ ρ fp) {i : Nat} {a : Addr} {o : HO} {d : D} (ho : ow i = true) (hi : i < ρ.length) (hs : σ[i]? = some (some (.ref a))) (hp : fp i a) (r : Own K B (upd H a o) (fp i) (.ref a) d) :
    Go K ow fp B H σ (ρ.set i (some d)) fp B (upd H a o) := by
  have hb : B a = none := S.ub i a hp
  have up : ∀ b u, H b = some u → ∃ u', upd H a o b = some u' := fun b u e => by
    by_cases z : b = a
    · exact ⟨o, by rw [z, upd_same]⟩
    · exact ⟨u, by rw [upd_ne z]; exact e⟩
  have ne : ∀ {b : Addr}, (¬ fp i b) → b ≠ a := fun n z => n (z ▸ hp)
  refine ⟨⟨by simpa using S.ln, fun b u e => ?_, fun j e h => ?_, S.dj, S.ub, fun j b h => let ⟨u, e⟩ := S.al j b h; up b u e⟩, Ex.refl _, fun b u e n => ?_, up, fun _ _ _ z _ => z, fun _ _ q => .inl q⟩
  · rw [upd_ne (ne_of_none e hb)]; exact S.ex b u e
  · rcases getE_set h with ⟨rfl, e2, _⟩ | ⟨hj, e2⟩
    · cases e2
      exact ⟨_, hs, by rw [if_pos ho]; exact r⟩
    · obtain ⟨u, h1, h2⟩ := S.sl j e e2
      refine ⟨u, h1, ?_⟩
      split
      · rename_i ho2; rw [if_pos ho2] at h2
        exact h2.mono (Ex.refl _) fun b w p e3 => by rw [upd_ne (ne fun z => hj (S.dj j i b p z))]; exact e3
      · rename_i ho2; rw [if_neg ho2] at h2; exact h2
  · rw [upd_ne (ne fun z => n ⟨i, z⟩)]; exact e
end
end Fl

set_option maxHeartbeats 1000000
namespace Fl
open PySem PySem.Spec PyProof.Rows L2

inductive R (α : Type) where
  | ok (a : α) (ρ : Rho) | ex (x : Str) (d : D) (ρ : Rho) | no
abbrev M (α : Type) := Rho → R α
def pur {α : Type} (a : α) : M α := fun ρ => .ok a ρ
def lift {α : Type} (o : Option α) : M α := fun ρ => match o with
  | some a => .ok a ρ
  | none => .no
def bnd {α β : Type} (f : M α) (g : α → M β) : M β := fun ρ => match f ρ with
  | .ok a ρ' => g a ρ'
  | .ex x d ρ' => .ex x d ρ'
  | .no => .no
def get (ρ : Rho) (i : Nat) : Option D := match ρ[i]? with
  | some o => o
  | none => none
def rd (i : Nat) : M D := fun ρ => lift (get ρ i) ρ
theorem get_some {ρ : Rho} {i : Nat} {d : D} (h : get ρ i = some d) : ρ[i]? = some (some d) := by
  unfold get at h
  cases e : ρ[i]? with
  | none => rw [e] at h; cases h
  | some o => rw [e] at h; simp only at h; rw [h]

/-- what stands around a def's text: its written part, which slots are its own, which are handed back, whether it hands back a thing of its own, the wish of exceptions -/
structure Cn where
  K : PySem.W.Frag
  ow : Nat → Bool
  kp : Nat → Bool
  rm : Bool
  W : WX
  xr : Str → D → Value → Option Addr → Hp → Prop
  fp0 : Fp
  H0 : Hp

abbrev Rel (β α : Type) := L2.St → Fp → Hp → Fp → Hp → Hp → β → α → Prop
def relV (c : Cn) : Rel V D := fun _ _ _ _ B' _ v d => Rep c.K B' v d
inductive Md where
  | v | n | s (j : Nat)
def Md.own : Md → Bool
  | .v => false
  | _ => true
def ownM (ms : List Md) (i : Nat) : Bool := match ms[i]? with
  | some m => m.own
  | none => false
/-- arguments: values, new things (n), things of a slot (s) -/
def relA (c : Cn) (ms : List Md) : Rel (List V) (List D) := fun σ fp H fp' B' H' vs ds => ds.length = ms.length ∧ ∃ fa : Fp, SR c.K (ownM ms) B' H' (vs.map some) (ds.map some) fa ∧
  (∀ (i : Nat) (a : Addr), fa i a → (ms[i]? = some Md.n ∧ H a = none ∧ ∀ j, ¬ fp' j a) ∨ ∃ j, ms[i]? = some (Md.s j) ∧ fp' j a) ∧ ∀ (i j : Nat), ms[i]? = some (Md.s j) → c.ow j = true ∧ ∃ v, vs[i]? = some v ∧ σ[j]? = some (some v)
def relE (c : Cn) {α : Type} : Rel α α := fun _ _ _ _ _ _ b a => b = a
def relN (c : Cn) : Rel V D := fun _ _ H fp' B' H' v d => ∃ P : Addr → Prop, Own c.K B' H' P v d ∧ ∀ a, P a → H a = none ∧ B' a = none ∧ (∃ o, H' a = some o) ∧ ∀ i, ¬ fp' i a
def relB (c : Cn) : Rel V D := fun _ _ _ _ B' H' v d => Rep c.K B' v d ∨ ∃ P, Own c.K B' H' P v d
class Bk (c : Cn) {β α : Type} (rel : Rel β α) : Prop where
  bk : ∀ {fp B H σ ρ fp1 B1 H1 fp2 B2 H2 b a}, Go c.K c.ow fp B H σ ρ fp1 B1 H1 → rel σ fp1 H1 fp2 B2 H2 b a → rel σ fp H fp2 B2 H2 b a
instance (c : Cn) : Bk c (relV c) := ⟨fun _ h => h⟩
instance (c : Cn) (ms : List Md) : Bk c (relA c ms) := ⟨fun g ⟨l, fa, S, k, z⟩ => ⟨l, fa, S, fun i a h => (k i a h).elim (fun ⟨x, y, z⟩ => .inl ⟨x, g.non y, z⟩) .inr, z⟩⟩
instance (c : Cn) : Bk c (relB c) := ⟨fun _ h => h⟩
instance (c : Cn) {α : Type} : Bk c (relE c (α := α)) := ⟨fun _ h => h⟩
instance (c : Cn) : Bk c (relN c) := ⟨fun g ⟨P, o, k⟩ => ⟨P, o, fun a p => let ⟨x, r⟩ := k a p; ⟨g.non x, r⟩⟩⟩

def Cn.at (c : Cn) {β α : Type} (fp0 : Fp) (H0 B : Hp) (ρ : Rho) (fp : Fp) (f : M α) (rel : Rel β α) (σ : L2.St) (H : Hp) (Q : β → Hp → Prop) : Prop :=
  match f ρ with
  | .ok a ρ' => ∀ b fp' B' H', Go c.K c.ow fp B H σ ρ' fp' B' H' → rel σ fp0 H0 fp' B' H' b a → Q b H'
  | .ex x d ρ' => ∀ cl dd fp' B' H', Go c.K c.ow fp B H σ ρ' fp' B' H' → c.xr x d cl dd H' → c.W cl dd σ H'
  | .no => False
def can (c : Cn) {β α : Type} (f : M α) (rel : Rel β α) (σ : L2.St) (H : Hp) (Q : β → Hp → Prop) : Prop := ∃ B ρ fp, SR c.K c.ow B H σ ρ fp ∧ c.at fp H B ρ fp f rel σ H Q

section
variable {c : Cn} {B B1 H H1 H0 : Hp} {σ : L2.St} {ρ ρ1 : Rho} {fp fp1 fp0 : Fp} {α β γ δ : Type}
theorem at_bnd {f : M α} {g : α → M γ} {relf : Rel β α} {rel : Rel δ γ} {Q : δ → Hp → Prop} {Q1 : β → Hp → Prop} (h : c.at fp0 H0 B ρ fp (bnd f g) rel σ H Q)
    (k : ∀ b a ρ1 fp1 B1 H1, Go c.K c.ow fp B H σ ρ1 fp1 B1 H1 → relf σ fp H fp1 B1 H1 b a → c.at fp0 H0 B1 ρ1 fp1 (g a) rel σ H1 Q → Q1 b H1) : c.at fp H B ρ fp f relf σ H Q1 := by
  unfold Cn.at bnd at h
  unfold Cn.at
  cases e : f ρ with
  | no => rw [e] at h; exact h
  | ex x d ρ' => rw [e] at h; exact h
  | ok a ρ' =>
    rw [e] at h
    intro b fp1 B1 H1 go r
    refine k b a ρ' fp1 B1 H1 go r ?_
    unfold Cn.at
    simp only at h
    cases e2 : g a ρ' with
    | no => rw [e2] at h; exact h
    | ex x d ρ2 => rw [e2] at h; exact fun cl dd fp2 B2 H2 go2 q => h cl dd fp2 B2 H2 (go.trans go2) q
    | ok a2 ρ2 => rw [e2] at h; exact fun b2 fp2 B2 H2 go2 q => h b2 fp2 B2 H2 (go.trans go2) q
theorem at_bndG {f : M α} {g : α → M γ} {relf : Rel β α} {rel : Rel δ γ} {Q : δ → Hp → Prop} {Q1 : β → Hp → Prop} (h : c.at fp0 H0 B ρ fp (bnd f g) rel σ H Q)
    (k : ∀ b a ρ1 fp1 B1 H1, Go c.K c.ow fp B H σ ρ1 fp1 B1 H1 → relf σ fp H fp1 B1 H1 b a → c.at fp0 H0 B ρ1 fp (g a) rel σ H Q → Q1 b H1) : c.at fp H B ρ fp f relf σ H Q1 := by
  unfold Cn.at bnd at h
  unfold Cn.at
  cases e : f ρ with
  | no => rw [e] at h; exact h
  | ex x d ρ' => rw [e] at h; exact h
  | ok a ρ' => rw [e] at h; exact fun b fp1 B1 H1 go r => k b a ρ' fp1 B1 H1 go r h
theorem at_re {f : M α} {rel : Rel β α} {Q : β → Hp → Prop} [Bk c rel] {B0 : Hp} {ρ0 : Rho} (h : c.at fp0 H0 B ρ fp f rel σ H Q) (g : Go c.K c.ow fp0 B0 H0 σ ρ0 fp B H) : c.at fp H B ρ fp f rel σ H Q := by
  unfold Cn.at at h ⊢
  cases e : f ρ with
  | no => rw [e] at h; exact h
  | ex x d ρ' => rw [e] at h; exact h
  | ok a ρ' => rw [e] at h; exact fun b fp' B' H' go r => h b fp' B' H' go (Bk.bk g r)
theorem at_lift {o : Option α} {rel : Rel β α} {Q : β → Hp → Prop} (h : c.at fp0 H0 B ρ fp (lift o) rel σ H Q) : ∃ a, o = some a ∧ ∀ b fp' B' H', Go c.K c.ow fp B H σ ρ fp' B' H' → rel σ fp0 H0 fp' B' H' b a → Q b H' := by
  cases o with
  | none => exact h.elim
  | some a => exact ⟨a, rfl, h⟩
theorem at_pur {a : α} {rel : Rel β α} {Q : β → Hp → Prop} (h : c.at fp0 H0 B ρ fp (pur a) rel σ H Q) : ∀ b fp' B' H', Go c.K c.ow fp B H σ ρ fp' B' H' → rel σ fp0 H0 fp' B' H' b a → Q b H' := h
theorem at_bl {o : Option α} {g : α → M γ} {rel : Rel δ γ} {Q : δ → Hp → Prop} (h : c.at fp0 H0 B ρ fp (bnd (lift o) g) rel σ H Q) : ∃ a, o = some a ∧ c.at fp0 H0 B ρ fp (g a) rel σ H Q := by
  cases o with
  | none => exact h.elim
  | some a => exact ⟨a, rfl, h⟩
theorem at_rd {i : Nat} {g : D → M γ} {rel : Rel δ γ} {Q : δ → Hp → Prop} (h : c.at fp0 H0 B ρ fp (bnd (rd i) g) rel σ H Q) : ∃ d, get ρ i = some d ∧ c.at fp0 H0 B ρ fp (g d) rel σ H Q := by
  unfold Cn.at bnd rd lift at h
  cases e : get ρ i with
  | none => rw [e] at h; exact h.elim
  | some d => rw [e] at h; exact ⟨d, rfl, h⟩
/-- the end of an expression: a thing of the frozen part -/
theorem fin_new {p : Addr} {o : HO} {rel : Rel V D} {Q : V → Hp → Prop} {d : D} (S : SR c.K c.ow B H σ ρ fp) (h : ∀ b fp' B' H', Go c.K c.ow fp B H σ ρ fp' B' H' → relV c σ fp0 H0 fp' B' H' b d → Q b H') (hp : H p = none)
    (r : Rep c.K (upd B p o) (.ref p) d) : Q (.ref p) (upd H p o) := h _ _ _ _ (S.laid o hp) r
theorem fin_own {p : Addr} {o : HO} {Q : V → Hp → Prop} {d : D} (S : SR c.K c.ow B H σ ρ fp) (h : ∀ b fp' B' H', Go c.K c.ow fp B H σ ρ fp' B' H' → relN c σ fp0 H0 fp' B' H' b d → Q b H') (hp : H p = none) (h0 : H0 p = none)
    (r : Own c.K B (upd H p o) (fun a => a = p) (.ref p) d) : Q (.ref p) (upd H p o) :=
  h _ fp B _ (S.fresh o hp) ⟨_, r, fun a e => by
    subst e
    exact ⟨h0, S.ex.free hp, ⟨o, upd_same⟩, fun i q => by obtain ⟨u, z⟩ := S.al i a q; rw [hp] at z; cases z⟩⟩
theorem Go.froze {K : PySem.W.Frag} {ow : Nat → Bool} {P : Addr → Prop} {fp' : Fp} {B' H' : Hp} (g : Go K ow fp B H σ ρ fp' B' H') (k : ∀ a, P a → ((∃ i, fp i a) ∨ H a = none) ∧ B' a = none ∧ (∃ o, H' a = some o) ∧ ∀ i, ¬ fp' i a) :
    Go K ow fp B H σ ρ fp' (frz B' H' P) H' ∧ Ex B' (frz B' H' P) := by
  have e0 : Ex B' (frz B' H' P) := fun a o e => by
    unfold frz
    rw [if_neg fun z => by rw [(k a z).2.1] at e; cases e]
    exact e
  refine ⟨⟨⟨g.sr.ln, fun a o e => ?_, fun i d e => ?_, g.sr.dj, fun i a q => ?_, g.sr.al⟩, g.b.trans e0, g.h, g.t, fun a o e z n => ?_, g.s⟩, e0⟩
  · unfold frz at e
    by_cases z : P a
    · rw [if_pos z] at e; exact e
    · rw [if_neg z] at e; exact g.sr.ex a o e
  · obtain ⟨v, h1, h2⟩ := g.sr.sl i d e
    refine ⟨v, h1, ?_⟩
    split
    · rename_i ho; rw [if_pos ho] at h2; exact h2.mono e0 fun _ _ _ q => q
    · rename_i ho; rw [if_neg ho] at h2; exact h2.mono e0
  · unfold frz
    rw [if_neg fun z => (k a z).2.2.2 i q]
    exact g.sr.ub i a q
  · unfold frz
    rw [if_neg fun p => (k a p).1.elim n fun q => by rw [e] at q; cases q]
    exact g.f a o e z n
end

/-! ### judgements -/
section
variable (c : Cn) (X : Cx)
def EV (e : Expr) (f : M D) : Prop := PE X e (can c f (relV c))
def EN (e : Expr) (f : M D) : Prop := PE X e (can c f (relN c))
def EB (e : Expr) (f : M D) : Prop := PE X e (can c f (relB c))
def ET (e : Expr) (f : M Bool) : Prop := PT X e (can c f (relE c))
def EW (e : Expr) (f : M Bool) : Prop := PW X e (can c f (relE c))
def EA (ms : List Md) (es : List Expr) (f : M (List D)) : Prop := PA X es (can c f (relA c ms))
end
theorem peOf {X : Cx} {e : Expr} {t t' : TE} (h : PE X e t) (k : ∀ σ H Q, t' σ H Q → t σ H Q) : PE X e t' := ⟨fun pins s σ H Q I w => h.run pins s σ H Q I (k σ H Q w)⟩
theorem ptOf {X : Cx} {e : Expr} {t t' : TT} (h : PT X e t) (k : ∀ σ H Q, t' σ H Q → t σ H Q) : PT X e t' := ⟨fun pins s σ H Q I w => h.run pins s σ H Q I (k σ H Q w)⟩
theorem pwOf {X : Cx} {e : Expr} {t t' : TT} (h : PW X e t) (k : ∀ σ H Q, t' σ H Q → t σ H Q) : PW X e t' := ⟨fun wh pins s σ H Q I w => h.run wh pins s σ H Q I (k σ H Q w)⟩
theorem paOf {X : Cx} {e : List Expr} {t t' : TA} (h : PA X e t) (k : ∀ σ H Q, t' σ H Q → t σ H Q) : PA X e t' := ⟨fun pos pins s σ H Q I w => h.run pos pins s σ H Q I (k σ H Q w)⟩

def op2 (g : D → D → Option D) (fa fb : M D) : M D := bnd fa fun x => bnd fb fun y => lift (g x y)
def op1 (g : D → Option D) (fa : M D) : M D := bnd fa fun x => lift (g x)
def OpG (c : Cn) (r : R2) (g : D → D → Option D) (rel : Rel V D) : Prop := ∀ {fp0 H0 B ρ fp σ H x y dx dy Q}, SR c.K c.ow B H σ ρ fp → (∀ a, H a = none → H0 a = none) → Rep c.K B x dx → Rep c.K B y dy → c.at fp0 H0 B ρ fp (lift (g dx dy)) rel σ H Q → r x y H Q

section
variable {c : Cn} {X : Cx} {e a b : Expr} {fa fb : M D} {ta tb : M Bool} {pos : Pos}
theorem EV_var {i : Nat} (h : PE X e (tVar i)) (ho : c.ow i = false := by rfl) : EV c X e (rd i) := peOf h fun σ H Q ⟨B, ρ, fp, S, q⟩ => by
  obtain ⟨d, hd, k⟩ := at_lift (show c.at fp H B ρ fp (lift (get ρ i)) (relV c) σ H Q from q)
  obtain ⟨v, h1, h2⟩ := S.val ho (get_some hd)
  exact ⟨v, h1, k v fp B H (.refl S) h2⟩
theorem EB_own {i : Nat} (h : PE X e (tVar i)) (ho : c.ow i = true := by rfl) : EB c X e (rd i) := peOf h fun σ H Q ⟨B, ρ, fp, S, q⟩ => by
  obtain ⟨d, hd, k⟩ := at_lift (show c.at fp H B ρ fp (lift (get ρ i)) (relB c) σ H Q from q)
  obtain ⟨v, h1, h2⟩ := S.own ho (get_some hd)
  exact ⟨v, h1, k v fp B H (.refl S) (.inr ⟨_, h2⟩)⟩
theorem EV_c {v : V} {d : D} (h : PE X e (tC v)) (r : ∀ B, Rep c.K B v d) : EV c X e (pur d) := peOf h fun σ H Q ⟨B, ρ, fp, S, q⟩ => q v fp B H (.refl S) (r B)
theorem EV_int {i j pos} : EV c X (.Constant (.int i) j pos) (pur (.int i)) := EV_c pe_int fun _ => .int i
theorem EV_bl {i j pos} : EV c X (.Constant (.bool i) j pos) (pur (.bl i)) := EV_c pe_bl fun _ => .bl i
theorem EV_str {i j pos} : EV c X (.Constant (.str i) j pos) (pur (.str i)) := EV_c pe_str fun _ => .str i
theorem EV_non {j pos} : EV c X (.Constant .none j pos) (pur .non) := EV_c pe_non fun _ => .non
theorem EB_of (h : EV c X e fa) : EB c X e fa := peOf h fun σ H Q ⟨B, ρ, fp, S, q⟩ => ⟨B, ρ, fp, S, by
  unfold Cn.at at q ⊢
  cases e : fa ρ with
  | no => rw [e] at q; exact q
  | ex x d ρ' => rw [e] at q; exact q
  | ok d ρ' => rw [e] at q; exact fun v fp' B' H' g r => q v fp' B' H' g (.inl r)⟩
theorem EV_of (h : EN c X e fa) : EV c X e fa := peOf h fun σ H Q ⟨B, ρ, fp, S, q⟩ => ⟨B, ρ, fp, S, by
  unfold Cn.at at q ⊢
  cases e : fa ρ with
  | no => rw [e] at q; exact q
  | ex x d ρ' => rw [e] at q; exact q
  | ok d ρ' =>
    rw [e] at q
    intro v fp' B' H' g ⟨P, o, k⟩
    obtain ⟨g2, e0⟩ := g.froze fun a p => ⟨.inr (k a p).1, (k a p).2⟩
    exact q v fp' _ H' g2 (o.froze e0 fun a u p z => by unfold frz; rw [if_pos p]; exact z)⟩
theorem E_op {op : Operator} {r : R2} {g : D → D → Option D} {rel : Rel V D} (ho : OpR X (binaryOp op) r) (hg : OpG c r g rel) (ha : EV c X a fa) (hb : EV c X b fb) : PE X (.BinOp a op b pos) (can c (op2 g fa fb) rel) :=
  peOf (pe_op ho ha hb) fun σ H Q ⟨B, ρ, fp, S, q⟩ => ⟨B, ρ, fp, S, at_bnd q fun x dx ρ1 fp1 B1 H1 g1 r1 q1 => ⟨B1, ρ1, fp1, g1.sr, at_bnd q1 fun y dy ρ2 fp2 B2 H2 g2 r2 q2 => hg g2.sr (fun _ z => g1.non (g2.non z)) (r1.mono g2.b) r2 q2⟩⟩
theorem E_cmp {op : CmpOp} {r : R2} {g : D → D → Option D} {rel : Rel V D} (ho : OpR X (compareOp op) r) (hg : OpG c r g rel) (ha : EV c X a fa) (hb : EV c X b fb) (hm : behindInMarks op b = false := by first | exact nomark _ | rfl) : PE X (.Compare a [op] [b] pos) (can c (op2 g fa fb) rel) :=
  peOf (pe_cmpR ho ha hb hm) fun σ H Q ⟨B, ρ, fp, S, q⟩ => ⟨B, ρ, fp, S, at_bnd q fun x dx ρ1 fp1 B1 H1 g1 r1 q1 => ⟨B1, ρ1, fp1, g1.sr, at_bnd q1 fun y dy ρ2 fp2 B2 H2 g2 r2 q2 => hg g2.sr (fun _ z => g1.non (g2.non z)) (r1.mono g2.b) r2 q2⟩⟩
def tru : D → Option Bool
  | .bl b => some b
  | _ => none
def tst (f : M D) : M Bool := bnd f fun d => lift (tru d)
theorem at_tst {B H : Hp} {ρ : Rho} {fp : Fp} {σ : L2.St} {f : M D} {Q : Bool → Hp → Prop} (q : c.at fp H B ρ fp (tst f) (relE c) σ H Q) : c.at fp H B ρ fp f (relV c) σ H fun x H' => ∃ k, x = .bl k ∧ Q k H' :=
  at_bnd q fun x dx ρ1 fp1 B1 H1 g1 r1 q1 => by
    obtain ⟨k, hk, z⟩ := at_lift q1
    cases dx <;> try cases hk
    cases r1
    exact ⟨_, rfl, z _ _ _ _ (.refl g1.sr) rfl⟩
theorem ET_cmp {op : CmpOp} {r : R2} {g : D → D → Option D} (ho : OpR X (compareOp op) r) (hg : OpG c r g (relV c)) (ha : EV c X a fa) (hb : EV c X b fb) (hm : behindInMarks op b = false := by first | exact nomark _ | rfl) : ET c X (.Compare a [op] [b] pos) (tst (op2 g fa fb)) :=
  ptOf (pt_cmpR ho ha hb hm) fun σ H Q ⟨B, ρ, fp, S, q⟩ => ⟨B, ρ, fp, S, at_bnd (at_tst q) fun x dx ρ1 fp1 B1 H1 g1 r1 q1 => ⟨B1, ρ1, fp1, g1.sr, at_bnd q1 fun y dy ρ2 fp2 B2 H2 g2 r2 q2 => hg g2.sr (fun _ z => g1.non (g2.non z)) (r1.mono g2.b) r2 q2⟩⟩
theorem ET_val (h : EV c X e fa) (he : ∀ whole, isTrue e X.env whole = (do let v ← whole; standAt e.pos; holding [v] (truthy v)) := by intro _; rfl) : ET c X e (tst fa) :=
  ptOf (pt_val h he) fun σ H Q ⟨B, ρ, fp, S, q⟩ => ⟨B, ρ, fp, S, at_tst q⟩
def andT (ta tb : M Bool) : M Bool := bnd ta fun x => if x = true then tb else pur false
def orT (ta tb : M Bool) : M Bool := bnd ta fun x => if x = true then pur true else tb
def notT (ta : M Bool) : M Bool := bnd ta fun x => pur (!x)
theorem EW_and1 (h : ET c X a ta) : EW c X (.BoolOp .And [a] pos) ta := pw_and1 h
theorem EW_or1 (h : ET c X a ta) : EW c X (.BoolOp .Or [a] pos) ta := pw_or1 h
theorem EW_and {rest : List Expr} (ha : ET c X a ta) (hb : EW c X (.BoolOp .And (b :: rest) pos) tb) : EW c X (.BoolOp .And (a :: b :: rest) pos) (andT ta tb) :=
  pwOf (pw_and ha hb) fun σ H Q ⟨B, ρ, fp, S, q⟩ => ⟨B, ρ, fp, S, at_bnd q fun x dx ρ1 fp1 B1 H1 g1 r1 q1 => by
    cases r1
    split
    · rename_i h; rw [if_pos h] at q1; exact ⟨B1, ρ1, fp1, g1.sr, at_re q1 g1⟩
    · rename_i h; rw [if_neg h] at q1; exact at_pur q1 _ _ _ _ (.refl g1.sr) rfl⟩
theorem EW_or {rest : List Expr} (ha : ET c X a ta) (hb : EW c X (.BoolOp .Or (b :: rest) pos) tb) : EW c X (.BoolOp .Or (a :: b :: rest) pos) (orT ta tb) :=
  pwOf (pw_or ha hb) fun σ H Q ⟨B, ρ, fp, S, q⟩ => ⟨B, ρ, fp, S, at_bnd q fun x dx ρ1 fp1 B1 H1 g1 r1 q1 => by
    cases r1
    split
    · rename_i h; rw [if_pos h] at q1; exact at_pur q1 _ _ _ _ (.refl g1.sr) rfl
    · rename_i h; rw [if_neg h] at q1; exact ⟨B1, ρ1, fp1, g1.sr, at_re q1 g1⟩⟩
theorem ET_w (h : EW c X e ta) : ET c X e ta := h.pt
theorem ET_not (h : ET c X a ta) : ET c X (.UnaryOp .Not a pos) (notT ta) :=
  ptOf (pt_not h) fun σ H Q ⟨B, ρ, fp, S, q⟩ => ⟨B, ρ, fp, S, at_bnd q fun x dx ρ1 fp1 B1 H1 g1 r1 q1 => by cases r1; exact at_pur q1 _ _ _ _ (.refl g1.sr) rfl⟩
/-- and, or, not as values of truths -/
def andV (fa fb : M D) : M D := bnd fa fun x => bnd (lift (tru x)) fun k => if k = true then fb else pur (.bl false)
def orV (fa fb : M D) : M D := bnd fa fun x => bnd (lift (tru x)) fun k => if k = true then pur (.bl true) else fb
def notV (fa : M D) : M D := bnd fa fun x => bnd (lift (tru x)) fun k => pur (.bl (!k))
theorem at_tru {B H H0 : Hp} {ρ : Rho} {fp fp0 : Fp} {σ : L2.St} {x : V} {d : D} {g : Bool → M D} {Q : V → Hp → Prop} (S : SR c.K c.ow B H σ ρ fp) (r : Rep c.K B x d) (q : c.at fp0 H0 B ρ fp (bnd (lift (tru d)) g) (relV c) σ H Q) : ∃ k, x = .bl k ∧ c.at fp0 H0 B ρ fp (g k) (relV c) σ H Q := by
  cases d <;> try exact q.elim
  cases r
  exact ⟨_, rfl, q⟩
theorem EV_one {op} (h : EV c X a fa) : EV c X (.BoolOp op [a] pos) fa := pe_one h
theorem EV_and {rest : List Expr} (ha : EV c X a fa) (hb : EV c X (.BoolOp .And (b :: rest) pos) fb) : EV c X (.BoolOp .And (a :: b :: rest) pos) (andV fa fb) :=
  peOf (pe_and ha hb) fun σ H Q ⟨B, ρ, fp, S, q⟩ => ⟨B, ρ, fp, S, at_bnd q fun x dx ρ1 fp1 B1 H1 g1 r1 q1 => by
    obtain ⟨k, rfl, q2⟩ := at_tru g1.sr r1 q1
    refine ⟨k, rfl, ?_⟩
    split
    · rename_i h; rw [if_pos h] at q2; exact ⟨B1, ρ1, fp1, g1.sr, at_re q2 g1⟩
    · rename_i h; rw [if_neg h] at q2; exact at_pur q2 _ _ _ _ (.refl g1.sr) (.bl false)⟩
theorem EV_or {rest : List Expr} (ha : EV c X a fa) (hb : EV c X (.BoolOp .Or (b :: rest) pos) fb) : EV c X (.BoolOp .Or (a :: b :: rest) pos) (orV fa fb) :=
  peOf (pe_or ha hb) fun σ H Q ⟨B, ρ, fp, S, q⟩ => ⟨B, ρ, fp, S, at_bnd q fun x dx ρ1 fp1 B1 H1 g1 r1 q1 => by
    obtain ⟨k, rfl, q2⟩ := at_tru g1.sr r1 q1
    refine ⟨k, rfl, ?_⟩
    split
    · rename_i h; rw [if_pos h] at q2; exact at_pur q2 _ _ _ _ (.refl g1.sr) (.bl true)
    · rename_i h; rw [if_neg h] at q2; exact ⟨B1, ρ1, fp1, g1.sr, at_re q2 g1⟩⟩
theorem EV_not (h : EV c X a fa) : EV c X (.UnaryOp .Not a pos) (notV fa) :=
  peOf (pe_not h) fun σ H Q ⟨B, ρ, fp, S, q⟩ => ⟨B, ρ, fp, S, at_bnd q fun x dx ρ1 fp1 B1 H1 g1 r1 q1 => by
    obtain ⟨k, rfl, q2⟩ := at_tru g1.sr r1 q1
    exact ⟨k, rfl, at_pur q2 _ _ _ _ (.refl g1.sr) (.bl _)⟩⟩
def ifM {α : Type} (t : M Bool) (fa fb : M α) : M α := bnd t fun x => if x = true then fa else fb
theorem E_if {rel : Rel V D} [Bk c rel] {t : Expr} (ht : ET c X t ta) (ha : PE X a (can c fa rel)) (hb : PE X b (can c fb rel)) : PE X (.IfExp t a b pos) (can c (ifM ta fa fb) rel) :=
  peOf (pe_ifExp ht ha hb) fun σ H Q ⟨B, ρ, fp, S, q⟩ => ⟨B, ρ, fp, S, at_bnd q fun x dx ρ1 fp1 B1 H1 g1 r1 q1 => by
    cases r1
    split
    · rename_i h; rw [if_pos h] at q1; exact ⟨B1, ρ1, fp1, g1.sr, at_re q1 g1⟩
    · rename_i h; rw [if_neg h] at q1; exact ⟨B1, ρ1, fp1, g1.sr, at_re q1 g1⟩⟩
/-- a < b < d -/
def chn (g g' : D → D → Option D) (fa fb fd : M D) : M D := bnd fa fun x => bnd fb fun y => bnd (lift (g x y)) fun z => bnd (lift (tru z)) fun k => if k = true then bnd fd fun u => lift (g' y u) else pur (.bl false)
/-! arguments -/
def aNil : M (List D) := pur []
def aCons (fa : M D) (fr : M (List D)) : M (List D) := bnd fa fun x => bnd fr fun xs => pur (x :: xs)
/-- the thing of a slot: its data is read behind all others -/
def aSlot (j : Nat) (fr : M (List D)) : M (List D) := bnd (rd j) fun _ => bnd fr fun xs => bnd (rd j) fun x => pur (x :: xs)
theorem ownM_zero {m : Md} {ms : List Md} : ownM (m :: ms) 0 = m.own := rfl
theorem ownM_succ {m : Md} {ms : List Md} {i : Nat} : ownM (m :: ms) (i + 1) = ownM ms i := rfl
theorem SR.cons {K : PySem.W.Frag} {B H : Hp} {vs : List V} {ds : List D} {ms : List Md} {fa : Fp} {m : Md} {P : Addr → Prop} {v : V} {d : D} (S : SR K (ownM ms) B H (vs.map some) (ds.map some) fa)
    (r : if m.own = true then Own K B H P v d else Rep K B v d) (hu : ∀ a, P a → B a = none) (ha : ∀ a, P a → ∃ o, H a = some o) (hd : ∀ i a, fa i a → ¬ P a) :
    SR K (ownM (m :: ms)) B H ((v :: vs).map some) ((d :: ds).map some) (fun i a => match i with | 0 => P a | i + 1 => fa i a) := by
  refine ⟨by simpa using S.ln, S.ex, fun i e h => ?_, fun i j a h1 h2 => ?_, fun i a h => ?_, fun i a h => ?_⟩
  · cases i with
    | zero => simp only [List.map_cons, List.getElem?_cons_zero, Option.some.injEq] at h; subst h; exact ⟨v, rfl, r⟩
    | succ i => exact S.sl i e (by simpa using h)
  · cases i with
    | zero => cases j with
      | zero => rfl
      | succ j => exact (hd j a h2 h1).elim
    | succ i => cases j with
      | zero => exact (hd i a h1 h2).elim
      | succ j => exact congrArg (· + 1) (S.dj i j a h1 h2)
  · cases i with
    | zero => exact hu a h
    | succ i => exact S.ub i a h
  · cases i with
    | zero => exact ha a h
    | succ i => exact S.al i a h
theorem SR.nil {K : PySem.W.Frag} {ow : Nat → Bool} {B H : Hp} (h : Ex B H) : SR K ow B H [] [] (fun _ _ => False) := ⟨rfl, h, fun i d e => by simp at e, fun _ _ _ h => h.elim, fun _ _ h => h.elim, fun _ _ h => h.elim⟩
theorem EA_nil : EA c X [] [] aNil := paOf pa_nil fun σ H Q ⟨B, ρ, fp, S, q⟩ => at_pur q _ _ _ _ (.refl S) ⟨rfl, _, .nil S.ex, fun _ _ h => h.elim, fun i j h => by simp at h⟩
theorem EA_cons {ms : List Md} {es : List Expr} {fr : M (List D)} (ha : EV c X a fa) (hr : EA c X ms es fr) (hs : starEach (a :: es) X.env = (false, eval a X.env) :: starEach es X.env := by rfl) : EA c X (.v :: ms) (a :: es) (aCons fa fr) :=
  paOf (pa_cons ha hr hs) fun σ H Q ⟨B, ρ, fp, S, q⟩ => ⟨B, ρ, fp, S, at_bnd q fun x dx ρ1 fp1 B1 H1 g1 r1 q1 => ⟨B1, ρ1, fp1, g1.sr, at_bnd q1 fun y dy ρ2 fp2 B2 H2 g2 ⟨hl, fa, SA, k, z⟩ q2 =>
    at_pur q2 _ _ _ _ (.refl g2.sr) ⟨by simpa using hl, _, SA.cons (m := .v) (P := fun _ => False) (r1.mono g2.b) (fun _ h => h.elim) (fun _ h => h.elim) (fun _ _ _ h => h), fun i a h => by
      cases i with
      | zero => exact h.elim
      | succ i => exact (k i a h).elim (fun ⟨x, y, z⟩ => .inl ⟨x, g1.non y, z⟩) .inr, fun i j h => by
      cases i with
      | zero => cases h
      | succ i => exact z i j h⟩⟩⟩
theorem EA_consN {ms : List Md} {es : List Expr} {fr : M (List D)} (ha : EN c X a fa) (hr : EA c X ms es fr) (hs : starEach (a :: es) X.env = (false, eval a X.env) :: starEach es X.env := by rfl) : EA c X (.n :: ms) (a :: es) (aCons fa fr) :=
  paOf (pa_cons ha hr hs) fun σ H Q ⟨B, ρ, fp, S, q⟩ => ⟨B, ρ, fp, S, at_bnd q fun x dx ρ1 fp1 B1 H1 g1 ⟨P, o, kp⟩ q1 => ⟨B1, ρ1, fp1, g1.sr, at_bnd q1 fun y dy ρ2 fp2 B2 H2 g2 ⟨hl, fa, SA, k, z⟩ q2 => by
    have nr : ∀ a, P a → ¬ ∃ i, fp1 i a := fun a p ⟨i, h⟩ => (kp a p).2.2.2 i h
    have n2 : ∀ a, P a → ∀ j, ¬ fp2 j a := fun a p j h => (g2.s j a h).elim (fun h => (kp a p).2.2.2 j h) fun h => by obtain ⟨o, e⟩ := (kp a p).2.2.1; rw [e] at h; cases h
    refine at_pur q2 _ _ _ _ (.refl g2.sr) ⟨by simpa using hl, _, SA.cons (m := .n) (P := P) (o.mono g2.b fun a u p e => g2.h a u e (nr a p)) (fun a p => let ⟨o, e⟩ := (kp a p).2.2.1; g2.f a o e (kp a p).2.1 (nr a p)) (fun a p => let ⟨o, e⟩ := (kp a p).2.2.1; g2.t a o e) (fun i a h p => ?_), fun i a h => ?_, fun i j h => ?_⟩
    · rcases k i a h with ⟨_, y, _⟩ | ⟨j, _, y⟩
      · obtain ⟨o, e⟩ := (kp a p).2.2.1; rw [e] at y; cases y
      · exact n2 a p j y
    · cases i with
      | zero => exact .inl ⟨rfl, (kp a h).1, n2 a h⟩
      | succ i => exact (k i a h).elim (fun ⟨x, y, z⟩ => .inl ⟨x, g1.non y, z⟩) .inr
    · cases i with
      | zero => cases h
      | succ i => exact z i j h⟩⟩
theorem EA_consS {j : Nat} {ms : List Md} {es : List Expr} {fr : M (List D)} (ha : PE X a (tVar j)) (hr : EA c X ms es fr) (ho : c.ow j = true := by rfl) (hj : (ms.any fun m => match m with | .s i => i == j | _ => false) = false := by rfl)
    (hs : starEach (a :: es) X.env = (false, eval a X.env) :: starEach es X.env := by rfl) : EA c X (.s j :: ms) (a :: es) (aSlot j fr) :=
  paOf (pa_cons ha hr hs) fun σ H Q ⟨B, ρ, fp, S, q⟩ => by
    obtain ⟨d0, hd0, q0⟩ := at_rd q
    obtain ⟨v, hv, o0⟩ := S.own ho (get_some hd0)
    refine ⟨v, hv, ⟨B, ρ, fp, S, at_bnd q0 fun y dy ρ2 fp2 B2 H2 g2 ⟨hl, fa, SA, k, z⟩ q2 => ?_⟩⟩
    obtain ⟨d, hd, q3⟩ := at_rd q2
    obtain ⟨v2, hv2, o2⟩ := g2.sr.own ho (get_some hd)
    rw [hv] at hv2
    cases hv2
    have nj : ∀ i : Nat, ms[i]? ≠ some (Md.s j) := fun i h => by
      have e := List.any_eq_false.mp hj _ (List.mem_of_getElem? h)
      simp at e
    refine at_pur q3 _ _ _ _ (.refl g2.sr) ⟨by simpa using hl, _, SA.cons (m := .s j) (P := fp2 j) o2 (g2.sr.ub j) (g2.sr.al j) (fun i a h p => ?_), fun i a h => ?_, fun i j' h => ?_⟩
    · rcases k i a h with ⟨_, _, y⟩ | ⟨j', y0, y⟩
      · exact y j p
      · rw [g2.sr.dj j' j a y p] at y0; exact nj i y0
    · cases i with
      | zero => exact .inr ⟨j, rfl, h⟩
      | succ i => exact k i a h
    · cases i with
      | zero => cases h; exact ⟨ho, v, rfl, hv⟩
      | succ i => exact z i j' h
/-- values alone -/
theorem relA_v {n : Nat} {B H B' H' : Hp} {σ : L2.St} {fp fp' : Fp} {vs : List V} {ds : List D} (h : relA c (List.replicate n .v) σ fp H fp' B' H' vs ds) : RepL c.K B' vs ds := by
  obtain ⟨hl, fa, S, k, z⟩ := h
  have e : vs.length = ds.length := by simpa using S.ln
  have key : ∀ i d, ds[i]? = some d → ∃ v, vs[i]? = some v ∧ Rep c.K B' v d := fun i d h => by
    obtain ⟨v, h1, h2⟩ := S.val (i := i) (d := d) (by
      unfold ownM
      by_cases q : i < n
      · rw [List.getElem?_replicate, if_pos q]; rfl
      · rw [List.getElem?_replicate, if_neg q]) (by rw [List.getElem?_map, h]; rfl)
    rw [List.getElem?_map] at h1
    cases e1 : vs[i]? with
    | none => rw [e1] at h1; cases h1
    | some u => rw [e1] at h1; cases h1; exact ⟨_, e1, h2⟩
  clear hl S k z
  induction ds generalizing vs with
  | nil => cases vs with
    | nil => exact .nil
    | cons _ _ => cases e
  | cons d ds ih => cases vs with
    | nil => cases e
    | cons v vs =>
      obtain ⟨u, h1, h2⟩ := key 0 d rfl
      cases h1
      exact .cons h2 (ih (by simpa using e) fun i d h => by simpa using key (i + 1) d (by simpa using h))
def szL : Nat := 16777216
theorem szL_eq : szL = sizeLine := sizeLine_eq.symm
def mkTup (xs : List D) : Option D := if xs.length ≤ szL then some (.tup xs) else none
def mkLst (xs : List D) : Option D := if xs.length ≤ szL then some (.lst xs) else none
theorem EV_tup {x1} {n : Nat} {es : List Expr} {f : M (List D)} (h : EA c X (List.replicate n .v) es f) : EV c X (.Tuple es x1 pos) (bnd f fun xs => lift (mkTup xs)) :=
  peOf (pe_tup h) fun σ H Q ⟨B, ρ, fp, S, q⟩ => ⟨B, ρ, fp, S, at_bnd q fun x dx ρ1 fp1 B1 H1 g1 r1 q1 => by
    obtain ⟨d, hd, k⟩ := at_lift q1
    unfold mkTup at hd
    split at hd <;> cases hd
    rename_i hl
    have r1 := relA_v (B := B) (H := H) r1
    refine ⟨by rw [RepL.length r1, ← szL_eq]; exact hl, fun p hp => fin_new (rel := relV c) g1.sr k hp ?_⟩
    exact .tup upd_same (RepL.mono (Ex.new (g1.sr.ex.free hp)) r1)⟩
theorem EN_lst {n : Nat} {es : List Expr} {f : M (List D)} (h : EA c X (List.replicate n .v) es f) : EN c X (.List es pos) (bnd f fun xs => lift (mkLst xs)) :=
  peOf (pe_lst h) fun σ H Q ⟨B, ρ, fp, S, q⟩ => ⟨B, ρ, fp, S, at_bnd q fun x dx ρ1 fp1 B1 H1 g1 r1 q1 => by
    obtain ⟨d, hd, k⟩ := at_lift q1
    unfold mkLst at hd
    split at hd <;> cases hd
    rename_i hl
    have r1 := relA_v (B := B) (H := H) r1
    refine ⟨by rw [RepL.length r1, ← szL_eq]; exact hl, fun p hp => fin_own g1.sr k hp (g1.non hp) ?_⟩
    exact .lst rfl upd_same r1⟩
end
end Fl

set_option maxHeartbeats 1000000
namespace Fl
open PySem PySem.Spec PyProof.Rows L2

inductive Out where
  | nx (ρ : Rho) | bk (ρ : Rho) | ct (ρ : Rho) | rt (d : D) (ρ : Rho) | ex (x : Str) (d : D) (ρ : Rho) | no
abbrev S := Rho → Out
def mask (kp : Nat → Bool) : Nat → Rho → Rho
  | _, [] => []
  | i, o :: r => (if kp i = true then o else none) :: mask kp (i + 1) r
theorem mask_len {kp : Nat → Bool} : ∀ {n : Nat} {ρ : Rho}, (mask kp n ρ).length = ρ.length
  | _, [] => rfl
  | n, _ :: r => congrArg (· + 1) (mask_len (n := n + 1) (ρ := r))
theorem mask_get {kp : Nat → Bool} {d : D} : ∀ {n i : Nat} {ρ : Rho}, (mask kp n ρ)[i]? = some (some d) → kp (n + i) = true ∧ ρ[i]? = some (some d)
  | _, _, [], h => by simp [mask] at h
  | n, 0, o :: r, h => by
    simp only [mask, List.getElem?_cons_zero, Option.some.injEq] at h
    by_cases k : kp n = true
    · rw [if_pos k] at h; exact ⟨k, by simp [h]⟩
    · rw [if_neg k] at h; cases h
  | n, i + 1, o :: r, h => by
    have q := mask_get (n := n + 1) (i := i) (ρ := r) (by simpa [mask] using h)
    exact ⟨by rw [show n + (i + 1) = n + 1 + i by omega]; exact q.1, by simpa using q.2⟩
def Kp (c : Cn) (σ σ' : L2.St) : Prop := σ'.length = σ.length ∧ ∀ i, c.kp i = true → σ'[i]? = σ[i]?
theorem Kp.refl {c : Cn} (σ : L2.St) : Kp c σ σ := ⟨rfl, fun _ _ => rfl⟩
theorem Kp.trans {c : Cn} {σ σ1 σ2 : L2.St} (a : Kp c σ σ1) (b : Kp c σ1 σ2) : Kp c σ σ2 := ⟨b.1.trans a.1, fun i h => (b.2 i h).trans (a.2 i h)⟩
def relR (c : Cn) (fp' : Fp) (B' H' : Hp) (v : V) (d : D) : Prop := ∃ P : Addr → Prop, Own c.K B' H' P v d ∧ ∀ a, P a → ((∃ i, c.kp i = false ∧ c.fp0 i a) ∨ c.H0 a = none) ∧ B' a = none ∧ (∃ o, H' a = some o) ∧ ∀ i, ¬ fp' i a
def relRt (c : Cn) (fp' : Fp) (B' H' : Hp) (v : V) (d : D) : Prop := if c.rm = true then relR c fp' B' H' v d else Rep c.K B' v d
/-- within the def's entry -/
structure In (c : Cn) (fp : Fp) (H : Hp) : Prop where
  t : ∀ a, H a = none → c.H0 a = none
  s : ∀ i a, fp i a → c.fp0 i a ∨ c.H0 a = none
theorem In.go {c : Cn} {fp fp' : Fp} {B H B' H' : Hp} {σ : L2.St} {ρ : Rho} (i : In c fp H) (g : Go c.K c.ow fp B H σ ρ fp' B' H') : In c fp' H' := ⟨fun a h => i.t a (g.non h), fun k a h => (g.s k a h).elim (i.s k a) fun z => .inr (i.t a z)⟩
def Cn.atO (c : Cn) (B : Hp) (fp : Fp) (o : Out) (D : Ends) (σ : L2.St) (H : Hp) : Prop := match o with
  | .nx ρ' => ∀ σ' fp' B' H', Go c.K c.ow fp B H σ' ρ' fp' B' H' → Kp c σ σ' → D.nx σ' H'
  | .bk ρ' => ∀ σ' fp' B' H', Go c.K c.ow fp B H σ' ρ' fp' B' H' → Kp c σ σ' → D.bk σ' H'
  | .ct ρ' => ∀ σ' fp' B' H', Go c.K c.ow fp B H σ' ρ' fp' B' H' → Kp c σ σ' → D.ct σ' H'
  | .rt d ρ' => ∀ v σ' fp' B' H', Go c.K c.ow fp B H σ' (mask c.kp 0 ρ') fp' B' H' → Kp c σ σ' → relRt c fp' B' H' v d → D.rt v H'
  | .ex x d ρ' => ∀ cl dd σ' fp' B' H', Go c.K c.ow fp B H σ' ρ' fp' B' H' → Kp c σ σ' → c.xr x d cl dd H' → c.W cl dd σ' H'
  | .no => False
def canS (c : Cn) (g : S) : TS := fun D σ H => ∃ B ρ fp, SR c.K c.ow B H σ ρ fp ∧ In c fp H ∧ c.atO B fp (g ρ) D σ H
def thn {α : Type} (f : M α) (k : α → S) : S := fun ρ => match f ρ with
  | .ok a ρ' => k a ρ'
  | .ex x d ρ' => .ex x d ρ'
  | .no => .no
def sq (s t : S) : S := fun ρ => match s ρ with
  | .nx ρ' => t ρ'
  | o => o
def skip : S := .nx
def ret (f : M D) : S := thn f fun d ρ => .rt d ρ
def ifS (t : M Bool) (a b : S) : S := thn t fun k => if k = true then a else b
def setS (i : Nat) (f : M D) : S := thn f fun d ρ => .nx (ρ.set i (some d))
section
variable (c : Cn) (X : Cx)
def ES (st : Stmt) (g : S) : Prop := PS X st (canS c g)
def ESs (st : List Stmt) (g : S) : Prop := PSs X st (canS c g)
end
theorem psOf {X : Cx} {e : Stmt} {t t' : TS} (h : PS X e t) (k : ∀ D σ H, t' D σ H → t D σ H) : PS X e t' := ⟨fun pins s σ H Q I w => h.run pins s σ H Q I (k Q σ H w)⟩
theorem pssOf {X : Cx} {e : List Stmt} {t t' : TS} (h : PSs X e t) (k : ∀ D σ H, t' D σ H → t D σ H) : PSs X e t' := ⟨fun pins s σ H Q I w => h.run pins s σ H Q I (k Q σ H w)⟩

section
variable {c : Cn} {B B1 H H1 : Hp} {σ σ1 : L2.St} {ρ ρ1 : Rho} {fp fp1 : Fp} {α β : Type} {D : Ends}
theorem atO_go {o : Out} (h : c.atO B fp o D σ H) (g : Go c.K c.ow fp B H σ1 ρ1 fp1 B1 H1) (k : Kp c σ σ1) : c.atO B1 fp1 o D σ1 H1 := by
  cases o with
  | nx ρ' => exact fun σ' fp' B' H' go kk => h σ' fp' B' H' (g.trans go) (k.trans kk)
  | bk ρ' => exact fun σ' fp' B' H' go kk => h σ' fp' B' H' (g.trans go) (k.trans kk)
  | ct ρ' => exact fun σ' fp' B' H' go kk => h σ' fp' B' H' (g.trans go) (k.trans kk)
  | rt d ρ' => exact fun v σ' fp' B' H' go kk r => h v σ' fp' B' H' (g.trans go) (k.trans kk) r
  | ex x d ρ' => exact fun cl dd σ' fp' B' H' go kk r => h cl dd σ' fp' B' H' (g.trans go) (k.trans kk) r
  | no => exact h
theorem at_thn {f : M α} {k : α → S} {rel : Rel β α} {Q1 : β → Hp → Prop} (h : c.atO B fp (thn f k ρ) D σ H)
    (kk : ∀ b a ρ1 fp1 B1 H1, Go c.K c.ow fp B H σ ρ1 fp1 B1 H1 → rel σ fp H fp1 B1 H1 b a → c.atO B1 fp1 (k a ρ1) D σ H1 → Q1 b H1) : c.at fp H B ρ fp f rel σ H Q1 := by
  unfold thn at h
  unfold Cn.at
  cases e : f ρ with
  | no => rw [e] at h; exact h
  | ex x d ρ' => rw [e] at h; exact fun cl dd fp' B' H' go r => h cl dd σ fp' B' H' go (.refl σ) r
  | ok a ρ' => rw [e] at h; exact fun b fp' B' H' go r => kk b a ρ' fp' B' H' go r (atO_go h go (.refl σ))
/-- a def's own things but those handed back are let go -/
theorem Go.masked (g : Go c.K c.ow fp B H σ1 ρ1 fp1 B1 H1) : Go c.K c.ow fp B H σ1 (mask c.kp 0 ρ1) (fun i a => c.kp i = true ∧ fp1 i a) B1 H1 := by
  refine ⟨⟨by rw [mask_len]; exact g.sr.ln, g.sr.ex, fun i d h => ?_, fun i j a h1 h2 => g.sr.dj i j a h1.2 h2.2, fun i a h => g.sr.ub i a h.2, fun i a h => g.sr.al i a h.2⟩, g.b, g.h, g.t, g.f, fun i a h => g.s i a h.2⟩
  obtain ⟨k, e⟩ := mask_get h
  rw [Nat.zero_add] at k
  obtain ⟨v, h1, h2⟩ := g.sr.sl i d e
  refine ⟨v, h1, ?_⟩
  split
  · rename_i ho; rw [if_pos ho] at h2; exact h2.reg fun a p => ⟨k, p⟩
  · rename_i ho; rw [if_neg ho] at h2; exact h2
end
section
variable {c : Cn} {X : Cx} {e a b : Expr} {st : Stmt} {sts rest : List Stmt} {f fa fb : M D} {t : M Bool} {s u : S} {pos : Pos}
theorem ESs_nil : ESs c X [] skip := pssOf pss_nil fun D σ H ⟨B, ρ, fp, S, i, q⟩ => q σ fp B H (.refl S) (.refl σ)
theorem ESs_one (h : ES c X st s) : ESs c X [st] s := pss_one h
theorem ESs_cons (h1 : ES c X st s) (h2 : ESs c X rest u) : ESs c X (st :: rest) (sq s u) := pssOf (pss_cons h1 h2) fun D σ H ⟨B, ρ, fp, S, i, q⟩ => by
  refine ⟨B, ρ, fp, S, i, ?_⟩
  unfold sq at q
  cases e : s ρ with
  | nx ρ' =>
    rw [e] at q
    exact fun σ' fp' B' H' go k => ⟨B', ρ', fp', go.sr, i.go go, atO_go q go k⟩
  | bk ρ' => rw [e] at q; exact q
  | ct ρ' => rw [e] at q; exact q
  | rt d ρ' => rw [e] at q; exact q
  | ex x d ρ' => rw [e] at q; exact q
  | no => rw [e] at q; exact q
theorem ES_pass : ES c X (.Pass pos) skip := psOf ps_pass fun D σ H ⟨B, ρ, fp, S, i, q⟩ => q σ fp B H (.refl S) (.refl σ)
theorem ES_break : ES c X (.Break pos) .bk := psOf ps_break fun D σ H ⟨B, ρ, fp, S, i, q⟩ => q σ fp B H (.refl S) (.refl σ)
theorem ES_continue : ES c X (.Continue pos) .ct := psOf ps_continue fun D σ H ⟨B, ρ, fp, S, i, q⟩ => q σ fp B H (.refl S) (.refl σ)
theorem ES_expr {rel : Rel V D} (h : PE X e (can c f rel)) (hs : swapsWith e none pos.line X.env = pure false := by rfl) : ES c X (.Expr e pos) (thn f fun _ => skip) :=
  psOf (ps_expr h hs) fun D σ H ⟨B, ρ, fp, S, i, q⟩ => ⟨B, ρ, fp, S, at_thn q fun b a ρ1 fp1 B1 H1 g _ q1 => q1 σ fp1 B1 H1 (.refl g.sr) (.refl σ)⟩
theorem ES_ret (h : EV c X e f) (hr : c.rm = false := by rfl) : ES c X (.Return (some e) pos) (ret f) :=
  psOf (ps_ret h) fun D σ H ⟨B, ρ, fp, S, i, q⟩ => ⟨B, ρ, fp, S, at_thn q fun b a ρ1 fp1 B1 H1 g r q1 => q1 b σ _ B1 H1 (Go.refl g.sr).masked (.refl σ) (by unfold relRt; rw [hr, if_neg (by decide)]; exact r)⟩
theorem ES_retN (hr : c.rm = false := by rfl) : ES c X (.Return none pos) (.rt .non) :=
  psOf ps_retN fun D σ H ⟨B, ρ, fp, S, i, q⟩ => q .non σ _ B H (Go.refl S).masked (.refl σ) (by unfold relRt; rw [hr, if_neg (by decide)]; exact .non)
/-- a new thing handed back as one's own -/
theorem ES_retM (h : EN c X e f) (hr : c.rm = true := by rfl) : ES c X (.Return (some e) pos) (ret f) :=
  psOf (ps_ret h) fun D σ H ⟨B, ρ, fp, S, i, q⟩ => ⟨B, ρ, fp, S, at_thn q fun b a ρ1 fp1 B1 H1 g ⟨P, o, k⟩ q1 => q1 b σ _ B1 H1 (Go.refl g.sr).masked (.refl σ) (by
    unfold relRt; rw [if_pos hr]
    exact ⟨P, o, fun a p => ⟨.inr (i.t a (k a p).1), (k a p).2.1, (k a p).2.2.1, fun j h => (k a p).2.2.2 j h.2⟩⟩)⟩
/-- the thing of a slot of one's own is handed back -/
theorem ES_retS {j : Nat} (h : PE X e (tVar j)) (ho : c.ow j = true := by rfl) (hk : c.kp j = false := by rfl) (hr : c.rm = true := by rfl) : ES c X (.Return (some e) pos) (ret (rd j)) :=
  psOf (ps_ret h) fun D σ H ⟨B, ρ, fp, S, i, q⟩ => by
    obtain ⟨d, hd, q1⟩ : ∃ d, get ρ j = some d ∧ c.atO B fp (.rt d ρ) D σ H := by
      unfold ret thn rd lift at q
      cases e : get ρ j with
      | none => rw [e] at q; exact q.elim
      | some d => rw [e] at q; exact ⟨d, rfl, q⟩
    obtain ⟨v, hv, o⟩ := S.own ho (get_some hd)
    refine ⟨v, hv, q1 v σ _ B H (Go.refl S).masked (.refl σ) ?_⟩
    unfold relRt; rw [if_pos hr]
    exact ⟨fp j, o, fun a p => ⟨(i.s j a p).imp_left fun z => ⟨j, hk, z⟩, S.ub j a p, S.al j a p, fun l h => by rw [S.dj l j a h.2 p, hk] at h; cases h.1⟩⟩
theorem ES_retF {j : Nat} (h : PE X e (tVar j)) (ho : c.ow j = true := by rfl) (hk : c.kp j = false := by rfl) (hr : c.rm = false := by rfl) : ES c X (.Return (some e) pos) (ret (rd j)) :=
  psOf (ps_ret h) fun D σ H ⟨B, ρ, fp, S, i, q⟩ => by
    obtain ⟨d, hd, q1⟩ : ∃ d, get ρ j = some d ∧ c.atO B fp (.rt d ρ) D σ H := by
      unfold ret thn rd lift at q
      cases e : get ρ j with
      | none => rw [e] at q; exact q.elim
      | some d => rw [e] at q; exact ⟨d, rfl, q⟩
    obtain ⟨v, hv, o⟩ := S.own ho (get_some hd)
    obtain ⟨g, e0⟩ := (Go.refl S).masked.froze (P := fp j) fun a p => ⟨.inl ⟨j, p⟩, S.ub j a p, S.al j a p, fun l h => by rw [S.dj l j a h.2 p, hk] at h; cases h.1⟩
    refine ⟨v, hv, q1 v σ _ _ H g (.refl σ) ?_⟩
    unfold relRt; rw [hr, if_neg (by decide)]
    exact o.froze e0 fun a u p z => by unfold frz; rw [if_pos p]; exact z
theorem ES_if {te : Expr} (ht : ET c X te t) (ha : ESs c X sts s) (hb : ESs c X rest u) : ES c X (.If te sts rest pos) (ifS t s u) :=
  psOf (ps_if ht ha hb) fun D σ H ⟨B, ρ, fp, S, i, q⟩ => ⟨B, ρ, fp, S, at_thn q fun b a ρ1 fp1 B1 H1 g r q1 => by
    cases r
    split
    · rename_i h; rw [if_pos h] at q1; exact ⟨B1, ρ1, fp1, g.sr, i.go g, q1⟩
    · rename_i h; rw [if_neg h] at q1; exact ⟨B1, ρ1, fp1, g.sr, i.go g, q1⟩⟩
theorem Kp.set {i : Nat} {σ : L2.St} {v : Option V} (hk : c.kp i = false) : Kp c σ (σ.set i v) := ⟨by simp, fun j h => by
  rw [List.getElem?_set_ne]
  intro e; rw [e, h] at hk; cases hk⟩
theorem Go.setV {ow : Nat → Bool} {K : PySem.W.Frag} {B H : Hp} {σ : L2.St} {ρ : Rho} {fp : Fp} (S : SR K ow B H σ ρ fp) {i : Nat} {v : V} {d : D} (ho : ow i = false) (r : Rep K B v d) : Go K ow fp B H (σ.set i (some v)) (ρ.set i (some d)) fp B H :=
  ⟨S.setV ho r, Ex.refl _, fun _ _ h _ => h, fun _ o h => ⟨o, h⟩, fun _ _ _ h _ => h, fun _ _ h => .inl h⟩
theorem Go.setO {ow : Nat → Bool} {K : PySem.W.Frag} {B H H' : Hp} {σ : L2.St} {ρ : Rho} {fp : Fp} (S : SR K ow B H σ ρ fp) {i : Nat} {v : V} {d : D} {P : Addr → Prop} (ho : ow i = true) (r : Own K B H P v d) (k : ∀ a, P a → B a = none ∧ (∃ o, H a = some o) ∧ ∀ i, ¬ fp i a) :
    SR K ow B H (σ.set i (some v)) (ρ.set i (some d)) (fun j => if j = i then P else fp j) := S.setO ho r (fun a p j => (k a p).2.2 j) (fun a p => (k a p).1) (fun a p => (k a p).2.1)
/-- x = e: a value | a thing of one's own -/
theorem ES_set {i : Nat} {x : Str} {pos' : Pos} (hN : X.N.Nodup) (hi : X.N[i]? = some x) (hx : Loc X.env.scope x) (h : EV c X e f) (ho : c.ow i = false := by rfl) (hk : c.kp i = false := by rfl)
    (hs : swapsWith e (some (.Name x pos')) pos.line X.env = pure false := by rfl) (hf : X.fn x = true ∨ X.env.scope.names.lookup x = some .local := by first | exact .inl rfl | exact .inr rfl) : ES c X (.Assign [.Name x pos'] e pos) (setS i f) :=
  psOf (ps_set hN hi hx h hs hf) fun D σ H ⟨B, ρ, fp, S, i, q⟩ => ⟨B, ρ, fp, S, at_thn q fun b a ρ1 fp1 B1 H1 g r q1 => q1 _ fp1 B1 H1 (.setV g.sr ho r) (.set hk)⟩
theorem own_nx {i : Nat} {D : Ends} {B H B1 H1 : Hp} {σ : L2.St} {ρ ρ1 : Rho} {fp fp1 : Fp} {b : V} {a : Fl.D} (ho : c.ow i = true) (hk : c.kp i = false) (S : SR c.K c.ow B H σ ρ fp) (inn : In c fp H) (g : Go c.K c.ow fp B H σ ρ1 fp1 B1 H1) (r : relN c σ fp H fp1 B1 H1 b a)
    (q : c.atO B fp (.nx (ρ1.set i (some a))) D σ H) : D.nx (σ.set i (some b)) H1 := by
  obtain ⟨P, o, k⟩ := r
  have S2 := Go.setO (H' := H1) g.sr (i := i) ho o fun a p => (k a p).2
  exact q _ _ B1 H1 ⟨S2, g.b, g.h, g.t, g.f, fun j a h => by
    by_cases z : j = i
    · simp only [if_pos z] at h; exact .inr (k a h).1
    · simp only [if_neg z] at h; exact g.s j a h⟩ (.set hk)
theorem at_thnG {α β : Type} {fm : M α} {k : α → S} {rel : Rel β α} {Q1 : β → Hp → Prop} {B H : Hp} {σ : L2.St} {ρ : Rho} {fp : Fp} {D : Ends} (h : c.atO B fp (thn fm k ρ) D σ H)
    (kk : ∀ b a ρ1 fp1 B1 H1, Go c.K c.ow fp B H σ ρ1 fp1 B1 H1 → rel σ fp H fp1 B1 H1 b a → c.atO B fp (k a ρ1) D σ H → Q1 b H1) : c.at fp H B ρ fp fm rel σ H Q1 := by
  unfold thn at h
  unfold Cn.at
  cases e : fm ρ with
  | no => rw [e] at h; exact h
  | ex x d ρ' => rw [e] at h; exact fun cl dd fp' B' H' go r => h cl dd σ fp' B' H' go (.refl σ) r
  | ok a ρ' => rw [e] at h; exact fun b fp' B' H' go r => kk b a ρ' fp' B' H' go r h
theorem ES_setN {i : Nat} {x : Str} {pos' : Pos} (hN : X.N.Nodup) (hi : X.N[i]? = some x) (hx : Loc X.env.scope x) (h : EN c X e f) (ho : c.ow i = true := by rfl) (hk : c.kp i = false := by rfl)
    (hs : swapsWith e (some (.Name x pos')) pos.line X.env = pure false := by rfl) (hf : X.fn x = true ∨ X.env.scope.names.lookup x = some .local := by first | exact .inl rfl | exact .inr rfl) : ES c X (.Assign [.Name x pos'] e pos) (setS i f) :=
  psOf (ps_set hN hi hx h hs hf) fun D σ H ⟨B, ρ, fp, S, i, q⟩ => ⟨B, ρ, fp, S, at_thnG q fun b a ρ1 fp1 B1 H1 g r q1 => own_nx ho hk S i g r q1⟩
end
end Fl

set_option maxHeartbeats 1000000
namespace Fl
open PySem PySem.Spec PyProof.Rows L2

/-! ### targets -/
abbrev G := D → Rho → Option Rho
abbrev Gs := List D → Rho → Option Rho
/-- outside the slots tl all is as it was -/
def Sl (tl : List Nat) (σ σ' : L2.St) : Prop := σ'.length = σ.length ∧ ∀ i, i ∉ tl → σ'[i]? = σ[i]?
theorem Sl.refl (σ : L2.St) : Sl [] σ σ := ⟨rfl, fun _ _ => rfl⟩
theorem Sl.trans {a b : List Nat} {σ σ1 σ2 : L2.St} (h : Sl a σ σ1) (k : Sl b σ1 σ2) : Sl (a ++ b) σ σ2 := ⟨k.1.trans h.1, fun i n => by
  rw [List.mem_append, not_or] at n
  exact (k.2 i n.2).trans (h.2 i n.1)⟩
theorem Sl.kp {c : Cn} {tl : List Nat} {σ σ' : L2.St} (h : Sl tl σ σ') (k : (tl.all fun i => !c.kp i) = true) : Kp c σ σ' := ⟨h.1, fun i q => h.2 i fun m => by
  have z := List.all_eq_true.mp k i m
  rw [q] at z; cases z⟩
def canG (c : Cn) (tl : List Nat) (g : G) : TG := fun v σ H Q => ∃ B ρ fp d, SR c.K c.ow B H σ ρ fp ∧ Rep c.K B v d ∧ match g d ρ with
  | some ρ' => ∀ σ' fp' B' H', Go c.K c.ow fp B H σ' ρ' fp' B' H' → Sl tl σ σ' → Q σ' H'
  | none => False
def canGs (c : Cn) (tl : List Nat) (g : Gs) : TGs := fun v σ H Q => ∃ B ρ fp d, SR c.K c.ow B H σ ρ fp ∧ RepL c.K B v d ∧ match g d ρ with
  | some ρ' => ∀ σ' fp' B' H', Go c.K c.ow fp B H σ' ρ' fp' B' H' → Sl tl σ σ' → Q σ' H'
  | none => False
def EG (c : Cn) (X : Cx) (tg : Expr) (tl : List Nat) (g : G) : Prop := PG X tg (canG c tl g)
def EGs (c : Cn) (X : Cx) (tg : List Expr) (tl : List Nat) (g : Gs) : Prop := PGs X tg (canGs c tl g)
theorem pgOf {X : Cx} {e : Expr} {t t' : TG} (h : PG X e t) (k : ∀ v σ H Q, t' v σ H Q → t v σ H Q) : PG X e t' := ⟨fun pins s σ H x u Q I r w => h.run pins s σ H x u Q I r (k _ σ H Q w)⟩
theorem pgsOf {X : Cx} {e : List Expr} {t t' : TGs} (h : PGs X e t) (k : ∀ v σ H Q, t' v σ H Q → t v σ H Q) : PGs X e t' := ⟨fun pins s σ H x u Q I r w => h.run pins s σ H x u Q I r (k _ σ H Q w)⟩
def gNam (i : Nat) : G := fun d ρ => some (ρ.set i (some d))
def gEnd : Gs := fun ds ρ => match ds with
  | [] => some ρ
  | _ => none
def gMore (g : G) (r : Gs) : Gs := fun ds ρ => match ds with
  | d :: ds => match g d ρ with
    | some ρ' => r ds ρ'
    | none => none
  | [] => none
def gTupD (r : Gs) : G := fun d ρ => match d with
  | .tup ds => r ds ρ
  | _ => none
section
variable {c : Cn} {X : Cx} {e : Expr} {es : List Expr} {g : G} {gs : Gs} {tl tls : List Nat} {pos : Pos}
theorem EG_name {i : Nat} {x : Str} (hN : X.N.Nodup) (hi : X.N[i]? = some x) (hx : Loc X.env.scope x) (ho : c.ow i = false := by rfl) (hf : X.fn x = true ∨ X.env.scope.names.lookup x = some .local := by first | exact .inl rfl | exact .inr rfl) : EG c X (.Name x pos) [i] (gNam i) :=
  pgOf (pg_name hN hi hx hf) fun v σ H Q ⟨B, ρ, fp, d, S, r, q⟩ => q _ fp B H (.setV S ho r) ⟨by simp, fun j n => by
    rw [List.getElem?_set_ne]
    intro z; exact n (by simp [z])⟩
theorem EGs_nil : EGs c X [] [] gEnd := pgsOf pgs_nil fun v σ H Q ⟨B, ρ, fp, d, S, r, q⟩ => by
  cases r with
  | nil => exact ⟨rfl, q σ fp B H (.refl S) (.refl σ)⟩
  | cons _ _ => exact q.elim
theorem EGs_cons (h1 : EG c X e tl g) (h2 : EGs c X es tls gs) (hs : (assignEach (e :: es) X.env).map (·.2) = assign e X.env :: (assignEach es X.env).map (·.2) := by rfl) : EGs c X (e :: es) (tl ++ tls) (gMore g gs) :=
  pgsOf (pgs_cons h1 h2 hs) fun v σ H Q ⟨B, ρ, fp, d, S, r, q⟩ => by
    cases r with
    | nil => exact q.elim
    | @cons x xs d ds a t =>
      refine ⟨x, xs, rfl, B, ρ, fp, d, S, a, ?_⟩
      unfold gMore at q
      simp only at q
      cases z : g d ρ with
      | none => rw [z] at q; exact q
      | some ρ1 =>
        rw [z] at q
        intro σ1 fp1 B1 H1 g1 s1
        refine ⟨B1, ρ1, fp1, ds, g1.sr, t.mono g1.b, ?_⟩
        simp only at q
        cases z2 : gs ds ρ1 with
        | none => rw [z2] at q; exact q
        | some ρ2 => rw [z2] at q; exact fun σ2 fp2 B2 H2 g2 s2 => q σ2 fp2 B2 H2 (g1.trans g2) (s1.trans s2)
theorem EG_tup {k : Nat} (hc : X.calm = true) (h : EGs c X es tl gs) (hK : c.K = X.K := by rfl) (hn : (assignEach es X.env).length = es.length := by rfl) (hst : (assignEach es X.env).findIdx? (·.1) = none := by rfl)
    (hl : ∀ ds ρ, gs ds ρ ≠ none → ds.length = es.length) : EG c X (.Tuple es k pos) tl (gTupD gs) :=
  pgOf (pg_tup hc h hn hst) fun v σ H Q ⟨B, ρ, fp, d, S, r, q⟩ => by
    cases r with
    | @tup a xs ds hs b =>
      refine ⟨a, xs, rfl, SqT.of (S.ex _ _ hs), ?_, B, ρ, fp, ds, S, b, q⟩
      rw [b.length]
      refine hl ds ρ fun z => ?_
      unfold gTupD at q
      simp only [z] at q
    | _ => exact q.elim
theorem gEnd_len : ∀ ds ρ, gEnd ds ρ ≠ none → ds.length = ([] : List Expr).length := fun ds ρ h => by
  cases ds with
  | nil => rfl
  | cons _ _ => exact (h rfl).elim
theorem gMore_len (h : ∀ ds ρ, gs ds ρ ≠ none → ds.length = es.length) : ∀ ds ρ, gMore g gs ds ρ ≠ none → ds.length = (e :: es).length := fun ds ρ q => by
  cases ds with
  | nil => exact (q rfl).elim
  | cons d ds =>
    unfold gMore at q
    simp only at q
    cases z : g d ρ with
    | none => rw [z] at q; exact (q rfl).elim
    | some ρ1 => rw [z] at q; exact congrArg (· + 1) (h ds ρ1 q)
end

/-! ### what is walked -/
def YG (B H B' H' : Hp) : Prop := (B' = B ∧ H' = H) ∨ ∃ p o, H p = none ∧ B' = upd B p o ∧ H' = upd H p o
theorem YG.go {K : PySem.W.Frag} {ow : Nat → Bool} {fp : Fp} {B H B' H' : Hp} {σ : L2.St} {ρ : Rho} (y : YG B H B' H') (S : SR K ow B H σ ρ fp) : Go K ow fp B H σ ρ fp B' H' := by
  rcases y with ⟨rfl, rfl⟩ | ⟨p, o, hp, rfl, rfl⟩
  · exact .refl S
  · exact S.laid o hp
def Yl (K : PySem.W.Frag) (J : It) (B : Hp) (ds : List D) : Prop := ∀ B2 H2, Ex B B2 → Ex B2 H2 → ∀ i,
  (∀ d, ds[i]? = some d → J.go i H2 ∧ ∀ x H3, J.yld i H2 x H3 → ∃ B3, YG B2 H2 B3 H3 ∧ Rep K B3 x d) ∧ (ds.length ≤ i → J.stop i H2)
def relI (c : Cn) : Rel It (List D) := fun _ _ _ _ B' _ J ds => Yl c.K J B' ds
def EI (c : Cn) (X : Cx) (tg it : Expr) (f : M (List D)) : Prop := PI X tg it (can c f (relI c))
theorem piOf {X : Cx} {tg e : Expr} {t t' : TI} (h : PI X tg e t) (k : ∀ σ H R, t' σ H R → t σ H R) : PI X tg e t' := ⟨fun pins s σ H R I w => h.run pins s σ H R I (k σ H R w)⟩
def seqD : D → Option (List D)
  | .tup xs => some xs
  | .lst xs => some xs
  | .scr xs => some xs
  | _ => none
def itSeq (f : M D) : M (List D) := bnd f fun d => lift (seqD d)
theorem piOr {X : Cx} {tg e : Expr} {t t' : TI} (h : PI X tg e t) (h' : PI X tg e t') : PI X tg e (fun σ H R => t σ H R ∨ t' σ H R) := ⟨fun pins s σ H R I w => w.elim (h.run pins s σ H R I) (h'.run pins s σ H R I)⟩
theorem Yl_list {K : PySem.W.Frag} {B : Hp} {a : Addr} {xs : List V} {ds : List D} (h : SqL K B a xs) (r : RepL K B xs ds) : Yl K (Itl K a) B ds := fun B2 H2 e1 e2 i => by
  have h2 := e2.l (e1.l h)
  refine ⟨fun d hd => ?_, fun hl => ⟨xs, h2, by rw [r.length]; exact hl⟩⟩
  obtain ⟨v, hv, rv⟩ := r.get hd
  refine ⟨⟨xs, v, h2, hv⟩, fun x H3 ⟨eH, hx⟩ => ⟨B2, .inl ⟨rfl, eH⟩, ?_⟩⟩
  have z := hx xs h2
  rw [hv] at z; cases z
  exact rv.mono e1
theorem Yl_tup {K : PySem.W.Frag} {B : Hp} {a : Addr} {xs : List V} {ds : List D} (h : SqT K B a xs) (r : RepL K B xs ds) : Yl K (Itt K a) B ds := fun B2 H2 e1 e2 i => by
  have h2 := e2.t (e1.t h)
  refine ⟨fun d hd => ?_, fun hl => ⟨xs, h2, by rw [r.length]; exact hl⟩⟩
  obtain ⟨v, hv, rv⟩ := r.get hd
  refine ⟨⟨xs, v, h2, hv⟩, fun x H3 ⟨eH, hx⟩ => ⟨B2, .inl ⟨rfl, eH⟩, ?_⟩⟩
  have z := hx xs h2
  rw [hv] at z; cases z
  exact rv.mono e1
def countD (lo c : Int) (n : Nat) : List D := (List.range n).map fun i => .int (lo + (i : Nat) * c)
theorem Yl_rng {K : PySem.W.Frag} {B : Hp} {lo : Int} {n : Nat} : Yl K (Itr lo n) B (countD lo 1 n) := fun B2 H2 e1 e2 i => by
  unfold countD
  refine ⟨fun d hd => ?_, fun hl => by
    show n ≤ i
    simpa using hl⟩
  rw [List.getElem?_map] at hd
  by_cases hi : i < n
  · rw [List.getElem?_range hi] at hd
    cases hd
    refine ⟨hi, fun x H3 ⟨eH, ex⟩ => ⟨B2, .inl ⟨rfl, eH⟩, ?_⟩⟩
    subst ex
    show Rep K B2 (V.int (lo + (i : Int))) (D.int (lo + (i : Int) * 1))
    rw [Int.mul_one]
    exact .int _
  · rw [List.getElem?_eq_none (by simpa using hi)] at hd; cases hd
theorem Yl_rngc {K : PySem.W.Frag} {B : Hp} {lo c : Int} {n : Nat} : Yl K (Itc lo c n) B (countD lo c n) := fun B2 H2 e1 e2 i => by
  unfold countD
  refine ⟨fun d hd => ?_, fun hl => by
    show n ≤ i
    simpa using hl⟩
  rw [List.getElem?_map] at hd
  by_cases hi : i < n
  · rw [List.getElem?_range hi] at hd
    cases hd
    exact ⟨hi, fun x H3 ⟨eH, ex⟩ => ⟨B2, .inl ⟨rfl, eH⟩, by subst ex; exact .int _⟩⟩
  · rw [List.getElem?_eq_none (by simpa using hi)] at hd; cases hd
def okR : Int → Bool
  | .ofNat n => Nat.blt n (2 ^ 62)
  | .negSucc n => Nat.blt n (2 ^ 62)
theorem okR_iff {i : Int} : okR i = true ↔ -(2 ^ 62) ≤ i ∧ i < 2 ^ 62 := by
  cases i with
  | ofNat n => show Nat.blt n (2 ^ 62) = true ↔ _; rw [Nat.blt_eq]; constructor <;> intro h <;> simp at * <;> omega
  | negSucc n => show Nat.blt n (2 ^ 62) = true ↔ _; rw [Nat.blt_eq]; constructor <;> intro h <;> simp at * <;> omega
def rng1 : List D → Option (List D)
  | [.int j] => if okR j = true then some (countD 0 1 j.toNat) else none
  | _ => none
def rng2 : List D → Option (List D)
  | [.int i, .int j] => if okR i = true ∧ okR j = true then some (countD i 1 (j - i).toNat) else none
  | _ => none
/-- a step of -1 -/
def rng3 : List D → Option (List D)
  | [.int i, .int j, .int c] => if okR i = true ∧ okR j = true ∧ c = -1 then some (countD i (-1) (i - j).toNat) else none
  | _ => none
theorem rng1_inv {xs ys : List D} (h : rng1 xs = some ys) : ∃ j, xs = [.int j] ∧ okR j = true ∧ ys = countD 0 1 j.toNat := by
  unfold rng1 at h
  split at h
  · split at h <;> cases h
    exact ⟨_, rfl, by assumption, rfl⟩
  · cases h
theorem rng2_inv {xs ys : List D} (h : rng2 xs = some ys) : ∃ i j, xs = [.int i, .int j] ∧ (okR i = true ∧ okR j = true) ∧ ys = countD i 1 (j - i).toNat := by
  unfold rng2 at h
  split at h
  · split at h <;> cases h
    exact ⟨_, _, rfl, by assumption, rfl⟩
  · cases h
theorem rng3_inv {xs ys : List D} (h : rng3 xs = some ys) : ∃ i j, xs = [.int i, .int j, .int (-1)] ∧ (okR i = true ∧ okR j = true) ∧ ys = countD i (-1) (i - j).toNat := by
  unfold rng3 at h
  split at h
  · rename_i i j cc
    by_cases q : okR i = true ∧ okR j = true ∧ cc = -1
    · rw [if_pos q] at h
      obtain ⟨q1, q2, rfl⟩ := q
      exact ⟨i, j, rfl, ⟨q1, q2⟩, (Option.some.inj h).symm⟩
    · rw [if_neg q] at h; cases h
  · cases h
section
variable {c : Cn} {X : Cx} {tg a b e : Expr} {p pos : Pos} {f : M D}
theorem EI_seq (h : EV c X e f) (hK : c.K = X.K := by rfl) : EI c X tg e (itSeq f) :=
  piOf (piOr (pi_list h) (pi_tup h)) fun σ H R ⟨B, ρ, fp, S, q⟩ => by
    rw [← hK]
    unfold itSeq Cn.at bnd at q
    cases e : f ρ with
    | no => rw [e] at q; exact q.elim
    | ex x d ρ' => rw [e] at q; exact .inl ⟨B, ρ, fp, S, by unfold Cn.at; rw [e]; exact q⟩
    | ok d ρ' =>
      rw [e] at q
      cases d with
      | lst ds =>
        refine .inl ⟨B, ρ, fp, S, ?_⟩
        unfold Cn.at
        rw [e]
        intro v fp' B' H' g r
        cases r with
        | @lst a xs _ hs b => exact ⟨a, rfl, ⟨xs, SqL.of (g.sr.ex _ _ hs)⟩, q _ fp' B' H' g (Yl_list (SqL.of hs) b)⟩
      | scr ds =>
        refine .inl ⟨B, ρ, fp, S, ?_⟩
        unfold Cn.at
        rw [e]
        intro v fp' B' H' g r
        cases r with
        | @scr a xs _ hs b => exact ⟨a, rfl, ⟨xs, g.sr.ex.l hs⟩, q _ fp' B' H' g (Yl_list hs b)⟩
      | tup ds =>
        refine .inr ⟨B, ρ, fp, S, ?_⟩
        unfold Cn.at
        rw [e]
        intro v fp' B' H' g r
        cases r with
        | @tup a xs _ hs b => exact ⟨a, rfl, ⟨xs, SqT.of (g.sr.ex _ _ hs)⟩, q _ fp' B' H' g (Yl_tup (SqT.of hs) b)⟩
      | _ => exact q.elim
def it1 (fa : M D) : M (List D) := bnd (aCons fa aNil) fun xs => lift (rng1 xs)
def it2 (fa fb : M D) : M (List D) := bnd (aCons fa (aCons fb aNil)) fun xs => lift (rng2 xs)
def it3 (fa fb fc : M D) : M (List D) := bnd (aCons fa (aCons fb (aCons fc aNil))) fun xs => lift (rng3 xs)
theorem EI_r1 {fa : M D} (ha : EV c X a fa) (hm : X.mg "range" = none) (hg : Gl X "range" := by rfl) (hs : starEach [a] X.env = [(false, eval a X.env)] := by rfl) : EI c X tg (.Call (.Name "range" p) [a] [] pos) (it1 fa) :=
  piOf (pi_range1 hg hm (EA_cons ha EA_nil hs) hs) fun σ H R ⟨B, ρ, fp, S, q⟩ => ⟨B, ρ, fp, S, at_bnd q fun vs ds ρ1 fp1 B1 H1 g r q1 => by
    obtain ⟨ys, hy, k⟩ := at_lift q1
    have r := relA_v (n := 1) (B := B) (H := H) r
    obtain ⟨j, rfl, hj, rfl⟩ := rng1_inv hy
    obtain ⟨h1, h2⟩ := okR_iff.mp hj
    exact ⟨j, RepL.ints (ns := [j]) r, h1, h2, k _ fp1 B1 H1 (.refl g.sr) Yl_rng⟩⟩
theorem EI_r2 {fa fb : M D} (ha : EV c X a fa) (hb : EV c X b fb) (hm : X.mg "range" = none) (hg : Gl X "range" := by rfl) (hs : starEach [a, b] X.env = [(false, eval a X.env), (false, eval b X.env)] := by rfl) (hs2 : starEach [b] X.env = [(false, eval b X.env)] := by rfl) :
    EI c X tg (.Call (.Name "range" p) [a, b] [] pos) (it2 fa fb) :=
  piOf (pi_range2 hg hm (EA_cons ha (EA_cons hb EA_nil hs2) (by rw [hs, hs2])) hs hs2) fun σ H R ⟨B, ρ, fp, S, q⟩ => ⟨B, ρ, fp, S, at_bnd q fun vs ds ρ1 fp1 B1 H1 g r q1 => by
    obtain ⟨ys, hy, k⟩ := at_lift q1
    have r := relA_v (n := 2) (B := B) (H := H) r
    obtain ⟨i, j, rfl, hj, rfl⟩ := rng2_inv hy
    obtain ⟨h1, h2⟩ := okR_iff.mp hj.1
    obtain ⟨h3, h4⟩ := okR_iff.mp hj.2
    exact ⟨i, j, RepL.ints (ns := [i, j]) r, ⟨h1, h2, h3, h4⟩, k _ fp1 B1 H1 (.refl g.sr) Yl_rng⟩⟩
theorem EI_r3 {fa fb fd : M D} {d : Expr} (ha : EV c X a fa) (hb : EV c X b fb) (hd : EV c X d fd) (hm : X.mg "range" = none) (hg : Gl X "range" := by rfl)
    (hs : starEach [a, b, d] X.env = (false, eval a X.env) :: starEach [b, d] X.env := by rfl) (hs2 : starEach [b, d] X.env = (false, eval b X.env) :: starEach [d] X.env := by rfl) (hs3 : starEach [d] X.env = (false, eval d X.env) :: starEach [] X.env := by rfl)
    (hpl : (backTo pos (starEach [b, d] X.env)).any (·.1) = false := by rfl) :
    EI c X tg (.Call (.Name "range" p) [a, b, d] [] pos) (it3 fa fb fd) :=
  piOf (pi_range3 hg hm (EA_cons ha (EA_cons hb (EA_cons hd EA_nil hs3) hs2) hs) hs hpl) fun σ H R ⟨B, ρ, fp, S, q⟩ => ⟨B, ρ, fp, S, at_bnd q fun vs ds ρ1 fp1 B1 H1 g r q1 => by
    obtain ⟨ys, hy, k⟩ := at_lift q1
    have r := relA_v (n := 3) (B := B) (H := H) r
    obtain ⟨i, j, rfl, hj, rfl⟩ := rng3_inv hy
    obtain ⟨h1, h2⟩ := okR_iff.mp hj.1
    obtain ⟨h3, h4⟩ := okR_iff.mp hj.2
    exact ⟨i, j, -1, _, RepL.ints (ns := [i, j, -1]) r, .neg h1 h2 h3 h4, k _ fp1 B1 H1 (.refl g.sr) Yl_rngc⟩⟩
end

/-! ### loops -/
def forGo (g : G) (s : S) : List D → S
  | [], ρ => .nx ρ
  | d :: ds, ρ => match g d ρ with
    | none => .no
    | some ρ1 => match s ρ1 with
      | .nx ρ2 => forGo g s ds ρ2
      | .ct ρ2 => forGo g s ds ρ2
      | .bk ρ2 => .nx ρ2
      | .rt d ρ2 => .rt d ρ2
      | .ex x d ρ2 => .ex x d ρ2
      | .no => .no
def forS (it : M (List D)) (g : G) (s : S) : S := thn it fun ds => forGo g s ds
def whGo (t : M Bool) (s : S) : Nat → S
  | 0, _ => .no
  | n + 1, ρ => match t ρ with
    | .ok true ρ1 => match s ρ1 with
      | .nx ρ2 => whGo t s n ρ2
      | .ct ρ2 => whGo t s n ρ2
      | .bk ρ2 => .nx ρ2
      | .rt d ρ2 => .rt d ρ2
      | .ex x d ρ2 => .ex x d ρ2
      | .no => .no
    | .ok false ρ1 => .nx ρ1
    | .ex x d ρ1 => .ex x d ρ1
    | .no => .no
section
variable {c : Cn} {X : Cx} {tg it te : Expr} {sts : List Stmt} {f : M (List D)} {g : G} {tl : List Nat} {t : M Bool} {s : S} {pos : Pos}
theorem ES_for (hp : PassesOwn (model X.prog X.w) X.A X.env X.xe) (hc : X.calm = true) (hi : EI c X tg it f) (hg : EG c X tg tl g) (hb : ESs c X sts s) (hk : (tl.all fun i => !c.kp i) = true := by rfl) (hs : ∀ x, foldedSetIterable it X.env x = pure x := by intro _; rfl) : ES c X (.For tg it sts [] pos) (forS f g s) :=
  psOf (ps_for hp hc hi hg hb hs) fun D σ H ⟨B, ρ, fp, S, i0, q⟩ => ⟨B, ρ, fp, S, at_thn q fun J ds ρ1 fp1 B1 H1 g1 y q1 => by
    refine ⟨fun i m σ' H' => m = ds.length - i ∧ i ≤ ds.length ∧ ∃ ρ' fp' B', SR c.K c.ow B' H' σ' ρ' fp' ∧ In c fp' H' ∧ Ex B1 B' ∧ c.atO B' fp' (forGo g s (ds.drop i) ρ') D σ' H',
      ⟨_, rfl, Nat.zero_le _, ρ1, fp1, B1, g1.sr, i0.go g1, .refl _, q1⟩, ?_⟩
    rintro i m σ' H' ⟨rfl, hi, ρ', fp', B', S', in', e', q'⟩
    obtain ⟨yes, no⟩ := y B' H' e' S'.ex i
    by_cases hl : i < ds.length
    · have hd : ds[i]? = some ds[i] := List.getElem?_eq_getElem hl
      obtain ⟨go, yl⟩ := yes _ hd
      rw [List.drop_eq_getElem_cons hl] at q'
      unfold forGo at q'
      cases z : g ds[i] ρ' with
      | none => rw [z] at q'; exact q'.elim
      | some ρa =>
        rw [z] at q'
        simp only at q'
        refine .inr ⟨go, fun σ'' H'' => ∃ ρ'' fp'' B'', SR c.K c.ow B'' H'' σ'' ρ'' fp'' ∧ In c fp'' H'' ∧ Ex B1 B'' ∧ c.atO B'' fp'' (forGo g s (ds.drop (i + 1)) ρ'') D σ'' H'', fun σ'' H'' ⟨ρ'', fp'', B'', S'', in'', e'', q''⟩ => ⟨ds.length - (i + 1), by omega, rfl, hl, ρ'', fp'', B'', S'', in'', e'', q''⟩, fun x H3 yx => ?_⟩
        obtain ⟨B3, yg, rx⟩ := yl x H3 yx
        have g3 := yg.go S'
        refine ⟨B3, ρ', fp', _, g3.sr, rx, ?_⟩
        rw [z]
        intro σ2 fp2 B2 H2 g2 s2
        have k2 : Kp c σ' σ2 := s2.kp hk
        have g4 := g3.trans g2
        refine ⟨B2, ρa, fp2, g2.sr, in'.go g4, ?_⟩
        cases w : s ρa with
        | no => rw [w] at q'; exact q'.elim
        | nx ρb => rw [w] at q'; exact fun σ5 fp5 B5 H5 g5 k5 => ⟨ρb, fp5, B5, g5.sr, in'.go (g4.trans g5), e'.trans (g4.trans g5).b, atO_go q' (g4.trans g5) (k2.trans k5)⟩
        | ct ρb => rw [w] at q'; exact fun σ5 fp5 B5 H5 g5 k5 => ⟨ρb, fp5, B5, g5.sr, in'.go (g4.trans g5), e'.trans (g4.trans g5).b, atO_go q' (g4.trans g5) (k2.trans k5)⟩
        | bk ρb => rw [w] at q'; exact fun σ5 fp5 B5 H5 g5 k5 => q' σ5 fp5 B5 H5 (g4.trans g5) (k2.trans k5)
        | rt d ρb => rw [w] at q'; exact atO_go q' g4 k2
        | ex x d ρb => rw [w] at q'; exact atO_go q' g4 k2
    · have hd : ds.drop i = [] := List.drop_eq_nil_iff.mpr (by omega)
      rw [hd] at q'
      exact .inl ⟨no (by omega), q' σ' fp' B' H' (.refl S') (.refl σ')⟩⟩
theorem ES_while (n : Nat) (hp : PassesOwn (model X.prog X.w) X.A X.env X.xe) (ht : ET c X te t) (hb : ESs c X sts s) : ES c X (.While te sts [] pos) (whGo t s n) :=
  psOf (ps_while hp ht hb) fun D σ H ⟨B, ρ, fp, S, i0, q⟩ => by
    refine ⟨fun m σ' H' => ∃ ρ' fp' B', SR c.K c.ow B' H' σ' ρ' fp' ∧ In c fp' H' ∧ c.atO B' fp' (whGo t s m ρ') D σ' H', ⟨n, ρ, fp, B, S, i0, q⟩, ?_⟩
    rintro m σ' H' ⟨ρ', fp', B', S', in', q'⟩
    cases m with
    | zero => exact q'.elim
    | succ m =>
      refine ⟨B', ρ', fp', S', ?_⟩
      unfold whGo at q'
      unfold Cn.at
      cases z : t ρ' with
      | no => rw [z] at q'; exact q'
      | ex x d ρa => rw [z] at q'; exact fun cl dd f5 B5 H5 g5 r => q' cl dd σ' f5 B5 H5 g5 (.refl σ') r
      | ok b ρa =>
        rw [z] at q'
        intro b' f2 B2 H2 g2 e2
        cases e2
        cases b with
        | false => exact q' σ' f2 B2 H2 g2 (.refl σ')
        | true =>
          simp only at q'
          refine ⟨fun σ'' H'' => ∃ ρ'' fp'' B'', SR c.K c.ow B'' H'' σ'' ρ'' fp'' ∧ In c fp'' H'' ∧ c.atO B'' fp'' (whGo t s m ρ'') D σ'' H'', fun σ'' H'' h => ⟨m, Nat.lt_succ_self m, h⟩, B2, ρa, f2, g2.sr, in'.go g2, ?_⟩
          cases w : s ρa with
          | no => rw [w] at q'; exact q'.elim
          | nx ρb => rw [w] at q'; exact fun σ5 fp5 B5 H5 g5 k5 => ⟨ρb, fp5, B5, g5.sr, in'.go (g2.trans g5), atO_go q' (g2.trans g5) k5⟩
          | ct ρb => rw [w] at q'; exact fun σ5 fp5 B5 H5 g5 k5 => ⟨ρb, fp5, B5, g5.sr, in'.go (g2.trans g5), atO_go q' (g2.trans g5) k5⟩
          | bk ρb => rw [w] at q'; exact fun σ5 fp5 B5 H5 g5 k5 => q' σ5 fp5 B5 H5 (g2.trans g5) k5
          | rt d ρb => rw [w] at q'; exact atO_go q' g2 (.refl σ')
          | ex x d ρb => rw [w] at q'; exact atO_go q' g2 (.refl σ')
end
end Fl

set_option maxHeartbeats 1000000
namespace Fl
open PySem PySem.Spec PyProof.Rows L2

/-! ### comprehensions -/
def wipeR (ρ : Rho) : List Nat → Rho
  | [] => ρ
  | v :: vs => (wipeR ρ vs).set v none
def unw (ρ ρe : Rho) : List Nat → Rho
  | [] => ρe
  | v :: vs => (unw ρ ρe vs).set v (get ρ v)
def lcGo (g : G) (t : M Bool) (fe : M D) (vs : List Nat) : List D → Rho → Option (List D × Rho)
  | [], ρ => some ([], ρ)
  | d :: ds, ρ => match g d ρ with
    | none => none
    | some ρ1 => match t ρ1 with
      | .ok false ρ2 => lcGo g t fe vs ds (wipeR ρ2 vs)
      | .ok true ρ2 => match fe ρ2 with
        | .ok y ρ3 => match lcGo g t fe vs ds (wipeR ρ3 vs) with
          | some (ys, ρ4) => some (y :: ys, ρ4)
          | none => none
        | _ => none
      | _ => none
def lcK (g : G) (t : M Bool) (fe : M D) (vs : List Nat) (ds : List D) : M D := fun ρ =>
  if ds.length ≤ szL then match lcGo g t fe vs ds (wipeR ρ vs) with
    | some (ys, ρe) => .ok (.lst ys) (unw ρ ρe vs)
    | none => .no
  else .no
def lcM (it : M (List D)) (g : G) (t : M Bool) (fe : M D) (vs : List Nat) : M D := bnd it (lcK g t fe vs)
theorem wipeR_len (ρ : Rho) : ∀ vs : List Nat, (wipeR ρ vs).length = ρ.length
  | [] => rfl
  | v :: vs => by unfold wipeR; rw [List.length_set, wipeR_len ρ vs]
theorem wipeR_some {ρ : Rho} {i : Nat} {x : D} : ∀ {vs : List Nat}, (wipeR ρ vs)[i]? = some (some x) → ρ[i]? = some (some x) ∧ i ∉ vs
  | [], h => ⟨h, by simp⟩
  | v :: vs, h => by
    unfold wipeR at h
    rcases getE_set h with ⟨_, e, _⟩ | ⟨hj, e⟩
    · cases e
    · obtain ⟨h1, h2⟩ := wipeR_some e
      exact ⟨h1, by simp only [List.mem_cons, not_or]; exact ⟨hj, h2⟩⟩
theorem unw_len (ρ ρe : Rho) : ∀ vs : List Nat, (unw ρ ρe vs).length = ρe.length
  | [] => rfl
  | v :: vs => by unfold unw; rw [List.length_set, unw_len ρ ρe vs]
theorem unw_some {ρ ρe : Rho} {i : Nat} {x : D} : ∀ {vs : List Nat}, (unw ρ ρe vs)[i]? = some (some x) → (i ∈ vs ∧ ρ[i]? = some (some x)) ∨ (i ∉ vs ∧ ρe[i]? = some (some x))
  | [], h => .inr ⟨by simp, h⟩
  | v :: vs, h => by
    unfold unw at h
    rcases getE_set h with ⟨e0, e, _⟩ | ⟨hj, e⟩
    · exact .inl ⟨by rw [e0]; exact List.mem_cons_self, by rw [e0]; exact get_some e.symm⟩
    · rcases unw_some e with ⟨h1, h2⟩ | ⟨h1, h2⟩
      · exact .inl ⟨List.mem_cons_of_mem _ h1, h2⟩
      · exact .inr ⟨by simp only [List.mem_cons, not_or]; exact ⟨hj, h1⟩, h2⟩
theorem wipe_out' {σ : L2.St} {i : Nat} : ∀ {vs : List Nat}, i ∉ vs → (wipe σ vs)[i]? = σ[i]?
  | [], _ => rfl
  | v :: vs, h => by
    simp only [List.mem_cons, not_or] at h
    unfold wipe
    rw [List.getElem?_set_ne (Ne.symm h.1), wipe_out' h.2]
theorem wipe_in {σ : L2.St} {i : Nat} : ∀ {vs : List Nat}, i ∈ vs → (wipe σ vs)[i]? = if i < σ.length then some none else none
  | [], h => by cases h
  | v :: vs, h => by
    unfold wipe
    by_cases e : v = i
    · subst e
      by_cases hl : v < σ.length
      · rw [List.getElem?_set_self (by rw [wipe_length]; exact hl), if_pos hl]
      · rw [if_neg hl, List.getElem?_eq_none (by rw [List.length_set, wipe_length]; omega)]
    · rw [List.getElem?_set_ne e]
      rcases List.mem_cons.mp h with z | z
      · exact (e z.symm).elim
      · exact wipe_in z
theorem wipe_sl {σ σ' : L2.St} {vs tl : List Nat} (h : Sl tl (wipe σ vs) σ') (k : ∀ i ∈ tl, i ∈ vs) : wipe σ' vs = wipe σ vs := by
  have hl : σ'.length = σ.length := by rw [h.1, wipe_length]
  refine List.ext_getElem? fun i => ?_
  by_cases hi : i ∈ vs
  · rw [wipe_in hi, wipe_in hi, hl]
  · rw [wipe_out' hi, h.2 i fun z => hi (k i z)]
section
variable {K : PySem.W.Frag} {ow : Nat → Bool} {B H B1 H1 : Hp} {σ : L2.St} {ρ ρ1 : Rho} {fp fp1 : Fp} {vs : List Nat}
theorem SR.wipe (S : SR K ow B H σ ρ fp) : SR K ow B H (L2.wipe σ vs) (wipeR ρ vs) fp := by
  refine ⟨by rw [wipe_length, wipeR_len]; exact S.ln, S.ex, fun i d h => ?_, S.dj, S.ub, S.al⟩
  obtain ⟨h1, h2⟩ := wipeR_some h
  obtain ⟨v, e1, e2⟩ := S.sl i d h1
  exact ⟨v, by rw [wipe_out' h2]; exact e1, e2⟩
theorem Go.wipe (g : Go K ow fp B H σ ρ fp1 B1 H1) : Go K ow fp B H (L2.wipe σ vs) (wipeR ρ vs) fp1 B1 H1 := ⟨g.sr.wipe, g.b, g.h, g.t, g.f, g.s⟩
theorem Go.unwipe {σe : L2.St} {ρe : Rho} (S : SR K ow B H σ ρ fp) (g : Go K ow fp B H σe ρe fp1 B1 H1) (hv : ∀ i ∈ vs, ow i = false) (he : ∀ i, i ∉ vs → σe[i]? = σ[i]?) (hl : ρe.length = ρ.length) : Go K ow fp B H σ (unw ρ ρe vs) fp1 B1 H1 := by
  refine ⟨⟨by rw [unw_len, hl]; exact S.ln, g.sr.ex, fun i d h => ?_, g.sr.dj, g.sr.ub, g.sr.al⟩, g.b, g.h, g.t, g.f, g.s⟩
  rcases unw_some h with ⟨h1, h2⟩ | ⟨h1, h2⟩
  · obtain ⟨v, e1, e2⟩ := S.val (hv i h1) h2
    exact ⟨v, e1, by rw [if_neg (by rw [hv i h1]; decide)]; exact e2.mono g.b⟩
  · obtain ⟨v, e1, e2⟩ := g.sr.sl i d h2
    exact ⟨v, by rw [← he i h1]; exact e1, e2⟩
end
/-- the block's context: nothing is raised out of it -/
abbrev Cn.blk (c : Cn) : Cn := { c with W := fun _ _ _ _ => False }
def ETs (c : Cn) (X : Cx) (ifs : List Expr) (t : M Bool) : Prop := PTs X ifs (can c t (relE c))
theorem ETs_nil {c : Cn} {X : Cx} : ETs c X [] (pur true) := ⟨fun pins s σ H Q I ⟨B, ρ, fp, S, q⟩ => pts_nil.run pins s σ H Q I (q true fp B H (.refl S) rfl)⟩
theorem ETs_one {c : Cn} {X : Cx} {e : Expr} {t : M Bool} (h : ET c X e t) : ETs c X [e] t := pts_one h
section
variable {c : Cn} {X : Cx} {elt tg iter : Expr} {ifs : List Expr} {scope : Scope} {own : List (Str × Nat)} {pos spos : Pos} {it : M (List D)} {g : G} {t : M Bool} {fe : M D} {tl : List Nat}
/-- what the turns make -/
theorem lc_turns {σ : L2.St} {B H : Hp} {ρ : Rho} {fp : Fp} {vs : List Nat} {J : It} {ds : List D} {Q : V → Hp → Prop} (S0 : SR c.K c.ow B H σ ρ fp) (y : Yl c.K J B ds) (hz : ds.length ≤ szL) (htl : ∀ i ∈ tl, i ∈ vs)
    (h : match lcGo g t fe vs ds (wipeR ρ vs) with
      | some (ys, ρe) => ∀ v fp' B' H' σe, Go c.K c.ow fp B H σe ρe fp' B' H' → σe = wipe σ vs → ρe.length = ρ.length → (∃ P : Addr → Prop, Own c.K B' H' P v (.lst ys) ∧ ∀ a, P a → H a = none ∧ B' a = none ∧ (∃ o, H' a = some o) ∧ ∀ i, ¬ fp' i a) → Q v H'
      | none => False) (L : Addr) (hL : H L = none) :
    ∃ W : Nat → Nat → Hp → Prop, (∃ m, W 0 m (upd H L (.lst []))) ∧ ∀ i m H, W i m H → (J.stop i H ∧ Q (.ref L) H) ∨ (J.go i H ∧ ∃ Nx : Hp → Prop, (∀ H', Nx H' → ∃ m', m' < m ∧ W (i + 1) m' H') ∧ ∀ x H', J.yld i H x H' → canG c.blk tl g x (wipe σ vs) H' fun σ2 H2 => wipe σ2 vs = wipe σ vs ∧ can c.blk t (relE c.blk) σ2 H2 fun b H3 =>
      if b = true then can c.blk fe (relV c.blk) σ2 H3 fun y H4 => ∃ acc, H4 L = some (.lst acc) ∧ acc.length < sizeLine ∧ Nx (upd H4 L (.lst (acc ++ [y]))) else Nx H3) := by
  have nfL : ∀ i, ¬ fp i L := fun i z => by
    obtain ⟨o, e⟩ := S0.al i L z
    rw [hL] at e; cases e
  refine ⟨fun i m H' => m = ds.length - i ∧ i ≤ ds.length ∧ ∃ acc ac ρ' fp' B', Go c.K c.ow fp B H (wipe σ vs) ρ' fp' B' H' ∧ ρ'.length = ρ.length ∧ H' L = some (.lst acc) ∧ B' L = none ∧ (∀ i, ¬ fp' i L) ∧ RepL c.K B' acc ac ∧ acc.length ≤ i ∧
      match lcGo g t fe vs (ds.drop i) ρ' with
      | some (ys, ρe) => ∀ v fp' B' H' σe, Go c.K c.ow fp B H σe ρe fp' B' H' → σe = wipe σ vs → ρe.length = ρ.length → (∃ P : Addr → Prop, Own c.K B' H' P v (.lst (ac ++ ys)) ∧ ∀ a, P a → H a = none ∧ B' a = none ∧ (∃ o, H' a = some o) ∧ ∀ i, ¬ fp' i a) → Q v H'
      | none => False,
    ⟨_, rfl, Nat.zero_le _, [], [], wipeR ρ vs, fp, B, ?_, wipeR_len _ _, upd_same, S0.ex.free hL, nfL, .nil, Nat.zero_le _, by simpa using h⟩, ?_⟩
  · exact (S0.wipe.fresh _ hL)
  · rintro i m H' ⟨rfl, hi, acc, ac, ρ', fp', B', go, hlen, hacc, hBL, hfL, hrep, hal, h'⟩
    obtain ⟨yes, no⟩ := y B' H' go.b go.sr.ex i
    by_cases hl : i < ds.length
    · have hd : ds[i]? = some ds[i] := List.getElem?_eq_getElem hl
      obtain ⟨jg, yl⟩ := yes _ hd
      rw [List.drop_eq_getElem_cons hl] at h'
      unfold lcGo at h'
      cases z : g ds[i] ρ' with
      | none => rw [z] at h'; exact h'.elim
      | some ρa =>
        rw [z] at h'
        simp only at h'
        -- keeping the list at L through a step
        have keep : ∀ {σ2 : L2.St} {ρ2 : Rho} {fp2 : Fp} {B2 H2 : Hp}, Go c.K c.ow fp' B' H' σ2 ρ2 fp2 B2 H2 → H2 L = some (.lst acc) ∧ B2 L = none ∧ ∀ i, ¬ fp2 i L := fun {σ2 ρ2 fp2 B2 H2} q =>
          ⟨q.h L _ hacc fun ⟨i, z⟩ => hfL i z, q.f L _ hacc hBL fun ⟨i, z⟩ => hfL i z, fun i z => (q.s i L z).elim (hfL i) fun e => by rw [hacc] at e; cases e⟩
        refine .inr ⟨jg, fun H'' => ∃ acc ac ρ'' fp'' B'', Go c.K c.ow fp B H (wipe σ vs) ρ'' fp'' B'' H'' ∧ ρ''.length = ρ.length ∧ H'' L = some (.lst acc) ∧ B'' L = none ∧ (∀ i, ¬ fp'' i L) ∧ RepL c.K B'' acc ac ∧ acc.length ≤ i + 1 ∧
          match lcGo g t fe vs (ds.drop (i + 1)) ρ'' with
          | some (ys, ρe) => ∀ v fp' B' H' σe, Go c.K c.ow fp B H σe ρe fp' B' H' → σe = wipe σ vs → ρe.length = ρ.length → (∃ P : Addr → Prop, Own c.K B' H' P v (.lst (ac ++ ys)) ∧ ∀ a, P a → H a = none ∧ B' a = none ∧ (∃ o, H' a = some o) ∧ ∀ i, ¬ fp' i a) → Q v H'
          | none => False, fun H'' ⟨a1, a2, a3, a4, a5, r⟩ => ⟨ds.length - (i + 1), by omega, rfl, hl, a1, a2, a3, a4, a5, r⟩, fun x H3 yx => ?_⟩
        obtain ⟨B3, yg, rx⟩ := yl x H3 yx
        have g3 := yg.go (K := c.K) (ow := c.ow) go.sr
        refine ⟨B3, ρ', fp', _, g3.sr, rx, ?_⟩
        rw [z]
        intro σ2 fp2 B2 H2 g2 s2
        have g4 := g3.trans g2
        refine ⟨wipe_sl s2 htl, B2, ρa, fp2, g2.sr, ?_⟩
        unfold Cn.at
        have lenA : ρa.length = ρ.length := by rw [← g2.sr.ln, s2.1, wipe_length]; exact S0.ln
        cases w : t ρa with
        | no => rw [w] at h'; exact h'.elim
        | ex x d ρb => rw [w] at h'; exact h'.elim
        | ok b ρb =>
          rw [w] at h'
          intro b' f5 B5 H5 g5 e5
          cases e5
          have g6 := g4.trans g5
          have lenB : ρb.length = ρ.length := by rw [← g5.sr.ln, s2.1, wipe_length]; exact S0.ln
          have back : ∀ {ρx : Rho} {fx : Fp} {Bx Hx : Hp}, Go c.K c.ow fp' B' H' σ2 ρx fx Bx Hx → Go c.K c.ow fp B H (wipe σ vs) (wipeR ρx vs) fx Bx Hx := fun {ρx fx Bx Hx} q => by
            have q2 := (go.trans q).wipe (vs := vs)
            rw [wipe_sl s2 htl] at q2
            exact q2
          cases b with
          | false =>
            rw [if_neg (by decide)]
            obtain ⟨k1, k2, k3⟩ := keep g6
            exact ⟨acc, ac, _, f5, B5, back g6, by rw [wipeR_len]; exact lenB, k1, k2, k3, hrep.mono g6.b, Nat.le_succ_of_le hal, h'⟩
          | true =>
            rw [if_pos rfl]
            simp only at h'
            refine ⟨B5, ρb, f5, g5.sr, ?_⟩
            unfold Cn.at
            cases u : fe ρb with
            | no => rw [u] at h'; exact h'.elim
            | ex x d ρx => rw [u] at h'; exact h'.elim
            | ok yv ρx =>
              rw [u] at h'
              simp only at h'
              intro v f7 B7 H7 g7 r7
              have g8 := g6.trans g7
              obtain ⟨k1, k2, k3⟩ := keep g8
              refine ⟨acc, k1, by rw [← szL_eq]; omega, acc ++ [v], ac ++ [yv], wipeR ρx vs, f7, B7, ?_, ?_, upd_same, k2, k3, (hrep.mono g8.b).app (.one r7), by simpa using hal, ?_⟩
              · have q := back g8
                have up : ∀ b u, H7 b = some u → ∃ u', upd H7 L (.lst (acc ++ [v])) b = some u' := fun b u e => by
                  by_cases z : b = L
                  · exact ⟨_, by rw [z, upd_same]⟩
                  · exact ⟨u, by rw [upd_ne z]; exact e⟩
                refine ⟨⟨q.sr.ln, fun b u e => ?_, fun i d e => ?_, q.sr.dj, q.sr.ub, fun i b e => let ⟨u, z⟩ := q.sr.al i b e; up b u z⟩, q.b, fun b u e n => ?_, fun b u e => let ⟨u2, z⟩ := q.t b u e; up b u2 z, q.f, q.s⟩
                · rw [upd_ne (ne_of_none e k2)]; exact q.sr.ex b u e
                · obtain ⟨v1, e1, e2⟩ := q.sr.sl i d e
                  refine ⟨v1, e1, ?_⟩
                  split
                  · rename_i ho; rw [if_pos ho] at e2
                    refine e2.mono (.refl _) fun b u p z => ?_
                    rw [upd_ne (show b ≠ L from fun e => k3 i (by rw [← e]; exact p))]; exact z
                  · rename_i ho; rw [if_neg ho] at e2; exact e2
                · rw [upd_ne (ne_of_none e hL)]; exact q.h b u e n
              · rw [wipeR_len, ← g7.sr.ln, s2.1, wipe_length]; exact S0.ln
              · cases ww : lcGo g t fe vs (ds.drop (i + 1)) (wipeR ρx vs) with
                | none => rw [ww] at h'; exact h'.elim
                | some p =>
                  obtain ⟨ys, ρe⟩ := p
                  rw [ww] at h'
                  intro v2 f9 B9 H9 σe ge se le oo
                  rw [List.append_assoc] at oo
                  exact h' v2 f9 B9 H9 σe ge se le oo
    · have hd : ds.drop i = [] := List.drop_eq_nil_iff.mpr (by omega)
      rw [hd] at h'
      unfold lcGo at h'
      refine .inl ⟨no (by omega), h' _ fp' B' H' _ go rfl hlen ⟨fun a => a = L, .lst rfl hacc (by simpa using hrep), fun a e => ?_⟩⟩
      subst e
      exact ⟨hL, hBL, ⟨_, hacc⟩, hfL⟩
theorem EN_lc {vs : List Nat} (hc : X.calm = true) (hN : X.N.Nodup) (hi : EI c X tg iter it) (ok : BlkOk X.N X.env.scope scope own)
    (hg : ∀ (s : Shared) (H : Hp) (C : Addr) (cl : List (Str × Addr)) (fp : List Addr), EG c.blk (X.blk s H scope (compEnvC scope cl C X.env) fp) tg tl g) (ht : ∀ (s : Shared) (H : Hp) (C : Addr) (cl : List (Str × Addr)) (fp : List Addr), ETs c.blk (X.blk s H scope (compEnvC scope cl C X.env) fp) ifs t)
    (he : ∀ (s : Shared) (H : Hp) (C : Addr) (cl : List (Str × Addr)) (fp : List Addr), EV c.blk (X.blk s H scope (compEnvC scope cl C X.env) fp) elt fe)
    (hvs : own.map (·.2) = vs := by rfl) (htl : (tl.all fun i => vs.contains i) = true := by rfl) (hov : (vs.all fun i => !c.ow i) = true := by rfl) (hs : ∀ x, foldedSetIterable iter X.env x = pure x := by intro _; rfl) :
    EN c X (.ListComp elt [⟨tg, iter, ifs, 0⟩] scope pos) (lcM it g t fe vs) := by
  subst hvs
  exact peOf (pe_lc hc hN hi ok hg ht he hs) fun σ H Q ⟨B, ρ, fp, S, q⟩ => ⟨B, ρ, fp, S, at_bnd q fun J ds ρ1 fp1 B1 H1 g1 y q1 => fun L hL => by
    unfold Cn.at lcK at q1
    by_cases hz : ds.length ≤ szL
    · simp only [if_pos hz] at q1
      refine lc_turns g1.sr y hz (fun i m => List.contains_iff_mem.mp (List.all_eq_true.mp htl i m)) ?_ L hL
      cases e : lcGo g t fe (own.map (·.2)) ds (wipeR ρ1 (own.map (·.2))) with
      | none => rw [e] at q1; exact q1.elim
      | some p =>
        obtain ⟨ys, ρe⟩ := p
        rw [e] at q1
        intro v f2 B2 H2 σe g2 eσ el ⟨P, o, k⟩
        refine q1 v f2 B2 H2 (Go.unwipe g1.sr g2 (fun i m => ?_) (fun i n => by rw [eσ, wipe_out' n]) el) ⟨P, o, fun a p => ⟨g1.non (k a p).1, (k a p).2⟩⟩
        have z := List.all_eq_true.mp hov i m
        simpa using z
    · simp only [if_neg hz] at q1⟩
theorem setS_bnd {α : Type} {i : Nat} (it : M α) (k : α → M D) (ρ : Rho) : setS i (bnd it k) ρ = thn it (fun a => setS i (k a)) ρ := by
  unfold setS thn bnd
  cases it ρ <;> rfl
/-- x = [..]: a thing of one's own | a value -/
theorem ES_setLc {vs : List Nat} {i : Nat} {y : Str} {py : Pos} (hc : X.calm = true) (hN : X.N.Nodup) (hy : X.N[i]? = some y) (hyl : X.env.scope.names.lookup y = some .local)
    (hsw : swapsWith (.ListComp elt [⟨tg, iter, ifs, 0⟩] scope pos) (some (.Name y py)) spos.line X.env = pure true) (hi : EI c X tg iter it) (ok : BlkOk X.N X.env.scope scope own)
    (hg : ∀ (s : Shared) (H : Hp) (C : Addr) (cl : List (Str × Addr)) (fp : List Addr), EG c.blk (X.blk s H scope (compEnvC scope cl C X.env) fp) tg tl g) (ht : ∀ (s : Shared) (H : Hp) (C : Addr) (cl : List (Str × Addr)) (fp : List Addr), ETs c.blk (X.blk s H scope (compEnvC scope cl C X.env) fp) ifs t)
    (he : ∀ (s : Shared) (H : Hp) (C : Addr) (cl : List (Str × Addr)) (fp : List Addr), EV c.blk (X.blk s H scope (compEnvC scope cl C X.env) fp) elt fe)
    (hk : c.kp i = false := by rfl) (hvs : own.map (·.2) = vs := by rfl) (htl : (tl.all fun i => vs.contains i) = true := by rfl) (hov : (vs.all fun i => !c.ow i) = true := by rfl) (hs : ∀ x, foldedSetIterable iter X.env x = pure x := by intro _; rfl) :
    ES c X (.Assign [.Name y py] (.ListComp elt [⟨tg, iter, ifs, 0⟩] scope pos) spos) (setS i (lcM it g t fe vs)) := by
  subst hvs
  exact psOf (ps_setLc hc hN hy hyl hsw hi ok hg ht he hs) fun D σ H ⟨B, ρ, fp, S, i0, q⟩ => by
    refine ⟨B, ρ, fp, S, ?_⟩
    have q2 : c.atO B fp (thn it (fun ds => setS i (lcK g t fe (own.map fun p => p.2) ds)) ρ) D σ H := by
      rw [← setS_bnd]; exact q
    refine at_thnG q2 fun J ds ρ1 fp1 B1 H1 g1 y q1 L hL => ?_
    unfold setS thn lcK at q1
    by_cases hz : ds.length ≤ szL
    · simp only [if_pos hz] at q1
      refine lc_turns (Q := fun x H1 => gName i x σ H1 D.nx) g1.sr y hz (fun i m => List.contains_iff_mem.mp (List.all_eq_true.mp htl i m)) ?_ L hL
      cases e : lcGo g t fe (own.map (·.2)) ds (wipeR ρ1 (own.map (·.2))) with
      | none => rw [e] at q1; exact q1.elim
      | some p =>
        obtain ⟨ys, ρe⟩ := p
        rw [e] at q1
        intro v f2 B2 H2 σe g2 eσ el ⟨P, o, k⟩
        have g3 := Go.unwipe (vs := own.map (·.2)) g1.sr g2 (fun i m => by have z := List.all_eq_true.mp hov i m; simpa using z) (fun i n => by rw [eσ, wipe_out' n]) el
        have g4 := g1.trans g3
        by_cases ho : c.ow i = true
        · exact own_nx ho hk S i0 g4 ⟨P, o, fun a p => ⟨g1.non (k a p).1, (k a p).2⟩⟩ q1
        · obtain ⟨g5, e0⟩ := g4.froze (P := P) fun a p => ⟨.inr (g1.non (k a p).1), (k a p).2⟩
          have r5 : Rep c.K (frz B2 H2 P) v (Fl.D.lst ys) := o.froze e0 fun a u p z => by unfold frz; rw [if_pos p]; exact z
          exact q1 _ _ _ H2 (g5.trans (.setV g5.sr (by simpa using ho) r5)) (.set hk)
    · simp only [if_neg hz] at q1; exact q1.elim
end

/-! ### defs -/
def upds : List Md → Rho → Rho → Rho
  | [], _, ρ => ρ
  | .s j :: ms, o :: os, ρ => upds ms os (ρ.set j o)
  | .s j :: ms, [], ρ => upds ms [] (ρ.set j none)
  | _ :: ms, _ :: os, ρ => upds ms os ρ
  | _ :: ms, [], ρ => upds ms [] ρ
def callF (ms : List Md) (F : List D → R D) (fa : M (List D)) : M D := bnd fa fun ds ρ => match F ds with
  | .ok d outs => .ok d (upds ms outs ρ)
  | .ex x d outs => .ex x d (upds ms outs ρ)
  | .no => .no
/-- what a def keeps: F of the arguments' data -/
def relP (K : PySem.W.Frag) (kp : Nat → Bool) (rm : Bool) (fp : Fp) (H : Hp) (fp' : Fp) (B' H' : Hp) (v : V) (d : D) : Prop :=
  if rm = true then ∃ P : Addr → Prop, Own K B' H' P v d ∧ ∀ a, P a → ((∃ i, kp i = false ∧ fp i a) ∨ H a = none) ∧ B' a = none ∧ (∃ o, H' a = some o) ∧ ∀ i, ¬ fp' i a else Rep K B' v d
def spF (K : PySem.W.Frag) (pow kp : Nat → Bool) (rm : Bool) (xr : Str → D → Value → Option Addr → Hp → Prop) (n : Nat) (F : List D → R D) : Sp := fun vs H Q E => vs.length = n ∧ ∃ B ds fp, SR K pow B H (vs.map some) (ds.map some) fp ∧ match F ds with
  | .ok d outs => ∀ v fp' B' H', Go K pow fp B H (vs.map some) outs fp' B' H' → relP K kp rm fp H fp' B' H' v d → Q v H'
  | .ex x d outs => ∀ cl dd fp' B' H', Go K pow fp B H (vs.map some) outs fp' B' H' → xr x d cl dd H' → E cl dd H'
  | .no => False
/-- a body as a function upon data: n parameters, N names -/
def runF (n N : Nat) (kp : Nat → Bool) (rm : Bool) (g : S) : List D → R D := fun ds => if ds.length = n then match g (ds.map some ++ List.replicate (N - n) none) with
  | .rt d ρ => .ok d ((mask kp 0 ρ).take n)
  | .nx ρ => if rm = true then .no else .ok .non ((mask kp 0 ρ).take n)
  | .ex x d ρ => .ex x d ((mask kp 0 ρ).take n)
  | _ => .no
  else .no
theorem ownM_own {ms ms' : List Md} (h : ms.map Md.own = ms'.map Md.own) : ownM ms = ownM ms' := by
  funext i
  have e : (ms.map Md.own)[i]? = (ms'.map Md.own)[i]? := by rw [h]
  rw [List.getElem?_map, List.getElem?_map] at e
  unfold ownM
  cases h1 : ms[i]? <;> cases h2 : ms'[i]? <;> rw [h1, h2] at e <;> simp_all
theorem upds_some {d : D} {k : Nat} : ∀ {ms : List Md} {outs ρ : Rho}, (upds ms outs ρ)[k]? = some (some d) → (∃ i : Nat, ms[i]? = some (Md.s k) ∧ outs[i]? = some (some d)) ∨ ((∀ i : Nat, ms[i]? ≠ some (Md.s k)) ∧ ρ[k]? = some (some d))
  | [], _, ρ, h => .inr ⟨fun i => by simp, h⟩
  | .s j :: ms, o :: os, ρ, h => by
    have h : (upds ms os (ρ.set j o))[k]? = some (some d) := h
    rcases upds_some h with ⟨i, a, b⟩ | ⟨a, b⟩
    · exact .inl ⟨i + 1, a, b⟩
    · rcases getE_set b with ⟨rfl, e, _⟩ | ⟨n, e⟩
      · exact .inl ⟨0, rfl, congrArg some e.symm⟩
      · refine .inr ⟨fun i z => ?_, e⟩
        cases i with
        | zero => cases z; exact n rfl
        | succ i => exact a i z
  | .s j :: ms, [], ρ, h => by
    have h : (upds ms [] (ρ.set j none))[k]? = some (some d) := h
    rcases upds_some h with ⟨i, a, b⟩ | ⟨a, b⟩
    · simp at b
    · rcases getE_set b with ⟨rfl, e, _⟩ | ⟨n, e⟩
      · cases e
      · refine .inr ⟨fun i z => ?_, e⟩
        cases i with
        | zero => cases z; exact n rfl
        | succ i => exact a i z
  | .v :: ms, o :: os, ρ, h => by
    rcases upds_some (ms := ms) (outs := os) (ρ := ρ) h with ⟨i, a, b⟩ | ⟨a, b⟩
    · exact .inl ⟨i + 1, a, b⟩
    · exact .inr ⟨fun i z => by cases i with
        | zero => cases z
        | succ i => exact a i z, b⟩
  | .v :: ms, [], ρ, h => by
    rcases upds_some (ms := ms) (outs := []) (ρ := ρ) h with ⟨i, a, b⟩ | ⟨a, b⟩
    · simp at b
    · exact .inr ⟨fun i z => by cases i with
        | zero => cases z
        | succ i => exact a i z, b⟩
  | .n :: ms, o :: os, ρ, h => by
    rcases upds_some (ms := ms) (outs := os) (ρ := ρ) h with ⟨i, a, b⟩ | ⟨a, b⟩
    · exact .inl ⟨i + 1, a, b⟩
    · exact .inr ⟨fun i z => by cases i with
        | zero => cases z
        | succ i => exact a i z, b⟩
  | .n :: ms, [], ρ, h => by
    rcases upds_some (ms := ms) (outs := []) (ρ := ρ) h with ⟨i, a, b⟩ | ⟨a, b⟩
    · simp at b
    · exact .inr ⟨fun i z => by cases i with
        | zero => cases z
        | succ i => exact a i z, b⟩
theorem upds_len : ∀ (ms : List Md) (outs ρ : Rho), (upds ms outs ρ).length = ρ.length
  | [], _, _ => rfl
  | .s j :: ms, o :: os, ρ => (upds_len ms os _).trans (by simp)
  | .s j :: ms, [], ρ => (upds_len ms [] _).trans (by simp)
  | .v :: ms, _ :: os, ρ => upds_len ms os ρ
  | .v :: ms, [], ρ => upds_len ms [] ρ
  | .n :: ms, _ :: os, ρ => upds_len ms os ρ
  | .n :: ms, [], ρ => upds_len ms [] ρ
section
variable {c : Cn} {X : Cx} {k : Nat} {f : Addr} {fd : FuncData} {ps : List Str} {pow kp : Nat → Bool} {rm : Bool} {n : Nat} {F : List D → R D} {x : Str} {p pos : Pos} {e : Expr} {es : List Expr} {ms : List Md} {fa : M (List D)}
/-- behind a call: the things of slots that were handed over are as the def says -/
theorem call_go {σ : L2.St} {B0 H0 B H B' H' : Hp} {ρ outs : Rho} {fp0 fp fc fc' : Fp} {vs : List V} {ds : List D} (g0 : Go c.K c.ow fp0 B0 H0 σ ρ fp B H) (g : Go c.K (ownM ms) fc B H (vs.map some) outs fc' B' H')
    (k : ∀ (i : Nat) (a : Addr), fc i a → (ms[i]? = some Md.n ∧ H0 a = none ∧ ∀ j, ¬ fp j a) ∨ ∃ j, ms[i]? = some (Md.s j) ∧ fp j a) (z : ∀ (i j : Nat), ms[i]? = some (Md.s j) → c.ow j = true ∧ ∃ v, vs[i]? = some v ∧ σ[j]? = some (some v)) :
    ∃ fp', Go c.K c.ow fp0 B0 H0 σ (upds ms outs ρ) fp' B' H' ∧ ∀ (a : Addr), (∃ j, fp' j a) → (∃ i, fc' i a) ∨ ((∃ j, fp j a) ∧ ¬ ∃ i, fc i a) := by
  have S := g0.sr
  have there : ∀ j a, fp j a → H a ≠ none := fun j a h q => by obtain ⟨o, e⟩ := S.al j a h; rw [q] at e; cases e
  have reg : ∀ (i : Nat) (j : Nat) (a : Addr), ms[i]? = some (Md.s j) → fc' i a → H a ≠ none → fp j a := fun i j a e h nn => by
    rcases g.s i a h with q | q
    · rcases k i a q with ⟨e', _⟩ | ⟨j', e', h1⟩
      · rw [e] at e'; cases e'
      · rw [e] at e'; cases e'; exact h1
    · exact (nn q).elim
  have out : ∀ (j : Nat) (a : Addr), (∀ i : Nat, ms[i]? ≠ some (Md.s j)) → fp j a → ¬ ∃ i, fc i a := fun j a h1 y ⟨i, u⟩ => by
    rcases k i a u with ⟨_, _, w⟩ | ⟨j', w, w2⟩
    · exact w j y
    · rw [S.dj j' j a w2 y] at w; exact h1 i w
  have outR : ∀ (a : Addr) (o : HO), H0 a = some o → (¬ ∃ i, fp0 i a) → ¬ ∃ i, fc i a := fun a o e q ⟨i, u⟩ => by
    rcases k i a u with ⟨_, w, _⟩ | ⟨j', _, w2⟩
    · rw [e] at w; cases w
    · exact g0.nreg e q ⟨j', w2⟩
  refine ⟨fun j a => (∃ i, ms[i]? = some (Md.s j) ∧ fc' i a) ∨ ((∀ i : Nat, ms[i]? ≠ some (Md.s j)) ∧ fp j a), ⟨⟨by rw [upds_len]; exact S.ln, g.sr.ex, fun j d h => ?_, fun i j a h1 h2 => ?_, fun j a h => ?_, fun j a h => ?_⟩, g0.b.trans g.b, fun a o e q => g.h a o (g0.h a o e q) (outR a o e q), fun a o e => let ⟨o1, e1⟩ := g0.t a o e; g.t a o1 e1,
    fun a o e b q => g.f a o (g0.h a o e q) (g0.f a o e b q) (outR a o e q), fun j a h => ?_⟩, fun a ⟨j, h⟩ => ?_⟩
  · rcases upds_some h with ⟨i, h1, h2⟩ | ⟨h1, h2⟩
    · obtain ⟨ho, v, e1, e2⟩ := z i j h1
      obtain ⟨v2, q1, q2⟩ := g.sr.own (by unfold ownM; rw [h1]; rfl) h2
      rw [List.getElem?_map, e1] at q1
      cases q1
      exact ⟨v, e2, by rw [if_pos ho]; exact q2.reg fun a y => .inl ⟨i, h1, y⟩⟩
    · obtain ⟨v, e1, e2⟩ := S.sl j d h2
      refine ⟨v, e1, ?_⟩
      split
      · rename_i ho; rw [if_pos ho] at e2
        exact (e2.mono g.b fun a o y q => g.h a o q (out j a h1 y)).reg fun a y => .inr ⟨h1, y⟩
      · rename_i ho; rw [if_neg ho] at e2; exact e2.mono g.b
  · rcases h1 with ⟨i1, a1, b1⟩ | ⟨a1, b1⟩ <;> rcases h2 with ⟨i2, a2, b2⟩ | ⟨a2, b2⟩
    · have := g.sr.dj i1 i2 a b1 b2
      subst this
      rw [a1] at a2; cases a2; rfl
    · exact S.dj i j a (reg i1 i a a1 b1 (there j a b2)) b2
    · exact S.dj i j a b1 (reg i2 j a a2 b2 (there i a b1))
    · exact S.dj i j a b1 b2
  · rcases h with ⟨i, _, y⟩ | ⟨h1, y⟩
    · exact g.sr.ub i a y
    · obtain ⟨o, e⟩ := S.al j a y
      exact g.f a o e (S.ub j a y) (out j a h1 y)
  · rcases h with ⟨i, _, y⟩ | ⟨h1, y⟩
    · exact g.sr.al i a y
    · obtain ⟨o, e⟩ := S.al j a y; exact g.t a o e
  · rcases h with ⟨i, e, y⟩ | ⟨h1, y⟩
    · by_cases q : H a = none
      · exact .inr (g0.non q)
      · exact g0.s j a (reg i j a e y q)
    · exact g0.s j a y
  · rcases h with ⟨i, _, y⟩ | ⟨h1, y⟩
    · exact .inl ⟨i, y⟩
    · exact .inr ⟨⟨j, y⟩, out j a h1 y⟩
def ksOk (kp : Nat → Bool) : Nat → List Md → Bool
  | _, [] => true
  | i, .s _ :: ms => kp i && ksOk kp (i + 1) ms
  | i, _ :: ms => ksOk kp (i + 1) ms
theorem ksOk_get {kp : Nat → Bool} : ∀ {n : Nat} {ms : List Md}, ksOk kp n ms = true → ∀ (i j : Nat), ms[i]? = some (Md.s j) → kp (n + i) = true
  | _, [], _, i, j, h => by simp at h
  | n, m :: ms, q, i, j, h => by
    cases i with
    | zero =>
      simp only [List.getElem?_cons_zero, Option.some.injEq] at h
      subst h
      unfold ksOk at q
      rw [Bool.and_eq_true] at q
      exact q.1
    | succ i =>
      have q2 : ksOk kp (n + 1) ms = true := by
        cases m with
        | v => exact q
        | n => exact q
        | s _ => unfold ksOk at q; rw [Bool.and_eq_true] at q; exact q.2
      rw [show n + (i + 1) = n + 1 + i by omega]
      exact ksOk_get q2 i j (by simpa using h)
theorem ksOk_all {kp : Nat → Bool} {ms : List Md} (h : ksOk kp 0 ms = true) : ∀ (i j : Nat), ms[i]? = some (Md.s j) → kp i = true := fun i j q => by
  have := ksOk_get h i j q
  rwa [Nat.zero_add] at this
/-- a call -/
theorem call_core {rel : Rel V D} (hpow : pow = ownM ms) (hks : ∀ (i j : Nat), ms[i]? = some (Md.s j) → kp i = true)
    (hrel : ∀ {σ : L2.St} {fp fp' fc fc' : Fp} {H H1 B' H' : Hp} {v : V} {d : D}, (∀ a, H1 a = none → H a = none) → (∀ (i : Nat) (a : Addr), fc i a → (ms[i]? = some Md.n ∧ H a = none) ∨ ∃ j, ms[i]? = some (Md.s j)) → (∀ a, (∃ j, fp' j a) → (∃ i, fc' i a) ∨ (H1 a ≠ none ∧ ¬ ∃ i, fc i a)) → relP c.K kp rm fc H1 fc' B' H' v d → rel σ fp H fp' B' H' v d)
    {σ : L2.St} {H : Hp} {Q : VK} {B : Hp} {ρ : Rho} {fp : Fp} (hl : ms.length = n) (q : c.at fp H B ρ fp (callF ms F fa) rel σ H Q) :
    c.at fp H B ρ fp fa (relA c ms) σ H fun vs H1 => spF c.K pow kp rm c.xr n F (vs ++ []) H1 Q (WE c.W σ) :=
  at_bndG q fun vs ds ρ1 fp1 B1 H1 g1 ⟨hl1, fc, SA, k, z⟩ q1 => by
    rw [List.append_nil]
    have hl2 : vs.length = ds.length := by simpa using SA.ln
    refine ⟨by omega, B1, ds, fc, by rw [hpow]; exact SA, ?_⟩
    unfold Cn.at at q1
    cases e : F ds with
    | no => rw [e] at q1; exact q1
    | ex x d outs =>
      rw [e] at q1
      intro cl dd fc' B' H' g2 hx
      rw [hpow] at g2
      obtain ⟨fp', g3, _⟩ := call_go (ds := ds) g1 g2 k z
      exact q1 cl dd fp' B' H' g3 hx
    | ok d outs =>
      rw [e] at q1
      intro v fc' B' H' g2 hr
      rw [hpow] at g2
      obtain ⟨fp', g3, hf⟩ := call_go (ds := ds) g1 g2 k z
      refine q1 v fp' B' H' g3 (hrel (fun _ h => g1.non h) (fun i a h => (k i a h).imp (fun y => ⟨y.1, y.2.1⟩) fun ⟨j, y⟩ => ⟨j, y.1⟩) (fun a h => (hf a h).imp_right fun y => ⟨fun w => ?_, y.2⟩) hr)
      obtain ⟨⟨j, y⟩, _⟩ := y
      obtain ⟨o, u⟩ := g1.sr.al j a y
      rw [w] at u; cases u
theorem relP_V {σ : L2.St} {fp fp' fc fc' : Fp} {H H1 B' H' : Hp} {v : V} {d : D} {kp : Nat → Bool} (h : relP c.K kp false fc H1 fc' B' H' v d) : relV c σ fp H fp' B' H' v d := by
  unfold relP at h
  rw [if_neg (by decide)] at h
  exact h
theorem relP_N (hks : ∀ (i j : Nat), ms[i]? = some (Md.s j) → kp i = true) {σ : L2.St} {fp fp' fc fc' : Fp} {H H1 B' H' : Hp} {v : V} {d : D} (h0 : ∀ a, H1 a = none → H a = none) (h1 : ∀ (i : Nat) (a : Addr), fc i a → (ms[i]? = some Md.n ∧ H a = none) ∨ ∃ j, ms[i]? = some (Md.s j))
    (h2 : ∀ a, (∃ j, fp' j a) → (∃ i, fc' i a) ∨ (H1 a ≠ none ∧ ¬ ∃ i, fc i a)) (h : relP c.K kp true fc H1 fc' B' H' v d) : relN c σ fp H fp' B' H' v d := by
  unfold relP at h
  rw [if_pos rfl] at h
  obtain ⟨P, o, k⟩ := h
  refine ⟨P, o, fun a p => ⟨?_, (k a p).2.1, (k a p).2.2.1, fun j y => ?_⟩⟩
  · rcases (k a p).1 with ⟨i, e, z⟩ | z
    · rcases h1 i a z with ⟨_, w⟩ | ⟨j, w⟩
      · exact w
      · rw [hks i j w] at e; cases e
    · exact h0 a z
  · rcases h2 a ⟨j, y⟩ with ⟨i, z⟩ | ⟨z, w⟩
    · exact (k a p).2.2.2 i z
    · rcases (k a p).1 with ⟨i, _, u⟩ | u
      · exact w ⟨i, u⟩
      · exact z u
theorem EV_call (G : FnOk X.prog X.w X.K X.mg X.base (L2.CX X.prog X.w) k f fd ps (spF c.K pow kp false c.xr n F)) (hr : Room k X.A) (hm : X.mg x = some (.ref f)) (hk : PySem.W.keepIn X.K (.ref f) = true) (hb : Binds X.K fd ps []) (tk : Takes X c.W) (ha : EA c X ms (e :: es) fa)
    (hpow : pow = ownM ms := by rfl) (hl : ms.length = n := by rfl) (hg : Gl X x := by rfl) (hdb : (x == ("__debug__" : Str)) = false := by decide) (he : starEach (e :: es) X.env = (false, eval e X.env) :: starEach es X.env := by rfl) (hpl : (backTo pos (starEach es X.env)).any (·.1) = false := by rfl)
    (hks : ksOk kp 0 ms = true := by rfl) : EV c X (.Call (.Name x p) (e :: es) [] pos) (callF ms F fa) :=
  peOf (pe_callSD G hr hg hm hk hb .nil (fun σ => passAt tk σ) ha hdb he hpl) fun σ H Q ⟨B, ρ, fp, S, q⟩ => ⟨B, ρ, fp, S, call_core hpow (ksOk_all hks) (fun _ _ _ h => relP_V h) hl q⟩
theorem EN_call (G : FnOk X.prog X.w X.K X.mg X.base (L2.CX X.prog X.w) k f fd ps (spF c.K pow kp true c.xr n F)) (hr : Room k X.A) (hm : X.mg x = some (.ref f)) (hk : PySem.W.keepIn X.K (.ref f) = true) (hb : Binds X.K fd ps []) (tk : Takes X c.W) (ha : EA c X ms (e :: es) fa)
    (hpow : pow = ownM ms := by rfl) (hl : ms.length = n := by rfl) (hg : Gl X x := by rfl) (hdb : (x == ("__debug__" : Str)) = false := by decide) (he : starEach (e :: es) X.env = (false, eval e X.env) :: starEach es X.env := by rfl) (hpl : (backTo pos (starEach es X.env)).any (·.1) = false := by rfl)
    (hks : ksOk kp 0 ms = true := by rfl) : EN c X (.Call (.Name x p) (e :: es) [] pos) (callF ms F fa) :=
  peOf (pe_callSD G hr hg hm hk hb .nil (fun σ => passAt tk σ) ha hdb he hpl) fun σ H Q ⟨B, ρ, fp, S, q⟩ => ⟨B, ρ, fp, S, call_core hpow (ksOk_all hks) (fun a b d h => relP_N (ksOk_all hks) a b d h) hl q⟩
end
/-! ### a def by its body -/
abbrev xOf (P : Program) (w : World) (K : PySem.W.Frag) (mg : Str → Option Value) (base : Heap) (N : List Str) (qual : Str) (st : Stmt) (f : Addr) (cdv : Value) (A : Around) (outer : List Env) (s : Shared) (H : Hp) (E : XK) : Cx :=
  cxOf (L2.CX P w) P w K mg base N qual (defScope st) f cdv A outer s H E
abbrev cOf (K : PySem.W.Frag) (ow kp : Nat → Bool) (rm : Bool) (xr : Str → D → Value → Option Addr → Hp → Prop) (E : XK) (fp : Fp) (H : Hp) : Cn := ⟨K, ow, kp, rm, fun cl d _ H => E cl d H, xr, fp, H⟩
theorem fn_F {P : Program} {w : World} {K : PySem.W.Frag} {mg : Str → Option Value} {base : Heap} {x qual : Str} {st : Stmt} {f : Addr} {fd : FuncData} {N ps : List Str} {k n M : Nat} {pow ow kp : Nat → Bool} {rm : Bool}
    {xr : Str → D → Value → Option Addr → Hp → Prop} {g : S} (F0 : Fun K x qual st f fd) (Sc : FnScope N ps (defScope st)) (hn : ps.length = n) (hM : N.length = M) (hop : (List.range n).all (fun i => ow i == pow i) = true) (hkp : (List.range n).all (fun i => !kp i || ow i) = true)
    (hbody : ∀ (cdv : Value) (A : Around) (outer : List Env) (s : Shared) (H : Hp) (E : XK) (fp : Fp), Room k (A.deeper (envOfC qual (defScope st) s.heap.objs.size f cdv)) →
      ESs (cOf K ow kp rm xr E fp H) (xOf P w K mg base N qual st f cdv A outer s H E) (defBody st) g) :
    FnOk P w K mg base (L2.CX P w) (k + 1) f fd ps (spF K pow kp rm xr n (runF n M kp rm g)) := by
  refine F0.okX Sc (fun vs H Q E h => by rw [hn]; exact h.1) (fun cdv A outer s H vs Q E hr h => ?_)
  obtain ⟨hl, B, ds, fp, SA, q⟩ := h
  refine ⟨_, hbody cdv A outer s H E (fun i a => i < n ∧ fp i a) hr, ?_⟩
  have hld : ds.length = n := by have := SA.ln; simpa [hl] using this.symm
  have opw : ∀ i, i < n → ow i = pow i := fun i hi => by
    have := List.all_eq_true.mp hop i (List.mem_range.mpr hi)
    simpa using this
  unfold runF at q
  rw [if_pos hld] at q
  have start_get : ∀ i, i < n → (start N vs)[i]? = (vs.map some)[i]? := fun i hi => by
    unfold L2.start
    rw [List.getElem?_append_left (by simpa [hl] using hi)]
  have S0 : SR K ow B H (start N vs) (ds.map some ++ List.replicate (M - n) none) (fun i a => i < n ∧ fp i a) := by
    refine ⟨by unfold L2.start; simp [hl, hld, hM], SA.ex, fun i d h => ?_, fun i j a h1 h2 => SA.dj i j a h1.2 h2.2, fun i a h => SA.ub i a h.2, fun i a h => SA.al i a h.2⟩
    have hi : i < n := by
      by_cases z : i < n
      · exact z
      · rw [List.getElem?_append_right (by simpa [hld] using z), List.getElem?_replicate] at h
        split at h <;> cases h
    rw [List.getElem?_append_left (by simpa [hld] using hi)] at h
    obtain ⟨v, h1, h2⟩ := SA.sl i d h
    refine ⟨v, by rw [start_get i hi]; exact h1, ?_⟩
    rw [opw i hi]
    split
    · rename_i ho; rw [if_pos ho] at h2; exact h2.reg fun a p => ⟨hi, p⟩
    · rename_i ho; rw [if_neg ho] at h2; exact h2
  have fin : ∀ {σ' : L2.St} {ρ : Rho} {fp1 : Fp} {B1 H1 : Hp}, Go K ow (fun i a => i < n ∧ fp i a) B H σ' (mask kp 0 ρ) fp1 B1 H1 → Kp (cOf K ow kp rm xr E (fun i a => i < n ∧ fp i a) H) (start N vs) σ' →
      Go K pow fp B H (vs.map some) ((mask kp 0 ρ).take n) (fun i a => i < n ∧ fp1 i a) B1 H1 := fun {σ' ρ fp1 B1 H1} go kk => by
    have ln : (mask kp 0 ρ).length = N.length ∨ n ≤ (mask kp 0 ρ).length := by
      right
      rw [← go.sr.ln, kk.1]
      unfold L2.start
      simp [hl]
    have ln2 : n ≤ (mask kp 0 ρ).length := by
      rw [← go.sr.ln, kk.1]
      unfold L2.start
      simp [hl]
    refine ⟨⟨by rw [List.length_map, List.length_take, hl]; omega, go.sr.ex, fun i d h => ?_, fun i j a h1 h2 => go.sr.dj i j a h1.2 h2.2, fun i a h => go.sr.ub i a h.2, fun i a h => go.sr.al i a h.2⟩, go.b, fun a o e z => go.h a o e fun ⟨i, y⟩ => z ⟨i, y.2⟩, go.t, fun a o e b z => go.f a o e b fun ⟨i, y⟩ => z ⟨i, y.2⟩, fun i a h => (go.s i a h.2).imp_left And.right⟩
    have hi : i < n := by
      by_cases z : i < n
      · exact z
      · rw [List.getElem?_take, if_neg z] at h; cases h
    rw [List.getElem?_take_of_lt hi] at h
    obtain ⟨v, h1, h2⟩ := go.sr.sl i d h
    have kpi := (mask_get h).1
    rw [Nat.zero_add] at kpi
    refine ⟨v, by rw [← start_get i hi, ← kk.2 i kpi]; exact h1, ?_⟩
    rw [← opw i hi]
    split
    · rename_i ho; rw [if_pos ho] at h2; exact h2.reg fun a p => ⟨hi, p⟩
    · rename_i ho; rw [if_neg ho] at h2; exact h2
  refine ⟨B, _, _, S0, ⟨fun _ h => h, fun _ _ h => .inl h⟩, ?_⟩
  unfold Cn.atO
  cases e : g (ds.map some ++ List.replicate (M - n) none) with
  | no => rw [e] at q; exact q
  | bk ρ => rw [e] at q; exact q.elim
  | ct ρ => rw [e] at q; exact q.elim
  | nx ρ =>
    rw [e] at q
    intro σ' fp1 B1 H1 go kk
    by_cases hm : rm = true
    · simp only [if_pos hm] at q
    · simp only [if_neg hm] at q
      refine q .non _ B1 H1 (fin (go.masked (c := cOf K ow kp rm xr E (fun i a => i < n ∧ fp i a) H)) kk) ?_
      unfold relP
      rw [if_neg hm]
      exact .non
  | rt d ρ =>
    rw [e] at q
    intro v σ' fp1 B1 H1 go kk r
    refine q v _ B1 H1 (fin go kk) ?_
    unfold relRt relR at r
    unfold relP
    split
    · rename_i hm
      rw [if_pos hm] at r
      obtain ⟨P, o, z⟩ := r
      exact ⟨P, o, fun a p => ⟨(z a p).1.imp_left fun ⟨i, y⟩ => ⟨i, y.1, y.2.2⟩, (z a p).2.1, (z a p).2.2.1, fun i y => (z a p).2.2.2 i y.2⟩⟩
    · rename_i hm
      rw [if_neg hm] at r
      exact r
  | ex x d ρ =>
    rw [e] at q
    intro cl dd σ' fp1 B1 H1 go kk r
    exact q cl dd _ B1 H1 (fin (go.masked (c := cOf K ow kp rm xr E (fun i a => i < n ∧ fp i a) H)) kk) r
end Fl

set_option maxHeartbeats 4000000
/-! Fl: rules that the layer lacks: list.extend(tuple); tuple * n for n below 2. -/
namespace PySem
open Sem (wp)
namespace AutoSeq1
theorem fl_extend_tuple (l : Addr) (items : Array Value) (n : Nat) (b : Addr) (items2 : Array Value) (n2 : Nat) (dd : Option Addr) (sl : Array (Option Value)) (hs0 : ¬(!items.isEmpty && Builtin.List.listTooLong (items.size + items2.size)) = true) (hs1 : items.size ≤ sizeLine) (hs2 : items.size + items2.size ≤ sizeLine + 1) :
    Meets (Builtin.«list.extend» ⟨[.ref l, .ref b], []⟩) (fun _ R s => s.heap.get? l = some { cls := .type "list", dict := none, data := .seq items n, slots := #[] } ∧ s.heap.get? b = some { cls := .type "tuple", dict := dd, data := .seq items2 n2, slots := sl } ∧ R (.ok (.ret Value.none)) { s with heap := s.heap.update l (Obj.mapSeq fun x => x ++ items2), toks := s.toks }) :=
  .of_wp fun prog w A R s h => by
    obtain ⟨hp, g, d, tk, os⟩ := s; obtain ⟨hl, hb, h⟩ := h; have f1 := idx_int; have f2 := sub_tuple_tuple; have f3 := sub_list_list; have f4 := sub_tuple_list; have f5 := sub_list_tuple;
    have hz' : (items ++ items2).size ≤ sizeLine + 1 := by rw [Array.size_append]; exact hs2
    wp_walk using (wpAny_updateSeq hl rfl (hz := hs1) (_hz' := hz')), wpAny_loadPart' hl, wpAny_loadPart' hb; exact ⟨_, rfl, h⟩
end AutoSeq1
end PySem
namespace L2
open PySem PySem.Spec PyProof.Rows
section
variable {X : Cx}
def rExtT (K : PySem.W.Frag) : V → List V → Hp → VK → Prop := fun x vs H Q => ∃ l b xs zs, x = .ref l ∧ vs = [.ref b] ∧ H l = some (.lst xs) ∧ SqT K H b zs ∧ xs.length + zs.length ≤ sizeLine ∧ Q .non (upd H l (.lst (xs ++ zs)))
theorem mt_extendT : MtM X "list.extend" (rExtT X.K) := by
  intro pins s σ H x vs v us Q I rx rv h
  obtain ⟨l, b, xs, zs, rfl, rfl, hH, hB, hz, q⟩ := h
  cases rx
  obtain ⟨u, rfl, ru⟩ := rv.one
  cases ru
  obtain ⟨z, its, n, r, hl, e⟩ := I.lstM hH
  obtain ⟨its2, r2, ⟨⟨cls, dd, data, sl⟩, e2, hc, n2, hd⟩, hz2⟩ := I.tuple hB
  simp only at hc hd
  subst hc hd
  have hl2 := r2.length
  have hsz : its.toArray.size + its2.toArray.size ≤ sizeLine := by rw [List.size_toArray, List.size_toArray]; omega
  have hlong : ¬ (!its.toArray.isEmpty && Builtin.List.listTooLong (its.toArray.size + its2.toArray.size)) = true := by
    rw [notLongL hsz, Bool.and_false]
    exact Bool.false_ne_true
  refine call_meets F.slot_list_extend ⟨_, e, rfl⟩ F.entry_list_extend (F.args_list_extend_2 _ _)
    (AutoSeq1.fl_extend_tuple l its.toArray n b its2.toArray n2 dd sl hlong (by rw [List.size_toArray]; omega) (by omega)) ⟨e, e2, ?_⟩
  refine ⟨.non, _, I.lset (its' := its ++ its2) hH e (by simp) (r.append r2) ?_, rfl, q⟩
  rw [List.length_append]
  omega
end
end L2
namespace PySem
open Sem (wp)
theorem fl_mul_same (l : Addr) (items : Array Value) (n : Nat) (dd : Option Addr) (sl : Array (Option Value)) (x : Int) (u : Tok) (c0 : (decide (x < -(2 ^ 63)) || decide (x ≥ 2 ^ 63)) = false) (c1 : (items.isEmpty || x == 1) = true) :
    Meets (Builtin.«tuple.__mul__» ⟨[.ref l, .int x u], []⟩) (fun _ R s => s.heap.get? l = some { cls := .type "tuple", dict := dd, data := .seq items n, slots := sl } ∧ R (.ok (.ret (Value.ref l))) s) :=
  .of_wp fun prog w A R s h => by
    obtain ⟨hp, g, d, tk, os⟩ := s
    obtain ⟨hl, h⟩ := h
    have f1 := AutoSeq1.idx_int
    wp_walk using wpAny_loadPart' hl
    repeat (first
      | (refine wpAny_ite_false (decide_eq_false (by rw [c0]; exact Bool.false_ne_true)) ?_; wp_walk using wpAny_loadPart' hl)
      | (refine wpAny_ite_true (decide_eq_true c1) ?_; wp_walk using wpAny_loadPart' hl))
    exact ⟨_, rfl, h⟩
theorem fl_mul_none (l : Addr) (items : Array Value) (n : Nat) (dd : Option Addr) (sl : Array (Option Value)) (x : Int) (u : Tok) (c0 : (decide (x < -(2 ^ 63)) || decide (x ≥ 2 ^ 63)) = false) (c1 : (items.isEmpty || x == 1) = false) (c2 : (decide (x ≤ 0) || items.isEmpty) = true) :
    Meets (Builtin.«tuple.__mul__» ⟨[.ref l, .int x u], []⟩) (fun _ R s => s.heap.get? l = some { cls := .type "tuple", dict := dd, data := .seq items n, slots := sl } ∧
      R (.ok (.ret (Value.ref s.heap.objs.size))) { s with heap := s.heap.push { cls := Value.type "tuple", data := Data.seq #[] }, toks := s.toks }) :=
  .of_wp fun prog w A R s h => by
    obtain ⟨hp, g, d, tk, os⟩ := s
    obtain ⟨hl, h⟩ := h
    have f1 := AutoSeq1.idx_int
    wp_walk using wpAny_loadPart' hl
    repeat (first
      | (refine wpAny_ite_false (decide_eq_false (by rw [c0]; exact Bool.false_ne_true)) ?_; wp_walk using wpAny_loadPart' hl)
      | (refine wpAny_ite_false (decide_eq_false (by rw [c1]; exact Bool.false_ne_true)) ?_; wp_walk using wpAny_loadPart' hl)
      | (refine wpAny_ite_true (decide_eq_true c2) ?_; wp_walk using wpAny_loadPart' hl))
    exact ⟨_, rfl, h⟩
end PySem
namespace L2
open PySem PySem.Spec PyProof.Rows
section
variable {X : Cx}
/-- t * k, k at most 1000, whatever else it is -/
def rRepA (K : PySem.W.Frag) : R2 := fun x y H Q => ∃ l k xs, x = .ref l ∧ y = .int k ∧ SqT K H l xs ∧ -1000 ≤ k ∧ k ≤ 1000 ∧ xs.length ≤ 1000 ∧ (xs = [] ∨ k = 1 → Q (.ref l) H) ∧ (xs ≠ [] → k ≠ 1 → ∀ p, H p = none → Q (.ref p) (upd H p (.tup (List.replicate k.toNat xs).flatten)))
theorem op_repA : OpR X (binaryOp .Mult) (rRepA X.K) := by
  intro pins s σ H x y v u Q I rx ry h
  obtain ⟨l, k, xs, rfl, rfl, hT, h0, h2, hz, q1, q2⟩ := h
  by_cases hbig : xs ≠ [] ∧ 2 ≤ k
  · exact op_repT pins s σ H _ _ v u Q I rx ry ⟨l, k, xs, rfl, rfl, hT, hbig.1, hbig.2, h2, hz, q2 hbig.1 (by omega)⟩
  · cases rx
    obtain ⟨t, rfl⟩ := ry
    obtain ⟨its, r, ⟨⟨cls, dd, data, sl⟩, ho, hc, n, hd⟩, hs⟩ := I.tuple hT
    simp only at hc hd
    subst hc hd
    have c0 : (decide (k < -(2 ^ 63)) || decide (k ≥ 2 ^ 63)) = false := by
      rw [decide_eq_false (by omega), decide_eq_false (by omega)] <;> rfl
    have hem : its.toArray.isEmpty = decide (xs = []) := by
      cases its with
      | nil => cases r; rfl
      | cons a b => cases r; rfl
    by_cases hsame : xs = [] ∨ k = 1
    · have c1 : (its.toArray.isEmpty || k == 1) = true := by
        rw [hem]
        rcases hsame with e | e
        · rw [decide_eq_true e]; rfl
        · subst e; simp
      refine wpAny_binaryOp_repeat_ref (T := "tuple") (U := "int") (by decide) ⟨_, ho, rfl⟩ (fun s' => typeIs_int s' k t) noFill_tuple_mul F.fills_int_mul F.slot_int_rmul repeat_tuple F.slot_int_index.lookup
        (call_meets F.slot_int_rmul (typeIs_int s k t) F.entry_int_rmul (F.args_int_rmul_2 _ _) (int_rmul_tuple k t l its.toArray n dd sl)
          ⟨ho, rfl, ⟨_, ho, rfl⟩, call_meets F.slot_tuple_mul ⟨_, ho, rfl⟩ F.entry_tuple_mul (F.args_tuple_mul_2 _ _) (fl_mul_same l its.toArray n dd sl k t c0 c1) ⟨ho, ?_⟩⟩)
      exact ⟨.ref l, H, I, rfl, q1 hsame⟩
    · have hx : xs ≠ [] := fun e => hsame (.inl e)
      have hk : k ≠ 1 := fun e => hsame (.inr e)
      have hk0 : k ≤ 0 := by
        have : ¬ 2 ≤ k := fun e => hbig ⟨hx, e⟩
        omega
      have c1 : (its.toArray.isEmpty || k == 1) = false := by
        rw [hem, decide_eq_false hx, Bool.false_or]
        exact beq_eq_false_iff_ne.mpr hk
      have c2 : (decide (k ≤ 0) || its.toArray.isEmpty) = true := by rw [decide_eq_true hk0]; rfl
      refine wpAny_binaryOp_repeat_ref (T := "tuple") (U := "int") (by decide) ⟨_, ho, rfl⟩ (fun s' => typeIs_int s' k t) noFill_tuple_mul F.fills_int_mul F.slot_int_rmul repeat_tuple F.slot_int_index.lookup
        (call_meets F.slot_int_rmul (typeIs_int s k t) F.entry_int_rmul (F.args_int_rmul_2 _ _) (int_rmul_tuple k t l its.toArray n dd sl)
          ⟨ho, rfl, ⟨_, ho, rfl⟩, call_meets F.slot_tuple_mul ⟨_, ho, rfl⟩ F.entry_tuple_mul (F.args_tuple_mul_2 _ _) (fl_mul_none l its.toArray n dd sl k t c0 c1 c2) ⟨ho, ?_⟩⟩)
      have ek : k.toNat = 0 := by omega
      have q := q2 hx hk _ (I.hok.fresh (Nat.le_refl _))
      rw [ek] at q
      exact ⟨.ref s.heap.objs.size, _, I.laid (t' := s.toks) (o := .tup []) (fun b ob q => Heap.get?_push_of_some _ q) (Nat.le_refl _) ⟨Nat.zero_le _, [], .nil, IsTup.new _ _⟩, rfl, q⟩
end
end L2

set_option maxHeartbeats 1000000
namespace Fl
open PySem PySem.Spec PyProof.Rows L2

/-! ### operators upon data -/
theorem ite_some {α : Type} {C : Prop} [Decidable C] {a d : α} (h : (if C then some a else none) = some d) : C ∧ a = d := by
  by_cases e : C
  · rw [if_pos e] at h; exact ⟨e, Option.some.inj h⟩
  · rw [if_neg e] at h; cases h
def gI (C : Int → Int → Bool) (f : Int → Int → Int) : D → D → Option D
  | .int i, .int j => if C i j = true then some (.int (f i j)) else none
  | _, _ => none
def gB (p : Int → Int → Bool) : D → D → Option D
  | .int i, .int j => some (.bl (p i j))
  | _, _ => none
section
variable {c : Cn} {X : Cx}
theorem og_I {C : Int → Int → Bool} {Cp : Int → Int → Prop} {f : Int → Int → Int} (h : ∀ i j, C i j = true → Cp i j) : OpG c (rI Cp fun i j => .int (f i j)) (gI C f) (relV c) := fun {fp0 H0 B ρ fp σ H x y dx dy Q} S _ rx ry q => by
  obtain ⟨d, hd, k⟩ := at_lift q
  cases rx <;> cases ry <;> try cases hd
  rename_i i j
  obtain ⟨hc, rfl⟩ := ite_some hd
  exact ⟨i, j, rfl, rfl, h i j hc, k _ fp B H (.refl S) (.int _)⟩
theorem og_I0 {f : Int → Int → Int} : OpG c (rI0 fun i j => .int (f i j)) (gI (fun _ _ => true) f) (relV c) := fun {fp0 H0 B ρ fp σ H x y dx dy Q} S _ rx ry q => by
  obtain ⟨d, hd, k⟩ := at_lift q
  cases rx <;> cases ry <;> try cases hd
  exact ⟨_, _, rfl, rfl, k _ fp B H (.refl S) (.int _)⟩
theorem og_B {p : Int → Int → Bool} : OpG c (rI0 fun i j => .bl (p i j)) (gB p) (relV c) := fun {fp0 H0 B ρ fp σ H x y dx dy Q} S _ rx ry q => by
  obtain ⟨d, hd, k⟩ := at_lift q
  cases rx <;> cases ry <;> try cases hd
  exact ⟨_, _, rfl, rfl, k _ fp B H (.refl S) (.bl _)⟩
end
def cSh (i : Int) : Int → Bool
  | .ofNat j => Nat.ble j 1000000 && Nat.blt i.natAbs (2 ^ 64)
  | .negSucc _ => false
def cShr (_ : Int) : Int → Bool
  | .ofNat _ => true
  | .negSucc _ => false
def cMod (_ : Int) : Int → Bool
  | .ofNat j => Nat.blt 0 j
  | .negSucc _ => false
def cDiv (_ : Int) : Int → Bool
  | .ofNat j => Nat.blt 0 j && Nat.blt j (2 ^ 64)
  | .negSucc _ => false
def cMl (i j : Int) : Bool := Nat.blt i.natAbs (2 ^ 64) || Nat.blt j.natAbs (2 ^ 64)
theorem cSh_iff {i j : Int} : cSh i j = true ↔ 0 ≤ j ∧ j ≤ 1000000 ∧ i.natAbs < 2 ^ 64 := by
  cases j with
  | ofNat j => show (Nat.ble j 1000000 && Nat.blt i.natAbs (2 ^ 64)) = true ↔ _; rw [Bool.and_eq_true, Nat.ble_eq, Nat.blt_eq]; simp; omega
  | negSucc j => simp [cSh]
theorem cShr_iff {i j : Int} : cShr i j = true ↔ 0 ≤ j := by
  cases j with
  | ofNat j => simp [cShr]
  | negSucc j => simp [cShr]
theorem cMod_iff {i j : Int} : cMod i j = true ↔ 0 < j := by
  cases j with
  | ofNat j => show Nat.blt 0 j = true ↔ _; rw [Nat.blt_eq]; simp
  | negSucc j => simp [cMod]
theorem cDiv_iff {i j : Int} : cDiv i j = true ↔ 0 < j ∧ j < 2 ^ 64 := by
  cases j with
  | ofNat j => show (Nat.blt 0 j && Nat.blt j (2 ^ 64)) = true ↔ _; rw [Bool.and_eq_true, Nat.blt_eq, Nat.blt_eq]; simp; omega
  | negSucc j => simp [cDiv]
theorem cMl_iff {i j : Int} : cMl i j = true ↔ i.natAbs < 2 ^ 64 ∨ j.natAbs < 2 ^ 64 := by unfold cMl; rw [Bool.or_eq_true, Nat.blt_eq, Nat.blt_eq]
def subD : D → D → Option D := gI (fun _ _ => true) (· - ·)
def shlD : D → D → Option D := gI cSh fun i j => i * 2 ^ j.toNat
def shrD : D → D → Option D := gI cShr fun i j => i / 2 ^ j.toNat
def powD : D → D → Option D := gI cSh fun i j => i ^ j.toNat
def modD : D → D → Option D := gI cMod (· % ·)
def divD : D → D → Option D := gI cDiv (· / ·)
def andD : D → D → Option D := gI (fun _ _ => true) Builtin.bitAnd
def orD : D → D → Option D := gI (fun _ _ => true) Builtin.bitOr
def xorD : D → D → Option D := gI (fun _ _ => true) Builtin.bitXor
def ltD : D → D → Option D := gB fun i j => decide (i < j)
def leD : D → D → Option D := gB fun i j => decide (i ≤ j)
def gtD : D → D → Option D := gB fun i j => decide (j < i)
def geD : D → D → Option D := gB fun i j => decide (j ≤ i)
theorem cSh_ok (i j : Int) (h : cSh i j = true) : CPow i j := cSh_iff.mp h
theorem cDiv_ok (i j : Int) (h : cDiv i j = true) : CDivW i j := by
  obtain ⟨h1, h2⟩ := cDiv_iff.mp h
  exact wide_div (b := 64) h1 (by omega) (by decide) (by decide)
theorem cMl_ok (i j : Int) (h : cMl i j = true) : CMul i j := by
  rcases cMl_iff.mp h with h | h
  · exact .inl (by omega)
  · exact .inr (by omega)
/-- + -/
def addD : D → D → Option D
  | .int i, .int j => some (.int (i + j))
  | .str i, .str j => if i.length + j.length ≤ szL then some (.str (i ++ j)) else none
  | .tup xs, .tup ys => if xs.length + ys.length ≤ szL then some (.tup (xs ++ ys)) else none
  | .lst xs, .lst ys => if xs.length + ys.length ≤ szL then some (.lst (xs ++ ys)) else none
  | _, _ => none
def rAddV (K : PySem.W.Frag) : R2 := fun x y H Q => (rI0 (fun i j => .int (i + j)) x y H Q ∨ (∃ i j, x = .str i ∧ y = .str j ∧ i.length + j.length ≤ sizeLine ∧ Q (.str (i ++ j)) H)) ∨ (rCatA K x y H Q ∨ rCat x y H Q)
theorem op_addV {X : Cx} : OpR X (binaryOp .Add) (rAddV X.K) := (op_add.or op_add_str).or (op_catA.or op_cat)
theorem og_add {c : Cn} : OpG c (rAddV c.K) addD (relV c) := fun {fp0 H0 B ρ fp σ H x y dx dy Q} S hz rx ry q => by
  obtain ⟨d, hd, k⟩ := at_lift q
  have fr : ∀ {p : Addr}, H p = none → B p = none := fun h => S.ex.free h
  cases rx <;> cases ry <;> try cases hd
  case int.int => exact .inl (.inl ⟨_, _, rfl, rfl, k _ fp B H (.refl S) (.int _)⟩)
  case str.str =>
    obtain ⟨hl, rfl⟩ := ite_some hd
    exact .inl (.inr ⟨_, _, rfl, rfl, by rw [← szL_eq]; exact hl, k _ fp B H (.refl S) (.str _)⟩)
  case tup.tup a xs ds ha hr b ys es hb hs =>
    obtain ⟨hl, rfl⟩ := ite_some hd
    have e1 := hr.length
    have e2 := hs.length
    refine .inr (.inl ⟨a, b, xs, ys, rfl, rfl, SqT.of (S.ex _ _ ha), SqT.of (S.ex _ _ hb), by rw [← szL_eq]; omega, fun e => ?_, fun n e => ?_, fun n m p hp => ?_⟩)
    · subst e
      cases hr
      exact k _ fp B H (.refl S) (.tup hb hs)
    · subst e
      cases hs
      rw [List.append_nil] at k
      exact k _ fp B H (.refl S) (.tup ha hr)
    · exact k _ _ _ _ (S.laid _ hp) (.tup upd_same ((hr.app hs).mono (Ex.new (fr hp))))
  case lst.lst a xs ds ha hr b ys es hb hs =>
    obtain ⟨hl, rfl⟩ := ite_some hd
    have e1 := hr.length
    have e2 := hs.length
    exact .inr (.inr ⟨a, b, xs, ys, rfl, rfl, S.ex _ _ ha, S.ex _ _ hb, by rw [← szL_eq]; omega, fun p hp => k _ _ _ _ (S.laid _ hp) (.lst upd_same ((hr.app hs).mono (Ex.new (fr hp))))⟩)
/-- * -/
def mulD : D → D → Option D
  | .int i, .int j => if cMl i j = true then some (.int (i * j)) else none
  | .tup xs, .int k => if -1000 ≤ k ∧ k ≤ 1000 ∧ xs.length ≤ 1000 then some (.tup (List.replicate k.toNat xs).flatten) else none
  | _, _ => none
theorem rep_rep {K : PySem.W.Frag} {B : Hp} {xs : List V} {ds : List D} (h : RepL K B xs ds) : ∀ n, RepL K B (List.replicate n xs).flatten (List.replicate n ds).flatten
  | 0 => .nil
  | n + 1 => by rw [List.replicate_succ, List.replicate_succ, List.flatten_cons, List.flatten_cons]; exact h.app (rep_rep h n)
theorem op_mulV {X : Cx} : OpR X (binaryOp .Mult) (fun x y H Q => rI CMul (fun i j => .int (i * j)) x y H Q ∨ rRepA X.K x y H Q) := op_mul.or op_repA
theorem og_mul {c : Cn} : OpG c (fun x y H Q => rI CMul (fun i j => .int (i * j)) x y H Q ∨ rRepA c.K x y H Q) mulD (relV c) := fun {fp0 H0 B ρ fp σ H x y dx dy Q} S hz rx ry q => by
  obtain ⟨d, hd, k⟩ := at_lift q
  cases rx <;> cases ry <;> try cases hd
  case int.int =>
    obtain ⟨hl, rfl⟩ := ite_some hd
    exact .inl ⟨_, _, rfl, rfl, cMl_ok _ _ hl, k _ fp B H (.refl S) (.int _)⟩
  case tup.int a xs ds ha hr n =>
    obtain ⟨hl, rfl⟩ := ite_some hd
    have e1 := hr.length
    refine .inr ⟨a, n, xs, rfl, rfl, SqT.of (S.ex _ _ ha), hl.1, hl.2.1, by omega, fun e => ?_, fun n1 n2 p hp => ?_⟩
    · refine k _ fp B H (.refl S) (.tup ha ?_)
      rcases e with e | e
      · subst e
        cases hr
        have : (List.replicate n.toNat ([] : List D)).flatten = [] := by simp
        rw [this]; exact .nil
      · subst e
        show RepL c.K B xs ([ds].flatten)
        rw [List.flatten_cons, List.flatten_nil, List.append_nil]; exact hr
    · exact k _ _ _ _ (S.laid _ hp) (.tup upd_same ((rep_rep hr _).mono (Ex.new (S.ex.free hp))))
/-! ==, != -/
mutual
def toP : D → PyData
  | .non => .none
  | .bl b => .bool b
  | .int i => .int i
  | .str x => .str x
  | .tup xs => .tuple (toPs xs)
  | .lst xs => .list (toPs xs)
  | .scr xs => .list (toPs xs)
  | .dic _ => .dict []
  | .dit _ => .dict []
def toPs : List D → List PyData
  | [] => []
  | x :: xs => toP x :: toPs xs
end
theorem dp_of {K : PySem.W.Frag} {B : Hp} : ∀ {v : V} {d : D}, Rep K B v d → (toP d).canLay0 = true → Dp K B v (toP d) := fun {v d} h =>
  Rep.rec (motive_1 := fun v d _ => (toP d).canLay0 = true → Dp K B v (toP d)) (motive_2 := fun v d _ => PyData.canLayAll0 (toPs d) = true → DpAll K B v (toPs d)) (motive_3 := fun _ _ _ => True) (motive_4 := fun _ _ _ => True)
    (fun _ => by unfold toP; exact .non) (fun b _ => by unfold toP; exact .bl b) (fun b _ => by unfold toP; exact .int b) (fun b _ => by unfold toP; exact .str b)
    (fun h _ i q => by unfold toP at q ⊢; exact .tup (SqT.of h) (i (by simpa [PyData.canLay0] using q))) (fun h _ i q => by unfold toP at q ⊢; exact .lst (SqL.of h) (i (by simpa [PyData.canLay0] using q))) (fun h _ i q => by unfold toP at q ⊢; exact .lst h (i (by simpa [PyData.canLay0] using q)))
    (fun _ _ _ q => by simp [toP, PyData.canLay0] at q) (fun _ _ _ q => by simp [toP, PyData.canLay0] at q)
    (fun _ => by unfold toPs; exact .nil) (fun _ _ a b q => by
      unfold toPs at q ⊢
      have q2 := by simpa [PyData.canLayAll0] using q
      exact .cons (a q2.1) (b q2.2)) trivial (fun _ _ _ _ => trivial) trivial (fun _ _ _ _ => trivial) h
def eqD (x y : D) : Option D := if SeqAt.shaped (toP x) = true ∧ SeqAt.shaped (toP y) = true then some (.bl (PyData.eqv (toP x) (toP y))) else none
def neD (x y : D) : Option D := if SeqAt.shaped (toP x) = true ∧ SeqAt.shaped (toP y) = true then some (.bl (!PyData.eqv (toP x) (toP y))) else none
section
variable {c : Cn} {X : Cx}
theorem og_eq : OpG c (rEqD c.K) eqD (relV c) := fun {fp0 H0 B ρ fp σ H x y dx dy Q} S hz rx ry q => by
  obtain ⟨d, hd, k⟩ := at_lift q
  obtain ⟨h, rfl⟩ := ite_some hd
  exact ⟨_, _, dp_of (rx.mono S.ex) (SeqAt.canLay_of_shaped h.1), dp_of (ry.mono S.ex) (SeqAt.canLay_of_shaped h.2), h.1, h.2, k _ fp B H (.refl S) (.bl _)⟩
theorem og_ne : OpG c (rNeD c.K) neD (relV c) := fun {fp0 H0 B ρ fp σ H x y dx dy Q} S hz rx ry q => by
  obtain ⟨d, hd, k⟩ := at_lift q
  obtain ⟨h, rfl⟩ := ite_some hd
  exact ⟨_, _, dp_of (rx.mono S.ex) (SeqAt.canLay_of_shaped h.1), dp_of (ry.mono S.ex) (SeqAt.canLay_of_shaped h.2), h.1, h.2, k _ fp B H (.refl S) (.bl _)⟩
def isB : D → D → Option D
  | .bl a, .bl b => some (.bl (decide (a = b)))
  | _, _ => none
def isNotB : D → D → Option D
  | .bl a, .bl b => some (.bl (!decide (a = b)))
  | _, _ => none
theorem og_isB : OpG c rIsB isB (relV c) := fun {fp0 H0 B ρ fp σ H x y dx dy Q} S hz rx ry q => by
  obtain ⟨d, hd, k⟩ := at_lift q
  cases rx <;> cases ry <;> try cases hd
  exact ⟨_, _, rfl, rfl, k _ fp B H (.refl S) (.bl _)⟩
theorem og_isNotB : OpG c rNotB isNotB (relV c) := fun {fp0 H0 B ρ fp σ H x y dx dy Q} S hz rx ry q => by
  obtain ⟨d, hd, k⟩ := at_lift q
  cases rx <;> cases ry <;> try cases hd
  exact ⟨_, _, rfl, rfl, k _ fp B H (.refl S) (.bl _)⟩
def isNon : D → Bool
  | .non => true
  | _ => false
def isN : D → D → Option D
  | x, .non => some (.bl (isNon x))
  | _, _ => none
def isNotN : D → D → Option D
  | x, .non => some (.bl (!isNon x))
  | _, _ => none
theorem isNon_rep {K : PySem.W.Frag} {B : Hp} {v : V} {d : D} (h : Rep K B v d) : decide (v = .non) = isNon d := by
  cases h <;> first | rfl | exact decide_eq_false (fun e => by cases e)
theorem og_isN : OpG c (fun x y H Q => y = .non ∧ Q (.bl (decide (x = .non))) H) isN (relV c) := fun {fp0 H0 B ρ fp σ H x y dx dy Q} S hz rx ry q => by
  obtain ⟨d, hd, k⟩ := at_lift q
  cases ry <;> try cases hd
  refine ⟨rfl, ?_⟩
  rw [isNon_rep rx]
  exact k _ fp B H (.refl S) (.bl _)
theorem og_isNotN : OpG c (fun x y H Q => y = .non ∧ Q (.bl (!decide (x = .non))) H) isNotN (relV c) := fun {fp0 H0 B ρ fp σ H x y dx dy Q} S hz rx ry q => by
  obtain ⟨d, hd, k⟩ := at_lift q
  cases ry <;> try cases hd
  refine ⟨rfl, ?_⟩
  rw [isNon_rep rx]
  exact k _ fp B H (.refl S) (.bl _)
end
section
variable {c : Cn} {X : Cx} {a b d e : Expr} {fa fb fd : M D} {pos : Pos}
theorem EV_add (ha : EV c X a fa) (hb : EV c X b fb) (hK : c.K = X.K := by rfl) : EV c X (.BinOp a .Add b pos) (op2 addD fa fb) := E_op op_addV (by rw [← hK]; exact og_add) ha hb
theorem EV_sub (ha : EV c X a fa) (hb : EV c X b fb) : EV c X (.BinOp a .Sub b pos) (op2 subD fa fb) := E_op op_sub og_I0 ha hb
theorem EV_mul (ha : EV c X a fa) (hb : EV c X b fb) (hK : c.K = X.K := by rfl) : EV c X (.BinOp a .Mult b pos) (op2 mulD fa fb) := E_op op_mulV (by rw [← hK]; exact og_mul) ha hb
theorem EV_fdiv (ha : EV c X a fa) (hb : EV c X b fb) : EV c X (.BinOp a .FloorDiv b pos) (op2 divD fa fb) := E_op op_fdivW (og_I cDiv_ok) ha hb
theorem EV_mod (ha : EV c X a fa) (hb : EV c X b fb) : EV c X (.BinOp a .Mod b pos) (op2 modD fa fb) := E_op op_mod (og_I fun _ _ h => cMod_iff.mp h) ha hb
theorem EV_pow (ha : EV c X a fa) (hb : EV c X b fb) : EV c X (.BinOp a .Pow b pos) (op2 powD fa fb) := E_op op_pow (og_I cSh_ok) ha hb
theorem EV_shl (ha : EV c X a fa) (hb : EV c X b fb) : EV c X (.BinOp a .LShift b pos) (op2 shlD fa fb) := E_op op_shl (og_I cSh_ok) ha hb
theorem EV_shr (ha : EV c X a fa) (hb : EV c X b fb) : EV c X (.BinOp a .RShift b pos) (op2 shrD fa fb) := E_op op_shr (og_I fun _ _ h => cShr_iff.mp h) ha hb
theorem EV_band (ha : EV c X a fa) (hb : EV c X b fb) : EV c X (.BinOp a .BitAnd b pos) (op2 andD fa fb) := E_op op_and og_I0 ha hb
theorem EV_bor (ha : EV c X a fa) (hb : EV c X b fb) : EV c X (.BinOp a .BitOr b pos) (op2 orD fa fb) := E_op op_or og_I0 ha hb
theorem EV_xor (ha : EV c X a fa) (hb : EV c X b fb) : EV c X (.BinOp a .BitXor b pos) (op2 xorD fa fb) := E_op op_xor og_I0 ha hb
/-- the comparisons of two: op's rule and what it is upon data -/
structure CmpK (c : Cn) (X : Cx) (op : CmpOp) (g : D → D → Option D) : Prop where
  ex : ∃ r, OpR X (compareOp op) r ∧ OpG c r g (relV c)
theorem ck_lt : CmpK c X .Lt ltD := ⟨_, op_lt, og_B⟩
theorem ck_le : CmpK c X .LtE leD := ⟨_, op_le, og_B⟩
theorem ck_gt : CmpK c X .Gt gtD := ⟨_, op_gt, og_B⟩
theorem ck_ge : CmpK c X .GtE geD := ⟨_, op_ge, og_B⟩
theorem ck_eq {k : Nat} (hr : Room k X.A) (hK : c.K = X.K := by rfl) : CmpK c X .Eq eqD := ⟨_, op_eqD hr.units, by rw [← hK]; exact og_eq⟩
theorem ck_ne {k : Nat} (hr : Room k X.A) (hK : c.K = X.K := by rfl) : CmpK c X .NotEq neD := ⟨_, op_neD hr.units, by rw [← hK]; exact og_ne⟩
theorem ck_isB : CmpK c X .Is isB := ⟨_, op_isBl, og_isB⟩
theorem ck_isNotB : CmpK c X .IsNot isNotB := ⟨_, op_notBl, og_isNotB⟩
theorem ck_isN : CmpK c X .Is isN := ⟨_, op_isN, og_isN⟩
theorem ck_isNotN : CmpK c X .IsNot isNotN := ⟨_, op_notN, og_isNotN⟩
theorem EV_cmp {op : CmpOp} {g : D → D → Option D} (h : CmpK c X op g) (ha : EV c X a fa) (hb : EV c X b fb) (hm : behindInMarks op b = false := by first | exact nomark _ | rfl) : EV c X (.Compare a [op] [b] pos) (op2 g fa fb) :=
  let ⟨_, h1, h2⟩ := h.ex; E_cmp h1 h2 ha hb hm
theorem ET_cm {op : CmpOp} {g : D → D → Option D} (h : CmpK c X op g) (ha : EV c X a fa) (hb : EV c X b fb) (hm : behindInMarks op b = false := by first | exact nomark _ | rfl) : ET c X (.Compare a [op] [b] pos) (tst (op2 g fa fb)) :=
  let ⟨_, h1, h2⟩ := h.ex; ET_cmp h1 h2 ha hb hm
end
end Fl

set_option maxHeartbeats 1000000
namespace Fl
open PySem PySem.Spec PyProof.Rows L2

theorem peOr {X : Cx} {e : Expr} {t t' : TE} (h : PE X e t) (h' : PE X e t') : PE X e (fun σ H Q => t σ H Q ∨ t' σ H Q) := ⟨fun pins s σ H Q I w => w.elim (h.run pins s σ H Q I) (h'.run pins s σ H Q I)⟩
section
variable {c : Cn} {X : Cx} {a b d e : Expr} {fa fb fd : M D} {pos : Pos}
/-- a < b < d -/
theorem EV_chn {op op' : CmpOp} {g g' : D → D → Option D} (h : CmpK c X op g) (h' : CmpK c X op' g') (ha : EV c X a fa) (hb : EV c X b fb) (hd : EV c X d fd) (hm : lastMarks [op, op'] [b, d] = false := by with_unfolding_all rfl) :
    EV c X (.Compare a [op, op'] [b, d] pos) (chn g g' fa fb fd) := by
  obtain ⟨r, h1, h2⟩ := h.ex
  obtain ⟨r', h3, h4⟩ := h'.ex
  exact peOf (pe_chain h1 h3 ha hb hd hm) fun σ H Q ⟨B, ρ, fp, S, q⟩ => ⟨B, ρ, fp, S, at_bnd q fun x dx ρ1 fp1 B1 H1 g1 r1 q1 => ⟨B1, ρ1, fp1, g1.sr, at_bnd q1 fun y dy ρ2 fp2 B2 H2 g2 r2 q2 =>
    h2 g2.sr (fun _ z => z) (r1.mono g2.b) r2 (at_bnd q2 fun z dz ρ3 fp3 B3 H3 g3 r3 q3 => by
      obtain ⟨k, rfl, q4⟩ := at_tru g3.sr r3 q3
      refine ⟨k, rfl, ?_⟩
      split
      · rename_i hk; rw [if_pos hk] at q4
        exact ⟨B3, ρ3, fp3, g3.sr, at_bnd q4 fun u du ρ4 fp4 B4 H4 g4 r4 q5 => h4 g4.sr (fun _ z => g1.non (g2.non (g3.non (g4.non z)))) (r2.mono (g3.b.trans g4.b)) r4 q5⟩
      · rename_i hk; rw [if_neg hk] at q4
        exact at_pur q4 _ _ _ _ (.refl g3.sr) (.bl false))⟩⟩
theorem ET_chn {op op' : CmpOp} {g g' : D → D → Option D} (h : CmpK c X op g) (h' : CmpK c X op' g') (ha : EV c X a fa) (hb : EV c X b fb) (hd : EV c X d fd) (hm : lastMarks [op, op'] [b, d] = false := by with_unfolding_all rfl) :
    ET c X (.Compare a [op, op'] [b, d] pos) (tst (chn g g' fa fb fd)) := by
  obtain ⟨r, h1, h2⟩ := h.ex
  obtain ⟨r', h3, h4⟩ := h'.ex
  exact ptOf (pt_chain h1 h3 ha hb hd hm) fun σ H Q ⟨B, ρ, fp, S, q⟩ => ⟨B, ρ, fp, S, at_bnd (at_tst q) fun x dx ρ1 fp1 B1 H1 g1 r1 q1 => ⟨B1, ρ1, fp1, g1.sr, at_bnd q1 fun y dy ρ2 fp2 B2 H2 g2 r2 q2 =>
    h2 g2.sr (fun _ z => z) (r1.mono g2.b) r2 (at_bnd q2 fun z dz ρ3 fp3 B3 H3 g3 r3 q3 => by
      obtain ⟨k, rfl, q4⟩ := at_tru g3.sr r3 q3
      refine ⟨k, rfl, ?_⟩
      split
      · rename_i hk; rw [if_pos hk] at q4
        exact ⟨B3, ρ3, fp3, g3.sr, at_bnd q4 fun u du ρ4 fp4 B4 H4 g4 r4 q5 => h4 g4.sr (fun _ z => g1.non (g2.non (g3.non (g4.non z)))) (r2.mono (g3.b.trans g4.b)) r4 q5⟩
      · rename_i hk; rw [if_neg hk] at q4
        exact at_pur q4 _ _ _ _ (.refl g3.sr) (.bl false))⟩⟩
end

/-! ### dicts as lists of pairs -/
section
variable {κ : Type} [DecidableEq κ]
def getE (es : List (κ × D)) (k : κ) : Option D := (es.find? fun e => decide (e.1 = k)).map (·.2)
def putE (es : List (κ × D)) (k : κ) (d : D) : List (κ × D) := if (es.any fun e => decide (e.1 = k)) = true then es.map (fun e => if e.1 = k then (e.1, d) else e) else es ++ [(k, d)]
def dropE (es : List (κ × D)) (k : κ) : List (κ × D) := es.filter fun e => decide (e.1 ≠ k)
def RepP (K : PySem.W.Frag) (B : Hp) : List (κ × V) → List (κ × D) → Prop := Paired fun p q => p.1 = q.1 ∧ Rep K B p.2 q.2
theorem RepP.get {K : PySem.W.Frag} {B : Hp} (k : κ) : ∀ {xs : List (κ × V)} {es : List (κ × D)}, RepP K B xs es → (∀ d, getE es k = some d → ∃ v, valV xs k = some v ∧ Rep K B v d) ∧ (getE es k = none → valV xs k = none)
  | _, _, .nil => ⟨fun d h => by simp [getE] at h, fun _ => rfl⟩
  | p :: xs, q :: es, .cons ⟨h1, h2⟩ t => by
    obtain ⟨i1, i2⟩ := RepP.get k t
    by_cases e : q.1 = k
    · have e' : p.1 = k := h1.trans e
      rw [valV_pos e']
      have g : getE (q :: es) k = some q.2 := by simp [getE, List.find?_cons, e]
      rw [g]
      exact ⟨fun d hd => ⟨_, rfl, by cases hd; exact h2⟩, fun h => by cases h⟩
    · have e' : ¬ p.1 = k := fun z => e (h1.symm.trans z)
      rw [valV_neg e']
      have g : getE (q :: es) k = getE es k := by simp [getE, List.find?_cons, e]
      rw [g]
      exact ⟨i1, i2⟩
theorem RepP.any {K : PySem.W.Frag} {B : Hp} (k : κ) : ∀ {xs : List (κ × V)} {es : List (κ × D)}, RepP K B xs es → (xs.any fun e => decide (e.1 = k)) = es.any fun e => decide (e.1 = k)
  | _, _, .nil => rfl
  | p :: xs, q :: es, .cons ⟨h1, _⟩ t => by rw [List.any_cons, List.any_cons, RepP.any k t, h1]
theorem RepP.app {K : PySem.W.Frag} {B : Hp} : ∀ {xs ys : List (κ × V)} {es fs : List (κ × D)}, RepP K B xs es → RepP K B ys fs → RepP K B (xs ++ ys) (es ++ fs)
  | _, _, _, _, .nil, h => h
  | _, _, _, _, .cons a t, h => .cons a (RepP.app t h)
theorem RepP.repl {K : PySem.W.Frag} {B : Hp} (k : κ) {v : V} {d : D} (r : Rep K B v d) : ∀ {xs : List (κ × V)} {es : List (κ × D)}, RepP K B xs es → RepP K B (xs.map fun kv => if kv.1 = k then (kv.1, v) else kv) (es.map fun e => if e.1 = k then (e.1, d) else e)
  | _, _, .nil => .nil
  | p :: xs, q :: es, .cons ⟨h1, h2⟩ t => by
    rw [List.map_cons, List.map_cons]
    refine .cons ?_ (RepP.repl k r t)
    by_cases e : q.1 = k
    · rw [if_pos e, if_pos (h1.trans e)]; exact ⟨h1, r⟩
    · rw [if_neg e, if_neg fun z => e (h1.symm.trans z)]; exact ⟨h1, h2⟩
theorem RepP.put {K : PySem.W.Frag} {B : Hp} (k : κ) {v : V} {d : D} (r : Rep K B v d) {xs : List (κ × V)} {es : List (κ × D)} (h : RepP K B xs es) : RepP K B (putK xs k v) (putE es k d) := by
  unfold putK putE
  rw [h.any k]
  split
  · exact h.repl k r
  · exact h.app (.cons ⟨rfl, r⟩ .nil)
theorem RepP.drop {K : PySem.W.Frag} {B : Hp} (k : κ) : ∀ {xs : List (κ × V)} {es : List (κ × D)}, RepP K B xs es → RepP K B (dropK xs k) (dropE es k)
  | _, _, .nil => .nil
  | p :: xs, q :: es, .cons ⟨h1, h2⟩ t => by
    have ih := RepP.drop k t
    unfold dropK dropE at ih ⊢
    rw [List.filter_cons, List.filter_cons, h1]
    split
    · exact .cons ⟨h1, h2⟩ ih
    · exact ih
theorem RepP.length {K : PySem.W.Frag} {B : Hp} {xs : List (κ × V)} {es : List (κ × D)} (h : RepP K B xs es) : xs.length = es.length := Paired.length h
end
theorem RepK.p {K : PySem.W.Frag} {B : Hp} : ∀ {xs : List (Key × V)} {es : List (Key × D)}, RepK K B xs es → RepP K B xs es
  | _, _, .nil => .nil
  | _, _, .cons a t => .cons ⟨rfl, a⟩ t.p
theorem RepP.k {K : PySem.W.Frag} {B : Hp} : ∀ {xs : List (Key × V)} {es : List (Key × D)}, RepP K B xs es → RepK K B xs es
  | _, _, .nil => .nil
  | (_, _) :: _, (_, _) :: _, .cons ⟨h, a⟩ t => by cases h; exact .cons a (RepP.k t)
theorem RepT.p {K : PySem.W.Frag} {B : Hp} : ∀ {xs : List (List Key × V)} {es : List (List Key × D)}, RepT K B xs es → RepP K B xs es
  | _, _, .nil => .nil
  | _, _, .cons a t => .cons ⟨rfl, a⟩ t.p
theorem RepP.t {K : PySem.W.Frag} {B : Hp} : ∀ {xs : List (List Key × V)} {es : List (List Key × D)}, RepP K B xs es → RepT K B xs es
  | _, _, .nil => .nil
  | (_, _) :: _, (_, _) :: _, .cons ⟨h, a⟩ t => by cases h; exact .cons a (RepP.t t)
def keyOf : D → Option Key
  | .int i => some (.inl i)
  | .str s => some (.inr s)
  | _ => none
def keysOf : List D → Option (List Key)
  | [] => some []
  | d :: ds => match keyOf d, keysOf ds with
    | some k, some ks => some (k :: ks)
    | _, _ => none
def keyT : D → Option (List Key)
  | .tup ds => keysOf ds
  | _ => none
theorem keyOf_v {K : PySem.W.Frag} {B : Hp} {v : V} {d : D} {k : Key} (r : Rep K B v d) (h : keyOf d = some k) : v = kV k := by
  cases r <;> cases h <;> rfl
theorem keysOf_v {K : PySem.W.Frag} {B : Hp} : ∀ {vs : List V} {ds : List D} {ks : List Key}, RepL K B vs ds → keysOf ds = some ks → vs = ks.map kV
  | _, _, ks, .nil, h => by cases h; rfl
  | v :: vs, d :: ds, ks, .cons a t, h => by
    unfold keysOf at h
    cases h1 : keyOf d with
    | none => rw [h1] at h; cases h
    | some k =>
      cases h2 : keysOf ds with
      | none => rw [h1, h2] at h; cases h
      | some ks' =>
        rw [h1, h2] at h
        cases h
        rw [List.map_cons, keyOf_v a h1, keysOf_v t h2]
/-- what a dict holds at a key: none of no dict, no key -/
def lookD : D → D → Option (Option D)
  | .dic es, k => (keyOf k).map (getE es)
  | .dit es, k => (keyT k).map (getE es)
  | _, _ => none
def putD : D → D → D → Option D
  | .dic es, k, d => match keyOf k with
    | some k => if es.length < szL then some (.dic (putE es k d)) else none
    | none => none
  | .dit es, k, d => match keyT k with
    | some k => if es.length < szL then some (.dit (putE es k d)) else none
    | none => none
  | _, _, _ => none
/-- one that reads: frozen or one's own -/
def Bor (K : PySem.W.Frag) (B H : Hp) (v : V) (d : D) : Prop := Rep K B v d ∨ ∃ P, Own K B H P v d
theorem keyT_v {K : PySem.W.Frag} {B : Hp} {v : V} {d : D} {k : List Key} (r : Rep K B v d) (h : keyT d = some k) : ∃ b, v = .ref b ∧ B b = some (.tup (k.map kV)) := by
  cases r <;> try cases h
  rename_i a xs ds e rl
  have z := keysOf_v rl (show keysOf ds = some k from h)
  subst z
  exact ⟨_, rfl, e⟩
theorem look_get {K : PySem.W.Frag} {B H : Hp} {x y : V} {dx dy : D} {o : Option D} (ex : Ex B H) (hx : Bor K B H x dx) (hy : Rep K B y dy) (h : lookD dx dy = some o) :
    ∃ a r, x = .ref a ∧ DGet H a y r ∧ IsD H a ∧ (∀ d, o = some d → ∃ v, r = some v ∧ Rep K B v d) ∧ (o = none → r = none) := by
  have kk : ∀ {a : Addr} {xs : List (Key × V)} {es : List (Key × D)}, H a = some (.dK xs) → RepP K B xs es → (keyOf dy).map (getE es) = some o → ∃ r, DGet H a y r ∧ IsD H a ∧ (∀ d, o = some d → ∃ v, r = some v ∧ Rep K B v d) ∧ (o = none → r = none) := fun {a xs es} ha hp h => by
    cases hk : keyOf dy with
    | none => rw [hk] at h; cases h
    | some k =>
      rw [hk] at h
      have ho : getE es k = o := Option.some.inj h
      have ey := keyOf_v hy hk
      refine ⟨valV xs k, by rw [ey]; exact DGet.k ha, .inl ⟨xs, .inl ha⟩, ?_⟩
      rw [← ho]
      exact hp.get k
  have tt : ∀ {a : Addr} {xs : List (List Key × V)} {es : List (List Key × D)}, H a = some (.dT xs) → RepP K B xs es → (keyT dy).map (getE es) = some o → ∃ r, DGet H a y r ∧ IsD H a ∧ (∀ d, o = some d → ∃ v, r = some v ∧ Rep K B v d) ∧ (o = none → r = none) := fun {a xs es} ha hp h => by
    cases hk : keyT dy with
    | none => rw [hk] at h; cases h
    | some k =>
      rw [hk] at h
      have ho : getE es k = o := Option.some.inj h
      obtain ⟨b, ey, eb⟩ := keyT_v hy hk
      refine ⟨valV xs k, by rw [ey]; exact DGet.t ha (ex _ _ eb), .inr ⟨xs, .inl ha⟩, ?_⟩
      rw [← ho]
      exact hp.get k
  rcases hx with hx | ⟨P, hx⟩
  · cases hx <;> try cases h
    case dic a xs es e r => obtain ⟨r', h1, h2⟩ := kk (ex _ _ e) r.p h; exact ⟨_, r', rfl, h1, h2⟩
    case dit a xs es e r => obtain ⟨r', h1, h2⟩ := tt (ex _ _ e) r.p h; exact ⟨_, r', rfl, h1, h2⟩
  · cases hx <;> try cases h
    case dic a xs es p e r => obtain ⟨r', h1, h2⟩ := kk e r.p h; exact ⟨_, r', rfl, h1, h2⟩
    case dit a xs es p e r => obtain ⟨r', h1, h2⟩ := tt e r.p h; exact ⟨_, r', rfl, h1, h2⟩
/-- an own dict is stored into -/
theorem put_own {K : PySem.W.Frag} {B H : Hp} {P : Addr → Prop} {x y v : V} {dx dy d dx' : D} (ex : Ex B H) (hub : ∀ a, P a → B a = none) (hx : Own K B H P x dx) (hy : Rep K B y dy) (hv : Rep K B v d) (h : putD dx dy d = some dx') :
    ∃ a o, x = .ref a ∧ P a ∧ DPut H a y v (upd H a o) ∧ Own K B (upd H a o) P x dx' := by
  cases hx <;> try cases h
  case dic a xs es p e r =>
    cases hk : keyOf dy with
    | none => unfold putD at h; simp only [hk] at h; cases h
    | some k =>
      unfold putD at h; simp only [hk] at h
      obtain ⟨hl, rfl⟩ := ite_some h
      have ey := keyOf_v hy hk
      exact ⟨a, _, rfl, p, by rw [ey]; exact DPut.k e (by rw [r.p.length, ← szL_eq]; exact hl), .dic p upd_same (r.p.put k hv).k⟩
  case dit a xs es p e r =>
    cases hk : keyT dy with
    | none => unfold putD at h; simp only [hk] at h; cases h
    | some k =>
      unfold putD at h; simp only [hk] at h
      obtain ⟨hl, rfl⟩ := ite_some h
      obtain ⟨b, ey, eb⟩ := keyT_v hy hk
      exact ⟨a, _, rfl, p, by rw [ey]; exact DPut.t e (ex _ _ eb) (by rw [r.p.length, ← szL_eq]; exact hl), .dit p upd_same (r.p.put k hv).t⟩

/-! ### x[i] -/
def ixD : D → D → Option D
  | .tup xs, .int i => atI xs i
  | .lst xs, .int i => atI xs i
  | .scr xs, .int i => atI xs i
  | .str z, .int i => if z.length ≤ szL then (atI z.cps.toList i).map fun n => .str ⟨#[n]⟩ else none
  | .dic es, k => match lookD (.dic es) k with
    | some (some d) => some d
    | _ => none
  | .dit es, k => match lookD (.dit es) k with
    | some (some d) => some d
    | _ => none
  | _, _ => none
theorem atI_rep {K : PySem.W.Frag} {B : Hp} {xs : List V} {ds : List D} {i : Int} {d : D} (r : RepL K B xs ds) (h : atI ds i = some d) : ∃ v, atI xs i = some v ∧ Rep K B v d := by
  unfold atI at h ⊢
  rw [r.length]
  cases e : ixN ds.length i with
  | none => rw [e] at h; cases h
  | some j => rw [e] at h; exact r.get h
def isDic : D → Bool
  | .dic _ => true
  | .dit _ => true
  | _ => false
theorem ix_val {K : PySem.W.Frag} {B H : Hp} {x y : V} {dx dy d : D} (ex : Ex B H) (hx : Bor K B H x dx) (hy : Rep K B y dy) (h : ixD dx dy = some d) {Q : VK} (q : ∀ v, Rep K B v d → Q v H) :
    if isDic dx = true then ∃ a v, x = .ref a ∧ DGet H a y (some v) ∧ Q v H else rIx K x y H Q := by
  have sq : ∀ {a : Addr} {xs : List V} {ds : List D} {i : Int}, H a = some (.lst xs) → RepL K B xs ds → atI ds i = some d → rIx K (.ref a) (.int i) H Q := fun {a xs ds i} e r h => by
    obtain ⟨v, h1, h2⟩ := atI_rep r h
    exact .inl ⟨a, xs, i, v, rfl, rfl, SqL.of e, h1, q v h2⟩
  have dc : ∀ {dx : D}, Bor K B H x dx → (match lookD dx dy with | some (some d) => some d | _ => none) = some d → ∃ a v, x = .ref a ∧ DGet H a y (some v) ∧ Q v H := fun {dx} hx h => by
    cases e : lookD dx dy with
    | none => rw [e] at h; cases h
    | some o =>
      cases o with
      | none => rw [e] at h; cases h
      | some d2 =>
        rw [e] at h
        cases h
        obtain ⟨a, r, h1, h2, _, h3, _⟩ := look_get ex hx hy e
        obtain ⟨v, rfl, h4⟩ := h3 _ rfl
        exact ⟨a, v, h1, h2, q v h4⟩
  cases dx with
  | tup ds =>
    show rIx K x y H Q
    cases hy <;> try cases h
    rename_i i
    rcases hx with hx | ⟨P, hx⟩
    · cases hx with
      | @tup a xs _ e r =>
        obtain ⟨v, h1, h2⟩ := atI_rep r h
        exact .inr (.inl ⟨a, xs, i, v, rfl, rfl, SqT.of (ex _ _ e), h1, q v h2⟩)
    · cases hx
  | lst ds =>
    show rIx K x y H Q
    cases hy <;> try cases h
    rename_i i
    rcases hx with hx | ⟨P, hx⟩
    · cases hx with
      | lst e r => exact sq (ex _ _ e) r h
    · cases hx with
      | lst p e r => exact sq e r h
  | scr ds =>
    show rIx K x y H Q
    cases hy <;> try cases h
    rename_i i
    rcases hx with hx | ⟨P, hx⟩
    · cases hx with
      | @scr a xs _ e r =>
        obtain ⟨v, h1, h2⟩ := atI_rep r h
        exact .inl ⟨a, xs, i, v, rfl, rfl, ex.l e, h1, q v h2⟩
    · cases hx
  | str z =>
    show rIx K x y H Q
    cases hy <;> try cases h
    rename_i i
    have h' : (if z.length ≤ szL then (atI z.cps.toList i).map fun n => D.str ⟨#[n]⟩ else none) = some d := h
    by_cases hl : z.length ≤ szL
    · rw [if_pos hl] at h'
      cases e : atI z.cps.toList i with
      | none => rw [e] at h'; cases h'
      | some n =>
        rw [e] at h'
        cases h'
        rcases hx with hx | ⟨P, hx⟩
        · cases hx
          exact .inr (.inr ⟨z, i, n, rfl, rfl, by rw [← szL_eq]; exact hl, e, q _ (.str _)⟩)
        · cases hx
    · rw [if_neg hl] at h'; cases h'
  | dic es => exact dc hx h
  | dit es => exact dc hx h
  | _ => cases h
section
variable {X : Cx}
theorem ix_dict (hu : X.A.units + 1 < cLine) : IxR X (fun x y H Q => ∃ a v, x = .ref a ∧ DGet H a y (some v) ∧ Q v H) := by
  intro value slice pins s σ H x y v u Q I rx ry h hs
  obtain ⟨a, w, rfl, g, q⟩ := h
  obtain rfl : v = Value.ref a := rx
  have hT := dict_typeIs I g
  unfold subscriptTail
  refine wpAny_bind ?_
  rw [getitemInPython_of_ne hT.not_modules]
  refine wpAny_bind (wpAny_specialOf hT PySem.F.slot_dict_getitem.lookup ?_)
  have fin : wpAny (model X.prog X.w) X.A (subscripted slice false (.ref a) u) (fun r s₃ => wpAny (model X.prog X.w) X.A (letTemporaryGo value (.ref a) r >>= fun _ => pure r) (EP X pins σ Q) X.xe s₃) X.xe s := by
    rw [hs]
    exact wpAny_operating (d_getItem hu I g ry fun w' s3 I3 rw' => wpAny_bind (wpAny_letTemporaryGo (wpAny_pure ⟨w, H, I3, rw', q⟩)))
  first
    | exact wpAny_pure (wpAny_bind fin)
    | exact wpAny_bind (wpAny_pure (wpAny_bind fin))
    | exact wpAny_bind fin
theorem set_dict (hu : X.A.units + 1 < cLine) : PSet X (fun o i v H Q => ∃ a H', o = .ref a ∧ DPut H a i v H' ∧ Q H') := by
  intro pins s σ H o i v ov iv u Q I ro ri rv h
  obtain ⟨a, H', rfl, g, q⟩ := h
  obtain rfl : ov = Value.ref a := ro
  exact d_setItem hu I g ri rv fun s4 I4 => ⟨H', I4, q⟩
theorem PSet.or {t t' : TSet} (h : PSet X t) (h' : PSet X t') : PSet X (fun o i v H Q => t o i v H Q ∨ t' o i v H Q) := by
  intro pins s σ H o i v ov iv u Q I ro ri rv q
  rcases q with q | q
  · exact h pins s σ H o i v ov iv u Q I ro ri rv q
  · exact h' pins s σ H o i v ov iv u Q I ro ri rv q
end
def rIxA (K : PySem.W.Frag) : R2 := fun x y H Q => (∃ a v, x = .ref a ∧ DGet H a y (some v) ∧ Q v H) ∨ rIx K x y H Q
theorem ix_any {K : PySem.W.Frag} {B H : Hp} {x y : V} {dx dy d : D} (ex : Ex B H) (hx : Bor K B H x dx) (hy : Rep K B y dy) (h : ixD dx dy = some d) {Q : VK} (q : ∀ v, Rep K B v d → Q v H) : rIxA K x y H Q := by
  have z := ix_val ex hx hy h q
  by_cases hc : isDic dx = true
  · rw [if_pos hc] at z; exact .inl z
  · rw [if_neg hc] at z; exact .inr z
section
variable {c : Cn} {X : Cx} {a b e : Expr} {fa fb : M D} {pos : Pos}
theorem EV_ix {k : Nat} (hr : Room k X.A) (ha : EV c X a fa) (hb : EV c X b fb) (hK : c.K = X.K := by rfl) (hs : PlainIx b := by exact fun _ _ => rfl) : EV c X (.Subscript a b pos) (op2 ixD fa fb) :=
  peOf (pe_ix ((ix_dict (hu_of hr)).or ix_seq) ha hb hs) fun σ H Q ⟨B, ρ, fp, S, q⟩ => ⟨B, ρ, fp, S, at_bnd q fun x dx ρ1 fp1 B1 H1 g1 r1 q1 => ⟨B1, ρ1, fp1, g1.sr, at_bnd q1 fun y dy ρ2 fp2 B2 H2 g2 r2 q2 => by
    obtain ⟨d, hd, k⟩ := at_lift q2
    rw [← hK]
    exact ix_any g2.sr.ex (.inl (r1.mono g2.b)) r2 hd fun v w => k v fp2 B2 H2 (.refl g2.sr) w⟩⟩
/-- an item of the thing of a slot -/
def ixS (j : Nat) (fb : M D) : M D := bnd (rd j) fun _ => bnd fb fun k => bnd (rd j) fun x => lift (ixD x k)
theorem EV_ixS {k j : Nat} (hr : Room k X.A) (ha : PE X a (tVar j)) (hb : EV c X b fb) (ho : c.ow j = true := by rfl) (hK : c.K = X.K := by rfl) (hs : PlainIx b := by exact fun _ _ => rfl) : EV c X (.Subscript a b pos) (ixS j fb) :=
  peOf (pe_ix ((ix_dict (hu_of hr)).or ix_seq) ha hb hs) fun σ H Q ⟨B, ρ, fp, S, q⟩ => by
    obtain ⟨d0, hd0, q0⟩ := at_rd q
    obtain ⟨v, hv, _⟩ := S.own ho (get_some hd0)
    refine ⟨v, hv, B, ρ, fp, S, at_bnd q0 fun y dy ρ2 fp2 B2 H2 g2 r2 q2 => ?_⟩
    obtain ⟨dx, hdx, q3⟩ := at_rd q2
    obtain ⟨v2, hv2, o2⟩ := g2.sr.own ho (get_some hdx)
    rw [hv] at hv2; cases hv2
    obtain ⟨d, hd, k⟩ := at_lift q3
    rw [← hK]
    exact ix_any g2.sr.ex (.inr ⟨_, o2⟩) r2 hd fun v w => k v fp2 B2 H2 (.refl g2.sr) w
end
end Fl

set_option maxHeartbeats 1000000
namespace Fl
open PySem PySem.Spec PyProof.Rows L2

/-! ### slices -/
def EO (c : Cn) (X : Cx) (e : Option Expr) (f : M (Option Int)) : Prop := PO X e (can c f (relE c))
def oNone : M (Option Int) := pur none
def intD : D → Option Int
  | .int i => some i
  | _ => none
def oSome (f : M D) : M (Option Int) := bnd f fun d => bnd (lift (intD d)) fun i => pur (some i)
def cutA {α : Type} (xs : List α) (lo hi : Option Int) : List α := (xs.drop (HT.sIx xs.length 0 lo)).take (HT.sIx xs.length xs.length hi - HT.sIx xs.length 0 lo)
theorem cut_rep {K : PySem.W.Frag} {B : Hp} {xs : List V} {ds : List D} (r : RepL K B xs ds) (lo hi : Option Int) : RepL K B (cutV xs lo hi) (cutA ds lo hi) := by
  unfold cutV cutA
  rw [r.length]
  exact (r.drop _).take _
def slD (d : D) (lo hi : Option Int) : Option D := match d with
  | .tup xs => some (.tup (cutA xs lo hi))
  | .lst xs => some (.lst (cutA xs lo hi))
  | .str z => if z.length ≤ szL then some (.str (cutS z lo hi)) else none
  | _ => none
def slM (fa : M D) (fl fh : M (Option Int)) : M D := bnd fa fun x => bnd fl fun l => bnd fh fun h => lift (slD x l h)
theorem poOf {X : Cx} {e : Option Expr} {t t' : TO} (h : PO X e t) (k : ∀ σ H Q, t' σ H Q → t σ H Q) : PO X e t' := ⟨fun pins s σ H Q I w => h.run pins s σ H Q I (k σ H Q w)⟩
section
variable {c : Cn} {X : Cx} {a b e : Expr} {fa fb : M D} {lo hi : Option Expr} {fl fh : M (Option Int)} {pos p2 : Pos}
theorem EO_none : EO c X none oNone := poOf po_none fun σ H Q ⟨B, ρ, fp, S, q⟩ => at_pur q _ _ _ _ (.refl S) rfl
theorem EO_some (h : EV c X e fa) : EO c X (some e) (oSome fa) := poOf (po_some h) fun σ H Q ⟨B, ρ, fp, S, q⟩ => ⟨B, ρ, fp, S, at_bnd q fun x dx ρ1 fp1 B1 H1 g1 r1 q1 => by
  obtain ⟨i, hi, q2⟩ := at_bl q1
  cases dx <;> try cases hi
  cases r1
  exact ⟨_, rfl, at_pur q2 _ _ _ _ (.refl g1.sr) rfl⟩⟩
/-- a value's slice, frozen -/
theorem EV_sl (ha : EV c X a fa) (hl : EO c X lo fl) (hh : EO c X hi fh) (hK : c.K = X.K := by rfl) : EV c X (.Subscript a (.Slice lo hi none p2) pos) (slM fa fl fh) :=
  peOf (pe_slice (sl_tupA.or (sl_list.or sl_str)) ha hl hh) fun σ H Q ⟨B, ρ, fp, S, q⟩ => ⟨B, ρ, fp, S, at_bnd q fun x dx ρ1 fp1 B1 H1 g1 r1 q1 => ⟨B1, ρ1, fp1, g1.sr, at_bnd q1 fun l l' ρ2 fp2 B2 H2 g2 r2 q2 => ⟨B2, ρ2, fp2, g2.sr, at_bnd q2 fun h h' ρ3 fp3 B3 H3 g3 r3 q3 => by
    cases r2
    cases r3
    rw [← hK]
    obtain ⟨d, hd, k⟩ := at_lift q3
    have r := r1.mono (g2.b.trans g3.b)
    cases r with
    | @tup _ _ ds e rl =>
      cases hd
      refine .inl ⟨_, _, rfl, SqT.of (g3.sr.ex _ _ e), fun hw => ?_, fun hw p hp => ?_⟩
      · refine k _ fp3 B3 H3 (.refl g3.sr) (.tup e ?_)
        have : cutA ds l h = ds := by
          unfold cutA
          rw [← rl.length, hw.1, hw.2]
          simp [rl.length]
        rw [this]; exact rl
      · exact k _ _ _ _ (g3.sr.laid _ hp) (.tup upd_same ((cut_rep rl l h).mono (Ex.new (g3.sr.ex.free hp))))
    | lst e rl =>
      cases hd
      exact .inr (.inl ⟨_, _, rfl, SqL.of (g3.sr.ex _ _ e), fun p hp => k _ _ _ _ (g3.sr.laid _ hp) (.lst upd_same ((cut_rep rl l h).mono (Ex.new (g3.sr.ex.free hp))))⟩)
    | str z =>
      obtain ⟨hz, rfl⟩ := ite_some hd
      exact .inr (.inr ⟨_, rfl, by rw [← szL_eq]; exact hz, k _ fp3 B3 H3 (.refl g3.sr) (.str _)⟩)
    | _ => cases hd⟩⟩⟩
/-- of the thing of a slot (a list): a new one -/
def slS (j : Nat) (fl fh : M (Option Int)) : M D := bnd (rd j) fun _ => bnd fl fun l => bnd fh fun h => bnd (rd j) fun x => lift (slD x l h)
theorem EN_slS {j : Nat} (ha : PE X a (tVar j)) (hl : EO c X lo fl) (hh : EO c X hi fh) (ho : c.ow j = true := by rfl) : EN c X (.Subscript a (.Slice lo hi none p2) pos) (slS j fl fh) :=
  peOf (pe_slice sl_list ha hl hh) fun σ H Q ⟨B, ρ, fp, S, q⟩ => by
    obtain ⟨d0, hd0, q0⟩ := at_rd q
    obtain ⟨v, hv, _⟩ := S.own ho (get_some hd0)
    refine ⟨v, hv, B, ρ, fp, S, at_bnd q0 fun l l' ρ2 fp2 B2 H2 g2 r2 q2 => ⟨B2, ρ2, fp2, g2.sr, at_bnd q2 fun h h' ρ3 fp3 B3 H3 g3 r3 q3 => ?_⟩⟩
    cases r2
    cases r3
    obtain ⟨dx, hdx, q4⟩ := at_rd q3
    obtain ⟨v2, hv2, o2⟩ := g3.sr.own ho (get_some hdx)
    rw [hv] at hv2; cases hv2
    obtain ⟨d, hd, k⟩ := at_lift q4
    cases o2 with
    | lst p e rl => cases hd; exact ⟨_, _, rfl, SqL.of e, fun p' hp => fin_own g3.sr k hp (g2.non (g3.non hp)) (.lst rfl upd_same (cut_rep rl l h))⟩
    | _ => cases hd
/-- xs[::-1] -/
def revD : D → Option D
  | .lst xs => some (.lst xs.reverse)
  | _ => none
theorem EN_rev {k : Nat} {p1 p2 p3 pos : Pos} (ha : EB c X a fa) (hK : c.K = X.K := by rfl) : EN c X (.Subscript a (.Slice none none (some (.UnaryOp .USub (.Constant (.int 1) k p1) p2)) p3) pos) (op1 revD fa) :=
  peOf (pe_revL ha) fun σ H Q ⟨B, ρ, fp, S, q⟩ => ⟨B, ρ, fp, S, at_bnd q fun x dx ρ1 fp1 B1 H1 g1 r1 q1 => by
    obtain ⟨d, hd, k⟩ := at_lift q1
    rw [← hK]
    cases dx <;> try cases hd
    rcases r1 with r | ⟨P, r⟩
    · cases r with
      | lst e rl => exact ⟨_, _, rfl, SqL.of (g1.sr.ex _ _ e), fun p hp => fin_own g1.sr k hp (g1.non hp) (.lst rfl upd_same rl.rev)⟩
    · cases r with
      | lst p e rl => exact ⟨_, _, rfl, SqL.of e, fun p hp => fin_own g1.sr k hp (g1.non hp) (.lst rfl upd_same rl.rev)⟩⟩
end

/-! ### built-ins of one argument -/
def Cg1 (c : Cn) (r : List V → Hp → VK → Prop) (g : D → Option D) (rel : Rel V D) : Prop := ∀ {fp0 H0 B ρ fp σ H x dx Q}, SR c.K c.ow B H σ ρ fp → (∀ a, H a = none → H0 a = none) → Bor c.K B H x dx → c.at fp0 H0 B ρ fp (lift (g dx)) rel σ H Q → r [x] H Q
section
variable {c : Cn} {X : Cx} {a b e : Expr} {fa fb : M D} {x : Str} {p pos : Pos} {id T : String}
theorem E_b1 {r : List V → Hp → VK → Prop} {g : D → Option D} {rel : Rel V D} (hc : CallR X (.builtin id) r) (hg : Cg1 c r g rel) (hm : X.mg x = none) (ha : EB c X a fa) (hx : Gl X x := by rfl) (hv : bootBuiltins x = some (.builtin id) := by decide +kernel)
    (hn : x ≠ "__name__" := by decide) (hdb : (x == ("__debug__" : Str)) = false := by decide) (hs : starEach [a] X.env = (false, eval a X.env) :: starEach [] X.env := by rfl) (hpl : (backTo pos (starEach [] X.env)).any (·.1) = false := by rfl) :
    PE X (.Call (.Name x p) [a] [] pos) (can c (op1 g fa) rel) :=
  peOf (pe_callB hc hx hm hv (pa_cons ha pa_nil hs) hn hdb hs hpl) fun σ H Q ⟨B, ρ, fp, S, q⟩ => ⟨B, ρ, fp, S, at_bnd q fun x dx ρ1 fp1 B1 H1 g1 r1 q1 => hg g1.sr (fun _ z => g1.non z) r1 q1⟩
theorem E_t1 {r : List V → Hp → VK → Prop} {g : D → Option D} {rel : Rel V D} (hc : CallR X (.type T) r) (hg : Cg1 c r g rel) (hm : X.mg x = none) (ha : EB c X a fa) (hx : Gl X x := by rfl) (hv : bootBuiltins x = some (.type T) := by decide +kernel)
    (hn : x ≠ "__name__" := by decide) (hdb : (x == ("__debug__" : Str)) = false := by decide) (hs : starEach [a] X.env = (false, eval a X.env) :: starEach [] X.env := by rfl) (hpl : (backTo pos (starEach [] X.env)).any (·.1) = false := by rfl) :
    PE X (.Call (.Name x p) [a] [] pos) (can c (op1 g fa) rel) :=
  peOf (pe_callTy hc hx hm hv (pa_cons ha pa_nil hs) hn hdb hs hpl) fun σ H Q ⟨B, ρ, fp, S, q⟩ => ⟨B, ρ, fp, S, at_bnd q fun x dx ρ1 fp1 B1 H1 g1 r1 q1 => hg g1.sr (fun _ z => g1.non z) r1 q1⟩
theorem EB_ofN (h : EN c X e fa) : EB c X e fa := peOf h fun σ H Q ⟨B, ρ, fp, S, q⟩ => ⟨B, ρ, fp, S, by
  unfold Cn.at at q ⊢
  cases e : fa ρ with
  | no => rw [e] at q; exact q
  | ex x d ρ' => rw [e] at q; exact q
  | ok d ρ' => rw [e] at q; exact fun v fp' B' H' g ⟨P, o, k⟩ => q v fp' B' H' g (.inr ⟨P, o⟩)⟩
end
def lenD : D → Option D
  | .tup xs => some (.int xs.length)
  | .lst xs => some (.int xs.length)
  | .scr xs => some (.int xs.length)
  | .str z => if z.length ≤ szL then some (.int z.length) else none
  | .dic es => some (.int es.length)
  | _ => none
def tupD : D → Option D
  | .tup xs => some (.tup xs)
  | .lst xs => some (.tup xs)
  | .scr xs => some (.tup xs)
  | _ => none
def lstD : D → Option D
  | .tup xs => some (.lst xs)
  | .lst xs => some (.lst xs)
  | .scr xs => some (.lst xs)
  | _ => none
def absD : D → Option D
  | .int i => some (.int (if i < 0 then -i else i))
  | _ => none
def intF : D → Option D
  | .int i => some (.int i)
  | .bl b => some (.int (if b then 1 else 0))
  | _ => none
def intsD : List D → Option (List Int)
  | [] => some []
  | .int i :: ds => (intsD ds).map (i :: ·)
  | _ => none
def blsD : List D → Option (List Bool)
  | [] => some []
  | .bl i :: ds => (blsD ds).map (i :: ·)
  | _ => none
def seqB : D → Option (List D)
  | .lst xs => some xs
  | .scr xs => some xs
  | _ => none
def sumD (d : D) : Option D := ((seqB d).bind intsD).map fun ns => .int ns.sum
def anyD (d : D) : Option D := ((seqB d).bind blsD).map fun bs => .bl (bs.any id)
def allD (d : D) : Option D := ((seqB d).bind blsD).map fun bs => .bl (bs.all id)
def maxI : List Int → Option Int
  | [] => none
  | x :: xs => some (xs.foldl max x)
def minI : List Int → Option Int
  | [] => none
  | x :: xs => some (xs.foldl min x)
def maxD (d : D) : Option D := (((seqB d).bind intsD).bind maxI).map .int
def minD (d : D) : Option D := (((seqB d).bind intsD).bind minI).map .int
theorem intsD_v : ∀ {ds : List D} {ns : List Int}, intsD ds = some ns → ds = ns.map D.int
  | [], ns, h => by cases h; rfl
  | .int i :: ds, ns, h => by
    unfold intsD at h
    cases e : intsD ds with
    | none => rw [e] at h; cases h
    | some ms => rw [e] at h; cases h; rw [List.map_cons, intsD_v e]
  | .non :: _, _, h => by cases h
  | .bl _ :: _, _, h => by cases h
  | .str _ :: _, _, h => by cases h
  | .tup _ :: _, _, h => by cases h
  | .lst _ :: _, _, h => by cases h
  | .scr _ :: _, _, h => by cases h
  | .dic _ :: _, _, h => by cases h
  | .dit _ :: _, _, h => by cases h
theorem intsD_map : ∀ (ns : List Int), intsD (ns.map D.int) = some ns
  | [] => rfl
  | n :: ns => by rw [List.map_cons]; unfold intsD; rw [intsD_map ns]; rfl
theorem blsD_v : ∀ {ds : List D} {ns : List Bool}, blsD ds = some ns → ds = ns.map D.bl
  | [], ns, h => by cases h; rfl
  | .bl i :: ds, ns, h => by
    unfold blsD at h
    cases e : blsD ds with
    | none => rw [e] at h; cases h
    | some ms => rw [e] at h; cases h; rw [List.map_cons, blsD_v e]
  | .non :: _, _, h => by cases h
  | .int _ :: _, _, h => by cases h
  | .str _ :: _, _, h => by cases h
  | .tup _ :: _, _, h => by cases h
  | .lst _ :: _, _, h => by cases h
  | .scr _ :: _, _, h => by cases h
  | .dic _ :: _, _, h => by cases h
  | .dit _ :: _, _, h => by cases h
theorem blsD_map : ∀ (ns : List Bool), blsD (ns.map D.bl) = some ns
  | [] => rfl
  | n :: ns => by rw [List.map_cons]; unfold blsD; rw [blsD_map ns]; rfl
theorem RepL.bls {K : PySem.W.Frag} {B : Hp} : ∀ {xs : List V} {ns : List Bool}, RepL K B xs (ns.map D.bl) → xs = ns.map V.bl
  | _, [], .nil => rfl
  | _, _ :: _, .cons (.bl _) t => congrArg _ (RepL.bls t)
theorem seqB_bor {K : PySem.W.Frag} {B H : Hp} {x : V} {d : D} {ds : List D} (ex : Ex B H) (h : Bor K B H x d) (e : seqB d = some ds) : ∃ a xs, x = .ref a ∧ SqL K H a xs ∧ RepL K B xs ds := by
  cases d <;> try cases e
  · rcases h with h | ⟨P, h⟩
    · cases h with
      | lst e r => exact ⟨_, _, rfl, SqL.of (ex _ _ e), r⟩
    · cases h with
      | lst p e r => exact ⟨_, _, rfl, SqL.of e, r⟩
  · rcases h with h | ⟨P, h⟩
    · cases h with
      | scr e r => exact ⟨_, _, rfl, ex.l e, r⟩
    · cases h
theorem foldl_max : ∀ (xs : List Int) (x : Int), xs.foldl max x ∈ x :: xs ∧ ∀ y ∈ x :: xs, y ≤ xs.foldl max x
  | [], x => ⟨by simp, fun y h => by simp at h; exact Int.le_of_eq h⟩
  | z :: xs, x => by
    obtain ⟨h1, h2⟩ := foldl_max xs (max x z)
    rw [List.foldl_cons]
    refine ⟨?_, fun y h => ?_⟩
    · rcases List.mem_cons.mp h1 with e | e
      · rw [e]
        rcases Int.le_total x z with q | q
        · rw [Int.max_eq_right q]; simp
        · rw [Int.max_eq_left q]; simp
      · exact List.mem_cons_of_mem _ (List.mem_cons_of_mem _ e)
    · have m := h2 (max x z) List.mem_cons_self
      rcases List.mem_cons.mp h with e | e
      · omega
      · rcases List.mem_cons.mp e with e | e
        · omega
        · exact h2 y (List.mem_cons_of_mem _ e)
theorem foldl_min : ∀ (xs : List Int) (x : Int), xs.foldl min x ∈ x :: xs ∧ ∀ y ∈ x :: xs, xs.foldl min x ≤ y
  | [], x => ⟨by simp, fun y h => by simp at h; exact Int.le_of_eq h.symm⟩
  | z :: xs, x => by
    obtain ⟨h1, h2⟩ := foldl_min xs (min x z)
    rw [List.foldl_cons]
    refine ⟨?_, fun y h => ?_⟩
    · rcases List.mem_cons.mp h1 with e | e
      · rw [e]
        rcases Int.le_total x z with q | q
        · rw [Int.min_eq_left q]; simp
        · rw [Int.min_eq_right q]; simp
      · exact List.mem_cons_of_mem _ (List.mem_cons_of_mem _ e)
    · have m := h2 (min x z) List.mem_cons_self
      rcases List.mem_cons.mp h with e | e
      · omega
      · rcases List.mem_cons.mp e with e | e
        · omega
        · exact h2 y (List.mem_cons_of_mem _ e)
section
variable {c : Cn} {X : Cx} {a b e : Expr} {fa fb : M D} {p pos : Pos}
def rLenA (K : PySem.W.Frag) : List V → Hp → VK → Prop := fun xs H Q => (∃ p ys, xs = [.ref p] ∧ (SqL K H p ys ∨ SqT K H p ys) ∧ Q (.int ys.length) H) ∨ (∃ z, xs = [.str z] ∧ z.length ≤ sizeLine ∧ Q (.int z.length) H) ∨ (∃ a kvs, xs = [V.ref a] ∧ H a = some (.dK kvs) ∧ Q (.int kvs.length) H)
theorem cg_len : Cg1 c (rLenA c.K) lenD (relV c) := fun {fp0 H0 B ρ fp σ H x dx Q} S hz hx q => by
  obtain ⟨d, hd, k⟩ := at_lift q
  have kk : ∀ {n m : Nat}, n = m → D.int m = d → Q (.int n) H := fun e e2 => by subst e; subst e2; exact k _ fp B H (.refl S) (.int _)
  rcases hx with h | ⟨P, h⟩
  · cases h with
    | tup e r => cases hd; exact .inl ⟨_, _, rfl, .inr (SqT.of (S.ex _ _ e)), kk r.length rfl⟩
    | lst e r => cases hd; exact .inl ⟨_, _, rfl, .inl (SqL.of (S.ex _ _ e)), kk r.length rfl⟩
    | scr e r => cases hd; exact .inl ⟨_, _, rfl, .inl (S.ex.l e), kk r.length rfl⟩
    | dic e r => cases hd; exact .inr (.inr ⟨_, _, rfl, S.ex _ _ e, kk r.p.length rfl⟩)
    | str z =>
      obtain ⟨hl, rfl⟩ := ite_some hd
      exact .inr (.inl ⟨_, rfl, by rw [← szL_eq]; exact hl, kk rfl rfl⟩)
    | _ => cases hd
  · cases h with
    | lst p e r => cases hd; exact .inl ⟨_, _, rfl, .inl (SqL.of e), kk r.length rfl⟩
    | dic p e r => cases hd; exact .inr (.inr ⟨_, _, rfl, e, kk r.p.length rfl⟩)
    | _ => cases hd
theorem EV_len (hm : X.mg "len" = none) (ha : EB c X a fa) (hK : c.K = X.K := by rfl) (hx : Gl X "len" := by rfl) (hs : starEach [a] X.env = (false, eval a X.env) :: starEach [] X.env := by rfl) (hpl : (backTo pos (starEach [] X.env)).any (·.1) = false := by rfl) :
    EV c X (.Call (.Name "len" p) [a] [] pos) (op1 lenD fa) := E_b1 (call_len_seq.or (call_len_str.or call_lenD)) (by rw [← hK]; exact cg_len) hm ha hx (by decide +kernel) (by decide) (by decide) hs hpl
theorem cg_tup : Cg1 c (fun xs H Q => ∃ p ys, xs = [.ref p] ∧ ((SqL c.K H p ys ∧ ∀ l, H l = none → Q (.ref l) (upd H l (.tup ys))) ∨ (SqT c.K H p ys ∧ Q (.ref p) H))) tupD (relV c) := fun {fp0 H0 B ρ fp σ H x dx Q} S hz hx q => by
  obtain ⟨d, hd, k⟩ := at_lift q
  rcases hx with h | ⟨P, h⟩
  · cases h with
    | tup e r => cases hd; exact ⟨_, _, rfl, .inr ⟨SqT.of (S.ex _ _ e), k _ fp B H (.refl S) (.tup e r)⟩⟩
    | lst e r => cases hd; exact ⟨_, _, rfl, .inl ⟨SqL.of (S.ex _ _ e), fun l hl => k _ _ _ _ (S.laid _ hl) (.tup upd_same (r.mono (Ex.new (S.ex.free hl))))⟩⟩
    | scr e r => cases hd; exact ⟨_, _, rfl, .inl ⟨S.ex.l e, fun l hl => k _ _ _ _ (S.laid _ hl) (.tup upd_same (r.mono (Ex.new (S.ex.free hl))))⟩⟩
    | _ => cases hd
  · cases h with
    | lst p e r => cases hd; exact ⟨_, _, rfl, .inl ⟨SqL.of e, fun l hl => k _ _ _ _ (S.laid _ hl) (.tup upd_same (r.mono (Ex.new (S.ex.free hl))))⟩⟩
    | _ => cases hd
theorem EV_tupO (hm : X.mg "tuple" = none) (ha : EB c X a fa) (hK : c.K = X.K := by rfl) (hx : Gl X "tuple" := by rfl) (hs : starEach [a] X.env = (false, eval a X.env) :: starEach [] X.env := by rfl) (hpl : (backTo pos (starEach [] X.env)).any (·.1) = false := by rfl) :
    EV c X (.Call (.Name "tuple" p) [a] [] pos) (op1 tupD fa) := E_t1 call_tuple_of (by rw [← hK]; exact cg_tup) hm ha hx (by decide +kernel) (by decide) (by decide) hs hpl
theorem cg_lst : Cg1 c (fun xs H Q => ∃ p ys, xs = [.ref p] ∧ (SqL c.K H p ys ∨ SqT c.K H p ys) ∧ ∀ l, H l = none → Q (.ref l) (upd H l (.lst ys))) lstD (relN c) := fun {fp0 H0 B ρ fp σ H x dx Q} S hz hx q => by
  obtain ⟨d, hd, k⟩ := at_lift q
  rcases hx with h | ⟨P, h⟩
  · cases h with
    | tup e r => cases hd; exact ⟨_, _, rfl, .inr (SqT.of (S.ex _ _ e)), fun l hl => fin_own S k hl (hz _ hl) (.lst rfl upd_same r)⟩
    | lst e r => cases hd; exact ⟨_, _, rfl, .inl (SqL.of (S.ex _ _ e)), fun l hl => fin_own S k hl (hz _ hl) (.lst rfl upd_same r)⟩
    | scr e r => cases hd; exact ⟨_, _, rfl, .inl (S.ex.l e), fun l hl => fin_own S k hl (hz _ hl) (.lst rfl upd_same r)⟩
    | _ => cases hd
  · cases h with
    | lst p e r => cases hd; exact ⟨_, _, rfl, .inl (SqL.of e), fun l hl => fin_own S k hl (hz _ hl) (.lst rfl upd_same r)⟩
    | _ => cases hd
theorem EN_lstO (hm : X.mg "list" = none) (ha : EB c X a fa) (hK : c.K = X.K := by rfl) (hx : Gl X "list" := by rfl) (hs : starEach [a] X.env = (false, eval a X.env) :: starEach [] X.env := by rfl) (hpl : (backTo pos (starEach [] X.env)).any (·.1) = false := by rfl) :
    EN c X (.Call (.Name "list" p) [a] [] pos) (op1 lstD fa) := E_t1 call_list_of (by rw [← hK]; exact cg_lst) hm ha hx (by decide +kernel) (by decide) (by decide) hs hpl
theorem cg_abs : Cg1 c (fun xs H Q => ∃ i, xs = [.int i] ∧ Q (.int (if i < 0 then -i else i)) H) absD (relV c) := fun {fp0 H0 B ρ fp σ H x dx Q} S hz hx q => by
  obtain ⟨d, hd, k⟩ := at_lift q
  rcases hx with h | ⟨P, h⟩
  · cases h <;> try cases hd
    exact ⟨_, rfl, k _ fp B H (.refl S) (.int _)⟩
  · cases h <;> cases hd
theorem EV_abs (hm : X.mg "abs" = none) (ha : EB c X a fa) (hx : Gl X "abs" := by rfl) (hs : starEach [a] X.env = (false, eval a X.env) :: starEach [] X.env := by rfl) (hpl : (backTo pos (starEach [] X.env)).any (·.1) = false := by rfl) :
    EV c X (.Call (.Name "abs" p) [a] [] pos) (op1 absD fa) := E_b1 call_abs cg_abs hm ha hx (by decide +kernel) (by decide) (by decide) hs hpl
theorem cg_int : Cg1 c (fun xs H Q => (∃ i, xs = [.int i] ∧ Q (.int i) H) ∨ ∃ k, xs = [.bl k] ∧ Q (.int (if k then 1 else 0)) H) intF (relV c) := fun {fp0 H0 B ρ fp σ H x dx Q} S hz hx q => by
  obtain ⟨d, hd, k⟩ := at_lift q
  rcases hx with h | ⟨P, h⟩
  · cases h <;> try cases hd
    · exact .inr ⟨_, rfl, k _ fp B H (.refl S) (.int _)⟩
    · exact .inl ⟨_, rfl, k _ fp B H (.refl S) (.int _)⟩
  · cases h <;> cases hd
theorem EV_int' (hm : X.mg "int" = none) (ha : EB c X a fa) (hx : Gl X "int" := by rfl) (hs : starEach [a] X.env = (false, eval a X.env) :: starEach [] X.env := by rfl) (hpl : (backTo pos (starEach [] X.env)).any (·.1) = false := by rfl) :
    EV c X (.Call (.Name "int" p) [a] [] pos) (op1 intF fa) := E_t1 call_int1 cg_int hm ha hx (by decide +kernel) (by decide) (by decide) hs hpl
theorem cg_sum : Cg1 c (rSum c.K) sumD (relV c) := fun {fp0 H0 B ρ fp σ H x dx Q} S hz hx q => by
  obtain ⟨d, hd, k⟩ := at_lift q
  unfold sumD at hd
  cases e : seqB dx with
  | none => rw [e] at hd; cases hd
  | some ds =>
    cases e2 : intsD ds with
    | none => rw [e] at hd; simp only [Option.bind_some, e2] at hd; cases hd
    | some ns =>
      rw [e] at hd; simp only [Option.bind_some, e2] at hd; cases hd
      obtain ⟨a, xs, rfl, hs, r⟩ := seqB_bor S.ex hx e
      rw [intsD_v e2] at r
      exact ⟨a, ns, rfl, by rw [← r.ints]; exact hs, k _ fp B H (.refl S) (.int _)⟩
theorem EV_sum (hm : X.mg "sum" = none) (hc : X.calm = true) (ha : EB c X a fa) (hK : c.K = X.K := by rfl) (hx : Gl X "sum" := by rfl) (hs : starEach [a] X.env = (false, eval a X.env) :: starEach [] X.env := by rfl) (hpl : (backTo pos (starEach [] X.env)).any (·.1) = false := by rfl) :
    EV c X (.Call (.Name "sum" p) [a] [] pos) (op1 sumD fa) := E_b1 (cr_sum hc) (by rw [← hK]; exact cg_sum) hm ha hx (by decide +kernel) (by decide) (by decide) hs hpl
theorem cg_any : Cg1 c (rAny c.K) anyD (relV c) := fun {fp0 H0 B ρ fp σ H x dx Q} S hz hx q => by
  obtain ⟨d, hd, k⟩ := at_lift q
  unfold anyD at hd
  cases e : seqB dx with
  | none => rw [e] at hd; cases hd
  | some ds =>
    cases e2 : blsD ds with
    | none => rw [e] at hd; simp only [Option.bind_some, e2] at hd; cases hd
    | some ns =>
      rw [e] at hd; simp only [Option.bind_some, e2] at hd; cases hd
      obtain ⟨a, xs, rfl, hs, r⟩ := seqB_bor S.ex hx e
      rw [blsD_v e2] at r
      exact ⟨a, ns, rfl, by rw [← r.bls]; exact hs, k _ fp B H (.refl S) (.bl _)⟩
theorem EV_any (hm : X.mg "any" = none) (hc : X.calm = true) (ha : EB c X a fa) (hK : c.K = X.K := by rfl) (hx : Gl X "any" := by rfl) (hs : starEach [a] X.env = (false, eval a X.env) :: starEach [] X.env := by rfl) (hpl : (backTo pos (starEach [] X.env)).any (·.1) = false := by rfl) :
    EV c X (.Call (.Name "any" p) [a] [] pos) (op1 anyD fa) := E_b1 (cr_any hc) (by rw [← hK]; exact cg_any) hm ha hx (by decide +kernel) (by decide) (by decide) hs hpl
theorem cg_all : Cg1 c (rAll c.K) allD (relV c) := fun {fp0 H0 B ρ fp σ H x dx Q} S hz hx q => by
  obtain ⟨d, hd, k⟩ := at_lift q
  unfold allD at hd
  cases e : seqB dx with
  | none => rw [e] at hd; cases hd
  | some ds =>
    cases e2 : blsD ds with
    | none => rw [e] at hd; simp only [Option.bind_some, e2] at hd; cases hd
    | some ns =>
      rw [e] at hd; simp only [Option.bind_some, e2] at hd; cases hd
      obtain ⟨a, xs, rfl, hs, r⟩ := seqB_bor S.ex hx e
      rw [blsD_v e2] at r
      exact ⟨a, ns, rfl, by rw [← r.bls]; exact hs, k _ fp B H (.refl S) (.bl _)⟩
theorem EV_all (hm : X.mg "all" = none) (hc : X.calm = true) (ha : EB c X a fa) (hK : c.K = X.K := by rfl) (hx : Gl X "all" := by rfl) (hs : starEach [a] X.env = (false, eval a X.env) :: starEach [] X.env := by rfl) (hpl : (backTo pos (starEach [] X.env)).any (·.1) = false := by rfl) :
    EV c X (.Call (.Name "all" p) [a] [] pos) (op1 allD fa) := E_b1 (cr_all hc) (by rw [← hK]; exact cg_all) hm ha hx (by decide +kernel) (by decide) (by decide) hs hpl
theorem cg_max : Cg1 c (rMax c.K) maxD (relV c) := fun {fp0 H0 B ρ fp σ H x dx Q} S hz hx q => by
  obtain ⟨d, hd, k⟩ := at_lift q
  unfold maxD at hd
  cases e : seqB dx with
  | none => rw [e] at hd; cases hd
  | some ds =>
    cases e2 : intsD ds with
    | none => rw [e] at hd; simp only [Option.bind_some, e2] at hd; cases hd
    | some ns =>
      rw [e] at hd; simp only [Option.bind_some, e2] at hd
      cases ns with
      | nil => cases hd
      | cons n ns =>
        cases hd
        obtain ⟨a, xs, rfl, hs, r⟩ := seqB_bor S.ex hx e
        rw [intsD_v e2] at r
        obtain ⟨m1, m2⟩ := foldl_max ns n
        refine ⟨a, n :: ns, rfl, by rw [← r.ints]; exact hs, by simp, fun m h1 h2 => ?_⟩
        have : m = ns.foldl max n := by
          have a1 := h2 _ m1
          have a2 := m2 _ h1
          omega
        rw [this]
        exact k _ fp B H (.refl S) (.int _)
theorem EV_max (hm : X.mg "max" = none) (hc : X.calm = true) (ha : EB c X a fa) (hK : c.K = X.K := by rfl) (hx : Gl X "max" := by rfl) (hs : starEach [a] X.env = (false, eval a X.env) :: starEach [] X.env := by rfl) (hpl : (backTo pos (starEach [] X.env)).any (·.1) = false := by rfl) :
    EV c X (.Call (.Name "max" p) [a] [] pos) (op1 maxD fa) := E_b1 (cr_max hc) (by rw [← hK]; exact cg_max) hm ha hx (by decide +kernel) (by decide) (by decide) hs hpl
theorem cg_min : Cg1 c (rMin c.K) minD (relV c) := fun {fp0 H0 B ρ fp σ H x dx Q} S hz hx q => by
  obtain ⟨d, hd, k⟩ := at_lift q
  unfold minD at hd
  cases e : seqB dx with
  | none => rw [e] at hd; cases hd
  | some ds =>
    cases e2 : intsD ds with
    | none => rw [e] at hd; simp only [Option.bind_some, e2] at hd; cases hd
    | some ns =>
      rw [e] at hd; simp only [Option.bind_some, e2] at hd
      cases ns with
      | nil => cases hd
      | cons n ns =>
        cases hd
        obtain ⟨a, xs, rfl, hs, r⟩ := seqB_bor S.ex hx e
        rw [intsD_v e2] at r
        obtain ⟨m1, m2⟩ := foldl_min ns n
        refine ⟨a, n :: ns, rfl, by rw [← r.ints]; exact hs, by simp, fun m h1 h2 => ?_⟩
        have : m = ns.foldl min n := by
          have a1 := h2 _ m1
          have a2 := m2 _ h1
          omega
        rw [this]
        exact k _ fp B H (.refl S) (.int _)
theorem EV_min (hm : X.mg "min" = none) (hc : X.calm = true) (ha : EB c X a fa) (hK : c.K = X.K := by rfl) (hx : Gl X "min" := by rfl) (hs : starEach [a] X.env = (false, eval a X.env) :: starEach [] X.env := by rfl) (hpl : (backTo pos (starEach [] X.env)).any (·.1) = false := by rfl) :
    EV c X (.Call (.Name "min" p) [a] [] pos) (op1 minD fa) := E_b1 (cr_min hc) (by rw [← hK]; exact cg_min) hm ha hx (by decide +kernel) (by decide) (by decide) hs hpl
/-! max, min of two; isinstance -/
def max2 : List D → Option D
  | [.int i, .int j] => some (.int (if j > i then j else i))
  | _ => none
def min2 : List D → Option D
  | [.int i, .int j] => some (.int (if j < i then j else i))
  | _ => none
theorem two_ints {K : PySem.W.Frag} {B : Hp} {vs : List V} {i j : Int} (h : RepL K B vs [.int i, .int j]) : vs = [.int i, .int j] := RepL.ints (ns := [i, j]) h
theorem EV_max2 (hm : X.mg "max" = none) (hc : X.calm = true) (ha : EV c X a fa) (hb : EV c X b fb) (hx : Gl X "max" := by rfl) (hs : starEach [a, b] X.env = (false, eval a X.env) :: starEach [b] X.env := by rfl) (hs2 : starEach [b] X.env = (false, eval b X.env) :: starEach [] X.env := by rfl) (hpl : (backTo pos (starEach [b] X.env)).any (·.1) = false := by rfl) :
    EV c X (.Call (.Name "max" p) [a, b] [] pos) (bnd (aCons fa (aCons fb aNil)) fun xs => lift (max2 xs)) :=
  peOf (pe_callB (call_max2 hc) hx hm (by decide +kernel) (EA_cons ha (EA_cons hb EA_nil hs2) hs) (by decide) (by decide) hs hpl) fun σ H Q ⟨B, ρ, fp, S, q⟩ => ⟨B, ρ, fp, S, at_bnd q fun vs ds ρ1 fp1 B1 H1 g r q1 => by
    obtain ⟨d, hd, k⟩ := at_lift q1
    have r := relA_v (n := 2) (B := B) (H := H) r
    unfold max2 at hd
    split at hd <;> cases hd
    exact ⟨_, _, two_ints r, k _ fp1 B1 H1 (.refl g.sr) (.int _)⟩⟩
theorem EV_min2 (hm : X.mg "min" = none) (hc : X.calm = true) (ha : EV c X a fa) (hb : EV c X b fb) (hx : Gl X "min" := by rfl) (hs : starEach [a, b] X.env = (false, eval a X.env) :: starEach [b] X.env := by rfl) (hs2 : starEach [b] X.env = (false, eval b X.env) :: starEach [] X.env := by rfl) (hpl : (backTo pos (starEach [b] X.env)).any (·.1) = false := by rfl) :
    EV c X (.Call (.Name "min" p) [a, b] [] pos) (bnd (aCons fa (aCons fb aNil)) fun xs => lift (min2 xs)) :=
  peOf (pe_callB (call_min2 hc) hx hm (by decide +kernel) (EA_cons ha (EA_cons hb EA_nil hs2) hs) (by decide) (by decide) hs hpl) fun σ H Q ⟨B, ρ, fp, S, q⟩ => ⟨B, ρ, fp, S, at_bnd q fun vs ds ρ1 fp1 B1 H1 g r q1 => by
    obtain ⟨d, hd, k⟩ := at_lift q1
    have r := relA_v (n := 2) (B := B) (H := H) r
    unfold min2 at hd
    split at hd <;> cases hd
    exact ⟨_, _, two_ints r, k _ fp1 B1 H1 (.refl g.sr) (.int _)⟩⟩
def tyD : D → String
  | .non => "NoneType"
  | .bl _ => "bool"
  | .int _ => "int"
  | .str _ => "str"
  | .tup _ => "tuple"
  | .lst _ => "list"
  | .scr _ => "list"
  | .dic _ => "dict"
  | .dit _ => "dict"
theorem ty_rep {K : PySem.W.Frag} {B H : Hp} {x : V} {d : D} (ex : Ex B H) (h : Rep K B x d) (hd : tyD d ≠ "list") : TyX K H x (.type (tyD d)) := by
  cases h with
  | non => exact .base .non
  | bl b => exact .base (.bl b)
  | int b => exact .base (.int b)
  | str b => exact .base (.str b)
  | tup e _ => exact .base (.tup (ex _ _ e))
  | lst e _ => exact (hd rfl).elim
  | scr e _ => exact (hd rfl).elim
  | dic e _ => exact .base (.dK (ex _ _ e))
  | dit e _ => exact .base (.dT (ex _ _ e))
def isiD (T : String) (d : D) : Option D := if tyD d ≠ "list" then (kitB (tyD d) T).map .bl else none
theorem EV_isi {T : Str} {Ts : String} {p2 : Pos} (hm : X.mg "isinstance" = none) (hmT : X.mg T = none) (hbT : bootBuiltins T = some (.type Ts)) (ha : EV c X a fa) (hK : c.K = X.K := by rfl) (hx : Gl X "isinstance" := by rfl) (hxT : Gl X T := by rfl) (hnT : T ≠ "__name__" := by decide) (hdT : (T == ("__debug__" : Str)) = false := by decide)
    (hs : starEach [a, .Name T p2] X.env = (false, eval a X.env) :: starEach [.Name T p2] X.env := by rfl) (hs2 : starEach [.Name T p2] X.env = (false, eval (.Name T p2) X.env) :: starEach [] X.env := by rfl) (hpl : (backTo pos (starEach [.Name T p2] X.env)).any (·.1) = false := by rfl) :
    EV c X (.Call (.Name "isinstance" p) [a, .Name T p2] [] pos) (op1 (isiD Ts) fa) :=
  peOf (pe_callB call_isi hx hm (by decide +kernel) (pa_cons ha (pa_cons (pe_bltn (v := .ty Ts) hxT hmT hbT rfl hnT hdT) pa_nil hs2) hs) (by decide) (by decide) hs hpl) fun σ H Q ⟨B, ρ, fp, S, q⟩ => ⟨B, ρ, fp, S, at_bnd q fun x dx ρ1 fp1 B1 H1 g1 r1 q1 => by
    obtain ⟨d, hd, k⟩ := at_lift q1
    unfold isiD at hd
    by_cases hl : tyD dx ≠ "list"
    · rw [if_pos hl] at hd
      cases e : kitB (tyD dx) Ts with
      | none => rw [e] at hd; cases hd
      | some b =>
        rw [e] at hd
        cases hd
        exact ⟨x, .ty Ts, _, _, b, rfl, .ty Ts, by rw [← hK]; exact ty_rep g1.sr.ex r1 hl, kit_ty e, k _ fp1 B1 H1 (.refl g1.sr) (.bl _)⟩
    · rw [if_neg hl] at hd; cases hd⟩
end
end Fl

set_option maxHeartbeats 1000000
namespace Fl
open PySem PySem.Spec PyProof.Rows L2

/-! ### methods of the thing of a slot -/
def updS (j : Nat) (g : D → Option (D × D)) : M D := fun ρ => match get ρ j with
  | some d => match g d with
    | some (r, d') => .ok r (ρ.set j (some d'))
    | none => .no
  | none => .no
def isLst : D → Option Unit
  | .lst _ => some ()
  | _ => none
def methM (j : Nat) (m : D → List D → Option (D × D)) (fa : M (List D)) : M D := bnd (rd j) fun d0 => bnd (lift (isLst d0)) fun _ => bnd fa fun xs => updS j fun d => m d xs
def MtO (c : Cn) (r : V → List V → Hp → VK → Prop) (m : D → List D → Option (D × D)) : Prop := ∀ {B H : Hp} {P : Addr → Prop} {v : V} {d : D} {xs : List V} {ds : List D} {res d' : D} {Q : VK}, Ex B H → (∀ a, P a → B a = none) → Own c.K B H P v d → RepL c.K B xs ds → m d ds = some (res, d') →
  (∀ a o vr, v = .ref a → P a → Own c.K B (upd H a o) P v d' → Rep c.K B vr res → Q vr (upd H a o)) → r v xs H Q
theorem getE_lt {ρ : Rho} {j : Nat} {d : D} (h : get ρ j = some d) : j < ρ.length := (List.getElem?_eq_some_iff.mp (get_some h)).1
section
variable {c : Cn} {X : Cx} {o e a b : Expr} {es : List Expr} {fa fb : M D} {fs : M (List D)} {name : Str} {pos apos cpos : Pos} {id : String} {r : V → List V → Hp → VK → Prop} {m : D → List D → Option (D × D)} {j : Nat}
theorem at_upd {σ : L2.St} {fp0 : Fp} {H0 : Hp} {B H : Hp} {ρ : Rho} {fp : Fp} {g : D → Option (D × D)} {Q : VK} (q : c.at fp0 H0 B ρ fp (updS j g) (relV c) σ H Q) : ∃ d res d', get ρ j = some d ∧ g d = some (res, d') ∧ ∀ b fp' B' H', Go c.K c.ow fp B H σ (ρ.set j (some d')) fp' B' H' → Rep c.K B' b res → Q b H' := by
  unfold Cn.at updS at q
  cases e : get ρ j with
  | none => rw [e] at q; exact q.elim
  | some d =>
    rw [e] at q
    simp only at q
    cases e2 : g d with
    | none => rw [e2] at q; exact q.elim
    | some p =>
      obtain ⟨res, d'⟩ := p
      rw [e2] at q
      exact ⟨d, res, d', rfl, e2, q⟩
theorem meth_fin {σ : L2.St} {fp0 : Fp} {H0 : Hp} {B H : Hp} {ρ : Rho} {fp : Fp} {Q : VK} {v : V} {xs : List V} {ds : List D} (S : SR c.K c.ow B H σ ρ fp) (ho : c.ow j = true) (hm : MtO c r m) (hv : σ[j]? = some (some v)) (hx : RepL c.K B xs ds) (q : c.at fp0 H0 B ρ fp (updS j fun d => m d ds) (relV c) σ H Q) : r v xs H Q := by
  obtain ⟨d, res, d', h1, h2, k⟩ := at_upd q
  obtain ⟨v2, hv2, o2⟩ := S.own ho (get_some h1)
  rw [hv] at hv2; cases hv2
  refine hm S.ex (S.ub j) o2 hx h2 fun a o vr ev hp ow2 rr => ?_
  subst ev
  exact k vr fp B _ (S.write ho (getE_lt h1) hv hp ow2) rr
theorem ty_own {K : PySem.W.Frag} {B H : Hp} {P : Addr → Prop} {v : V} {d : D} (h : Own K B H P v d) (e : isLst d = some ()) : tyV K "list" v H := by
  cases h with
  | lst p q r => exact .inl ⟨rfl, _, SqL.of q⟩
  | _ => cases e
theorem EV_meth (slot : Slot "list" name id) (hty : typeOf (.builtin id) = pure (.type "method_descriptor")) (hr : MtR X id r) (hm : MtO c r m) (ho : PE X o (tVar j)) {n : Nat} (ha : EA c X (List.replicate n .v) (e :: es) fs) (hj : c.ow j = true := by rfl) (hK : c.K = X.K := by rfl)
    (hbase : attributeBase o name X.env (eval o X.env) = eval o X.env := by rfl)
    (hfew : ((backTo cpos (starEach (e :: es) X.env)).all (fun x => !x.1) && (backToKw cpos (keywordEach [] X.env)).all (fun x => x.1.isSome)
      && decide ((e :: es).length + ([] : List Keyword).length + (if ([] : List Keyword).isEmpty then 0 else 1) < 30)) = true := by rfl)
    (hline : (apos.endLine == cpos.line) = true := by rfl) (hs : starEach (e :: es) X.env = (false, eval e X.env) :: starEach es X.env := by rfl) (hplain : (backTo cpos (starEach es X.env)).any (·.1) = false := by rfl) :
    EV c X (.Call (.Attribute o name apos) (e :: es) [] cpos) (methM j m fs) :=
  peOf (pe_bm PySem.F.plainAttrs_list slot hty hr ho ha hbase hfew hline hs hplain) fun σ H Q ⟨B, ρ, fp, S, q⟩ => by
    obtain ⟨d0, hd0, q0⟩ := at_rd q
    obtain ⟨_, hl, q1⟩ := at_bl q0
    obtain ⟨v, hv, o0⟩ := S.own hj (get_some hd0)
    refine ⟨v, hv, by rw [← hK]; exact ty_own o0 hl, B, ρ, fp, S, at_bnd q1 fun vs ds ρ2 fp2 B2 H2 g2 r2 q2 => ?_⟩
    exact meth_fin g2.sr hj hm hv (relA_v (n := n) (B := B) (H := H) r2) q2
theorem EV_meth0 (slot : Slot "list" name id) (hty : typeOf (.builtin id) = pure (.type "method_descriptor")) (hr : MtR X id r) (hm : MtO c r m) (ho : PE X o (tVar j)) (hj : c.ow j = true := by rfl) (hK : c.K = X.K := by rfl)
    (hbase : attributeBase o name X.env (eval o X.env) = eval o X.env := by rfl) (hline : (apos.endLine == cpos.line) = true := by rfl) :
    EV c X (.Call (.Attribute o name apos) [] [] cpos) (methM j m aNil) :=
  peOf (pe_bm0 PySem.F.plainAttrs_list slot hty hr ho hbase hline) fun σ H Q ⟨B, ρ, fp, S, q⟩ => by
    obtain ⟨d0, hd0, q0⟩ := at_rd q
    obtain ⟨_, hl, q1⟩ := at_bl q0
    obtain ⟨v, hv, o0⟩ := S.own hj (get_some hd0)
    exact ⟨v, hv, by rw [← hK]; exact ty_own o0 hl, meth_fin (ds := []) S hj hm hv .nil q1⟩
end
def appD : D → List D → Option (D × D)
  | .lst xs, [y] => if xs.length < szL then some (.non, .lst (xs ++ [y])) else none
  | _, _ => none
def tupB : D → Option (List D)
  | .lst ys => some ys
  | .tup ys => some ys
  | _ => none
def extD : D → List D → Option (D × D)
  | .lst xs, [y] => match tupB y with
    | some ys => if xs.length + ys.length ≤ szL then some (.non, .lst (xs ++ ys)) else none
    | none => none
  | _, _ => none
def pop0 : D → List D → Option (D × D)
  | .lst xs, [] => match xs[xs.length - 1]? with
    | some y => some (y, .lst xs.dropLast)
    | none => none
  | _, _ => none
def popK (xs : List D) (i : Int) : Option (D × D) := if okR i = true then match seqIndex? i xs.length with
    | some k => match xs[k]? with
      | some y => some (y, .lst (xs.eraseIdx k))
      | none => none
    | none => none
    else none
def popI : D → List D → Option (D × D)
  | .lst xs, [d] => match intD d with
    | some i => popK xs i
    | none => none
  | _, _ => none
section
variable {c : Cn} {X : Cx} {o e a b : Expr} {es : List Expr} {fa fb : M D} {fs : M (List D)} {pos apos cpos : Pos} {j : Nat}
theorem mo_app : MtO c rAppend appD := fun {B H P v d xs ds res d' Q} ex hu ho hx h k => by
  cases ho with
  | lst p e r =>
    cases hx with
    | nil => cases h
    | cons a t =>
      cases t with
      | nil =>
        obtain ⟨hl, h⟩ := ite_some h
        cases h
        exact ⟨_, _, _, rfl, rfl, e, by rw [r.length, ← szL_eq]; exact hl, k _ _ _ rfl p (.lst p upd_same (r.app (.one a))) .non⟩
      | cons _ _ => cases h
  | _ => cases h
def rExtA (K : PySem.W.Frag) : V → List V → Hp → VK → Prop := fun x vs H Q => rExtend x vs H Q ∨ rExtT K x vs H Q
theorem mt_extA : MtR X "list.extend" (rExtA X.K) := MtR.or mt_extend mt_extendT
theorem mo_ext : MtO c (rExtA c.K) extD := fun {B H P v d xs ds res d' Q} ex hu ho hx h k => by
  cases ho with
  | lst p e r =>
    cases hx with
    | nil => cases h
    | cons a t =>
      cases t with
      | nil =>
        have h' : (match tupB _ with | some ys => if _ + ys.length ≤ szL then some (D.non, D.lst (_ ++ ys)) else none | none => none) = some (res, d') := h
        cases a with
        | lst e2 r2 =>
          obtain ⟨hl, h⟩ := ite_some h'
          cases h
          exact .inl ⟨_, _, _, _, rfl, rfl, e, ex _ _ e2, by rw [r.length, r2.length, ← szL_eq]; exact hl, k _ _ _ rfl p (.lst p upd_same (r.app r2)) .non⟩
        | tup e2 r2 =>
          obtain ⟨hl, h⟩ := ite_some h'
          cases h
          exact .inr ⟨_, _, _, _, rfl, rfl, e, SqT.of (ex _ _ e2), by rw [r.length, r2.length, ← szL_eq]; exact hl, k _ _ _ rfl p (.lst p upd_same (r.app r2)) .non⟩
        | _ => cases h'
      | cons _ _ => cases h
  | _ => cases h
theorem rep_dropLast {K : PySem.W.Frag} {B : Hp} : ∀ {xs : List V} {ds : List D}, RepL K B xs ds → RepL K B xs.dropLast ds.dropLast
  | _, _, .nil => .nil
  | _, _, .cons _ .nil => .nil
  | _, _, .cons a (.cons b t) => .cons a (rep_dropLast (.cons b t))
theorem mo_pop : MtO c rPop pop0 := fun {B H P v d xs ds res d' Q} ex hu ho hx h k => by
  cases ho with
  | @lst a ys es p e r =>
    cases hx with
    | nil =>
      have h' : (match es[es.length - 1]? with | some y => some (y, D.lst es.dropLast) | none => none) = some (res, d') := h
      cases q : es[es.length - 1]? with
      | none => rw [q] at h'; cases h'
      | some y =>
        rw [q] at h'
        cases h'
        obtain ⟨v, h1, h2⟩ := r.get q
        exact ⟨_, _, _, rfl, rfl, e, by rw [r.length]; exact h1, k _ _ _ rfl p (.lst p upd_same (rep_dropLast r)) h2⟩
    | cons a t => cases h
  | _ => cases h
theorem mo_popI : MtO c rPopAt popI := fun {B H P v d xs ds res d' Q} ex hu ho hx h k => by
  cases ho with
  | @lst a ys es p e r =>
    cases hx with
    | nil => cases h
    | @cons x _ dx _ rx t =>
      cases t with
      | cons _ _ => cases h
      | nil =>
        have h' : (match intD dx with | some i => popK es i | none => none) = some (res, d') := h
        cases rx with
        | int i =>
          have h' : popK es i = some (res, d') := h'
          unfold popK at h'
          by_cases hi : okR i = true
          · rw [if_pos hi] at h'
            obtain ⟨b1, b2⟩ := okR_iff.mp hi
            cases q : seqIndex? i es.length with
            | none => rw [q] at h'; cases h'
            | some n =>
              rw [q] at h'
              simp only at h'
              cases q2 : es[n]? with
              | none => rw [q2] at h'; cases h'
              | some y =>
                rw [q2] at h'
                cases h'
                obtain ⟨v, h1, h2⟩ := r.get q2
                exact ⟨_, _, i, n, v, rfl, rfl, e, by omega, by omega, by rw [r.length]; exact q, h1, k _ _ _ rfl p (.lst p upd_same (r.erase n)) h2⟩
          · rw [if_neg hi] at h'; cases h'
        | _ => cases h'
  | _ => cases h
theorem EV_append (ho : PE X o (tVar j)) (ha : EV c X e fa) (hj : c.ow j = true := by rfl) (hK : c.K = X.K := by rfl)
    (hbase : attributeBase o "append" X.env (eval o X.env) = eval o X.env := by rfl)
    (hfew : ((backTo cpos (starEach [e] X.env)).all (fun x => !x.1) && (backToKw cpos (keywordEach [] X.env)).all (fun x => x.1.isSome)
      && decide ([e].length + ([] : List Keyword).length + (if ([] : List Keyword).isEmpty then 0 else 1) < 30)) = true := by rfl)
    (hline : (apos.endLine == cpos.line) = true := by rfl) (hs : starEach [e] X.env = (false, eval e X.env) :: starEach [] X.env := by rfl) (hplain : (backTo cpos (starEach [] X.env)).any (·.1) = false := by rfl) :
    EV c X (.Call (.Attribute o "append" apos) [e] [] cpos) (methM j appD (aCons fa aNil)) :=
  EV_meth PySem.F.slot_list_append PySem.F.type_list_append mt_append mo_app ho (n := 1) (EA_cons ha EA_nil hs) hj hK hbase hfew hline hs hplain
theorem EV_extend (ho : PE X o (tVar j)) (ha : EV c X e fa) (hj : c.ow j = true := by rfl) (hK : c.K = X.K := by rfl)
    (hbase : attributeBase o "extend" X.env (eval o X.env) = eval o X.env := by rfl)
    (hfew : ((backTo cpos (starEach [e] X.env)).all (fun x => !x.1) && (backToKw cpos (keywordEach [] X.env)).all (fun x => x.1.isSome)
      && decide ([e].length + ([] : List Keyword).length + (if ([] : List Keyword).isEmpty then 0 else 1) < 30)) = true := by rfl)
    (hline : (apos.endLine == cpos.line) = true := by rfl) (hs : starEach [e] X.env = (false, eval e X.env) :: starEach [] X.env := by rfl) (hplain : (backTo cpos (starEach [] X.env)).any (·.1) = false := by rfl) :
    EV c X (.Call (.Attribute o "extend" apos) [e] [] cpos) (methM j extD (aCons fa aNil)) :=
  EV_meth PySem.F.slot_list_extend PySem.F.type_list_extend mt_extA (by rw [← hK]; exact mo_ext) ho (n := 1) (EA_cons ha EA_nil hs) hj hK hbase hfew hline hs hplain
theorem EV_popI (ho : PE X o (tVar j)) (ha : EV c X e fa) (hj : c.ow j = true := by rfl) (hK : c.K = X.K := by rfl)
    (hbase : attributeBase o "pop" X.env (eval o X.env) = eval o X.env := by rfl)
    (hfew : ((backTo cpos (starEach [e] X.env)).all (fun x => !x.1) && (backToKw cpos (keywordEach [] X.env)).all (fun x => x.1.isSome)
      && decide ([e].length + ([] : List Keyword).length + (if ([] : List Keyword).isEmpty then 0 else 1) < 30)) = true := by rfl)
    (hline : (apos.endLine == cpos.line) = true := by rfl) (hs : starEach [e] X.env = (false, eval e X.env) :: starEach [] X.env := by rfl) (hplain : (backTo cpos (starEach [] X.env)).any (·.1) = false := by rfl) :
    EV c X (.Call (.Attribute o "pop" apos) [e] [] cpos) (methM j popI (aCons fa aNil)) :=
  EV_meth PySem.F.slot_list_pop PySem.F.type_list_pop mt_popAt mo_popI ho (n := 1) (EA_cons ha EA_nil hs) hj hK hbase hfew hline hs hplain
theorem EV_pop0 (ho : PE X o (tVar j)) (hj : c.ow j = true := by rfl) (hK : c.K = X.K := by rfl) (hbase : attributeBase o "pop" X.env (eval o X.env) = eval o X.env := by rfl) (hline : (apos.endLine == cpos.line) = true := by rfl) :
    EV c X (.Call (.Attribute o "pop" apos) [] [] cpos) (methM j pop0 aNil) :=
  EV_meth0 PySem.F.slot_list_pop PySem.F.type_list_pop mt_pop mo_pop ho hj hK hbase hline
end

/-! ### assignments -/
def asgS (f : M D) (g : G) : S := thn f fun d ρ => match g d ρ with
  | some ρ' => .nx ρ'
  | none => .no
def stD : D → D → D → Option D
  | .lst xs, .int i, d => (ixN xs.length i).map fun j => .lst (xs.set j d)
  | .dic es, k, d => putD (.dic es) k d
  | .dit es, k, d => putD (.dit es) k d
  | _, _, _ => none
/-- x[e] = .., x a slot of one's own -/
def gSubS (j : Nat) (fi : M D) : G := fun d ρ => match get ρ j with
  | none => none
  | some _ => match fi ρ with
    | .ok k ρ1 => match get ρ1 j with
      | some x => match stD x k d with
        | some x' => some (ρ1.set j (some x'))
        | none => none
      | none => none
    | _ => none
def rSetA : TSet := fun o i v H Q => rSetL o i v H Q ∨ ∃ a H', o = .ref a ∧ DPut H a i v H' ∧ Q H'
theorem st_own {K : PySem.W.Frag} {B H : Hp} {P : Addr → Prop} {x y v : V} {dx dy d dx' : D} {Q : Hp → Prop} (ex : Ex B H) (hub : ∀ a, P a → B a = none) (hx : Own K B H P x dx) (hy : Rep K B y dy) (hv : Rep K B v d) (h : stD dx dy d = some dx')
    (k : ∀ a o, x = .ref a → P a → Own K B (upd H a o) P x dx' → Q (upd H a o)) : rSetA x y v H Q := by
  have dd : ∀ {dx : D}, Own K B H P x dx → putD dx dy d = some dx' → rSetA x y v H Q := fun {dx} hx h => by
    obtain ⟨a, o, e1, p, g, ow⟩ := put_own ex hub hx hy hv h
    exact .inr ⟨a, _, e1, g, k a o e1 p ow⟩
  cases dx with
  | lst ds =>
    cases hx with
    | @lst a xs _ p e r =>
      cases hy with
      | int i =>
        have h' : (ixN ds.length i).map (fun j => D.lst (ds.set j d)) = some dx' := h
        cases q : ixN ds.length i with
        | none => rw [q] at h'; cases h'
        | some n =>
          rw [q] at h'
          cases h'
          exact .inl ⟨a, xs, i, n, rfl, rfl, e, by rw [r.length]; exact q, k a _ rfl p (.lst p upd_same (RepL.set hv n r))⟩
      | _ => cases h
  | dic es => exact dd hx h
  | dit es => exact dd hx h
  | _ => cases h
section
variable {c : Cn} {X : Cx} {o e a b i : Expr} {f fa fb : M D} {g : G} {tl : List Nat} {pos : Pos} {j : Nat}
theorem EG_sub {k : Nat} (hr : Room k X.A) (ho : PE X o (tVar j)) (hi : EV c X i fa) (hj : c.ow j = true := by rfl)
    (ha : ∀ v, assign (.Subscript o i pos) X.env v = (do
      let ov ← holding [v] (eval o X.env)
      let iv ← holding [v, ov] (eval i X.env)
      standAt pos
      holding [v, ov, iv] (setItem ov iv v)
      release [v, ov, iv] []) := by intro _; rfl) : EG c X (.Subscript o i pos) [] (gSubS j fa) :=
  pgOf (pg_sub ho hi (PSet.or set_list (set_dict (hu_of hr))) ha) fun v σ H Q ⟨B, ρ, fp, d, S, r, q⟩ => by
    unfold gSubS at q
    cases h0 : get ρ j with
    | none => rw [h0] at q; exact q.elim
    | some d0 =>
      rw [h0] at q
      simp only at q
      obtain ⟨x, hx, _⟩ := S.own hj (get_some h0)
      refine ⟨x, hx, B, ρ, fp, S, ?_⟩
      unfold Cn.at
      cases h1 : fa ρ with
      | no => rw [h1] at q; exact q.elim
      | ex _ _ _ => rw [h1] at q; exact q.elim
      | ok kk ρ1 =>
        rw [h1] at q
        simp only at q
        intro y fp1 B1 H1 g1 r1
        cases h2 : get ρ1 j with
        | none => rw [h2] at q; exact q.elim
        | some dx =>
          rw [h2] at q
          simp only at q
          cases h3 : stD dx kk d with
          | none => rw [h3] at q; exact q.elim
          | some dx' =>
            rw [h3] at q
            simp only at q
            obtain ⟨x2, hx2, o2⟩ := g1.sr.own hj (get_some h2)
            rw [hx] at hx2; cases hx2
            refine st_own (Q := fun H3 => Q σ H3) g1.sr.ex (g1.sr.ub j) o2 r1 (r.mono g1.b) h3 fun a o ea pa ow => ?_
            subst ea
            exact q σ fp1 B1 _ (g1.trans (g1.sr.write hj (getE_lt h2) hx pa ow)) (.refl σ)
theorem ES_asg {tg : Expr} (he : EV c X e f) (hg : EG c X tg tl g) (hk : (tl.all fun i => !c.kp i) = true := by rfl) (hs : swapsWithSole [tg] e pos.line X.env = pure false := by rfl) (hw : swappedStores [tg] e X.env = pure none := by rfl)
    (h1 : (assignEach [tg] X.env).map (·.2) = [assign tg X.env] := by rfl) : ES c X (.Assign [tg] e pos) (asgS f g) :=
  psOf (ps_asg he hg hs hw h1) fun D σ H ⟨B, ρ, fp, S, i0, q⟩ => ⟨B, ρ, fp, S, at_thn q fun b a ρ1 fp1 B1 H1 g1 r q1 => by
    refine ⟨B1, ρ1, fp1, a, g1.sr, r, ?_⟩
    cases z : g a ρ1 with
    | none => simp only [z] at q1; exact q1
    | some ρ' =>
      simp only [z] at q1
      exact fun σ' fp' B' H' go sl => q1 σ' fp' B' H' go (sl.kp hk)⟩
/-- x op= e -/
def augS (i : Nat) (g : D → D → Option D) (f : M D) : S := thn (rd i) fun x => thn f fun y => thn (lift (g x y)) fun z ρ => .nx (ρ.set i (some z))
theorem ES_aug {i : Nat} {x : Str} {op : Operator} {r : R2} {gg : D → D → Option D} {pos' : Pos} (ho : OpR X (inplaceOp op) r) (hg : OpG c r gg (relV c)) (hN : X.N.Nodup) (hi : X.N[i]? = some x) (hx : Loc X.env.scope x) (he : EV c X e f) (how : c.ow i = false := by rfl) (hk : c.kp i = false := by rfl) (hv : Vis X.env.scope x := by first | exact .inl rfl | exact .inr (.inl rfl))
    (hf : X.fn x = true ∨ X.env.scope.names.lookup x = some .local := by first | exact .inl rfl | exact .inr rfl) : ES c X (.AugAssign (.Name x pos') op e pos) (augS i gg f) :=
  psOf (ps_aug hN hi hx he (fun pins s σ H x y v u Q I rx ry q => ho pins s σ H x y v u Q I rx ry q)) fun D σ H ⟨B, ρ, fp, S, i0, q⟩ => by
    obtain ⟨d, hd, q1⟩ : ∃ d, get ρ i = some d ∧ c.atO B fp (thn f (fun y => thn (lift (gg d y)) fun z ρ => .nx (ρ.set i (some z))) ρ) D σ H := by
      unfold augS thn rd lift at q
      cases e : get ρ i with
      | none => rw [e] at q; exact q.elim
      | some d => rw [e] at q; exact ⟨d, rfl, q⟩
    obtain ⟨v, hv, rv⟩ := S.val how (get_some hd)
    refine ⟨v, hv, B, ρ, fp, S, at_thn q1 fun b a ρ1 fp1 B1 H1 g1 r1 q2 => ?_⟩
    refine hg (fp0 := fp1) (H0 := H1) g1.sr (fun _ z => z) (rv.mono g1.b) r1 (at_thn q2 fun z dz ρ2 fp2 B2 H2 g2 r2 q3 => ?_)
    exact q3 _ fp2 B2 H2 (.setV g2.sr how r2) (.set hk)
end
end Fl

set_option maxHeartbeats 1000000
namespace Fl
open PySem PySem.Spec PyProof.Rows L2

/-! ### a, b = x, y -/
def parS (is : List Nat) (f : M (List D)) : S := thn f fun ds ρ => if ds.length = is.length then .nx ((is.zip ds).foldl (fun ρ p => ρ.set p.1 (some p.2)) ρ) else .no
section
variable {c : Cn} {X : Cx} {a b d e : Expr} {f : M (List D)} {pos : Pos} {m1 m2 m3 : Md}
/-- one more of the arguments into its slot -/
theorem put1 {σ0 σ : L2.St} {ρ : Rho} {fp fp0 : Fp} {B H B1 H1 : Hp} {i : Nat} {v : V} {d : D} {P : Addr → Prop} {o : Bool} (g : Go c.K c.ow fp B H σ ρ fp0 B1 H1) (kp : Kp c σ0 σ) (ho : c.ow i = o) (hk : c.kp i = false)
    (r : if o = true then Own c.K B1 H1 P v d else Rep c.K B1 v d) (k : ∀ a, P a → H a = none ∧ B1 a = none ∧ (∃ o, H1 a = some o) ∧ ∀ j, ¬ fp0 j a) :
    ∃ fp2, Go c.K c.ow fp B H (σ.set i (some v)) (ρ.set i (some d)) fp2 B1 H1 ∧ Kp c σ0 (σ.set i (some v)) ∧ ∀ j a, fp2 j a → fp0 j a ∨ P a := by
  cases o with
  | false => exact ⟨fp0, g.trans (.setV g.sr ho (by simpa using r)), kp.trans (.set hk), fun _ _ h => .inl h⟩
  | true =>
    have S2 := Go.setO (H' := H1) g.sr (i := i) ho (by simpa using r) fun a p => (k a p).2
    exact ⟨_, ⟨S2, g.b, g.h, g.t, g.f, fun j a h => by
      by_cases z : j = i
      · simp only [if_pos z] at h; exact .inr (k a h).1
      · simp only [if_neg z] at h; exact g.s j a h⟩, kp.trans (.set hk), fun j a h => by
      by_cases z : j = i
      · simp only [if_pos z] at h; exact .inr h
      · simp only [if_neg z] at h; exact .inl h⟩
/-- values and new things alone -/
def plainM (ms : List Md) : Bool := ms.all fun m => match m with
  | .s _ => false
  | _ => true
theorem arg_at {σ : L2.St} {fp fp1 : Fp} {H B1 H1 : Hp} {vs : List V} {ds : List D} {ms : List Md} (h : relA c ms σ fp H fp1 B1 H1 vs ds) (hp : plainM ms = true) : ∃ fa : Fp, ds.length = ms.length ∧ vs.length = ms.length ∧ (∀ (i : Nat) d, ds[i]? = some d → ∃ v, vs[i]? = some v ∧ if ownM ms i = true then Own c.K B1 H1 (fa i) v d else Rep c.K B1 v d) ∧
    (∀ i a, fa i a → H a = none ∧ B1 a = none ∧ (∃ o, H1 a = some o) ∧ ∀ j, ¬ fp1 j a) ∧ ∀ i j a, fa i a → fa j a → i = j := by
  obtain ⟨hl, fa, S, k, _⟩ := h
  have h2 : vs.length = ds.length := by simpa using S.ln
  refine ⟨fa, hl, by omega, fun i d h => ?_, fun i a h => ?_, S.dj⟩
  · obtain ⟨v, e1, e2⟩ := S.sl i d (by rw [List.getElem?_map, h]; rfl)
    rw [List.getElem?_map] at e1
    cases e : vs[i]? with
    | none => rw [e] at e1; cases e1
    | some u => rw [e] at e1; cases e1; exact ⟨_, rfl, e2⟩
  · refine ⟨?_, S.ub i a h, S.al i a h, ?_⟩
    · rcases k i a h with ⟨_, z, _⟩ | ⟨j, z, _⟩
      · exact z
      · have := List.all_eq_true.mp hp _ (List.mem_of_getElem? z); cases this
    · rcases k i a h with ⟨_, _, z⟩ | ⟨j, z, _⟩
      · exact z
      · have := List.all_eq_true.mp hp _ (List.mem_of_getElem? z); cases this
theorem ES_par2 {i j : Nat} {x y : Str} {px py pt : Pos} {kt k2 pt2} (hc : X.calm = true) (hN : X.N.Nodup) (hi : X.N[i]? = some x) (hj : X.N[j]? = some y) (hij : i ≠ j)
    (hx : X.env.scope.names.lookup x = some .local) (hy : X.env.scope.names.lookup y = some .local) (ha : EA c X [m1, m2] [a, b] f)
    (hw : swappedStores [.Tuple [.Name x px, .Name y py] kt pt] (.Tuple [a, b] k2 pt2) X.env = pure (some [x, y])) (hp : plainM [m1, m2] = true := by rfl)
    (ho1 : c.ow i = m1.own := by rfl) (ho2 : c.ow j = m2.own := by rfl) (hk1 : c.kp i = false := by rfl) (hk2 : c.kp j = false := by rfl)
    (hs : swapsWithSole [.Tuple [.Name x px, .Name y py] kt pt] (.Tuple [a, b] k2 pt2) pos.line X.env = pure false := by rfl) :
    ES c X (.Assign [.Tuple [.Name x px, .Name y py] kt pt] (.Tuple [a, b] k2 pt2) pos) (parS [i, j] f) :=
  psOf (ps_par hc hN hi hj hij hx hy ha hw hs) fun D σ H ⟨B, ρ, fp, S, i0, q⟩ => ⟨B, ρ, fp, S, at_thnG q fun vs ds ρ1 fp1 B1 H1 g1 r q1 => by
    obtain ⟨fa, hl, hl2, get, fr, dj⟩ := arg_at r hp
    match ds, hl with
    | [d1, d2], _ =>
      match vs, hl2 with
      | [v1, v2], _ =>
        obtain ⟨_, e1, r1⟩ := get 0 d1 rfl
        cases e1
        obtain ⟨_, e2, r2⟩ := get 1 d2 rfl
        cases e2
        obtain ⟨fp2, g2, k2, s2⟩ := put1 g1 (.refl σ) ho1 hk1 r1 (fr 0)
        obtain ⟨fp3, g3, k3, s3⟩ := put1 g2 k2 ho2 hk2 r2 fun a p => ⟨(fr 1 a p).1, (fr 1 a p).2.1, (fr 1 a p).2.2.1, fun l z => (s2 l a z).elim ((fr 1 a p).2.2.2 l) fun z => by cases dj 0 1 a z p⟩
        exact ⟨_, _, rfl, q1 _ fp3 B1 H1 g3 k3⟩⟩
theorem ES_par3 {i j l : Nat} {x y z : Str} {px py pz pt : Pos} {kt k2 pt2} (hc : X.calm = true) (hN : X.N.Nodup) (hi : X.N[i]? = some x) (hj : X.N[j]? = some y) (hl : X.N[l]? = some z) (hij : i ≠ j) (hil : i ≠ l) (hjl : j ≠ l)
    (hx : X.env.scope.names.lookup x = some .local) (hy : X.env.scope.names.lookup y = some .local) (hz : X.env.scope.names.lookup z = some .local) (ha : EA c X [m1, m2, m3] [a, b, d] f)
    (hw : swappedStores [.Tuple [.Name x px, .Name y py, .Name z pz] kt pt] (.Tuple [a, b, d] k2 pt2) X.env = pure (some [x, y, z])) (hp : plainM [m1, m2, m3] = true := by rfl)
    (ho1 : c.ow i = m1.own := by rfl) (ho2 : c.ow j = m2.own := by rfl) (ho3 : c.ow l = m3.own := by rfl) (hk1 : c.kp i = false := by rfl) (hk2 : c.kp j = false := by rfl) (hk3 : c.kp l = false := by rfl)
    (hs : swapsWithSole [.Tuple [.Name x px, .Name y py, .Name z pz] kt pt] (.Tuple [a, b, d] k2 pt2) pos.line X.env = pure false := by rfl) :
    ES c X (.Assign [.Tuple [.Name x px, .Name y py, .Name z pz] kt pt] (.Tuple [a, b, d] k2 pt2) pos) (parS [i, j, l] f) :=
  psOf (ps_par3 hc hN hi hj hl hij hil hjl hx hy hz ha hw hs) fun D σ H ⟨B, ρ, fp, S, i0, q⟩ => ⟨B, ρ, fp, S, at_thnG q fun vs ds ρ1 fp1 B1 H1 g1 r q1 => by
    obtain ⟨fa, hl, hl2, get, fr, dj⟩ := arg_at r hp
    match ds, hl with
    | [d1, d2, d3], _ =>
      match vs, hl2 with
      | [v1, v2, v3], _ =>
        obtain ⟨_, e1, r1⟩ := get 0 d1 rfl
        cases e1
        obtain ⟨_, e2, r2⟩ := get 1 d2 rfl
        cases e2
        obtain ⟨_, e3, r3⟩ := get 2 d3 rfl
        cases e3
        obtain ⟨fp2, g2, k2, s2⟩ := put1 g1 (.refl σ) ho1 hk1 r1 (fr 0)
        obtain ⟨fp3, g3, k3, s3⟩ := put1 g2 k2 ho2 hk2 r2 fun a p => ⟨(fr 1 a p).1, (fr 1 a p).2.1, (fr 1 a p).2.2.1, fun l z => (s2 l a z).elim ((fr 1 a p).2.2.2 l) fun z => by cases dj 0 1 a z p⟩
        obtain ⟨fp4, g4, k4, s4⟩ := put1 g3 k3 ho3 hk3 r3 fun a p => ⟨(fr 2 a p).1, (fr 2 a p).2.1, (fr 2 a p).2.2.1, fun l z => (s3 l a z).elim (fun z => (s2 l a z).elim ((fr 2 a p).2.2.2 l) fun z => by cases dj 0 2 a z p) fun z => by cases dj 1 2 a z p⟩
        exact ⟨_, _, _, rfl, q1 _ fp4 B1 H1 g4 k4⟩⟩
end

/-! ### dicts: displays, in, get, op= -/
def pairsM : List (M D × M D) → M (List (D × D))
  | [] => pur []
  | (fk, fv) :: r => bnd fk fun k => bnd fv fun v => bnd (pairsM r) fun ps => pur ((k, v) :: ps)
def keyed : List (D × D) → Option (List (Key × D))
  | [] => some []
  | (k, v) :: r => match keyOf k, keyed r with
    | some k, some r => some ((k, v) :: r)
    | _, _ => none
def mergeE (es more : List (Key × D)) : List (Key × D) := more.foldl (fun acc e => putE acc e.1 e.2) es
def mkDic (ps : List (D × D)) : Option D := if ps.length ≤ 15 then (keyed ps).map fun es => .dic (mergeE [] es) else none
def RepPs (K : PySem.W.Frag) (B : Hp) : List (V × V) → List (D × D) → Prop := Paired fun p q => Rep K B p.1 q.1 ∧ Rep K B p.2 q.2
theorem RepPs.mono {K : PySem.W.Frag} {B B' : Hp} (e : Ex B B') : ∀ {ps : List (V × V)} {ds : List (D × D)}, RepPs K B ps ds → RepPs K B' ps ds
  | _, _, .nil => .nil
  | _, _, .cons ⟨a, b⟩ t => .cons ⟨a.mono e, b.mono e⟩ (RepPs.mono e t)
theorem keyed_v {K : PySem.W.Frag} {B : Hp} : ∀ {ps : List (V × V)} {ds : List (D × D)} {es : List (Key × D)}, RepPs K B ps ds → keyed ds = some es → ∃ kvs : List (Key × V), ps = kvs.map (fun kv => (kV kv.1, kv.2)) ∧ RepP K B kvs es
  | _, _, es, .nil, h => by cases h; exact ⟨[], rfl, .nil⟩
  | (x, y) :: ps, (k, v) :: ds, es, .cons ⟨a, b⟩ t, h => by
    unfold keyed at h
    cases h1 : keyOf k with
    | none => rw [h1] at h; cases h
    | some k' =>
      cases h2 : keyed ds with
      | none => rw [h1, h2] at h; cases h
      | some es' =>
        rw [h1, h2] at h
        cases h
        obtain ⟨kvs, e, r⟩ := keyed_v t h2
        exact ⟨(k', y) :: kvs, by rw [e, List.map_cons, ← keyOf_v a h1], .cons ⟨rfl, b⟩ r⟩
theorem merge_rep {K : PySem.W.Frag} {B : Hp} : ∀ {kvs : List (Key × V)} {es : List (Key × D)} {acc : List (Key × V)} {ac : List (Key × D)}, RepP K B kvs es → RepP K B acc ac → RepP K B (mergeK acc kvs) (mergeE ac es)
  | _, _, _, _, .nil, h => h
  | (k, v) :: kvs, (k', d) :: es, acc, ac, .cons ⟨h1, h2⟩ t, h => by
    cases h1
    show RepP K B (mergeK (putK acc k v) kvs) (mergeE (putE ac k d) es)
    exact merge_rep t (h.put k h2)
def relPs (c : Cn) : Rel (List (V × V)) (List (D × D)) := fun _ _ _ _ B' _ ps ds => RepPs c.K B' ps ds
section
variable {c : Cn} {X : Cx} {a b d e o i k v : Expr} {fa fb fd fk fv fi fe : M D} {pos : Pos} {keys : List (Option Expr)} {values : List Expr}
def canP (c : Cn) (fs : List (M D × M D)) : List (TE × TE) := fs.map fun p => (can c p.1 (relV c), can c p.2 (relV c))
def EPs (c : Cn) (X : Cx) (pos : Pos) (keys : List (Option Expr)) (values : List Expr) (fs : List (M D × M D)) : Prop := PPs X pos keys values (canP c fs)
theorem EPs_nil : EPs c X pos [] [] [] := pps_nil
theorem EPs_cons {ks : List (Option Expr)} {vs : List Expr} {fs : List (M D × M D)} (hk : EV c X k fk) (hv : EV c X v fv) (hr : EPs c X pos ks vs fs) : EPs c X pos (some k :: ks) (v :: vs) ((fk, fv) :: fs) := pps_cons hk hv hr
theorem at_bndS {σ : L2.St} {fp0 fpS fp : Fp} {H0 BS HS B H : Hp} {ρ : Rho} {α β γ δ : Type} {f : M α} {g : α → M γ} {relf : Rel β α} {rel : Rel δ γ} {Q : δ → Hp → Prop} {Q1 : β → Hp → Prop} (h : c.at fp0 H0 BS ρ fpS (bnd f g) rel σ HS Q)
    (gs : ∀ {ρ' : Rho} {fp' : Fp} {B' H' : Hp}, Go c.K c.ow fp B H σ ρ' fp' B' H' → Go c.K c.ow fpS BS HS σ ρ' fp' B' H')
    (k : ∀ b a ρ1 fp1 B1 H1, Go c.K c.ow fp B H σ ρ1 fp1 B1 H1 → relf σ fp H fp1 B1 H1 b a → c.at fp0 H0 BS ρ1 fpS (g a) rel σ HS Q → Q1 b H1) : c.at fp H B ρ fp f relf σ H Q1 := by
  unfold Cn.at bnd at h
  unfold Cn.at
  cases e : f ρ with
  | no => rw [e] at h; exact h
  | ex x d ρ' => rw [e] at h; exact fun cl dd fp' B' H' go r => h cl dd fp' B' H' (gs go) r
  | ok a ρ' => rw [e] at h; exact fun b fp1 B1 H1 go r => k b a ρ' fp1 B1 H1 go r h
theorem pairs_at : ∀ {fs : List (M D × M D)} {σ : L2.St} {fp0 fpS : Fp} {H0 BS HS B H : Hp} {ρ : Rho} {fp : Fp} {α : Type} {g : List (D × D) → M α} {β : Type} {rel : Rel β α} {Q : β → Hp → Prop} {Q1 : List (V × V) → Hp → Prop}, SR c.K c.ow B H σ ρ fp → c.at fp0 H0 BS ρ fpS (bnd (pairsM fs) g) rel σ HS Q →
    (∀ {ρ' : Rho} {fp' : Fp} {B' H' : Hp}, Go c.K c.ow fp B H σ ρ' fp' B' H' → Go c.K c.ow fpS BS HS σ ρ' fp' B' H') →
    (∀ ps ds ρ1 fp1 B1 H1, Go c.K c.ow fp B H σ ρ1 fp1 B1 H1 → RepPs c.K B1 ps ds → c.at fp0 H0 BS ρ1 fpS (g ds) rel σ HS Q → Q1 ps H1) → tPairs (canP c fs) σ H Q1
  | [], σ, fp0, fpS, H0, BS, HS, B, H, ρ, fp, α, g, β, rel, Q, Q1, S, q, gs, k => k [] [] ρ fp B H (.refl S) .nil q
  | (fk, fv) :: r, σ, fp0, fpS, H0, BS, HS, B, H, ρ, fp, α, g, β, rel, Q, Q1, S, q, gs, k => by
    have q : c.at fp0 H0 BS ρ fpS (bnd fk fun k => bnd fv fun v => bnd (pairsM r) fun ps => g ((k, v) :: ps)) rel σ HS Q := by
      have e : bnd (pairsM ((fk, fv) :: r)) g ρ = (bnd fk fun k => bnd fv fun v => bnd (pairsM r) fun ps => g ((k, v) :: ps)) ρ := by
        show bnd (bnd fk fun k => bnd fv fun v => bnd (pairsM r) fun ps => pur ((k, v) :: ps)) g ρ = _
        unfold bnd pur
        cases fk ρ with
        | no => rfl
        | ex _ _ _ => rfl
        | ok k ρ1 =>
          simp only
          cases fv ρ1 with
          | no => rfl
          | ex _ _ _ => rfl
          | ok v ρ2 =>
            simp only
            cases pairsM r ρ2 <;> rfl
      unfold Cn.at at q ⊢
      rw [← e]; exact q
    refine ⟨B, ρ, fp, S, at_bndS q gs fun x dx ρ1 fp1 B1 H1 g1 r1 q1 => ⟨B1, ρ1, fp1, g1.sr, at_bndS q1 (fun go => gs (g1.trans go)) fun y dy ρ2 fp2 B2 H2 g2 r2 q2 => pairs_at g2.sr q2 (fun go => gs (g1.trans (g2.trans go))) fun ps ds ρ3 fp3 B3 H3 g3 r3 q3 => ?_⟩⟩
    exact k _ _ ρ3 fp3 B3 H3 (g1.trans (g2.trans g3)) (.cons ⟨r1.mono (g2.b.trans g3.b), r2.mono g3.b⟩ r3) q3
def dispM (fs : List (M D × M D)) : M D := bnd (pairsM fs) fun ps => lift (mkDic ps)
theorem RepPs.length {K : PySem.W.Frag} {B : Hp} {ps : List (V × V)} {ds : List (D × D)} (h : RepPs K B ps ds) : ps.length = ds.length := Paired.length h
theorem EN_disp {fs : List (M D × M D)} (h : EPs c X pos keys values fs) (hall : keys.all (·.isSome) = true := by rfl) (hl : keys.length = values.length := by rfl) (h0 : keys ≠ [] := by exact fun z => by cases z) (h15 : keys.length ≤ 15 := by decide) : EN c X (.Dict keys values pos) (dispM fs) :=
  peOf (pe_disp h hall hl h0 h15) fun σ H Q ⟨B, ρ, fp, S, q⟩ => fun p hp => by
    have g0 := S.fresh (.dK []) hp
    have np : ∀ i, ¬ fp i p := fun i z => by
      obtain ⟨o, e⟩ := S.al i p z
      rw [hp] at e; cases e
    refine pairs_at g0.sr q (fun go => g0.trans go) fun ps ds ρ1 fp1 B1 H1 g1 r1 q1 => ?_
    have ga := g0.trans g1
    obtain ⟨d, hd, kk⟩ := at_lift q1
    have e1 : H1 p = some (.dK []) := g1.h p _ upd_same fun ⟨i, z⟩ => np i z
    have b1 : B1 p = none := g1.f p _ upd_same (S.ex.free hp) fun ⟨i, z⟩ => np i z
    have n1 : ∀ i, ¬ fp1 i p := fun i z => (g1.s i p z).elim (np i) fun z => by rw [upd_same] at z; cases z
    unfold mkDic at hd
    by_cases hz : ds.length ≤ 15
    · rw [if_pos hz] at hd
      cases hk : keyed ds with
      | none => rw [hk] at hd; cases hd
      | some es =>
        rw [hk] at hd
        cases hd
        obtain ⟨kvs, ek, rk⟩ := keyed_v r1 hk
        refine ⟨e1, kvs, ek, by have := r1.length; rw [ek, List.length_map] at this; omega, ?_⟩
        have up : ∀ b u, H1 b = some u → ∃ u', upd H1 p (.dK (mergeK [] kvs)) b = some u' := fun b u e => by
          by_cases z : b = p
          · exact ⟨_, by rw [z, upd_same]⟩
          · exact ⟨u, by rw [upd_ne z]; exact e⟩
        refine kk _ fp1 B1 _ ⟨⟨g1.sr.ln, fun b u e => ?_, fun i d e => ?_, g1.sr.dj, g1.sr.ub, fun i b e => let ⟨u, z⟩ := g1.sr.al i b e; up b u z⟩, ga.b, fun b u e n => ?_, fun b u e => let ⟨u2, z⟩ := ga.t b u e; up b u2 z, ga.f, ga.s⟩ ⟨fun a => a = p, .dic rfl upd_same (merge_rep rk .nil).k, fun a e => ?_⟩
        · rw [upd_ne (ne_of_none e b1)]; exact g1.sr.ex b u e
        · obtain ⟨v1, e1, e2⟩ := g1.sr.sl i d e
          refine ⟨v1, e1, ?_⟩
          split
          · rename_i ho; rw [if_pos ho] at e2
            refine e2.mono (.refl _) fun b u pb z => ?_
            rw [upd_ne (show b ≠ p from fun e => n1 i (by rw [← e]; exact pb))]; exact z
          · rename_i ho; rw [if_neg ho] at e2; exact e2
        · rw [upd_ne (ne_of_none e hp)]; exact ga.h b u e n
        · subst e
          exact ⟨hp, b1, ⟨_, upd_same⟩, n1⟩
    · rw [if_neg hz] at hd; cases hd
end
end Fl

set_option maxHeartbeats 1000000
namespace Fl
open PySem PySem.Spec PyProof.Rows L2

section
variable {X : Cx}
def rInDic : R2 := fun y x H Q => ∃ a o, x = .ref a ∧ DGet H a y o ∧ Q (.bl o.isSome) H
def rNotInDic : R2 := fun y x H Q => ∃ a o, x = .ref a ∧ DGet H a y o ∧ Q (.bl (!o.isSome)) H
theorem op_inDic (hu : X.A.units + 1 < cLine) : OpR X (compareOp .In) rInDic := by
  intro pins s σ H y x u v Q I ry rx h
  obtain ⟨a, o, rfl, g, q⟩ := h
  obtain rfl : v = Value.ref a := rx
  exact d_in hu I g ry fun s3 I3 => ⟨.bl o.isSome, H, I3, rfl, q⟩
theorem op_notInDic (hu : X.A.units + 1 < cLine) : OpR X (compareOp .NotIn) rNotInDic := by
  intro pins s σ H y x u v Q I ry rx h
  obtain ⟨a, o, rfl, g, q⟩ := h
  obtain rfl : v = Value.ref a := rx
  exact d_notIn hu I g ry fun s3 I3 => ⟨.bl (!o.isSome), H, I3, rfl, q⟩
end
/-- x in a dict, a list -/
def inB (x : D) : D → Option Bool
  | .dic es => (lookD (.dic es) x).map (·.isSome)
  | .dit es => (lookD (.dit es) x).map (·.isSome)
  | .lst ds => if SeqAt.shaped (toP x) = true ∧ SeqAt.shaped (toP (.lst ds)) = true then some (ds.any fun z => PyData.eqv (toP z) (toP x)) else none
  | _ => none
def inD (x d : D) : Option D := (inB x d).map .bl
def notInD (x d : D) : Option D := (inB x d).map fun b => .bl (!b)
theorem any_toPs (p : PyData → Bool) : ∀ ds : List D, (toPs ds).any p = ds.any fun z => p (toP z)
  | [] => rfl
  | d :: ds => by unfold toPs; rw [List.any_cons, List.any_cons, any_toPs p ds]
theorem own_toDp {K : PySem.W.Frag} {B H : Hp} {x : V} {ds : List D} (ex : Ex B H) (hx : Bor K B H x (.lst ds)) (h : (toP (.lst ds)).canLay0 = true) : Dp K H x (toP (.lst ds)) := by
  rcases hx with hx | ⟨P, hx⟩
  · exact dp_of (hx.mono ex) h
  · cases hx with
    | @lst a xs _ p e r => exact dp_of (Rep.lst e (r.mono ex)) h
section
variable {c : Cn} {X : Cx} {a b d e o i k v : Expr} {fa fb fd fk fv fi fe : M D} {pos cpos apos : Pos} {j : Nat}
theorem in_any {K : PySem.W.Frag} {B H : Hp} {x y : V} {dx dy : D} {t : Bool} (ex : Ex B H) (hx : Rep K B x dx) (hy : Bor K B H y dy) (h : inB dx dy = some t) {Q : VK} (q : Q (.bl t) H) : rInDic x y H Q ∨ rInD K x y H Q := by
  have dc : ∀ {dy : D}, Bor K B H y dy → (lookD dy dx).map (·.isSome) = some t → rInDic x y H Q := fun {dy} hy h => by
    cases e : lookD dy dx with
    | none => rw [e] at h; cases h
    | some o =>
      rw [e] at h
      obtain ⟨a, r, h1, h2, _, h3, h4⟩ := look_get ex hy hx e
      refine ⟨a, r, h1, h2, ?_⟩
      have : r.isSome = t := by
        cases o with
        | none => rw [h4 rfl]; cases h; rfl
        | some d => obtain ⟨v, e, _⟩ := h3 d rfl; rw [e]; cases h; rfl
      rw [this]; exact q
  cases dy with
  | dic es => exact .inl (dc hy h)
  | dit es => exact .inl (dc hy h)
  | lst ds =>
    obtain ⟨⟨h1, h2⟩, rfl⟩ := ite_some h
    refine .inr ⟨toP dx, toPs ds, dp_of (hx.mono ex) (SeqAt.canLay_of_shaped h1), ?_, h1, by simpa [toP] using h2, by rw [any_toPs]; exact q⟩
    have := own_toDp ex hy (SeqAt.canLay_of_shaped h2)
    unfold toP at this
    exact this
  | _ => cases h
theorem notIn_any {K : PySem.W.Frag} {B H : Hp} {x y : V} {dx dy : D} {t : Bool} (ex : Ex B H) (hx : Rep K B x dx) (hy : Bor K B H y dy) (h : inB dx dy = some t) {Q : VK} (q : Q (.bl (!t)) H) : rNotInDic x y H Q ∨ rNotInD K x y H Q := by
  have dc : ∀ {dy : D}, Bor K B H y dy → (lookD dy dx).map (·.isSome) = some t → rNotInDic x y H Q := fun {dy} hy h => by
    cases e : lookD dy dx with
    | none => rw [e] at h; cases h
    | some o =>
      rw [e] at h
      obtain ⟨a, r, h1, h2, _, h3, h4⟩ := look_get ex hy hx e
      refine ⟨a, r, h1, h2, ?_⟩
      have : r.isSome = t := by
        cases o with
        | none => rw [h4 rfl]; cases h; rfl
        | some d => obtain ⟨v, e, _⟩ := h3 d rfl; rw [e]; cases h; rfl
      rw [this]; exact q
  cases dy with
  | dic es => exact .inl (dc hy h)
  | dit es => exact .inl (dc hy h)
  | lst ds =>
    obtain ⟨⟨h1, h2⟩, rfl⟩ := ite_some h
    refine .inr ⟨toP dx, toPs ds, dp_of (hx.mono ex) (SeqAt.canLay_of_shaped h1), ?_, h1, by simpa [toP] using h2, by rw [any_toPs]; exact q⟩
    have := own_toDp ex hy (SeqAt.canLay_of_shaped h2)
    unfold toP at this
    exact this
  | _ => cases h
theorem un65 {A : Around} {k : Nat} (hr : Room (k + 1) A) : A.units + 65 < cLine := by have := hr.un; omega
/-- x in d, x not in d: of a value -/
theorem ck_in {k : Nat} (hr : Room (k + 1) X.A) (hK : c.K = X.K := by rfl) : CmpK c X .In inD := ⟨_, (op_inDic (hu_of hr)).or (op_inD (un65 hr)), fun {fp0 H0 B ρ fp σ H x y dx dy Q} S hz rx ry q => by
  obtain ⟨d, hd, kk⟩ := at_lift q
  unfold inD at hd
  cases e : inB dx dy with
  | none => rw [e] at hd; cases hd
  | some t =>
    rw [e] at hd; cases hd
    rw [← hK]
    exact in_any S.ex rx (.inl ry) e (kk _ fp B H (.refl S) (.bl _))⟩
theorem ck_notIn {k : Nat} (hr : Room (k + 1) X.A) (hK : c.K = X.K := by rfl) : CmpK c X .NotIn notInD := ⟨_, (op_notInDic (hu_of hr)).or (op_notInD (un65 hr)), fun {fp0 H0 B ρ fp σ H x y dx dy Q} S hz rx ry q => by
  obtain ⟨d, hd, kk⟩ := at_lift q
  unfold notInD at hd
  cases e : inB dx dy with
  | none => rw [e] at hd; cases hd
  | some t =>
    rw [e] at hd; cases hd
    rw [← hK]
    exact notIn_any S.ex rx (.inl ry) e (kk _ fp B H (.refl S) (.bl _))⟩
/-- a value beside the thing of a slot -/
def opS (g : D → D → Option D) (fa : M D) (j : Nat) : M D := bnd fa fun x => bnd (rd j) fun d => lift (g x d)
/-- the same with one's own on the right -/
structure CmpO (c : Cn) (X : Cx) (op : CmpOp) (g : D → D → Option D) : Prop where
  ex : ∃ r, OpR X (compareOp op) r ∧ ∀ {fp0 H0 B ρ fp σ H x y dx dy Q}, SR c.K c.ow B H σ ρ fp → Rep c.K B x dx → Bor c.K B H y dy → c.at fp0 H0 B ρ fp (lift (g dx dy)) (relV c) σ H Q → r x y H Q
theorem co_in {k : Nat} (hr : Room (k + 1) X.A) (hK : c.K = X.K := by rfl) : CmpO c X .In inD := ⟨_, (op_inDic (hu_of hr)).or (op_inD (un65 hr)), fun {fp0 H0 B ρ fp σ H x y dx dy Q} S rx ry q => by
  obtain ⟨d, hd, kk⟩ := at_lift q
  unfold inD at hd
  cases e : inB dx dy with
  | none => rw [e] at hd; cases hd
  | some t =>
    rw [e] at hd; cases hd
    rw [← hK]
    exact in_any S.ex rx ry e (kk _ fp B H (.refl S) (.bl _))⟩
theorem co_notIn {k : Nat} (hr : Room (k + 1) X.A) (hK : c.K = X.K := by rfl) : CmpO c X .NotIn notInD := ⟨_, (op_notInDic (hu_of hr)).or (op_notInD (un65 hr)), fun {fp0 H0 B ρ fp σ H x y dx dy Q} S rx ry q => by
  obtain ⟨d, hd, kk⟩ := at_lift q
  unfold notInD at hd
  cases e : inB dx dy with
  | none => rw [e] at hd; cases hd
  | some t =>
    rw [e] at hd; cases hd
    rw [← hK]
    exact notIn_any S.ex rx ry e (kk _ fp B H (.refl S) (.bl _))⟩
theorem EV_cmpS {op : CmpOp} {g : D → D → Option D} (h : CmpO c X op g) (ha : EV c X a fa) (hb : PE X b (tVar j)) (hj : c.ow j = true := by rfl) (hm : behindInMarks op b = false := by first | exact nomark _ | rfl) : EV c X (.Compare a [op] [b] pos) (opS g fa j) := by
  obtain ⟨r, h1, h2⟩ := h.ex
  exact peOf (pe_cmpR h1 ha hb hm) fun σ H Q ⟨B, ρ, fp, S, q⟩ => ⟨B, ρ, fp, S, at_bnd q fun x dx ρ1 fp1 B1 H1 g1 r1 q1 => by
    obtain ⟨d, hd, q2⟩ := at_rd q1
    obtain ⟨v, hv, o⟩ := g1.sr.own hj (get_some hd)
    exact ⟨v, hv, h2 g1.sr r1 (.inr ⟨_, o⟩) q2⟩⟩
theorem ET_cmpS {op : CmpOp} {g : D → D → Option D} (h : CmpO c X op g) (ha : EV c X a fa) (hb : PE X b (tVar j)) (hj : c.ow j = true := by rfl) (hm : behindInMarks op b = false := by first | exact nomark _ | rfl) : ET c X (.Compare a [op] [b] pos) (tst (opS g fa j)) := by
  obtain ⟨r, h1, h2⟩ := h.ex
  exact ptOf (pt_cmpR h1 ha hb hm) fun σ H Q ⟨B, ρ, fp, S, q⟩ => ⟨B, ρ, fp, S, at_bnd (at_tst q) fun x dx ρ1 fp1 B1 H1 g1 r1 q1 => by
    obtain ⟨d, hd, q2⟩ := at_rd q1
    obtain ⟨v, hv, o⟩ := g1.sr.own hj (get_some hd)
    exact ⟨v, hv, h2 g1.sr r1 (.inr ⟨_, o⟩) q2⟩⟩
/-! d.get -/
def getD1 (d k : D) : Option D := (lookD d k).map fun o => o.getD .non
def getD2 (d k x : D) : Option D := (lookD d k).map fun o => o.getD x
def isDicO (d : D) : Option Unit := if isDic d = true then some () else none
def get1M (fd fk : M D) : M D := bnd fd fun d => bnd (lift (isDicO d)) fun _ => bnd fk fun k => lift (getD1 d k)
def get2M (fd fk fx : M D) : M D := bnd fd fun d => bnd (lift (isDicO d)) fun _ => bnd fk fun k => bnd fx fun x => lift (getD2 d k x)
def get1S (j : Nat) (fk : M D) : M D := bnd (rd j) fun d => bnd (lift (isDicO d)) fun _ => bnd fk fun k => bnd (rd j) fun d => lift (getD1 d k)
def get2S (j : Nat) (fk fx : M D) : M D := bnd (rd j) fun d => bnd (lift (isDicO d)) fun _ => bnd fk fun k => bnd fx fun x => bnd (rd j) fun d => lift (getD2 d k x)
theorem isD_of {K : PySem.W.Frag} {B H : Hp} {x : V} {d : D} (ex : Ex B H) (h : Bor K B H x d) (e : isDicO d = some ()) : ∃ a, x = .ref a ∧ IsD H a := by
  cases d with
  | dic es =>
    rcases h with h | ⟨P, h⟩
    · cases h with
      | dic e r => exact ⟨_, rfl, .inl ⟨_, .inl (ex _ _ e)⟩⟩
    · cases h with
      | dic p e r => exact ⟨_, rfl, .inl ⟨_, .inl e⟩⟩
  | dit es =>
    rcases h with h | ⟨P, h⟩
    · cases h with
      | dit e r => exact ⟨_, rfl, .inr ⟨_, .inl (ex _ _ e)⟩⟩
    · cases h with
      | dit p e r => exact ⟨_, rfl, .inr ⟨_, .inl e⟩⟩
  | _ => cases e
theorem get1_fin {K : PySem.W.Frag} {B H : Hp} {a : Addr} {y : V} {dx dy d : D} {Q : VK} (ex : Ex B H) (hx : Bor K B H (.ref a) dx) (hy : Rep K B y dy) (h : getD1 dx dy = some d) (k : ∀ v, Rep K B v d → Q v H) : ∃ o, DGet H a y o ∧ Q (o.getD .non) H := by
  unfold getD1 at h
  cases e : lookD dx dy with
  | none => rw [e] at h; cases h
  | some o =>
    rw [e] at h
    cases h
    obtain ⟨a', r, h1, h2, _, h3, h4⟩ := look_get ex hx hy e
    cases h1
    refine ⟨r, h2, k _ ?_⟩
    cases o with
    | none => rw [h4 rfl]; exact .non
    | some d => obtain ⟨v, e, rv⟩ := h3 d rfl; rw [e]; exact rv
theorem get2_fin {K : PySem.W.Frag} {B H : Hp} {a : Addr} {y z : V} {dx dy dz d : D} {Q : VK} (ex : Ex B H) (hx : Bor K B H (.ref a) dx) (hy : Rep K B y dy) (hz : Rep K B z dz) (h : getD2 dx dy dz = some d) (k : ∀ v, Rep K B v d → Q v H) : ∃ o, DGet H a y o ∧ Q (o.getD z) H := by
  unfold getD2 at h
  cases e : lookD dx dy with
  | none => rw [e] at h; cases h
  | some o =>
    rw [e] at h
    cases h
    obtain ⟨a', r, h1, h2, _, h3, h4⟩ := look_get ex hx hy e
    cases h1
    refine ⟨r, h2, k _ ?_⟩
    cases o with
    | none => rw [h4 rfl]; exact hz
    | some d => obtain ⟨v, e, rv⟩ := h3 d rfl; rw [e]; exact rv
theorem EV_get1 {k : Nat} (hr : Room k X.A) (ho : EV c X o fd) (he : EV c X e fk) (m : M1 X o "get" apos e cpos := by exact ⟨rfl, rfl, rfl, rfl⟩) : EV c X (.Call (.Attribute o "get" apos) [e] [] cpos) (get1M fd fk) :=
  peOf (pe_dget1 (hu_of hr) ho he m) fun σ H Q ⟨B, ρ, fp, S, q⟩ => ⟨B, ρ, fp, S, at_bnd q fun x dx ρ1 fp1 B1 H1 g1 r1 q1 => by
    obtain ⟨_, hd, q2⟩ := at_bl q1
    obtain ⟨a, rfl, isd⟩ := isD_of g1.sr.ex (.inl r1) hd
    refine ⟨a, rfl, isd, B1, ρ1, fp1, g1.sr, at_bnd q2 fun y dy ρ2 fp2 B2 H2 g2 r2 q3 => ?_⟩
    obtain ⟨d, hd, k⟩ := at_lift q3
    exact get1_fin g2.sr.ex (.inl (r1.mono g2.b)) r2 hd fun v w => k v fp2 B2 H2 (.refl g2.sr) w⟩
theorem EV_get2 {k : Nat} (hr : Room k X.A) (ho : EV c X o fd) (he : EV c X e fk) (hf : EV c X b fb) (m : M2 X o "get" apos e b cpos := by exact ⟨rfl, rfl, rfl, rfl⟩) : EV c X (.Call (.Attribute o "get" apos) [e, b] [] cpos) (get2M fd fk fb) :=
  peOf (pe_dget2 (hu_of hr) ho he hf m) fun σ H Q ⟨B, ρ, fp, S, q⟩ => ⟨B, ρ, fp, S, at_bnd q fun x dx ρ1 fp1 B1 H1 g1 r1 q1 => by
    obtain ⟨_, hd, q2⟩ := at_bl q1
    obtain ⟨a, rfl, isd⟩ := isD_of g1.sr.ex (.inl r1) hd
    refine ⟨a, rfl, isd, B1, ρ1, fp1, g1.sr, at_bnd q2 fun y dy ρ2 fp2 B2 H2 g2 r2 q3 => ⟨B2, ρ2, fp2, g2.sr, at_bnd q3 fun z dz ρ3 fp3 B3 H3 g3 r3 q4 => ?_⟩⟩
    obtain ⟨d, hd, k⟩ := at_lift q4
    exact get2_fin g3.sr.ex (.inl (r1.mono (g2.b.trans g3.b))) (r2.mono g3.b) r3 hd fun v w => k v fp3 B3 H3 (.refl g3.sr) w⟩
theorem EV_get1S {k : Nat} (hr : Room k X.A) (ho : PE X o (tVar j)) (he : EV c X e fk) (hj : c.ow j = true := by rfl) (m : M1 X o "get" apos e cpos := by exact ⟨rfl, rfl, rfl, rfl⟩) : EV c X (.Call (.Attribute o "get" apos) [e] [] cpos) (get1S j fk) :=
  peOf (pe_dget1 (hu_of hr) ho he m) fun σ H Q ⟨B, ρ, fp, S, q⟩ => by
    obtain ⟨d0, hd0, q1⟩ := at_rd q
    obtain ⟨_, hd, q2⟩ := at_bl q1
    obtain ⟨x, hx, o0⟩ := S.own hj (get_some hd0)
    obtain ⟨a, rfl, isd⟩ := isD_of S.ex (.inr ⟨_, o0⟩) hd
    refine ⟨_, hx, a, rfl, isd, B, ρ, fp, S, at_bnd q2 fun y dy ρ2 fp2 B2 H2 g2 r2 q3 => ?_⟩
    obtain ⟨d1, hd1, q4⟩ := at_rd q3
    obtain ⟨x2, hx2, o2⟩ := g2.sr.own hj (get_some hd1)
    rw [hx] at hx2; cases hx2
    obtain ⟨d, hd, k⟩ := at_lift q4
    exact get1_fin g2.sr.ex (.inr ⟨_, o2⟩) r2 hd fun v w => k v fp2 B2 H2 (.refl g2.sr) w
theorem EV_get2S {k : Nat} (hr : Room k X.A) (ho : PE X o (tVar j)) (he : EV c X e fk) (hf : EV c X b fb) (hj : c.ow j = true := by rfl) (m : M2 X o "get" apos e b cpos := by exact ⟨rfl, rfl, rfl, rfl⟩) : EV c X (.Call (.Attribute o "get" apos) [e, b] [] cpos) (get2S j fk fb) :=
  peOf (pe_dget2 (hu_of hr) ho he hf m) fun σ H Q ⟨B, ρ, fp, S, q⟩ => by
    obtain ⟨d0, hd0, q1⟩ := at_rd q
    obtain ⟨_, hd, q2⟩ := at_bl q1
    obtain ⟨x, hx, o0⟩ := S.own hj (get_some hd0)
    obtain ⟨a, rfl, isd⟩ := isD_of S.ex (.inr ⟨_, o0⟩) hd
    refine ⟨_, hx, a, rfl, isd, B, ρ, fp, S, at_bnd q2 fun y dy ρ2 fp2 B2 H2 g2 r2 q3 => ⟨B2, ρ2, fp2, g2.sr, at_bnd q3 fun z dz ρ3 fp3 B3 H3 g3 r3 q4 => ?_⟩⟩
    obtain ⟨d1, hd1, q5⟩ := at_rd q4
    obtain ⟨x2, hx2, o2⟩ := g3.sr.own hj (get_some hd1)
    rw [hx] at hx2; cases hx2
    obtain ⟨d, hd, k⟩ := at_lift q5
    exact get2_fin g3.sr.ex (.inr ⟨_, o2⟩) (r2.mono g3.b) r3 hd fun v w => k v fp3 B3 H3 (.refl g3.sr) w
/-! x[k] += e, x a dict of one's own -/
def putS (j : Nat) (k z : D) : S := fun ρ => match get ρ j with
  | some dx => match putD dx k z with
    | some dx' => .nx (ρ.set j (some dx'))
    | none => .no
  | none => .no
def daugS (j : Nat) (fk : M D) (g : D → D → Option D) (fe : M D) : S := thn (rd j) fun _ => thn fk fun k => thn (bnd (rd j) fun dx => lift (lookD dx k)) fun o => match o with
  | none => fun _ => .no
  | some x => thn fe fun y => thn (lift (g x y)) fun z => putS j k z
theorem thn_rd {σ : L2.St} {B H : Hp} {ρ : Rho} {fp : Fp} {D : Ends} {k : Fl.D → S} (h : c.atO B fp (thn (rd j) k ρ) D σ H) : ∃ d, get ρ j = some d ∧ c.atO B fp (k d ρ) D σ H := by
  unfold thn rd lift at h
  cases e : get ρ j with
  | none => rw [e] at h; exact h.elim
  | some d => rw [e] at h; exact ⟨d, rfl, h⟩
theorem thn_look {σ : L2.St} {B H : Hp} {ρ : Rho} {fp : Fp} {D : Ends} {g : Fl.D → Option (Option Fl.D)} {k : Option Fl.D → S} (h : c.atO B fp (thn (bnd (rd j) fun dx => lift (g dx)) k ρ) D σ H) : ∃ d o, get ρ j = some d ∧ g d = some o ∧ c.atO B fp (k o ρ) D σ H := by
  unfold thn bnd rd lift at h
  cases e : get ρ j with
  | none => rw [e] at h; exact h.elim
  | some d =>
    rw [e] at h
    simp only at h
    cases e2 : g d with
    | none => rw [e2] at h; exact h.elim
    | some o => rw [e2] at h; exact ⟨d, o, rfl, e2, h⟩
theorem ES_daug {k : Nat} {tpos : Pos} (hr : Room k X.A) (ho : PE X o (tVar j)) (hi : EV c X i fi) (hv : EV c X v fv) (hj : c.ow j = true := by rfl)
    (ha : ∀ ov iv new, augStore i ov iv new = (do holding [new, ov, iv] (setItem ov iv new); release [new, ov, iv] []; pure .next) := by intro _ _ _; rfl) : ES c X (.AugAssign (.Subscript o i tpos) .Add v pos) (daugS j fi (gI (fun _ _ => true) (· + ·)) fv) :=
  psOf (ps_daug (rd := rAdd) (hu_of hr) ho hi hv in_add ha) fun D σ H ⟨B, ρ, fp, S, i0, q⟩ => by
    obtain ⟨d0, hd0, q1⟩ := thn_rd q
    obtain ⟨x, hx, o0⟩ := S.own hj (get_some hd0)
    refine ⟨x, hx, B, ρ, fp, S, at_thn q1 fun y dy ρ1 fp1 B1 H1 g1 r1 q2 => ?_⟩
    obtain ⟨d1, oo, hd1, hl, q3⟩ := thn_look q2
    obtain ⟨x1, hx1, o1⟩ := g1.sr.own hj (get_some hd1)
    rw [hx] at hx1; cases hx1
    cases oo with
    | none => exact q3.elim
    | some dv =>
      obtain ⟨a, r, rfl, h2, _, h3, _⟩ := look_get g1.sr.ex (.inr ⟨_, o1⟩) r1 hl
      obtain ⟨w, rfl, rw'⟩ := h3 dv rfl
      refine ⟨a, w, rfl, h2, B1, ρ1, fp1, g1.sr, at_thn q3 fun y2 dy2 ρ2 fp2 B2 H2 g2 r2 q4 => ?_⟩
      have rw2 := rw'.mono g2.b
      cases dv with
      | int n =>
        cases dy2 with
        | int m =>
          cases rw2
          cases r2
          refine ⟨n, m, rfl, rfl, ?_⟩
          have q5 : c.atO B2 fp2 (putS j dy (.int (n + m)) ρ2) D σ H2 := q4
          unfold putS at q5
          cases e1 : get ρ2 j with
          | none => rw [e1] at q5; exact q5.elim
          | some dx =>
            rw [e1] at q5
            simp only at q5
            cases e2 : putD dx dy (.int (n + m)) with
            | none => rw [e2] at q5; exact q5.elim
            | some dx' =>
              rw [e2] at q5
              simp only at q5
              obtain ⟨x3, hx3, o3⟩ := g2.sr.own hj (get_some e1)
              rw [hx] at hx3; cases hx3
              obtain ⟨a', ob, ea, pa, dp, ow⟩ := put_own g2.sr.ex (g2.sr.ub j) o3 (r1.mono g2.b) (.int (n + m)) e2
              cases ea
              exact ⟨_, dp, q5 σ fp2 B2 _ (g2.sr.write hj (getE_lt e1) hx pa ow) (.refl σ)⟩
        | _ => exact q4.elim
      | _ => exact q4.elim
/-! ranges as lists and tuples -/
def rgL (a b : Int) : Option (List D) := if okR a = true ∧ okR b = true ∧ (b - a).toNat ≤ 16777216 then some (countD a 1 (b - a).toNat) else none
def rgM1 (fa : M D) : M (List D) := bnd fa fun x => bnd (lift (intD x)) fun i => lift (rgL 0 i)
def rgM2 (fa fb : M D) : M (List D) := bnd fa fun x => bnd fb fun y => bnd (lift (intD x)) fun i => bnd (lift (intD y)) fun j => lift (rgL i j)
theorem rgV_rep {K : PySem.W.Frag} {B : Hp} {a b : Int} : RepL K B (rgV a b) (countD a 1 (b - a).toNat) := by
  have e1 : rgV a b = ((List.range (b - a).toNat).map fun i => a + ((i : Nat) : Int)).map V.int := by unfold rgV; rw [List.map_map]; rfl
  have e2 : countD a 1 (b - a).toNat = ((List.range (b - a).toNat).map fun i => a + ((i : Nat) : Int)).map D.int := by
    unfold countD; rw [List.map_map]
    refine List.map_congr_left fun i _ => ?_
    show D.int (a + (i : Int) * 1) = D.int (a + (i : Int))
    rw [Int.mul_one]
  rw [e1, e2]
  exact .ofInts _
/-- a range's reading -/
def ER (c : Cn) (X : Cx) (e : Expr) (f : M (List D)) : Prop := ∃ t, PRg X e t ∧ ∀ {fp0 : Fp} {H0 B H : Hp} {ρ : Rho} {fp : Fp} {σ : L2.St} {β : Type} {rel : Rel β D} {g : List D → M D} {Q : β → Hp → Prop} {Q1 : Int → Int → Hp → Prop}, SR c.K c.ow B H σ ρ fp → c.at fp0 H0 B ρ fp (bnd f g) rel σ H Q →
  (∀ a b ρ1 fp1 B1 H1, Go c.K c.ow fp B H σ ρ1 fp1 B1 H1 → RgOk a b → c.at fp0 H0 B1 ρ1 fp1 (g (countD a 1 (b - a).toNat)) rel σ H1 Q → Q1 a b H1) → t σ H Q1
theorem rg_ok {a b : Int} {ds : List D} (h : rgL a b = some ds) : RgOk a b ∧ ds = countD a 1 (b - a).toNat := by
  obtain ⟨⟨h1, h2, h3⟩, rfl⟩ := ite_some h
  obtain ⟨a1, a2⟩ := okR_iff.mp h1
  obtain ⟨b1, b2⟩ := okR_iff.mp h2
  exact ⟨⟨a1, a2, b1, b2, by omega⟩, rfl⟩
theorem ER_1 {p : Pos} (hm : X.mg "range" = none) (ha : EV c X a fa) (hg : Gl X "range" := by rfl) (na : starEach [a] X.env = (false, eval a X.env) :: starEach [] X.env := by rfl) : ER c X (.Call (.Name "range" p) [a] [] pos) (rgM1 fa) :=
  ⟨_, prg_1 hg hm ha na, fun {fp0 H0 B H ρ fp σ β rel g Q Q1} S q k => by
    have q : c.at fp0 H0 B ρ fp (bnd fa fun x => bnd (bnd (lift (intD x)) fun i => lift (rgL 0 i)) g) rel σ H Q := by
      have e : bnd (rgM1 fa) g ρ = (bnd fa fun x => bnd (bnd (lift (intD x)) fun i => lift (rgL 0 i)) g) ρ := by
        unfold rgM1 bnd
        cases fa ρ <;> rfl
      unfold Cn.at at q ⊢
      rw [← e]; exact q
    refine ⟨B, ρ, fp, S, at_bnd q fun x dx ρ1 fp1 B1 H1 g1 r1 q1 => ?_⟩
    cases r1 with
    | int n =>
      cases e : rgL 0 n with
      | none =>
        have : bnd (bnd (lift (intD (.int n))) fun i => lift (rgL 0 i)) g ρ1 = .no := by
          show bnd (lift (rgL 0 n)) g ρ1 = .no
          rw [e]; rfl
        unfold Cn.at at q1
        rw [this] at q1
        exact q1.elim
      | some ds =>
        obtain ⟨ok, rfl⟩ := rg_ok e
        refine ⟨n, rfl, k 0 n ρ1 fp1 B1 H1 g1 ok ?_⟩
        have : bnd (bnd (lift (intD (.int n))) fun i => lift (rgL 0 i)) g ρ1 = g (countD 0 1 (n - 0).toNat) ρ1 := by
          show bnd (lift (rgL 0 n)) g ρ1 = _
          rw [e]; rfl
        unfold Cn.at at q1 ⊢
        rw [this] at q1
        exact q1
    | _ => exact q1.elim⟩
theorem ER_2 {p : Pos} (hm : X.mg "range" = none) (ha : EV c X a fa) (hb : EV c X b fb) (hg : Gl X "range" := by rfl) (na : starEach [a, b] X.env = (false, eval a X.env) :: starEach [b] X.env := by rfl) (nb : starEach [b] X.env = (false, eval b X.env) :: starEach [] X.env := by rfl) (hp : (backTo pos (starEach [b] X.env)).any (·.1) = false := by rfl) :
    ER c X (.Call (.Name "range" p) [a, b] [] pos) (rgM2 fa fb) :=
  ⟨_, prg_2 hg hm ha hb na nb hp, fun {fp0 H0 B H ρ fp σ β rel g Q Q1} S q k => by
    have q : c.at fp0 H0 B ρ fp (bnd fa fun x => bnd fb fun y => bnd (bnd (lift (intD x)) fun i => bnd (lift (intD y)) fun j => lift (rgL i j)) g) rel σ H Q := by
      have e : bnd (rgM2 fa fb) g ρ = (bnd fa fun x => bnd fb fun y => bnd (bnd (lift (intD x)) fun i => bnd (lift (intD y)) fun j => lift (rgL i j)) g) ρ := by
        unfold rgM2 bnd
        cases fa ρ with
        | no => rfl
        | ex _ _ _ => rfl
        | ok a ρ1 => simp only; cases fb ρ1 <;> rfl
      unfold Cn.at at q ⊢
      rw [← e]; exact q
    refine ⟨B, ρ, fp, S, at_bnd q fun x dx ρ1 fp1 B1 H1 g1 r1 q1 => ⟨B1, ρ1, fp1, g1.sr, at_bnd q1 fun y dy ρ2 fp2 B2 H2 g2 r2 q2 => ?_⟩⟩
    cases r1 with
    | int n =>
      cases r2 with
      | int m =>
        cases e : rgL n m with
        | none =>
          have : bnd (bnd (lift (intD (.int n))) fun i => bnd (lift (intD (.int m))) fun j => lift (rgL i j)) g ρ2 = .no := by
            show bnd (lift (rgL n m)) g ρ2 = .no
            rw [e]; rfl
          unfold Cn.at at q2
          rw [this] at q2
          exact q2.elim
        | some ds =>
          obtain ⟨ok, rfl⟩ := rg_ok e
          refine ⟨n, m, rfl, rfl, k n m ρ2 fp2 B2 H2 (g1.trans g2) ok ?_⟩
          have : bnd (bnd (lift (intD (.int n))) fun i => bnd (lift (intD (.int m))) fun j => lift (rgL i j)) g ρ2 = g (countD n 1 (m - n).toNat) ρ2 := by
            show bnd (lift (rgL n m)) g ρ2 = _
            rw [e]; rfl
          unfold Cn.at at q2 ⊢
          rw [this] at q2
          exact q2
      | _ => exact q2.elim
    | _ => exact q2.elim⟩
theorem EV_tupR {f : M (List D)} {p : Pos} (hc : X.calm = true) (hm : X.mg "tuple" = none) (he : ER c X e f) (hg : Gl X "tuple" := by rfl) (na : starEach [e] X.env = (false, eval e X.env) :: starEach [] X.env := by rfl) : EV c X (.Call (.Name "tuple" p) [e] [] pos) (bnd f fun ds => pur (.tup ds)) := by
  obtain ⟨t, h1, h2⟩ := he
  exact peOf (pe_tupRg hc hg hm h1 na) fun σ H Q ⟨B, ρ, fp, S, q⟩ => h2 S q fun a b ρ1 fp1 B1 H1 g1 ok q1 => ⟨ok, fun p hp => at_pur q1 _ _ _ _ (g1.sr.laid _ hp) (.tup upd_same rgV_rep)⟩
theorem EN_lstR {f : M (List D)} {p : Pos} (hc : X.calm = true) (hm : X.mg "list" = none) (he : ER c X e f) (hg : Gl X "list" := by rfl) (na : starEach [e] X.env = (false, eval e X.env) :: starEach [] X.env := by rfl) : EN c X (.Call (.Name "list" p) [e] [] pos) (bnd f fun ds => pur (.lst ds)) := by
  obtain ⟨t, h1, h2⟩ := he
  exact peOf (pe_listRg hc hg hm h1 na) fun σ H Q ⟨B, ρ, fp, S, q⟩ => h2 S q fun a b ρ1 fp1 B1 H1 g1 ok q1 => ⟨ok, fun p hp => fin_own g1.sr (at_pur q1) hp (g1.non hp) (.lst rfl upd_same rgV_rep)⟩
def negD : D → Option D
  | .int i => some (.int (-i))
  | _ => none
theorem EV_neg (ha : EV c X a fa) : EV c X (.UnaryOp .USub a pos) (op1 negD fa) :=
  peOf (pe_un un_neg ha) fun σ H Q ⟨B, ρ, fp, S, q⟩ => ⟨B, ρ, fp, S, at_bnd q fun x dx ρ1 fp1 B1 H1 g1 r1 q1 => by
    obtain ⟨d, hd, k⟩ := at_lift q1
    cases r1 with
    | int i => cases hd; exact ⟨i, rfl, k _ fp1 B1 H1 (.refl g1.sr) (.int _)⟩
    | _ => cases hd⟩
end
end Fl

set_option maxHeartbeats 1000000
namespace Fl
open PySem PySem.Spec PyProof.Rows L2

def lk (is : List Nat) (i : Nat) : Bool := is.contains i
/-- a def of the text as the top has left it -/
def Has (K : PySem.W.Frag) (mg : Str → Option Value) (x : Str) (st : Stmt) (ps : List Str) : Prop := ∃ f fd, Fun K x x st f fd ∧ mg x = some (.ref f) ∧ Binds K fd ps []
/-- a def that keeps its function -/
def Okd (P : Program) (w : World) (K : PySem.W.Frag) (mg : Str → Option Value) (base : Heap) (lev : Nat) (x : Str) (ps : List Str) (pow kp : Nat → Bool) (rm : Bool) (xr : Str → D → Value → Option Addr → Hp → Prop) (n : Nat) (F : List D → R D) : Prop :=
  ∃ f fd, mg x = some (.ref f) ∧ PySem.W.keepIn K (.ref f) = true ∧ Binds K fd ps [] ∧ FnOk P w K mg base (L2.CX P w) lev f fd ps (spF K pow kp rm xr n F)
section
variable {c : Cn} {X : Cx} {j k n : Nat} {x : Str} {ps : List Str} {kp : Nat → Bool} {m0 : List Md} {F : List D → R D} {p pos : Pos} {e : Expr} {es : List Expr} {ms : List Md} {fa : M (List D)}
theorem EV_cal (O : Okd X.prog X.w X.K X.mg X.base j x ps (ownM m0) kp false c.xr n F) (hr : Room k X.A) (tk : Takes X c.W) (ha : EA c X ms (e :: es) fa) (hjk : j ≤ k := by decide) (hK : c.K = X.K := by rfl) (hpow : m0.map Md.own = ms.map Md.own := by rfl) (hl : ms.length = n := by rfl) (hg : Gl X x := by rfl)
    (hdb : (x == ("__debug__" : Str)) = false := by decide) (he : starEach (e :: es) X.env = (false, eval e X.env) :: starEach es X.env := by rfl) (hpl : (backTo pos (starEach es X.env)).any (·.1) = false := by rfl) (hks : ksOk kp 0 ms = true := by rfl) : EV c X (.Call (.Name x p) (e :: es) [] pos) (callF ms F fa) := by
  obtain ⟨f, fd, hm, hk, hb, G⟩ := O
  exact EV_call (by rw [hK]; exact G.mono hjk) hr hm hk hb tk ha (ownM_own hpow) hl hg hdb he hpl hks
theorem EN_cal (O : Okd X.prog X.w X.K X.mg X.base j x ps (ownM m0) kp true c.xr n F) (hr : Room k X.A) (tk : Takes X c.W) (ha : EA c X ms (e :: es) fa) (hjk : j ≤ k := by decide) (hK : c.K = X.K := by rfl) (hpow : m0.map Md.own = ms.map Md.own := by rfl) (hl : ms.length = n := by rfl) (hg : Gl X x := by rfl)
    (hdb : (x == ("__debug__" : Str)) = false := by decide) (he : starEach (e :: es) X.env = (false, eval e X.env) :: starEach es X.env := by rfl) (hpl : (backTo pos (starEach es X.env)).any (·.1) = false := by rfl) (hks : ksOk kp 0 ms = true := by rfl) : EN c X (.Call (.Name x p) (e :: es) [] pos) (callF ms F fa) := by
  obtain ⟨f, fd, hm, hk, hb, G⟩ := O
  exact EN_call (by rw [hK]; exact G.mono hjk) hr hm hk hb tk ha (ownM_own hpow) hl hg hdb he hpl hks
theorem EV_cal0 (O : Okd X.prog X.w X.K X.mg X.base j x [] (ownM m0) kp false c.xr 0 F) (hr : Room k X.A) (tk : Takes X c.W) (hjk : j ≤ k := by decide) (hK : c.K = X.K := by rfl) (hpow : m0.map Md.own = ([] : List Md).map Md.own := by rfl) (hg : Gl X x := by rfl) (hdb : (x == ("__debug__" : Str)) = false := by decide) :
    EV c X (.Call (.Name x p) [] [] pos) (callF [] F aNil) := by
  obtain ⟨f, fd, hm, hk, hb, G⟩ := O
  have G' : FnOk X.prog X.w X.K X.mg X.base (L2.CX X.prog X.w) k f fd [] (spF c.K (ownM m0) kp false c.xr 0 F) := by rw [hK]; exact G.mono hjk
  refine ⟨fun pins s σ H Q I h => ?_⟩
  obtain ⟨B, ρ, fp, S, q⟩ := h
  have q2 := call_core (kp := kp) (Q := Q) (ms := []) (fa := aNil) (ownM_own hpow) (fun i j h => by simp at h) (fun _ _ _ h => relP_V h) rfl q
  have q4 : spF c.K (ownM m0) kp false c.xr 0 F ([] ++ []) H Q (WE c.W σ) := at_pur q2 [] fp B H (.refl S) ⟨rfl, _, .nil S.ex, fun _ _ h => h.elim, fun i j h => by simp at h⟩
  refine wpAny_Call_Name_kw (ld_glob I hg hm ?_ hdb)
  exact PySem.W.callWith_K0 I.kIn hk (run_fnSD (us := []) (E := WE c.W) (dvs := []) (ds := []) G' hr hb .nil (passAt tk σ) I .nil q4)
end
/-! globals that hold ints, texts -/
def GlobV (K : PySem.W.Frag) (mg : Str → Option Value) (x : Str) (d : D) : Prop := ∃ v u, mg x = some u ∧ RelV v u ∧ ∀ B, Rep K B v d
theorem EV_glob {c : Cn} {X : Cx} {x : Str} {d : D} {pos : Pos} (h : GlobV X.K X.mg x d) (hK : c.K = X.K := by rfl) (hg : Gl X x := by rfl) (hd : (x == ("__debug__" : Str)) = false := by decide) : EV c X (.Name x pos) (pur d) := by
  obtain ⟨v, u, hm, r, rp⟩ := h
  exact EV_c (pe_glob hg hm r hd) fun B => by rw [hK]; exact rp B
theorem ES_doc {c : Cn} {X : Cx} {x j pos pos'} : ES c X (.Expr (.Constant (.str x) j pos) pos') skip := psOf ps_doc fun D σ H ⟨B, ρ, fp, S, i, q⟩ => q σ fp B H (.refl S) (.refl σ)
/-- the law's own def: of every script it is True -/
theorem law_sp {K : PySem.W.Frag} {xr : Str → D → Value → Option Addr → Hp → Prop} {kp : Nat → Bool} {F : List D → R D} {n : Nat} (hF : ∀ ns : List Int, ns.length ≤ n → ∃ outs, F [.scr (ns.map D.int)] = .ok (.bl true) outs)
    (H : Hp) (a : Addr) (ns : List Int) (hl : ns.length ≤ n) (hS : SqL K H a (ns.map V.int)) : spF K (ownM [.v]) kp false xr 1 F [.ref a] H (fun v _ => v = .bl true) fun _ _ _ => False := by
  obtain ⟨outs, e⟩ := hF ns hl
  refine ⟨rfl, H, [.scr (ns.map D.int)], fun _ _ => False, ⟨rfl, Ex.refl _, fun i d h => ?_, fun _ _ _ h => h.elim, fun _ _ h => h.elim, fun _ _ h => h.elim⟩, ?_⟩
  · cases i with
    | zero =>
      cases h
      exact ⟨_, rfl, .scr hS (.ofInts ns)⟩
    | succ i => simp at h
  · rw [e]
    intro v fp' B' H' go r
    unfold relP at r
    rw [if_neg (by decide)] at r
    cases r
    rfl
theorem hcx {P : Program} {w : World} (H : Hp) (s : Shared) (e : Value) (s' : Shared) (h : L2.CX P w [] H s (fun _ _ _ => False) e s') : False := by
  obtain ⟨_, _, _, _, _, _, _, _, _, _, _, _, z⟩ := h
  exact z
end Fl

set_option maxHeartbeats 1000000
/-! zip, sorted of ints, list.index, an own list walked to its end, dict(zip) -/
namespace Fl
open PySem PySem.Spec PyProof.Rows L2
def pairL : List D → List D → List D
  | x :: xs, y :: ys => .tup [x, y] :: pairL xs ys
  | _, _ => []
theorem pairL_len : ∀ (xs ys : List D), (pairL xs ys).length = min xs.length ys.length
  | [], _ => by unfold pairL; simp
  | _ :: _, [] => by unfold pairL; simp
  | x :: xs, y :: ys => by
    unfold pairL
    rw [List.length_cons, pairL_len xs ys, List.length_cons, List.length_cons]; omega
theorem pairL_get : ∀ (xs ys : List D) (i : Nat) (d : D), (pairL xs ys)[i]? = some d → ∃ x y, xs[i]? = some x ∧ ys[i]? = some y ∧ d = .tup [x, y]
  | [], _, i, d, h => by unfold pairL at h; simp at h
  | _ :: _, [], i, d, h => by unfold pairL at h; simp at h
  | x :: xs, y :: ys, 0, d, h => by
    unfold pairL at h
    simp at h
    exact ⟨x, y, rfl, rfl, h.symm⟩
  | x :: xs, y :: ys, i + 1, d, h => by
    unfold pairL at h
    obtain ⟨a, b, h1, h2, h3⟩ := pairL_get xs ys i d (by simpa using h)
    exact ⟨a, b, by simpa using h1, by simpa using h2, h3⟩
def zipD : List D → Option (List D)
  | [.tup xs, .tup ys] => some (pairL xs ys)
  | [.lst xs, .lst ys] => some (pairL xs ys)
  | _ => none
def it_zip (fa fb : M D) : M (List D) := bnd (aCons fa (aCons fb aNil)) fun xs => lift (zipD xs)
theorem Yl_pair {K : PySem.W.Frag} {J : It} {B : Hp} {xs ys : List V} {ds es : List D} (r : RepL K B xs ds) (s : RepL K B ys es)
    (hg : ∀ H2 i x y, Ex B H2 → xs[i]? = some x → ys[i]? = some y → J.go i H2) (hy : ∀ H2 i v H3, Ex B H2 → J.yld i H2 v H3 → ∃ T x y, v = .ref T ∧ H2 T = none ∧ H3 = upd H2 T (.tup [x, y]) ∧ xs[i]? = some x ∧ ys[i]? = some y)
    (hs : ∀ H2 i, Ex B H2 → (xs.length ≤ i ∨ ys.length ≤ i) → J.stop i H2) : Yl K J B (pairL ds es) := fun B2 H2 e1 e2 i => by
  have e := e1.trans e2
  refine ⟨fun d hd => ?_, fun hl => hs H2 i e (by rw [pairL_len] at hl; rw [r.length, s.length]; omega)⟩
  obtain ⟨a, b, ha, hb, rfl⟩ := pairL_get ds es i d hd
  obtain ⟨x, hx, rx⟩ := r.get ha
  obtain ⟨y, hy', ry⟩ := s.get hb
  refine ⟨hg H2 i x y e hx hy', fun v H3 h => ?_⟩
  obtain ⟨T, x', y', rfl, hT, rfl, hx2, hy2⟩ := hy H2 i v H3 e h
  rw [hx] at hx2; cases hx2
  rw [hy'] at hy2; cases hy2
  have hB : B2 T = none := e2.free hT
  refine ⟨_, .inr ⟨T, _, hT, rfl, rfl⟩, .tup upd_same (.cons ((rx.mono e1).mono (Ex.new hB)) (.cons ((ry.mono e1).mono (Ex.new hB)) .nil))⟩
section
variable {c : Cn} {X : Cx} {a b e : Expr} {fa fb : M D} {p pos tpos : Pos} {elts : List Expr} {kk : Nat}
theorem EI_zip (ha : EV c X a fa) (hb : EV c X b fb) (hm : X.mg "zip" = none) (hK : c.K = X.K := by rfl) (hg : Gl X "zip" := by rfl) (hs : starEach [a, b] X.env = (false, eval a X.env) :: starEach [b] X.env := by rfl) (hs2 : starEach [b] X.env = (false, eval b X.env) :: starEach [] X.env := by rfl) (hpl : (backTo pos (starEach [b] X.env)).any (·.1) = false := by rfl) :
    EI c X (.Tuple elts kk tpos) (.Call (.Name "zip" p) [a, b] [] pos) (it_zip fa fb) :=
  piOf (RZ.pi_zipA hg hm (EA_cons ha (EA_cons hb EA_nil hs2) hs) hs hpl) fun σ H R ⟨B, ρ, fp, S, q⟩ => ⟨B, ρ, fp, S, at_bnd q fun vs ds ρ1 fp1 B1 H1 g r q1 => by
    obtain ⟨ys, hy, k⟩ := at_lift q1
    have r := relA_v (n := 2) (B := B) (H := H) r
    rw [← hK]
    unfold zipD at hy
    split at hy <;> cases hy
    · rename_i d1 d2
      cases r with
      | cons r1 r =>
        cases r with
        | cons r2 r =>
          cases r
          cases r1 with
          | @tup x xs _ ex rx =>
            cases r2 with
            | @tup y ys _ ey ry =>
              refine ⟨x, y, xs, ys, rfl, .inr ⟨SqT.of (g.sr.ex _ _ ex), SqT.of (g.sr.ex _ _ ey), k _ fp1 B1 H1 (.refl g.sr) (Yl_pair rx ry (fun H2 i u v e2 h1 h2 => ?_) (fun H2 i v H3 e2 h => ?_) (fun H2 i e2 h => ?_))⟩⟩
              · exact ⟨xs, ys, u, v, SqT.of (e2 _ _ ex), SqT.of (e2 _ _ ey), h1, h2⟩
              · obtain ⟨T, u, w, h1, h2, h3, h4, h5⟩ := h
                exact ⟨T, u, w, h1, h2, h3, h4 xs (SqT.of (e2 _ _ ex)), h5 ys (SqT.of (e2 _ _ ey))⟩
              · exact ⟨xs, ys, SqT.of (e2 _ _ ex), SqT.of (e2 _ _ ey), h⟩
    · rename_i d1 d2
      cases r with
      | cons r1 r =>
        cases r with
        | cons r2 r =>
          cases r
          cases r1 with
          | @lst x xs _ ex rx =>
            cases r2 with
            | @lst y ys _ ey ry =>
              refine ⟨x, y, xs, ys, rfl, .inl ⟨SqL.of (g.sr.ex _ _ ex), SqL.of (g.sr.ex _ _ ey), k _ fp1 B1 H1 (.refl g.sr) (Yl_pair rx ry (fun H2 i u v e2 h1 h2 => ?_) (fun H2 i v H3 e2 h => ?_) (fun H2 i e2 h => ?_))⟩⟩
              · exact ⟨xs, ys, u, v, SqL.of (e2 _ _ ex), SqL.of (e2 _ _ ey), h1, h2⟩
              · obtain ⟨T, u, w, h1, h2, h3, h4, h5⟩ := h
                exact ⟨T, u, w, h1, h2, h3, h4 xs (SqL.of (e2 _ _ ex)), h5 ys (SqL.of (e2 _ _ ey))⟩
              · exact ⟨xs, ys, SqL.of (e2 _ _ ex), SqL.of (e2 _ _ ey), h⟩⟩
end
/-! ### sorted of ints -/
def insI (x : Int) : List Int → List Int
  | [] => [x]
  | y :: ys => if x ≤ y then x :: y :: ys else y :: insI x ys
def sortI : List Int → List Int
  | [] => []
  | x :: xs => insI x (sortI xs)
theorem insI_perm (x : Int) : ∀ ys, (insI x ys).Perm (x :: ys)
  | [] => .refl _
  | y :: ys => by
    unfold insI
    split
    · exact .refl _
    · exact ((insI_perm x ys).cons y).trans (.swap x y ys)
theorem sortI_perm : ∀ xs, (sortI xs).Perm xs
  | [] => .refl _
  | x :: xs => (insI_perm x _).trans ((sortI_perm xs).cons x)
theorem insI_pw (x : Int) : ∀ ys, ys.Pairwise (· ≤ ·) → (insI x ys).Pairwise (· ≤ ·)
  | [], _ => by simp [insI]
  | y :: ys, h => by
    unfold insI
    rw [List.pairwise_cons] at h
    split
    · rename_i hx
      refine List.pairwise_cons.mpr ⟨fun z hz => ?_, List.pairwise_cons.mpr h⟩
      rcases List.mem_cons.mp hz with e | e
      · omega
      · have := h.1 z e; omega
    · rename_i hx
      refine List.pairwise_cons.mpr ⟨fun z hz => ?_, insI_pw x ys h.2⟩
      rcases List.mem_cons.mp ((insI_perm x ys).mem_iff.mp hz) with e | e
      · omega
      · exact h.1 z e
theorem sortI_pw : ∀ xs, (sortI xs).Pairwise (· ≤ ·)
  | [] => .nil
  | x :: xs => insI_pw x _ (sortI_pw xs)
theorem sort_one : ∀ {xs ys : List Int}, xs.Perm ys → xs.Pairwise (· ≤ ·) → ys.Pairwise (· ≤ ·) → xs = ys
  | [], ys, h, _, _ => (h.nil_eq)
  | x :: xs, [], h, _, _ => by simpa using h.length_eq
  | x :: xs, y :: ys, h, h1, h2 => by
    rw [List.pairwise_cons] at h1 h2
    have e : x = y := by
      rcases List.mem_cons.mp (h.mem_iff.mp (List.mem_cons_self (a := x) (l := xs))) with e | e
      · exact e
      · rcases List.mem_cons.mp (h.mem_iff.mpr (List.mem_cons_self (a := y) (l := ys))) with e' | e'
        · exact e'.symm
        · have := h2.1 x e
          have := h1.1 y e'
          omega
    subst e
    rw [sort_one (List.Perm.cons_inv h) h1.2 h2.2]
def sortedD (d : D) : Option D := ((seqB d).bind intsD).map fun ns => .lst ((sortI ns).map .int)
section
variable {c : Cn} {X : Cx} {a b e : Expr} {fa fb : M D} {p pos : Pos}
theorem cg_sorted : Cg1 c (rSortedI c.K) sortedD (relN c) := fun {fp0 H0 B ρ fp σ H x dx Q} S hz hx q => by
  obtain ⟨d, hd, k⟩ := at_lift q
  unfold sortedD at hd
  cases e : seqB dx with
  | none => rw [e] at hd; cases hd
  | some ds =>
    cases e2 : intsD ds with
    | none => rw [e] at hd; simp only [Option.bind_some, e2] at hd; cases hd
    | some ns =>
      rw [e] at hd
      simp only [Option.bind_some, e2, Option.map_some, Option.some.injEq] at hd
      subst hd
      obtain ⟨a, xs, rfl, hs, r⟩ := seqB_bor S.ex hx e
      rw [intsD_v e2] at r
      rw [RepL.ints r] at hs
      refine ⟨a, ns, rfl, hs, fun ns' p h1 h2 hp => ?_⟩
      have es : ns' = sortI ns := sort_one (h1.trans (sortI_perm ns).symm) h2 (sortI_pw ns)
      subst es
      exact fin_own S k hp (hz p hp) (.lst rfl upd_same (.ofInts _))
theorem EN_sorted {k : Nat} (_ : Room k X.A) (hm : X.mg "sorted" = none) (ha : EB c X a fa) (hK : c.K = X.K := by rfl) (hx : Gl X "sorted" := by rfl) (hs : starEach [a] X.env = (false, eval a X.env) :: starEach [] X.env := by rfl) (hpl : (backTo pos (starEach [] X.env)).any (·.1) = false := by rfl) :
    EN c X (.Call (.Name "sorted" p) [a] [] pos) (op1 sortedD fa) := E_b1 cr_sortedI (by rw [← hK]; exact cg_sorted) hm ha hx (by decide +kernel) (by decide) (by decide) hs hpl
end

/-! ### l.index(x), l a value -/
def idxP (ds : List PyData) (d : PyData) : Option Nat := ds.findIdx? fun z => PyData.eqv z d
def indexD : D → D → Option D
  | .lst xs, x => if SeqAt.shaped (.list (toPs xs)) = true ∧ SeqAt.shaped (toP x) = true then (idxP (toPs xs) (toP x)).map fun j => .int (j : Nat) else none
  | _, _ => none
theorem idxP_spec : ∀ {ds : List PyData} {d : PyData} {j : Nat}, idxP ds d = some j → (∃ z, ds[j]? = some z ∧ PyData.eqv z d = true) ∧ ∀ m z', m < j → ds[m]? = some z' → PyData.eqv z' d = false := fun {ds d j} h => by
  unfold idxP at h
  rw [List.findIdx?_eq_some_iff_getElem] at h
  obtain ⟨hj, h1, h2⟩ := h
  refine ⟨⟨ds[j], List.getElem?_eq_getElem hj, h1⟩, fun m z' hm hz => ?_⟩
  obtain ⟨hm2, e⟩ := List.getElem?_eq_some_iff.mp hz
  have := h2 m hm
  rw [e] at this
  simpa using this
end Fl

set_option maxHeartbeats 1000000
/-! sorted of data: ints, texts, tuples of these, nested -/
namespace Fl
open PySem PySem.Spec PyProof.Rows L2
def isTupP : PyData → Bool
  | .tuple (_ :: _) => true
  | _ => false
def notTupP : PyData → Bool
  | .tuple _ => false
  | .none => false
  | _ => true
def okSort (ds : List PyData) : Bool := ds.all (fun d => ds.all fun e => PySem.W.alike d e) && (ds.all isTupP || ds.all notTupP) && ds.all (fun d => d.canLay0 && Nat.ble d.depth 60)
theorem okSort_ok {ds : List PyData} (h : okSort ds = true) : PySem.W.AllAlike ds ∧ PySem.W.Sortable ds ∧ (∀ d ∈ ds, d.canLay0 = true ∧ d.depth ≤ 60) := by
  unfold okSort at h
  rw [Bool.and_eq_true, Bool.and_eq_true, Bool.or_eq_true] at h
  obtain ⟨⟨h1, h2⟩, h3⟩ := h
  refine ⟨fun d hd e he => List.all_eq_true.mp (List.all_eq_true.mp h1 d hd) e he, ?_, fun d hd => ?_⟩
  · rcases h2 with h2 | h2
    · refine .inl fun d hd => ?_
      have := List.all_eq_true.mp h2 d hd
      unfold isTupP at this
      split at this
      · rename_i x r; exact ⟨x, r, rfl⟩
      · cases this
    · refine .inr fun d hd => ?_
      have := List.all_eq_true.mp h2 d hd
      constructor
      · rintro rfl; cases this
      · rintro xs rfl; cases this
  · have := List.all_eq_true.mp h3 d hd
    rw [Bool.and_eq_true, Nat.ble_eq] at this
    exact this
def sortDs (ds : List D) : List D := ds.mergeSort (PySem.W.dataLe false toP)
def rSortD (K : PySem.W.Frag) : List V → Hp → VK → Prop := fun vs H Q => ∃ (a : Addr) (xs : List V) (ds : List D) (B : Hp), vs = [.ref a] ∧ SqL K H a xs ∧ Ex B H ∧ RepL K B xs ds ∧ okSort (ds.map toP) = true ∧
  ∀ (ys : List V) (p : Addr), RepL K B ys (sortDs ds) → H p = none → Q (.ref p) (upd H p (.lst ys))
theorem each_rep {K : PySem.W.Frag} {B : Hp} : ∀ {xs : List V} {us : List Value} {ds : List D}, RepL K B xs ds → Vals xs us → PySem.W.EachIs (fun u d => ∃ x, RelV x u ∧ Rep K B x d) us ds
  | _, _, _, .nil, .nil => .nil
  | _, _, _, .cons a t, .cons r rs => .cons ⟨_, r, a⟩ (each_rep t rs)
theorem rep_each {K : PySem.W.Frag} {B : Hp} : ∀ {us : List Value} {ds : List D}, PySem.W.EachIs (fun u d => ∃ x, RelV x u ∧ Rep K B x d) us ds → ∃ xs, Vals xs us ∧ RepL K B xs ds
  | _, _, .nil => ⟨[], .nil, .nil⟩
  | _, _, .cons ⟨x, r, a⟩ t => by
    obtain ⟨xs, h1, h2⟩ := rep_each t
    exact ⟨x :: xs, .cons r h1, .cons a h2⟩
theorem each_mono_mem {α β : Type} {R S : α → β → Prop} : ∀ {xs : List α} {ys : List β}, PySem.W.EachIs R xs ys → (∀ x y, y ∈ ys → R x y → S x y) → PySem.W.EachIs S xs ys
  | _, _, .nil, _ => .nil
  | _, _, .cons a t, h => .cons (h _ _ (by simp) a) (each_mono_mem t fun x y m => h x y (by simp [m]))
section
variable {X : Cx}
theorem cr_sortD (hu : X.A.units + 65 < cLine) : CallR X (.builtin "sorted") (rSortD X.K) := by
  intro pins s σ H vs us Q I r h
  obtain ⟨a, xs, ds, B, rfl, hs, ex, rp, ok, q⟩ := h
  obtain ⟨its, rv, hl, hz⟩ := I.list hs
  rw [Vals.ref1 r]
  obtain ⟨h1, h2, h3⟩ := okSort_ok ok
  have e := each_rep rp rv
  have er : PySem.W.EachIs (fun v b => ∃ as, Reads s.heap v (toP b) as) its ds := each_mono_mem e fun u d m ⟨x, rx, hx⟩ =>
    Dp.reads I (toP d) x u (dp_of (hx.mono ex) (h3 _ (List.mem_map_of_mem m)).1) rx
  have hlen : its.length = ds.length := by rw [← rv.length]; exact rp.length
  refine PySem.W.sorted_data hl.isList e er h1 h2 (by rw [← rp.length]; exact hz) (fun b hb => ?_) fun out ho hout => ?_
  · have := (h3 _ (List.mem_map_of_mem (f := toP) hb)).2
    omega
  · obtain ⟨ys, hy, ry⟩ := rep_each hout
    obtain ⟨ep, he'⟩ := PyProof.Rows.sortedAll_at s.heap its out.toArray
    have hlen2 : ys.length ≤ sizeLine := by
      rw [hy.length, ho, ← rp.length]; exact hz
    exact ⟨.ref _, upd H (s.heap.objs.size + 1) (.lst ys), I.laid (t' := s.toks) (fun _ _ => PyProof.Rows.sortedAll_old) (Nat.le_succ _) ⟨hlen2, out, ep, hy, he'⟩, rfl, q _ _ ry (I.hok.fresh (Nat.le_succ _))⟩
end
def sortD (d : D) : Option D := (seqB d).bind fun ds => if okSort (ds.map toP) = true then some (.lst (sortDs ds)) else none
section
variable {c : Cn} {X : Cx} {a b e : Expr} {fa fb : M D} {p pos : Pos}
theorem cg_sortD : Cg1 c (rSortD c.K) sortD (relN c) := fun {fp0 H0 B ρ fp σ H x dx Q} S hz hx q => by
  obtain ⟨d, hd, k⟩ := at_lift q
  unfold sortD at hd
  cases e : seqB dx with
  | none => rw [e] at hd; cases hd
  | some ds =>
    rw [e] at hd
    obtain ⟨ok, rfl⟩ := ite_some (by simpa only [Option.bind_some] using hd)
    obtain ⟨a, xs, rfl, hs, r⟩ := seqB_bor S.ex hx e
    exact ⟨a, xs, ds, B, rfl, hs, S.ex, r, ok, fun ys p ry hp => fin_own S k hp (hz p hp) (.lst rfl upd_same ry)⟩
theorem EN_sortD {k : Nat} (hr : Room (k + 1) X.A) (hm : X.mg "sorted" = none) (ha : EB c X a fa) (hK : c.K = X.K := by rfl) (hx : Gl X "sorted" := by rfl) (hs : starEach [a] X.env = (false, eval a X.env) :: starEach [] X.env := by rfl) (hpl : (backTo pos (starEach [] X.env)).any (·.1) = false := by rfl) :
    EN c X (.Call (.Name "sorted" p) [a] [] pos) (op1 sortD fa) := E_b1 (cr_sortD (un65 hr)) (by rw [← hK]; exact cg_sortD) hm ha hx (by decide +kernel) (by decide) (by decide) hs hpl
end
/-! ### l.index(x), l a value -/
def isLstV : D → Option Unit
  | .lst _ => some ()
  | _ => none
def indexM (fa fb : M D) : M D := bnd fa fun x => bnd (lift (isLstV x)) fun _ => bnd fb fun y => lift (indexD x y)
section
variable {c : Cn} {X : Cx} {o b e : Expr} {fa fb : M D} {apos cpos : Pos}
theorem EV_index {k : Nat} (hr : Room (k + 1) X.A) (ha : EV c X o fa) (hb : EV c X b fb) (hK : c.K = X.K := by rfl)
    (hbase : attributeBase o "index" X.env (eval o X.env) = eval o X.env := by rfl)
    (hfew : ((backTo cpos (starEach [b] X.env)).all (fun x => !x.1) && (backToKw cpos (keywordEach [] X.env)).all (fun x => x.1.isSome)
      && decide ([b].length + ([] : List Keyword).length + (if ([] : List Keyword).isEmpty then 0 else 1) < 30)) = true := by rfl)
    (hline : (apos.endLine == cpos.line) = true := by rfl) (hs : starEach [b] X.env = (false, eval b X.env) :: starEach [] X.env := by rfl) (hplain : (backTo cpos (starEach [] X.env)).any (·.1) = false := by rfl) :
    EV c X (.Call (.Attribute o "index" apos) [b] [] cpos) (indexM fa fb) :=
  peOf (pe_bm PySem.F.plainAttrs_list PySem.F.slot_list_index PySem.F.type_list_index (mt_indexD (un65 hr)) ha (pa_cons hb pa_nil hs) hbase hfew hline hs hplain) fun σ H Q ⟨B, ρ, fp, S, q⟩ => ⟨B, ρ, fp, S, at_bnd q fun x dx ρ1 fp1 B1 H1 g1 r1 q1 => by
    obtain ⟨_, hl, q2⟩ := at_bl q1
    cases r1 with
    | @lst a xs ds e r =>
      refine ⟨by rw [← hK]; exact .inl ⟨rfl, xs, SqL.of (g1.sr.ex _ _ e)⟩, B1, ρ1, fp1, g1.sr, at_bnd q2 fun y dy ρ2 fp2 B2 H2 g2 r2 q3 => ?_⟩
      obtain ⟨d, hd, k⟩ := at_lift q3
      have hd : (if SeqAt.shaped (.list (toPs ds)) = true ∧ SeqAt.shaped (toP dy) = true then (idxP (toPs ds) (toP dy)).map fun j => Fl.D.int (j : Nat) else none) = some d := hd
      by_cases sh : SeqAt.shaped (.list (toPs ds)) = true ∧ SeqAt.shaped (toP dy) = true
      · rw [if_pos sh] at hd
        cases hj : idxP (toPs ds) (toP dy) with
        | none => rw [hj] at hd; cases hd
        | some j =>
          rw [hj] at hd
          cases hd
          obtain ⟨⟨z, hz, hz2⟩, hno⟩ := idxP_spec hj
          have d1 : Dp c.K H2 (.ref a) (toP (.lst ds)) := dp_of ((Rep.lst e r).mono (g2.b.trans g2.sr.ex)) (SeqAt.canLay_of_shaped (by unfold toP; exact sh.1))
          unfold toP at d1
          exact ⟨a, y, toP dy, toPs ds, j, z, rfl, rfl, by rw [← hK]; exact d1, by rw [← hK]; exact dp_of (r2.mono g2.sr.ex) (SeqAt.canLay_of_shaped sh.2), sh.1, sh.2, hz, hz2, hno, k _ fp2 B2 H2 (.refl g2.sr) (.int _)⟩
      · rw [if_neg sh] at hd; cases hd
    | _ => cases hl⟩
end
/-! ### a statement that is never met -/
theorem ES_no {c : Cn} {X : Cx} {st : Stmt} : ES c X st (fun _ => .no) := ⟨fun pins s σ H D I h => by
  obtain ⟨B, ρ, fp, S, i, q⟩ := h
  exact q.elim⟩
/-! ### an own list walked: from then on frozen, the slot is empty -/
def itF (j : Nat) : M (List D) := fun ρ => match get ρ j with
  | some (.lst ds) => .ok ds (ρ.set j none)
  | _ => .no
theorem SR.frzS {K : PySem.W.Frag} {ow : Nat → Bool} {B H : Hp} {σ : L2.St} {ρ : Rho} {fp : Fp} (S : SR K ow B H σ ρ fp) (j : Nat) : Go K ow fp B H σ (ρ.set j none) (fun i => if i = j then fun _ => False else fp i) (frz B H (fp j)) H ∧ Ex B (frz B H (fp j)) := by
  have e0 : Ex B (frz B H (fp j)) := fun a o e => by
    unfold frz
    rw [if_neg fun z => by rw [S.ub j a z] at e; cases e]
    exact e
  refine ⟨⟨⟨by simpa using S.ln, fun a o e => ?_, fun i d h => ?_, fun i k a h1 h2 => ?_, fun i a h => ?_, fun i a h => ?_⟩, e0, fun _ _ h _ => h, fun _ o h => ⟨o, h⟩, fun a o h z n => ?_, fun i a h => ?_⟩, e0⟩
  · unfold frz at e
    split at e
    · exact e
    · exact S.ex a o e
  · rcases getE_set h with ⟨_, e2, _⟩ | ⟨hi, e2⟩
    · cases e2
    · obtain ⟨v, h1, h2⟩ := S.sl i d e2
      refine ⟨v, h1, ?_⟩
      by_cases ho : ow i = true
      · rw [if_pos ho] at h2 ⊢
        have := h2.mono (H' := H) e0 fun _ _ _ e => e
        simpa [hi] using this
      · rw [if_neg ho] at h2 ⊢
        exact h2.mono e0
  · split at h1
    · exact h1.elim
    · split at h2
      · exact h2.elim
      · exact S.dj i k a h1 h2
  · split at h
    · exact h.elim
    · rename_i hi
      unfold frz
      rw [if_neg fun z => hi (S.dj i j a h z)]
      exact S.ub i a h
  · split at h
    · exact h.elim
    · exact S.al i a h
  · unfold frz
    rw [if_neg fun q => n ⟨j, q⟩]
    exact z
  · split at h
    · exact h.elim
    · exact .inl h
section
variable {c : Cn} {X : Cx} {tg e : Expr} {j : Nat}
theorem EI_own (h : PE X e (tVar j)) (ho : c.ow j = true := by rfl) (hK : c.K = X.K := by rfl) : EI c X tg e (itF j) :=
  piOf (pi_list h) fun σ H R ⟨B, ρ, fp, S, q⟩ => by
    rw [← hK]
    unfold Cn.at itF at q
    cases e1 : get ρ j with
    | none => rw [e1] at q; exact q.elim
    | some d =>
      rw [e1] at q
      cases d with
      | lst ds =>
        obtain ⟨v, hv, o⟩ := S.own ho (get_some e1)
        obtain ⟨g, e0⟩ := S.frzS j
        cases o with
        | @lst a xs _ p hx r =>
          have hB : frz B H (fp j) a = some (.lst xs) := by unfold frz; rw [if_pos p]; exact hx
          exact ⟨_, hv, a, rfl, ⟨xs, SqL.of hx⟩, q _ _ _ H g (Yl_list (SqL.of hB) (r.mono e0))⟩
      | _ => exact q.elim
end
end Fl

set_option maxHeartbeats 1000000
/-! dict(zip(a, b)), dict(pairs) -/
namespace Fl
open PySem PySem.Spec PyProof.Rows L2
def zipK : List Key → List V → List (Key × V)
  | k :: ks, v :: vs => (k, v) :: zipK ks vs
  | _, _ => []
def zipKV : List Key → List Value → List (Key × Value)
  | k :: ks, v :: vs => (k, v) :: zipKV ks vs
  | _, _ => []
def tDictZip (K : PySem.W.Frag) (ta : TA) : TE := fun σ H Q => ta σ H fun vs H1 => ∃ (a b : Addr) (ks : List Key) (ys : List V), vs = [.ref a, .ref b] ∧ SqL K H1 a (ks.map kV) ∧ SqL K H1 b ys ∧ ∀ p, H1 p = none → Q (.ref p) (upd H1 p (.dK (mergeK [] (zipK ks ys))))
theorem zipK_kv : ∀ {ks : List Key} {ys : List V} {us : List Value}, Vals ys us → KV (zipK ks ys) (zipKV ks us)
  | [], _, _, _ => by unfold zipK zipKV; exact .nil
  | _ :: _, _, _, .nil => by unfold zipK zipKV; exact .nil
  | k :: ks, _, _, .cons r t => by unfold zipK zipKV; exact .cons ⟨rfl, r⟩ (zipK_kv t)
theorem zipKV_len : ∀ (ks : List Key) (us : List Value), (zipKV ks us).length = min ks.length us.length
  | [], _ => by unfold zipKV; simp
  | _ :: _, [] => by unfold zipKV; simp
  | k :: ks, u :: us => by unfold zipKV; rw [List.length_cons, zipKV_len ks us, List.length_cons, List.length_cons]; omega
theorem zipKV_get {P : Program} {w : World} : ∀ {ks : List Key} {ku us : List Value}, Vals (ks.map kV) ku → ∀ (i : Nat) (x y : Value), ku[i]? = some x → us[i]? = some y → ∃ k, (zipKV ks us)[i]? = some (k, y) ∧ (mixKind P w).is k x = true
  | [], ku, us, r, i, x, y, h, _ => by
    rw [List.map_nil] at r
    cases r
    simp at h
  | k :: ks, ku, us, r, i, x, y, h1, h2 => by
    rw [List.map_cons] at r
    cases r with
    | cons r t =>
      cases us with
      | nil => simp at h2
      | cons u us =>
        cases i with
        | zero =>
          simp at h1 h2
          subst h1 h2
          exact ⟨k, by unfold zipKV; rfl, kV_is r⟩
        | succ i =>
          obtain ⟨k', h, h'⟩ := zipKV_get (P := P) (w := w) t i x y (by simpa using h1) (by simpa using h2)
          exact ⟨k', by unfold zipKV; simpa using h, h'⟩
theorem pe_dictZip {X : Cx} {e e2 : Expr} {ta : TA} {p p2 q pos : Pos} (hc : X.calm = true) (hg : Gl X "dict") (hm : X.mg "dict" = none) (hg2 : Gl X "zip") (hm2 : X.mg "zip" = none) (ha : PA X [e, e2] ta)
    (hs : starEach [e, e2] X.env = (false, eval e X.env) :: starEach [e2] X.env := by rfl) (hpl : (backTo q (starEach [e2] X.env)).any (·.1) = false := by rfl)
    (na : starEach [.Call (.Name "zip" p2) [e, e2] [] q] X.env = (false, eval (.Call (.Name "zip" p2) [e, e2] [] q) X.env) :: starEach [] X.env := by rfl) :
    PE X (.Call (.Name "dict" p) [.Call (.Name "zip" p2) [e, e2] [] q] [] pos) (tDictZip X.K ta) := by
  refine ⟨fun pins s σ H Q I h => ?_⟩
  refine Call_ (ld_blt I hg hm PyProof.Rows.boot_dict ?_)
  refine PyProof.Rows.callWith_type1 (PyProof.Rows.args_cons ?_ na) na rfl
  refine Call_ (ld_blt I hg2 hm2 PyProof.Rows.boot_zip ?_)
  refine PyProof.Rows.callWith_type1 (L2.thn (ha.run q pins s σ H _ I h) fun us s1 ⟨vs, H1, I1, r1, q1⟩ => ?_) hs hpl
  obtain ⟨a, b, ks, ys, rfl, hqx, hqy, q1⟩ := q1
  cases r1 with
  | cons r rr =>
    cases rr with
    | cons r' rr =>
      cases rr
      cases r
      cases r'
      obtain ⟨its, rv, p1, _⟩ := I1.list hqx
      obtain ⟨its2, rv2, pl2, hz2⟩ := I1.list hqy
      have la : a < s1.heap.objs.size := p1.lt
      have lb : b < s1.heap.objs.size := pl2.lt
      refine call_zip_2 p1.isList pl2.isList fun h' hz hTI hTO h1 h2 hsz hk => ?_
      refine PyProof.Rows.args_nil ?_
      have D := PySem.W.ktu_apart s1.heap.objs.size a b la lb
      have hlen : (zipKV ks its2).length = min its.toArray.size its2.toArray.size := by
        rw [zipKV_len, List.size_toArray, List.size_toArray, ← rv.length, List.length_map]
      have hl2 : its2.length ≤ sizeLine := by rw [← rv2.length]; exact hz2
      have hmin : min its.toArray.size its2.toArray.size ≤ sizeLine := Nat.le_trans (Nat.min_le_right _ _) (by rw [List.size_toArray]; exact hl2)
      refine PySem.call_dict_pairs (knd := mixKind X.prog X.w) (kvs := zipKV ks its2) (PySem.PairArg.zip (prog := X.prog) (w := X.w) _ _ _ _ _ a b D its.toArray its2.toArray) (I1.ok.hd hc)
        ⟨hz, hTI, ⟨_, _, hTO⟩, h1, h2, p1.isList.at (fun o e => hk _ o e), pl2.isList.at (fun o e => hk _ o e)⟩ ⟨hlen, fun i key v hr => ?_⟩ hmin fun h2' tk hd' hk' => ?_
      · exact zipKV_get rv i key v (by simpa using hr.1) (by simpa using hr.2)
      · have hle : s1.heap.objs.size ≤ h'.objs.size := by rw [hsz]; omega
        have kk : ∀ b o, s1.heap.get? b = some o → h2'.get? b = some o := fun b o e => by
          have hb : b < s1.heap.objs.size := Heap.lt_size e
          refine hk' b o (fun hm => ?_) (hk b o e)
          have : b = s1.heap.objs.size + 4 ∨ b = s1.heap.objs.size + 3 ∨ b = s1.heap.objs.size ∨ b = s1.heap.objs.size + 1 := by simpa using hm
          rcases this with z | z | z | z <;> (rw [z] at hb; exact absurd hb (Nat.not_lt.mpr (by first | exact Nat.le_add_right _ _ | exact Nat.le_refl _)))
        have hm' : (h'.objs.size == sysModules) = false := beq_eq_false_iff_ne.mpr (Nat.ne_of_gt (Nat.lt_of_lt_of_le I1.big hle))
        have rel := zipK_kv (ks := ks) rv2
        have hlen3 : (mergeK [] (zipK ks ys)).length ≤ sizeLine := by
          refine Nat.le_trans (length_mergeK (zipK ks ys) []) ?_
          rw [List.length_nil, Nat.zero_add, rel.length, hlen]
          exact hmin
        exact ⟨.ref h'.objs.size, upd H1 h'.objs.size (.dK (mergeK [] (zipK ks ys))), I1.laid (t' := tk) kk hle (show ObjOk X.prog X.w _ _ _ (.dK (mergeK [] (zipK ks ys))) from ⟨hlen3, hm', merged [] (zipKV ks its2), KV.merge rel .nil, hd'⟩), rfl, q1 _ (I1.hok.fresh hle)⟩
def dictZipL : List D → Option D
  | [.lst xs, .lst ys] => match keysOf xs with
    | some ks => some (.dic (mergeE [] (pairE ks ys)))
    | none => none
  | _ => none
where pairE : List Key → List D → List (Key × D)
  | k :: ks, d :: ds => (k, d) :: pairE ks ds
  | _, _ => []
def dictZipM (fa fb : M D) : M D := bnd (aCons fa (aCons fb aNil)) fun xs => lift (dictZipL xs)
theorem pairE_rep {K : PySem.W.Frag} {B : Hp} : ∀ {ks : List Key} {ys : List V} {ds : List D}, RepL K B ys ds → RepP K B (zipK ks ys) (dictZipL.pairE ks ds)
  | [], _, _, _ => by unfold zipK dictZipL.pairE; exact .nil
  | _ :: _, _, _, .nil => by unfold zipK dictZipL.pairE; exact .nil
  | k :: ks, _, _, .cons a t => by unfold zipK dictZipL.pairE; exact .cons ⟨rfl, a⟩ (pairE_rep t)
section
variable {c : Cn} {X : Cx} {a b e : Expr} {fa fb : M D} {p p2 q pos : Pos}
theorem EN_dictZip (hm : X.mg "dict" = none) (hm2 : X.mg "zip" = none) (ha : EV c X a fa) (hb : EV c X b fb) (hc : X.calm = true := by rfl) (hK : c.K = X.K := by rfl) (hg : Gl X "dict" := by rfl) (hg2 : Gl X "zip" := by rfl)
    (hs : starEach [a, b] X.env = (false, eval a X.env) :: starEach [b] X.env := by rfl) (hs2 : starEach [b] X.env = (false, eval b X.env) :: starEach [] X.env := by rfl) (hpl : (backTo q (starEach [b] X.env)).any (·.1) = false := by rfl)
    (na : starEach [.Call (.Name "zip" p2) [a, b] [] q] X.env = (false, eval (.Call (.Name "zip" p2) [a, b] [] q) X.env) :: starEach [] X.env := by rfl) :
    EN c X (.Call (.Name "dict" p) [.Call (.Name "zip" p2) [a, b] [] q] [] pos) (dictZipM fa fb) :=
  peOf (pe_dictZip hc hg hm hg2 hm2 (EA_cons ha (EA_cons hb EA_nil hs2) hs) hs hpl na) fun σ H Q ⟨B, ρ, fp, S, q⟩ => ⟨B, ρ, fp, S, at_bnd q fun vs ds ρ1 fp1 B1 H1 g r q1 => by
    obtain ⟨d, hd, k⟩ := at_lift q1
    have r := relA_v (n := 2) (B := B) (H := H) r
    rw [← hK]
    unfold dictZipL at hd
    split at hd
    · rename_i xs ys
      split at hd
      · rename_i ks hk
        cases hd
        cases r with
        | cons r1 r =>
          cases r with
          | cons r2 r =>
            cases r
            cases r1 with
            | @lst x vx _ ex rx =>
              cases r2 with
              | @lst y vy _ ey ry =>
                rw [keysOf_v rx hk] at ex
                refine ⟨x, y, ks, vy, rfl, SqL.of (g.sr.ex _ _ ex), SqL.of (g.sr.ex _ _ ey), fun p hp => ?_⟩
                exact fin_own g.sr k hp (g.non hp) (.dic rfl upd_same (RepP.k (merge_rep (pairE_rep ry) .nil)))
      · cases hd
    · cases hd⟩
end
end Fl

set_option maxHeartbeats 2000000
/-! an own exception's __init__ that says super().__init__(e) -/
namespace Fl
open PySem PySem.Spec PyProof.Rows L2 PySem.W
/-- what the written part says: C's __init__ at f, written in the class at D (its cell at cc, its code at cda) -/
structure SupK (P : Program) (K : PySem.W.Frag) (C D f cc cda : Addr) (fd : FuncData) (ar : Arg) : Prop where
  lk : ∃ oc od osl, K.lookup f = some ⟨oc, od, .func fd, osl⟩
  hp : (fd.params.posonlyargs ++ fd.params.args).head? = some ar
  code : ∃ ccl cdd vs ccs file tf, K.lookup cda = some ⟨ccl, cdd, .fields vs, ccs⟩ ∧ vs[2]? = some (.str file tf) ∧ ((P.main.file : Str) == file) = true
  cell : ∃ cl cld csl, K.lookup cc = some ⟨cl, cld, .cell (some (.ref D)), csl⟩
  cls : ∃ cd, PySem.W.clsIn K D = some cd
  sub : PySem.W.mroIn K C (.ref D) = some true
  ini : ks_superIn K C D "__init__" = some (some (.builtin "ValueError.__init__"))
  ve : PySem.W.subIn K (.ref C) (.type "ValueError") = some true
  any : PySem.W.nsIn K cStatics "thirdparty.any" = some none
  top : (P.main.scope.names.lookup ("super" : Str)).isSome = false
section
variable {X : Cx} {pins : List (Addr × Obj)} {σ : L2.St} {H : Hp} {s : Shared} {a C D f cc cda : Addr} {fd : FuncData} {ar : Arg} {body : List Stmt} {e : Expr} {ta : TA} {p0 p1 apos pos : Pos} {Q : Hp → Prop}
theorem super_stmt (U : SupK X.prog X.K C D f cc cda fd ar) (T : OexC X.K C) (I : Inv X pins σ H s)
    (hfu : X.env.func = some f) (hco : X.env.code = .ref cda) (hcl : X.env.cells.lookup ("__class__" : Str) = some cc) (hks : X.env.kindOf "super" = some .globalImplicit) (hkc : X.env.kindOf "__class__" = some .free) (hka : X.env.kindOf ar.arg = some .local)
    (h0 : X.N[0]? = some ar.arg) (hs0 : σ[0]? = some (some (.ref a))) (hm : X.mg "super" = none) (hA : X.calm = true)
    (ea : H a = some (exo a C none)) (ha : PA X [e] ta)
    (q : ta σ H fun vs H1 => vs.length ≤ 1000 ∧ H1 a = some (exo a C none) ∧ Q H1)
    (he : starEach [e] X.env = (false, eval e X.env) :: starEach [] X.env := by rfl) (hpl : (backTo pos (starEach [] X.env)).any (·.1) = false := by rfl)
    (hev : ∃ pl, eval (.Call (.Attribute (.Call (.Name "super" p0) [] [] p1) "__init__" apos) [e] [] pos) X.env = (do
      let ov ← attributeBase (.Call (.Name "super" p0) [] [] p1) "__init__" X.env (eval (.Call (.Name "super" p0) [] [] p1) X.env)
      standAt apos.atName
      let (f, first) ← holding [ov] (getMethod ov "__init__" pl)
      callWith pos f first (backTo pos (starEach [e] X.env)) []) := by exact ⟨_, rfl⟩) :
    _root_.PySem.wpAt (model X.prog X.w) X.A (.func body X.env) (eval (.Call (.Attribute (.Call (.Name "super" p0) [] [] p1) "__init__" apos) [e] [] pos) X.env) (fun _ s' => ∃ H1, Inv X pins σ H1 s' ∧ Q H1) X.xe s := by
  obtain ⟨pl, hev⟩ := hev
  refine ks_wpAt_MethodCall (pl := pl) ?_ hev
  obtain ⟨oc, od, osl, lk⟩ := U.lk
  obtain ⟨ccl, cdd, vs, ccs, file, tf, hcode, hvs, hfile⟩ := U.code
  obtain ⟨cl, cld, csl, hcell⟩ := U.cell
  obtain ⟨cdD, hD⟩ := U.cls
  have KX := I.kIn
  obtain ⟨oD, hD1, hD2⟩ : ∃ oD, s.heap.get? D = some oD ∧ oD.data = .cls cdD := by
    unfold PySem.W.clsIn at hD
    split at hD
    · rename_i c d cd' sl ho
      cases hD
      exact ⟨_, KX _ _ ho, rfl⟩
    · cases hD
  obtain ⟨m, hns, hlk⟩ := I.loc
  have hself : m ar.arg = some (.ref a) := by
    obtain ⟨u, ru, lu⟩ := hlk 0 _ _ h0 hs0 (.inl hka)
    cases ru
    rcases lu with ⟨_, h⟩ | ⟨h, _⟩
    · exact h
    · rw [hka] at h; rcases h with h | h <;> cases h
  obtain ⟨t1, hoa⟩ := exo_at I.hok ea
  refine ks_wpAt_super_base hks hkc (by decide) hfu (KX _ _ lk) rfl U.hp hco (KX _ _ hcode) rfl hvs hfile U.top ?_
  obtain ⟨mb, hb1, hb2⟩ := I.mod.blt
  refine ks_loadName_global I.ok.kind hks (Calls.loadGlobal_builtin (by rw [I.ok.glob]; exact I.mod.glob.keeps I.bk) hm (by rw [I.ok.blt]; exact hb1.keeps I.bk) ((hb2 "super" (by decide)).trans (by decide +kernel : bootBuiltins "super" = some (.type "super"))) ⟨rfl, ?_⟩)
  refine wpAny_loadName_free I.ok.kind hkc hcl ⟨_, KX _ _ hcell, rfl⟩ ?_
  refine wpAny_loadName_local I.ok.kind hka hns hself ?_
  obtain ⟨hh, g, d, t, os⟩ := s
  refine ks_wpAny_isType_cls hD1 hD2 ⟨rfl, ?_⟩
  refine ks_wpAny_call_super hD1 hD2 hoa rfl (fun c e => by cases e) (looks_mroIn KX U.sub) (fun h' e1 k1 => ?_)
  have I1 : Inv X pins σ H ⟨h', g, d, t, os⟩ := I.kept (t' := t) k1
  have KX1 := I1.kIn
  have hI1 : Looks (model X.prog X.w) h' (isInstance (.ref a) (.type "ValueError")) true := by
    have IA : InstAt h' a { cls := .ref C, dict := none, data := .fields #[.ref t1, .none, .none, .none, .bool false, .none] } C none := ⟨k1 _ _ hoa, rfl, rfl, trivial⟩
    exact IA.type.andThen (looks_subIn KX1 U.ve)
  have hxC : a ≠ C := by
    obtain ⟨nm, q', N, bs, bm, sn, sub, ab, col, dd, k0, k1', k2, k3, k5, hC, hbm⟩ := T.cls
    intro z
    have := KX _ _ hC
    rw [← z, hoa] at this
    cases this
  obtain ⟨cd, hcd, hal⟩ : ∃ cd, clsIn X.K C = some cd ∧ alongIn X.K "__init__" ((cd.mro.dropWhile (· != .ref D)).drop 1) = some (some (.builtin "ValueError.__init__")) := by
    have hi := U.ini
    unfold ks_superIn at hi
    cases hc : clsIn X.K C with
    | none => rw [hc] at hi; cases hi
    | some cd => rw [hc] at hi; exact ⟨cd, rfl, hi⟩
  refine kxs_getMethod kxs_ValueError e1 (looks_opaque KX1 U.any) (l₀ := cd.mro) (fun A Q E s k q => wpAny_bind ((looks_clsIn KX1 hcd) A _ E s k (wpAny_pure q))) rfl KX1 hal hI1 hxC (by decide) ?_
  have I2 : Inv X pins σ H ⟨h'.push (kxs_mw "ValueError.__init__" a), g, d, t + 1, os⟩ := I1.kept (t' := t + 1) fun b o e => Heap.get?_push_of_some _ e
  have hu : (h'.push (kxs_mw "ValueError.__init__" a)).get? h'.objs.size = some (kxs_mw "ValueError.__init__" a) := Heap.get?_push_at rfl rfl
  have I3 : Inv X (pins ++ [(h'.objs.size, kxs_mw "ValueError.__init__" a)]) σ H ⟨h'.push (kxs_mw "ValueError.__init__" a), g, d, t + 1, os⟩ := I2.pins_of fun p hp => by
    rcases List.mem_append.mp hp with z | z
    · exact I2.pin p (List.mem_append_right _ z)
    · have z : p = (h'.objs.size, kxs_mw "ValueError.__init__" a) := by simpa using z
      subst z
      exact ⟨hu, I1.hok.fresh (Nat.le_refl _), Nat.ne_of_gt I1.lt, I1.nofs (Nat.le_refl _), fun v e => by cases e⟩
  show wpAny _ _ (callWith pos (.ref h'.objs.size) [] (backTo pos (starEach [e] X.env)) []) _ _ _
  have run := ha.run pos _ _ σ H _ I3 q
  rw [he] at run ⊢
  refine kxs_callWith (i := "ValueError.__init__") (x := a) (by show (false || (backTo pos (starEach [] X.env)).any (·.1)) = false; rw [hpl]; rfl) ?_
  refine PySem.Calls.evalArgs_plain (L2.thn run fun us s1 ⟨ws, H1, I4, r1, hl, ea1, q1⟩ => ?_)
  have pu := (I4.pin (h'.objs.size, kxs_mw "ValueError.__init__" a) (by simp)).1
  refine ⟨pu, ?_⟩
  obtain ⟨nm, q', N, bs, bm, sn, sub, ab, col, dd, k0, k1', k2, k3, k5, hC, hbm⟩ := T.cls
  have hC4 := I4.kIn _ _ hC
  obtain ⟨t2, ho4⟩ := exo_at I4.hok ea1
  have hlen : us.length ≤ sizeLine := by rw [← r1.length]; exact Nat.le_of_lt (small1000 hl)
  obtain ⟨h4, g4, d4, t4, os4⟩ := s1
  have FB := PySem.F.excBase_ValueError
  refine wpAny_call (codeAny_of_tree ?_)
  show wpAny _ X.A.in1 (callAny (.ref h'.objs.size) ⟨us, []⟩) _ _ _
  simp only [callAny]
  refine wpAny_bind (wpAny_load pu ?_)
  simp only [kxs_mw, show (Value.type "method-wrapper" == Value.type "method" || Value.type "method-wrapper" == Value.type "builtin_function_or_method" || Value.type "method-wrapper" == Value.type "method-wrapper") = true by decide, if_true]
  refine KFB.if_so (by decide) ?_
  refine wpAny_bind (check_bound_init FB.toExcCallFacts hC4 ho4 rfl ?_)
  refine wpAny_bind (wpAny_pure (wpAny_pure ?_))
  refine ⟨plainId_quiet FB.init.plain _, codeAny_builtin FB.initEntry ?_⟩
  refine exc_init_tree (cls := .ref C) (t0 := t2) (dv := none) (c2 := .none) (c3 := .none) (b4 := .bool false) ho4 hlen fun h5 k5 hx ht => ?_
  have J := I4.write (t' := t4) (x := a) (e := a) (o := exo a C none) (by rw [ea1]; exact True.intro) (.inl rfl) k5 ⟨_, hx⟩ (exo_ok hx)
  have eu : upd H1 a (exo a C none) = H1 := by
    funext b
    by_cases hb : b = a
    · rw [hb, upd_same, ea1]
    · rw [upd_ne hb]
  rw [eu] at J
  exact ⟨H1, J.pins_of fun p hp => J.pin p (List.mem_append_right _ (List.mem_append_left _ hp)), q1⟩
end
end Fl

set_option maxHeartbeats 2000000
/-! the whole __init__: super().__init__(e); self.f = word -/
namespace Fl
open PySem PySem.Spec PyProof.Rows L2 PySem.W NdefX
def spI (C : Addr) (fld : Str) (okv : V → Prop) : Sp := fun vs H Q E => ∃ (a : Addr) (v : V), vs = [.ref a, v] ∧ okv v ∧ H a = some (exo a C none) ∧ ∀ dx, H dx = none → dx ≠ a → Q .non (upd (upd H dx (exd dx [(fld, v)])) a (exo a C (some dx)))
theorem ok_super {CX : CXT} {P : Program} {w : World} {K : PySem.W.Frag} {mg : Str → Option Value} {base : Heap} {k : Nat} {f cc C D : Addr} {F : NF} {oc kV doc pm ct : Value} {an od : Option Addr} {osl : Array (Option Value)} {sf wd fld : Str} {okv : V → Prop} {ar : Arg}
    {p0 p1 apos pos pe q0 qa q1 qp : Pos} {e : Expr}
    (lk : K.lookup f = some ⟨oc, od, .func (PySem.W.fnX F.name F.qual F.params F.body F.scope F.cl .none kV doc pm an (.ref F.c) ct), osl⟩) (hcd : PySem.W.codeIn K (.ref F.c) F.qual = true)
    (S : NScope [sf, wd, "__class__"] [sf, wd] ["__class__"] F.scope) (hcl : F.cl = [(("__class__" : Str), cc)])
    (hbody : F.body = [.Expr (.Call (.Attribute (.Call (.Name "super" p0) [] [] p1) "__init__" apos) [e] [] pos) pe, .Assign [.Attribute (.Name sf q0) fld qa] (.Name wd q1) qp])
    (U : SupK P K C D f cc F.c (PySem.W.fnX F.name F.qual F.params F.body F.scope F.cl .none kV doc pm an (.ref F.c) ct) ar) (har : ar.arg = sf) (T : OexC K C)
    (hks : F.scope.names.lookup ("super" : Str) = some .globalImplicit) (hm : mg "super" = none) (hno : PySem.W.findIn K (.ref C) fld = some none)
    (hsd : (sf == ("__debug__" : Str)) = false) (hsc : (sf == ("__classdict__" : Str)) = false) (hwd : (wd == ("__debug__" : Str)) = false) (hwc : (wd == ("__classdict__" : Str)) = false)
    (hst : ∀ env : Env, starEach [e] env = (false, eval e env) :: starEach [] env)
    (hsw : ∀ env : Env, swapsWith (.Name wd q1) (some (.Attribute (.Name sf q0) fld qa)) qp.line env = pure false)
    (hev : ∀ env : Env, env.kindOf "super" = some .globalImplicit → ∃ pl, eval (.Call (.Attribute (.Call (.Name "super" p0) [] [] p1) "__init__" apos) [e] [] pos) env = (do
      let ov ← attributeBase (.Call (.Name "super" p0) [] [] p1) "__init__" env (eval (.Call (.Name "super" p0) [] [] p1) env)
      standAt apos.atName
      let (f, first) ← holding [ov] (getMethod ov "__init__" pl)
      callWith pos f first (backTo pos (starEach [e] env)) []))
    (he : ∀ (A : Around) (outer : List Env) (s : Shared) (H : Hp) (E : XK) (a : Addr) (v : V), okv v → Room k (A.deeper (envF F f s.heap.objs.size)) → ∃ te, PE (ncx CX P w K mg base [sf, wd, "__class__"] F f A outer s H E) e te ∧ ∀ R : V → Hp → Prop, (∀ x, R x H) → te (startF [sf, wd, "__class__"] [.ref a, v] [none]) H R) :
    FnOk P w K mg base CX (k + 1) f (PySem.W.fnX F.name F.qual F.params F.body F.scope F.cl .none kV doc pm an (.ref F.c) ct) [sf, wd] (spI C fld okv) := by
  refine ⟨fun vs H Q E ⟨a, v, h, _⟩ => by rw [h]; rfl, fun A outer s H args us vs Q E hr e0 hb r hsp => ?_⟩
  obtain ⟨a, v, rfl, hv, ea, q⟩ := hsp
  have KX : K.In s.heap := e0.mod.kin.keeps fun b o e => (e0.bs b o e).1
  have lim : s.heap.NoLimit := e0.mod.nolimit.keeps fun b o e => (e0.bs b o e).1
  refine codeAny_call_function hr.depth (KX _ _ lk) rfl S.co S.gen rfl (PySem.W.codeRec_of KX hcd) (hb _ _ _ _ ?_)
  refine wpAny_newFunctionEnv S.nocell (fun ⟨n, _⟩ hy => S.par n (List.of_mem_zip hy).1) (fun h₁ hns hsb => ⟨lim.fresh _ hsb, ?_⟩) S.kind
  show codeAny _ _ (.func F.body (envF F f s.heap.objs.size)) _ _
  refine ks_codeAny_funcAt ?_
  have kp : ∀ b o, s.heap.get? b = some o → h₁.get? b = some o := fun b o e => hsb.extBut b o (Nat.ne_of_lt (Heap.lt_size e)) (Heap.get?_push_of_some _ e)
  obtain ⟨cl, cld, csl, hcell⟩ := U.cell
  have clook : ∀ y c, F.cl.lookup y = some c → y = ("__class__" : Str) ∧ c = cc := fun y c h => by
    rw [hcl] at h
    by_cases z : y = ("__class__" : Str)
    · subst z
      simp [List.lookup] at h
      exact ⟨rfl, h.symm⟩
    · have z' : (y == ("__class__" : Str)) = false := by simpa using z
      simp [List.lookup, z'] at h
  have lc : F.cl.lookup ("__class__" : Str) = some cc := by rw [hcl]; simp [List.lookup]
  have C' : CellsAt F.cl ["__class__"] [none] s.heap H := ⟨rfl, fun y c h => by
      obtain ⟨_, rfl⟩ := clook y c h
      exact ⟨(e0.bs _ _ (e0.mod.kin _ _ hcell)).2, _, _, KX _ _ hcell, rfl⟩,
    fun x y c h1 h2 => (clook x c h1).1.trans (clook y c h2).1.symm, fun i y h => by
      cases i with
      | zero =>
        have h : ("__class__" : Str) = y := by simpa using h
        subst h
        exact ⟨cc, lc, fun v h => by simp at h⟩
      | succ i => simp at h⟩
  have I : Inv (ncx CX P w K mg base [sf, wd, "__class__"] F f A outer s H E) [] (startF [sf, wd, "__class__"] [.ref a, v] [none]) H { s with heap := h₁, toks := s.toks + ([sf, wd].zip us).length } := inv_startN S hr.hd e0 rfl r C' hns kp
  obtain ⟨te, hte, qe⟩ := he A outer s H E a v hv (hr.deeper _)
  have hst2 : starEach [e] (ncx CX P w K mg base [sf, wd, "__class__"] F f A outer s H E).env = (false, eval e (ncx CX P w K mg base [sf, wd, "__class__"] F f A outer s H E).env) :: starEach [] (ncx CX P w K mg base [sf, wd, "__class__"] F f A outer s H E).env := hst _
  have hsf : F.scope.names.lookup sf = some .local := S.par sf (by simp)
  have hwf : F.scope.names.lookup wd = some .local := S.par wd (by simp)
  have hcf : F.scope.names.lookup ("__class__" : Str) = some .free := S.frk _ (by simp)
  have st1 := super_stmt (X := ncx CX P w K mg base [sf, wd, "__class__"] F f A outer s H E) (body := F.body) (pins := []) (σ := startF [sf, wd, "__class__"] [.ref a, v] [none]) (H := H) (Q := fun H1 => H1 = H) (p0 := p0) (p1 := p1) (apos := apos) (pos := pos) U T I rfl rfl lc hks hcf (by rw [har]; exact hsf) (by rw [har]; rfl) rfl hm rfl ea
    (pa_cons hte pa_nil hst2) (by
      have z : te (startF [sf, wd, "__class__"] [.ref a, v] [none]) H (fun x H1 => (([x] : List V).length ≤ 1000 ∧ H1 a = some (exo a C none) ∧ H1 = H)) := qe _ fun x => ⟨by simp, ea, rfl⟩
      exact z) hst2 rfl (hev _ hks)
  rw [hbody]
  have tail : ∀ s2, Inv (ncx CX P w K mg base [sf, wd, "__class__"] F f A outer s H E) [] (startF [sf, wd, "__class__"] [.ref a, v] [none]) H s2 →
      wpAny (model P w) (A.deeper (envF F f s.heap.objs.size)) (execs [.Assign [.Attribute (.Name sf q0) fld qa] (.Name wd q1) qp] (envF F f s.heap.objs.size)) (fun fl s' => CR CX outer P w H s Q E (.ok (.ret (match fl with | .ret v => v | _ => .none))) s') (ncx CX P w K mg base [sf, wd, "__class__"] F f A outer s H E).xe s2 := fun s2 I2 => by
    have ps := pss_one (ps_ost (X := ncx CX P w K mg base [sf, wd, "__class__"] F f A outer s H E) (f := fld) (p' := qa) (pos := qp) (pe_var (i := 0) (pos := q0) rfl (.inl hsf) hsd hsc) (pe_var (i := 1) (pos := q1) rfl (.inl hwf) hwd hwc) (hsw _))
    refine wpAny_mono (ps.run [] s2 _ H { nx := fun _ H' => Q .non H', rt := Q } I2 ⟨v, rfl, .ref a, rfl, a, C, rfl, T, hno, .inl ⟨ea, fun dx hd hn => q dx hd hn⟩⟩) (fun fl s' hs => ?_) fun e s' hs => hs
    cases fl with
    | ret u =>
      obtain ⟨v', σ', H', J, rv, q'⟩ := hs
      exact ⟨v', H', J.os, J.bare, J.base, J.hok, rv, q'⟩
    | next =>
      obtain ⟨σ', H', J, q'⟩ := hs
      exact ⟨.non, H', J.os, J.bare, J.base, J.hok, rfl, q'⟩
    | brk =>
      obtain ⟨_, _, _, q'⟩ := hs
      exact False.elim q'
    | cont =>
      obtain ⟨_, _, _, q'⟩ := hs
      exact False.elim q'
  have hint : interactive (envF F f s.heap.objs.size) = false := by
    have hk : F.scope.kind = .function := S.kind
    unfold interactive
    rw [show (envF F f s.heap.objs.size).scope.kind = .function from hk]; rfl
  rw [hbody] at st1
  refine ks_wpAt_execs_cons (ks_wpAt_Expr_any (hi := hint) (_root_.PySem.wpAt_mono st1 (fun u s' h => ?_) fun e s' hs => hs))
  obtain ⟨H1, I2, eH⟩ := h
  subst eH
  exact _root_.PySem.wpAt_of_wpAny (tail s' I2)
end Fl

set_option maxHeartbeats 2000000
/-! raise X(word) -/
namespace Fl
open PySem PySem.Spec PyProof.Rows L2
def okStr (v : V) : Prop := ∃ s : Str, v = .str s ∧ s.length ≤ 1000
structure XOk (P : Program) (w : World) (K : PySem.W.Frag) (mg : Str → Option Value) (base : Heap) (lev : Nat) (x : Str) (C : Addr) (fld : Str) : Prop where
  m : mg x = some (.ref C)
  T : OexC K C
  ini : ∃ fI fd, PySem.W.findIn K (.ref C) "__init__" = some (some (.ref fI)) ∧ PySem.W.typeIn K (.ref fI) = some (.type "function") ∧ FnOk P w K mg base (L2.CX P w) lev fI fd ["self", "word"] (spI C fld okStr) ∧ Binds K fd ["self", "word"] []
/-- an exception in flight: its class, its word -/
def xrW (mg : Str → Option Value) (fld : Str) : Str → D → Value → Option Addr → Hp → Prop := fun x d cl dd H => ∃ (C a : Addr) (s : Str), mg x = some (.ref C) ∧ cl = .ref C ∧ d = .str s ∧ dd = some a ∧ H a = some (.xd [(fld, .str s)])
def raiseS (x : Str) (f : M D) : S := thn f fun d ρ => match d with
  | .str s => if s.length ≤ 1000 then .ex x (.str s) ρ else .no
  | _ => .no
section
variable {c : Cn} {X : Cx} {x fld : Str} {C : Addr} {k lev : Nat} {e : Expr} {fe : M D} {p pos pos2 : Pos}
theorem ES_raise (U : XOk X.prog X.w X.K X.mg X.base lev x C fld) (hr : Room (k + 1) X.A) (tk : Takes X c.W) (he : EV c X e fe) (hxr : c.xr = xrW X.mg fld := by rfl) (hlk : lev ≤ k := by decide) (hc : X.calm = true := by rfl) (hg : Gl X x := by rfl)
    (hdb : (x == ("__debug__" : Str)) = false := by decide) (hs : starEach [e] X.env = (false, eval e X.env) :: starEach [] X.env := by rfl) (hpl : (backTo pos (starEach [] X.env)).any (·.1) = false := by rfl) :
    ES c X (.Raise (some (.Call (.Name x p) [e] [] pos)) none pos2) (raiseS x fe) := by
  obtain ⟨fI, fd, iC, tI, F1, hb⟩ := U.ini
  refine psOf (ps_raise hc tk (pmk_oex U.T iC tI (F1.mono hlk) hr hb .nil (passes_call tk fun _ _ _ _ z => z.elim) hg U.m (pa_cons he pa_nil hs) hdb hs hpl)) fun D σ H ⟨B, ρ, fp, S, i, q⟩ => ?_
  refine ⟨B, ρ, fp, S, at_thn q fun v d ρ1 fp1 B1 H1 g1 r1 q1 => ?_⟩
  cases d with
  | str s =>
    by_cases hl : s.length ≤ 1000
    · simp only [if_pos hl] at q1
      cases r1
      refine ⟨by simp, fun a ha => ⟨a, .str s, rfl, ⟨s, rfl, hl⟩, upd_same, fun dx hdx hne => ?_⟩⟩
      have hd1 : H1 dx = none := by rw [upd_ne hne] at hdx; exact hdx
      refine ⟨rfl, dx, [(fld, .str s)], upd_same, ?_, hd1, ?_⟩
      · rw [upd_ne hne, upd_same]
      · have eH : upd (del (upd (upd (upd H1 a (exo a C none)) dx (exd dx [(fld, .str s)])) a (exo a C (some dx))) a) dx (.xd [(fld, .str s)]) = upd H1 dx (.xd [(fld, .str s)]) := by
          funext b
          by_cases hb : b = dx
          · rw [hb, upd_same, upd_same]
          · rw [upd_ne hb, upd_ne hb]
            by_cases hba : b = a
            · rw [hba, del_same, ha]
            · rw [del_ne hba, upd_ne hba, upd_ne hb, upd_ne hba]
        rw [eH]
        exact q1 (.ref C) (some dx) σ fp1 (upd B1 dx (.xd [(fld, .str s)])) _ (g1.sr.laid _ hd1) (.refl σ) (by rw [hxr]; exact ⟨C, dx, s, U.m, rfl, rfl, rfl, upd_same⟩)
    · simp only [if_neg hl] at q1; exact q1.elim
  | _ => exact q1.elim
end
/-! try: body; except x as n: return n.word == lit -/
def tryW (x : Str) (i : Nat) (lit : Str) (g : S) : S := fun ρ => match g ρ with
  | .ex y d ρ1 => if y = x ∧ i < ρ1.length then (match eqD d (.str lit) with
    | some r => .rt r ρ1
    | none => .no) else .no
  | o => o
section
variable {c : Cn} {X : Cx} {x fld n lit : Str} {C : Addr} {i k j : Nat} {body : List Stmt} {g : S} {p1 p2 p3 p4 p5 np pos' pos : Pos}
theorem ES_tryW (hb : ∀ (W : WX) (pn : List (Addr × Obj)) (xe : Value → Shared → Prop), Takes (X.tr pn xe) W → PassesOwn (model X.prog X.w) X.A X.env xe → ESs { c with W := W } (X.tr pn xe) body g)
    (Ux : X.mg x = some (.ref C)) (hxm : PySem.W.exmOne X.K (.ref C) (.ref C) = some true) (T : XfC X.K C) (hno : PySem.W.findIn X.K (.ref C) fld = some none) (hr : Room k X.A) (tk : Takes X c.W) (hN : X.N.Nodup) (hi : X.N[i]? = some n) (hln : X.env.kindOf n = some .local)
    (hxr : c.xr = xrW X.mg fld := by rfl) (hrm : c.rm = false := by rfl) (hs : X.stack = X.env :: X.outer := by rfl) (hf : X.env.frame = some X.env.locals := by rfl) (hg : Gl X x := by rfl) (hdb : (x == ("__debug__" : Str)) = false := by decide) (hnd : (n == ("__debug__" : Str)) = false := by decide) (hnc : (n == ("__classdict__" : Str)) = false := by decide)
    (hat : attributeBase (.Name n p1) fld X.env (eval (.Name n p1) X.env) = eval (.Name n p1) X.env := by rfl) :
    ES c X (.Try body [.ExceptHandler (some (.Name x np)) (some n) [.Return (some (.Compare (.Attribute (.Name n p1) fld p2) [.Eq] [.Constant (.str lit) j p3] p4)) p5] pos'] [] [] pos) (tryW x i lit g) := by
  have P := ps_try_as (X := X) (x := x) (n := n) (c := .ref C) (i := i) (body := body) (np := np) (pos := pos) (pos' := pos') (tb := fun W => canS { c with W := W } g) (Wout := c.W)
    (ts := fun a cls d => tRet (tOp (rEqD X.K) (tXf a cls d C fld (tVar i)) (tC (.str lit)))) (b₀ := .Return (some (.Compare (.Attribute (.Name n p1) fld p2) [.Eq] [.Constant (.str lit) j p3] p4)) p5) (suite := []) hs hf hN hi hln ⟨hg, hdb, .inl Ux⟩ tk hb
    (fun a oe cls d pn hz hfl => pss_one (ps_ret (pe_cmpR (X := X.suite a ((a, oe) :: pn)) (op_eqD hr.units) (pe_xf T hno hz hfl (pe_var hi (.inl hln) hnd hnc) hat) pe_str (nomark _))))
  refine psOf P fun D σ H ⟨B, ρ, fp, S, inn, q⟩ => ⟨B, ρ, fp, S, ⟨inn.t, inn.s⟩, ?_⟩
  unfold tryW at q
  cases e : g ρ with
  | nx ρ1 => rw [e] at q; exact q
  | bk ρ1 => rw [e] at q; exact q
  | ct ρ1 => rw [e] at q; exact q
  | rt d ρ1 => rw [e] at q; exact q
  | no => rw [e] at q; exact q
  | ex y d ρ1 =>
    rw [e] at q
    by_cases hyy : y = x ∧ i < ρ1.length
    · simp only [if_pos hyy] at q
      have hy := hyy.1
      cases ed : eqD d (.str lit) with
      | none => rw [ed] at q; exact q.elim
      | some r =>
        rw [ed] at q
        intro cl dd σ' fp' B' H' go kp hx
        have hx : c.xr y d cl dd H' := hx
        rw [hxr] at hx
        obtain ⟨C', a', s, hm, rfl, rfl, rfl, ha⟩ := hx
        rw [hy, Ux] at hm
        cases hm
        refine ⟨true, hxm, fun _ a hfree => ?_, fun z => by cases z⟩
        have hlen : i < σ'.length := by rw [go.sr.ln]; exact hyy.2
        refine ⟨.ref a, List.getElem?_set_self hlen, rfl, rfl, a', [(fld, .str s)], .str s, rfl, ha, by simp [List.lookup], ?_⟩
        unfold eqD at ed
        obtain ⟨sh, rfl⟩ := ite_some ed
        refine ⟨.str s, .str lit, .str _, .str _, sh.1, sh.2, ?_⟩
        exact q _ σ' _ B' H' (go.trans (Go.refl go.sr).masked) kp (by unfold relRt; rw [hrm, if_neg (by decide)]; exact .bl _)
    · simp only [if_neg hyy] at q; exact q.elim
end
end Fl

set_option maxHeartbeats 2000000
/-! an exception class of the text: what the top has left of it, and that it is made as it should be -/
namespace Fl
open PySem PySem.Spec PyProof.Rows L2 PySem.W NdefX
abbrev ar0 : Arguments → Arg := fun a => ((a.posonlyargs ++ a.args).head?).getD ⟨"", none, ⟨0, 0, 0, 0⟩⟩
/-- class x with one field fld, its __init__ is st -/
def XT (P : Program) (K : PySem.W.Frag) (mg : Str → Option Value) (x qual fld : Str) (st : Stmt) (C : Addr) : Prop :=
  ∃ (f cc cda : Addr) (oc kV doc pm ct : Value) (od an : Option Addr) (osl : Array (Option Value)), mg x = some (.ref C) ∧ OexC K C ∧ XfC K C ∧ findIn K (.ref C) fld = some none ∧ findIn K (.ref C) "__init__" = some (some (.ref f)) ∧ typeIn K (.ref f) = some (.type "function") ∧
    exmOne K (.ref C) (.ref C) = some true ∧ K.lookup f = some ⟨oc, od, .func (fnX "__init__" qual (defArgs st) (defBody st) (defScope st) [("__class__", cc)] .none kV doc pm an (.ref cda) ct), osl⟩ ∧ codeIn K (.ref cda) qual = true ∧
    SupK P K C C f cc cda (fnX "__init__" qual (defArgs st) (defBody st) (defScope st) [("__class__", cc)] .none kV doc pm an (.ref cda) ct) (ar0 (defArgs st))
theorem xok {P : Program} {w : World} {K : PySem.W.Frag} {mg : Str → Option Value} {base : Heap} {x qual fld pre : Str} {st : Stmt} {C : Addr} {jj : Nat} {p0 p1 apos pos pe q0 qa q1 qp pc pn pb : Pos} (T : XT P K mg x qual fld st C) (hm : mg "super" = none)
    (hS : nscB ["self", "word", "__class__"] ["self", "word"] ["__class__"] (defScope st) = true) (har : (ar0 (defArgs st)).arg = "self") (hks : (defScope st).names.lookup ("super" : Str) = some .globalImplicit) (hpre : pre.length ≤ 1000)
    (hbody : defBody st = [.Expr (.Call (.Attribute (.Call (.Name "super" p0) [] [] p1) "__init__" apos) [.BinOp (.Constant (.str pre) jj pc) .Add (.Name "word" pn) pb] [] pos) pe, .Assign [.Attribute (.Name "self" q0) fld qa] (.Name "word" q1) qp])
    (hev : ∀ env : Env, env.kindOf "super" = some .globalImplicit → ∃ pl, eval (.Call (.Attribute (.Call (.Name "super" p0) [] [] p1) "__init__" apos) [.BinOp (.Constant (.str pre) jj pc) .Add (.Name "word" pn) pb] [] pos) env = (do
      let ov ← attributeBase (.Call (.Name "super" p0) [] [] p1) "__init__" env (eval (.Call (.Name "super" p0) [] [] p1) env)
      standAt apos.atName
      let (f, first) ← holding [ov] (getMethod ov "__init__" pl)
      callWith pos f first (backTo pos (starEach [.BinOp (.Constant (.str pre) jj pc) .Add (.Name "word" pn) pb] env)) []))
    (hbd : ∀ (kV doc pm : Value) (an : Option Addr) (cdv ct : Value) (cl : List (Str × Addr)) (us : List Value), us.length = 2 → bindArgs (fnX "__init__" qual (defArgs st) (defBody st) (defScope st) cl .none kV doc pm an cdv ct) ⟨us, []⟩ = pure ((["self", "word"] : List Str).zip us)) :
    XOk P w K mg base 1 x C fld := by
  obtain ⟨f, cc, cda, oc, kV, doc, pm, ct, od, an, osl, hx, TC, TX, hno, hi, ht, he, lk, hcd, U⟩ := T
  have S := nscope_by hS
  have hwl : (defScope st).names.lookup ("word" : Str) = some .local := S.par "word" (by simp)
  refine ⟨hx, TC, f, _, hi, ht, ok_super (F := ⟨"__init__", qual, defArgs st, defBody st, defScope st, [("__class__", cc)], cda⟩) (okv := okStr) lk hcd S rfl hbody U har TC hks hm hno (by decide) (by decide) (by decide) (by decide) (fun _ => rfl) (fun _ => rfl) hev (fun A outer s H E a v hv hr => ?_), ?_⟩
  · obtain ⟨z, rfl, hz⟩ := hv
    refine ⟨_, pe_op op_add_str pe_str (pe_var (i := 1) rfl (.inl hwl) (by decide) (by decide)), fun R hR => ?_⟩
    refine ⟨.str z, rfl, pre, z, rfl, rfl, ?_, hR _⟩
    rw [sizeLine_eq]; omega
  · exact .all fun us hu => hbd _ _ _ _ _ _ _ us hu
end Fl

set_option maxHeartbeats 2000000
/-! an exception class: from the written part -/
namespace Fl
open PySem PySem.Spec PyProof.Rows L2 PySem.W NdefX
theorem exm_me {K : Frag} {C : Addr} (h1 : subIn K (.ref C) (.type "BaseException") = some true) (h2 : (clsIn K C).isSome = true) (h3 : typeIn K (.ref C) = some (.type "type")) (h4 : subIn K (.ref C) (.ref C) = some true) : exmOne K (.ref C) (.ref C) = some true := by
  unfold exmOne kitCls
  show (if (subIn K (.ref C) (.type "BaseException") == some true) = true then (if ((clsIn K C).isSome && typeIn K (.ref C) == some (.type "type")) = true then subIn K (.ref C) (.ref C) else none) else none) = some true
  rw [h1, h2, h3, h4]
  rfl
theorem xt_mk {P : Program} {K : Frag} {h : Heap} {mg : Str → Option Value} {x qual fld : Str} {st : Stmt} (X : K.In h) (G : h.Ns mainGlobals mg) {C f cc cda N : Addr} {nm q : Str} {bs bm : List Value} {sn : List Str} {sub : List Value} {ab : Bool} {col : Option Bool} {dd : Option Addr} {m0 m1 m2 m3 m5 : Option Value}
    {oc kV doc pm ct ccl cl : Value} {od an cdd cld : Option Addr} {osl ccs csl : Array (Option Value)} {vs : Array Value} {file : Str} {tf : Tok} {cd : ClassData}
    (aC : nsIn K mainGlobals x = some (some (.ref C))) (xL : K.lookup C = some (excClassObj nm q C N bs bm true sn sub ab col dd m0 m1 m2 m3 m5 "ValueError.__new__")) (hbm : HandSPX.refsVE bm = true)
    (sa : findIn K (.ref C) "__setattr__" = some (some (.builtin "object.__setattr__"))) (ga : findIn K (.ref C) "__getattribute__" = some (some (.builtin "BaseException.__getattribute__"))) (gg : findIn K (.ref C) "__getattr__" = some none)
    (nb : findIn K (.ref C) fld = some none) (a1 : findIn K (.ref C) "__init__" = some (some (.ref f))) (t1 : typeIn K (.ref f) = some (.type "function"))
    (l1 : K.lookup f = some ⟨oc, od, .func (fnX "__init__" qual (defArgs st) (defBody st) (defScope st) [("__class__", cc)] .none kV doc pm an (.ref cda) ct), osl⟩) (c1 : codeIn K (.ref cda) qual = true)
    (kC : keepIn K (.ref C) = true) (eC : subIn K (.ref C) (.type "BaseException") = some true) (tC : typeIn K (.ref C) = some (.type "type")) (hC : hasDictIn K C = true) (sC : subIn K (.ref C) (.ref C) = some true)
    (cdl : K.lookup cda = some ⟨ccl, cdd, .fields vs, ccs⟩) (cel : K.lookup cc = some ⟨cl, cld, .cell (some (.ref C)), csl⟩) (cls : clsIn K C = some cd) (mC : mroIn K C (.ref C) = some true)
    (ini : ks_superIn K C C "__init__" = some (some (.builtin "ValueError.__init__"))) (ve : subIn K (.ref C) (.type "ValueError") = some true) (any : nsIn K cStatics "thirdparty.any" = some none)
    (hvs : vs[2]? = some (.str file tf)) (hfile : ((P.main.file : Str) == file) = true) (top : (P.main.scope.names.lookup ("super" : Str)).isSome = false) (hp : ((defArgs st).posonlyargs ++ (defArgs st).args).head? = some (ar0 (defArgs st))) : XT P K mg x qual fld st C :=
  ⟨f, cc, cda, oc, kV, doc, pm, ct, od, an, osl, mg_of X G aC, ⟨⟨nm, q, N, bs, bm, sn, sub, ab, col, dd, m0, m1, m2, m3, m5, xL, hbm⟩, sa, eC, tC, kC⟩, ⟨ga, gg, eC, hC⟩, nb, a1, t1, exm_me eC (by rw [cls]; rfl) tC sC, l1, c1,
    ⟨⟨oc, od, osl, l1⟩, hp, ⟨ccl, cdd, vs, ccs, file, tf, cdl, hvs, hfile⟩, ⟨cl, cld, csl, cel⟩, ⟨cd, cls⟩, mC, ini, ve, any, top⟩⟩
theorem spF_xr {K : Frag} {pow kp : Nat → Bool} {rm : Bool} {xr xr' : Str → D → Value → Option Addr → Hp → Prop} {n : Nat} {F : List D → R D} (hx : ∀ x d cl dd H, xr x d cl dd H → xr' x d cl dd H) : ∀ vs H Q E, spF K pow kp rm xr' n F vs H Q E → spF K pow kp rm xr n F vs H Q E := fun vs H Q E ⟨hl, B, ds, fp, S, q⟩ => by
  refine ⟨hl, B, ds, fp, S, ?_⟩
  cases e : F ds with
  | ok d outs => rw [e] at q; exact q
  | no => rw [e] at q; exact q
  | ex x d outs => rw [e] at q; exact fun cl dd fp' B' H' g h => q cl dd fp' B' H' g (hx _ _ _ _ _ h)
end Fl

set_option maxHeartbeats 1000000
/-! steps of functions upon data, as rows for simp -/
namespace Fl
open PySem PySem.Spec PyProof.Rows L2
section
variable {α β : Type} (ρ : Rho)
@[simp ↓] theorem x_bnd (f : M α) (g : α → M β) : bnd f g ρ = match f ρ with | .ok a ρ' => g a ρ' | .ex x d ρ' => .ex x d ρ' | .no => .no := (rfl)
@[simp ↓] theorem x_pur (a : α) : (pur a : M α) ρ = .ok a ρ := (rfl)
@[simp ↓] theorem x_lift (o : Option α) : lift o ρ = match o with | some a => .ok a ρ | none => .no := (rfl)
@[simp ↓] theorem x_rd (i : Nat) : rd i ρ = lift (get ρ i) ρ := (rfl)
@[simp ↓] theorem x_op2 (g : D → D → Option D) (fa fb : M D) : op2 g fa fb ρ = bnd fa (fun x => bnd fb fun y => lift (g x y)) ρ := (rfl)
@[simp ↓] theorem x_op1 (g : D → Option D) (fa : M D) : op1 g fa ρ = bnd fa (fun x => lift (g x)) ρ := (rfl)
@[simp ↓] theorem x_tst (f : M D) : tst f ρ = bnd f (fun d => lift (tru d)) ρ := (rfl)
@[simp ↓] theorem x_andT (ta tb : M Bool) : andT ta tb ρ = bnd ta (fun x => if x = true then tb else pur false) ρ := (rfl)
@[simp ↓] theorem x_orT (ta tb : M Bool) : orT ta tb ρ = bnd ta (fun x => if x = true then pur true else tb) ρ := (rfl)
@[simp ↓] theorem x_notT (ta : M Bool) : notT ta ρ = bnd ta (fun x => pur (!x)) ρ := (rfl)
@[simp ↓] theorem x_andV (fa fb : M D) : andV fa fb ρ = bnd fa (fun x => bnd (lift (tru x)) fun k => if k = true then fb else pur (.bl false)) ρ := (rfl)
@[simp ↓] theorem x_orV (fa fb : M D) : orV fa fb ρ = bnd fa (fun x => bnd (lift (tru x)) fun k => if k = true then pur (.bl true) else fb) ρ := (rfl)
@[simp ↓] theorem x_notV (fa : M D) : notV fa ρ = bnd fa (fun x => bnd (lift (tru x)) fun k => pur (.bl (!k))) ρ := (rfl)
@[simp ↓] theorem x_ifM (t : M Bool) (fa fb : M α) : ifM t fa fb ρ = bnd t (fun x => if x = true then fa else fb) ρ := (rfl)
@[simp ↓] theorem x_chn (g g' : D → D → Option D) (fa fb fd : M D) : chn g g' fa fb fd ρ = bnd fa (fun x => bnd fb fun y => bnd (lift (g x y)) fun z => bnd (lift (tru z)) fun k => if k = true then bnd fd fun u => lift (g' y u) else pur (.bl false)) ρ := (rfl)
@[simp ↓] theorem x_aNil : aNil ρ = .ok [] ρ := (rfl)
@[simp ↓] theorem x_aCons (fa : M D) (fr : M (List D)) : aCons fa fr ρ = bnd fa (fun x => bnd fr fun xs => pur (x :: xs)) ρ := (rfl)
@[simp ↓] theorem x_aSlot (j : Nat) (fr : M (List D)) : aSlot j fr ρ = bnd (rd j) (fun _ => bnd fr fun xs => bnd (rd j) fun x => pur (x :: xs)) ρ := (rfl)
@[simp ↓] theorem x_thn (f : M α) (k : α → S) : thn f k ρ = match f ρ with | .ok a ρ' => k a ρ' | .ex x d ρ' => .ex x d ρ' | .no => .no := (rfl)
@[simp ↓] theorem x_skip : skip ρ = .nx ρ := (rfl)
@[simp ↓] theorem x_ret (f : M D) : ret f ρ = thn f (fun d ρ => .rt d ρ) ρ := (rfl)
@[simp ↓] theorem x_ifS (t : M Bool) (a b : S) : ifS t a b ρ = thn t (fun k => if k = true then a else b) ρ := (rfl)
@[simp ↓] theorem x_setS (i : Nat) (f : M D) : setS i f ρ = thn f (fun d ρ => .nx (ρ.set i (some d))) ρ := (rfl)
@[simp ↓] theorem x_asgS (f : M D) (g : G) : asgS f g ρ = thn f (fun d ρ => match g d ρ with | some ρ' => .nx ρ' | none => .no) ρ := (rfl)
@[simp ↓] theorem x_parS (is : List Nat) (f : M (List D)) : parS is f ρ = thn f (fun ds ρ => if ds.length = is.length then .nx ((is.zip ds).foldl (fun ρ p => ρ.set p.1 (some p.2)) ρ) else .no) ρ := (rfl)
@[simp ↓] theorem x_callF (ms : List Md) (F : List D → R D) (fa : M (List D)) : callF ms F fa ρ = bnd fa (fun ds ρ => match F ds with | .ok d outs => .ok d (upds ms outs ρ) | .ex x d outs => .ex x d (upds ms outs ρ) | .no => .no) ρ := (rfl)
@[simp ↓] theorem x_lcM (it : M (List D)) (g : G) (t : M Bool) (fe : M D) (vs : List Nat) : lcM it g t fe vs ρ = bnd it (lcK g t fe vs) ρ := (rfl)
@[simp ↓] theorem x_forS (it : M (List D)) (g : G) (s : S) : forS it g s ρ = thn it (fun ds => forGo g s ds) ρ := (rfl)
@[simp ↓] theorem x_itSeq (f : M D) : itSeq f ρ = bnd f (fun d => lift (seqD d)) ρ := (rfl)
@[simp ↓] theorem x_it1 (fa : M D) : it1 fa ρ = bnd (aCons fa aNil) (fun xs => lift (rng1 xs)) ρ := (rfl)
@[simp ↓] theorem x_it2 (fa fb : M D) : it2 fa fb ρ = bnd (aCons fa (aCons fb aNil)) (fun xs => lift (rng2 xs)) ρ := (rfl)
@[simp ↓] theorem x_it3 (fa fb fc : M D) : it3 fa fb fc ρ = bnd (aCons fa (aCons fb (aCons fc aNil))) (fun xs => lift (rng3 xs)) ρ := (rfl)
@[simp ↓] theorem x_ixS (j : Nat) (fb : M D) : ixS j fb ρ = bnd (rd j) (fun _ => bnd fb fun k => bnd (rd j) fun x => lift (ixD x k)) ρ := (rfl)
@[simp ↓] theorem x_methM (j : Nat) (m : D → List D → Option (D × D)) (fa : M (List D)) : methM j m fa ρ = bnd (rd j) (fun d0 => bnd (lift (isLst d0)) fun _ => bnd fa fun xs => updS j fun d => m d xs) ρ := (rfl)
@[simp ↓] theorem x_oNone : oNone ρ = .ok none ρ := (rfl)
@[simp ↓] theorem x_oSome (f : M D) : oSome f ρ = bnd f (fun d => bnd (lift (intD d)) fun i => pur (some i)) ρ := (rfl)
@[simp ↓] theorem x_slM (fa : M D) (fl fh : M (Option Int)) : slM fa fl fh ρ = bnd fa (fun x => bnd fl fun l => bnd fh fun h => lift (slD x l h)) ρ := (rfl)
@[simp ↓] theorem x_slS (j : Nat) (fl fh : M (Option Int)) : slS j fl fh ρ = bnd (rd j) (fun _ => bnd fl fun l => bnd fh fun h => bnd (rd j) fun x => lift (slD x l h)) ρ := (rfl)
@[simp ↓] theorem x_rgM2 (fa fb : M D) : rgM2 fa fb ρ = bnd fa (fun x => bnd fb fun y => bnd (lift (intD x)) fun i => bnd (lift (intD y)) fun j => lift (rgL i j)) ρ := (rfl)
end
/-- a row of statements: the first goes on -/
theorem sq_nx {s t : S} {ρ ρ' : Rho} (h : s ρ = .nx ρ') : sq s t ρ = t ρ' := by unfold sq; rw [h]
theorem sq_rt {s t : S} {ρ ρ' : Rho} {d : D} (h : s ρ = .rt d ρ') : sq s t ρ = .rt d ρ' := by unfold sq; rw [h]
@[simp ↓] theorem x_sq (s t : S) (ρ : Rho) : sq s t ρ = match s ρ with | .nx ρ' => t ρ' | o => o := (rfl)
@[simp] theorem get_0 (o : Option D) (r : Rho) : get (o :: r) 0 = o := (rfl)
@[simp] theorem get_s (o : Option D) (r : Rho) (n : Nat) : get (o :: r) (n + 1) = get r n := (rfl)
@[simp] theorem wipe_1 (ρ : Rho) (v : Nat) : wipeR ρ [v] = ρ.set v none := (rfl)
@[simp] theorem unw_1 (ρ ρe : Rho) (v : Nat) : unw ρ ρe [v] = ρe.set v (get ρ v) := (rfl)
@[simp] theorem gNam_x (i : Nat) (d : D) (ρ : Rho) : gNam i d ρ = some (ρ.set i (some d)) := (rfl)
@[simp] theorem mask_nil (kp : Nat → Bool) (n : Nat) : mask kp n [] = [] := (rfl)
@[simp] theorem mask_cons (kp : Nat → Bool) (n : Nat) (o : Option D) (r : Rho) : mask kp n (o :: r) = (if kp n = true then o else none) :: mask kp (n + 1) r := (rfl)
@[simp] theorem lk_nil (i : Nat) : lk [] i = false := (rfl)
@[simp] theorem lk_0 (i : Nat) : lk [0] i = (i == 0) := by unfold lk; simp [List.contains, List.elem]; cases i <;> rfl
@[simp] theorem tru_bl (b : Bool) : tru (.bl b) = some b := (rfl)
@[simp] theorem upds_nil (os ρ : Rho) : upds [] os ρ = ρ := (rfl)
@[simp] theorem upds_v (ms : List Md) (o : Option D) (os ρ : Rho) : upds (.v :: ms) (o :: os) ρ = upds ms os ρ := (rfl)
@[simp] theorem upds_n (ms : List Md) (o : Option D) (os ρ : Rho) : upds (.n :: ms) (o :: os) ρ = upds ms os ρ := (rfl)
@[simp] theorem upds_s (j : Nat) (ms : List Md) (o : Option D) (os ρ : Rho) : upds (.s j :: ms) (o :: os) ρ = upds ms os (ρ.set j o) := (rfl)
/-- naturals as data -/
def N (n : Nat) : D := .int n
@[simp] theorem lit0 : D.int 0 = N 0 := (rfl)
@[simp] theorem lit1 : D.int 1 = N 1 := (rfl)
@[simp] theorem lit2 : D.int 2 = N 2 := (rfl)
@[simp] theorem lit3 : D.int 3 = N 3 := (rfl)
@[simp] theorem lit4 : D.int 4 = N 4 := (rfl)
@[simp] theorem lit5 : D.int 5 = N 5 := (rfl)
@[simp] theorem lit7 : D.int 7 = N 7 := (rfl)
@[simp] theorem lit8 : D.int 8 = N 8 := (rfl)
@[simp] theorem lit9 : D.int 9 = N 9 := (rfl)
@[simp] theorem lit10 : D.int 10 = N 10 := (rfl)
@[simp] theorem lit18 : D.int 18 = N 18 := (rfl)
@[simp] theorem lit49 : D.int 49 = N 49 := (rfl)
@[simp] theorem lit58 : D.int 58 = N 58 := (rfl)
@[simp] theorem lit60 : D.int 60 = N 60 := (rfl)
@[simp] theorem lit72 : D.int 72 = N 72 := (rfl)
@[simp] theorem lit400 : D.int 400 = N 400 := (rfl)
@[simp] theorem lit997 : D.int 997 = N 997 := (rfl)
@[simp] theorem lit16807 : D.int 16807 = N 16807 := (rfl)
@[simp] theorem lit48271 : D.int 48271 = N 48271 := (rfl)
@[simp] theorem lit69621 : D.int 69621 = N 69621 := (rfl)
@[simp] theorem lit65521 : D.int 65521 = N 65521 := (rfl)
@[simp] theorem lit65537 : D.int 65537 = N 65537 := (rfl)
@[simp] theorem lit1000003 : D.int 1000003 = N 1000003 := (rfl)
def nat : D → Nat
  | .int k => k.toNat
  | _ => 0
@[simp] theorem nat_N (n : Nat) : nat (N n) = n := Int.toNat_natCast n
@[simp] theorem addN (a b : Nat) : addD (N a) (N b) = some (N (a + b)) := (rfl)
theorem subN {a b : Nat} (h : b ≤ a) : subD (N a) (N b) = some (N (a - b)) := by
  show some (D.int ((a : Int) - b)) = some (D.int ((a - b : Nat) : Int))
  rw [Int.ofNat_sub h]
theorem mulN {a b : Nat} (h : a < 2 ^ 64 ∨ b < 2 ^ 64) : mulD (N a) (N b) = some (N (a * b)) := by
  have : cMl a b = true := cMl_iff.mpr (by omega)
  show (if cMl a b = true then some (D.int ((a : Int) * b)) else none) = _
  rw [if_pos this]; rfl
theorem shlN {a b : Nat} (h : a < 2 ^ 64) (hb : b ≤ 1000000) : shlD (N a) (N b) = some (N (a * 2 ^ b)) := by
  have : cSh a b = true := cSh_iff.mpr ⟨by omega, by omega, by simpa using h⟩
  show (if cSh a b = true then some (D.int ((a : Int) * 2 ^ b)) else none) = _
  rw [if_pos this]
  show _ = some (D.int ((a * 2 ^ b : Nat) : Int))
  push_cast; rfl
theorem powN {a b : Nat} (h : a < 2 ^ 64) (hb : b ≤ 1000000) : powD (N a) (N b) = some (N (a ^ b)) := by
  have : cSh a b = true := cSh_iff.mpr ⟨by omega, by omega, by simpa using h⟩
  show (if cSh a b = true then some (D.int ((a : Int) ^ b)) else none) = _
  rw [if_pos this]
  show _ = some (D.int ((a ^ b : Nat) : Int))
  push_cast; rfl
@[simp] theorem mkLst_nil : mkLst [] = some (.lst []) := if_pos (Nat.zero_le _)
@[simp] theorem mkTup_nil : mkTup [] = some (.tup []) := if_pos (Nat.zero_le _)
@[simp] theorem mkTup_1 (a : D) : mkTup [a] = some (.tup [a]) := if_pos (by unfold szL; simp)
@[simp] theorem mkTup_2 (a b : D) : mkTup [a, b] = some (.tup [a, b]) := if_pos (by unfold szL; simp)
@[simp] theorem mkTup_3 (a b c : D) : mkTup [a, b, c] = some (.tup [a, b, c]) := if_pos (by unfold szL; simp)
@[simp] theorem mkTup_4 (a b c d : D) : mkTup [a, b, c, d] = some (.tup [a, b, c, d]) := if_pos (by unfold szL; simp)
@[simp] theorem shrN (a b : Nat) : shrD (N a) (N b) = some (N (a / 2 ^ b)) := by
  have : cShr a b = true := cShr_iff.mpr (by omega)
  show (if cShr a b = true then some (D.int ((a : Int) / 2 ^ b)) else none) = _
  rw [if_pos this]
  show _ = some (D.int ((a / 2 ^ b : Nat) : Int))
  push_cast; rfl
theorem modN {a b : Nat} (h : 0 < b) : modD (N a) (N b) = some (N (a % b)) := by
  have : cMod a b = true := cMod_iff.mpr (by omega)
  show (if cMod a b = true then some (D.int ((a : Int) % b)) else none) = _
  rw [if_pos this]; rfl
theorem divN {a b : Nat} (h : 0 < b) (h2 : b < 2 ^ 64) : divD (N a) (N b) = some (N (a / b)) := by
  have : cDiv a b = true := cDiv_iff.mpr (by omega)
  show (if cDiv a b = true then some (D.int ((a : Int) / b)) else none) = _
  rw [if_pos this]; rfl
@[simp] theorem xorN (a b : Nat) : xorD (N a) (N b) = some (N (a ^^^ b)) := by
  show some (D.int (Builtin.bitXor a b)) = _
  rw [Bits.bitXor_pp (by omega) (by omega)]; rfl
@[simp] theorem andN (a b : Nat) : andD (N a) (N b) = some (N (a &&& b)) := by
  show some (D.int (Builtin.bitAnd a b)) = _
  rw [bitAnd_pp (by omega) (by omega)]; rfl
@[simp] theorem eqN (a b : Nat) : eqD (N a) (N b) = some (.bl (decide (a = b))) := by
  unfold eqD
  rw [if_pos ⟨rfl, rfl⟩]
  congr 2
  show decide ((a : Int) = b) = decide (a = b)
  congr 1; exact propext (by omega)
@[simp] theorem neN (a b : Nat) : neD (N a) (N b) = some (.bl (!decide (a = b))) := by
  unfold neD
  rw [if_pos ⟨rfl, rfl⟩]
  congr 3
  show decide ((a : Int) = b) = decide (a = b)
  congr 1; exact propext (by omega)
@[simp] theorem ltN (a b : Nat) : ltD (N a) (N b) = some (.bl (decide (a < b))) := by
  show some (D.bl (decide ((a : Int) < b))) = _
  congr 3; exact propext (by omega)
@[simp] theorem leN (a b : Nat) : leD (N a) (N b) = some (.bl (decide (a ≤ b))) := by
  show some (D.bl (decide ((a : Int) ≤ b))) = _
  congr 3; exact propext (by omega)
@[simp] theorem gtN (a b : Nat) : gtD (N a) (N b) = some (.bl (decide (b < a))) := by
  show some (D.bl (decide ((b : Int) < a))) = _
  congr 3; exact propext (by omega)
@[simp] theorem geN (a b : Nat) : geD (N a) (N b) = some (.bl (decide (b ≤ a))) := by
  show some (D.bl (decide ((b : Int) ≤ a))) = _
  congr 3; exact propext (by omega)
@[simp] theorem intFN (a : Nat) : intF (N a) = some (N a) := (rfl)
theorem rng1N {n : Nat} (h : n < 2 ^ 62) : rng1 [N n] = some ((List.range n).map N) := by
  show (if okR n = true then some (countD 0 1 (n : Int).toNat) else none) = _
  rw [if_pos (okR_iff.mpr ⟨by omega, by omega⟩)]
  unfold countD
  congr 1
  apply List.map_congr_left
  intro i _
  show D.int (0 + (i : Int) * 1) = D.int i
  congr 1; omega
theorem szL_ok {n : Nat} (h : n < 2 ^ 20) : n ≤ szL := by unfold szL; omega
theorem rng3_def (i j c : Int) : rng3 [.int i, .int j, .int c] = if okR i = true ∧ okR j = true ∧ c = -1 then some (countD i (-1) (i - j).toNat) else none := rfl
theorem rng3N {n : Nat} (h : n < 2 ^ 62) (h0 : 0 < n) : rng3 [N (n - 1), .int (-1), .int (-1)] = some ((List.range n).map fun i => N (n - 1 - i)) := by
  unfold N
  rw [rng3_def, if_pos ⟨okR_iff.mpr ⟨by omega, by omega⟩, okR_iff.mpr ⟨by decide, by decide⟩, rfl⟩]
  have : (((n - 1 : Nat) : Int) - -1).toNat = n := by omega
  rw [this]
  unfold countD
  congr 1
  apply List.map_congr_left
  intro i hi
  rw [List.mem_range] at hi
  congr 1; omega
theorem ixNN {n i : Nat} (h : i < n) : ixN n (i : Int) = some i := by
  unfold ixN
  simp [h]
theorem atN {α : Type} {xs : List α} {i : Nat} {d : α} (h : xs[i]? = some d) : atI xs (i : Int) = some d := by
  unfold atI
  rw [ixNN (List.getElem?_eq_some_iff.mp h).1]; exact h
theorem ixTN {xs : List D} {i : Nat} {d : D} (h : xs[i]? = some d) : ixD (.tup xs) (N i) = some d := atN h
theorem ixLN {xs : List D} {i : Nat} {d : D} (h : xs[i]? = some d) : ixD (.lst xs) (N i) = some d := atN h
theorem ixSN {xs : List D} {i : Nat} {d : D} (h : xs[i]? = some d) : ixD (.scr xs) (N i) = some d := atN h
theorem mkTup_ok {xs : List D} (h : xs.length ≤ szL) : mkTup xs = some (.tup xs) := if_pos h
theorem mkLst_ok {xs : List D} (h : xs.length ≤ szL) : mkLst xs = some (.lst xs) := if_pos h
/-- a comprehension whose item is a function of the target -/
theorem lc_go {v : Nat} {fe : M D} {ρ : Rho} {f : D → D} : ∀ {ds : List D}, (∀ d ∈ ds, fe ((ρ.set v none).set v (some d)) = .ok (f d) ((ρ.set v none).set v (some d))) → lcGo (gNam v) (pur true) fe [v] ds (ρ.set v none) = some (ds.map f, ρ.set v none)
  | [], _ => rfl
  | d :: ds, h => by
    unfold lcGo
    simp only [gNam_x, x_pur]
    rw [h d (by simp)]
    simp only [wipe_1, List.set_set]
    rw [lc_go (fun e he => h e (by simp [he]))]
    rfl
theorem lc_k {v : Nat} {fe : M D} {ρ : Rho} {f : D → D} {ds : List D} (hl : ds.length ≤ szL) (h : ∀ d ∈ ds, fe ((ρ.set v none).set v (some d)) = .ok (f d) ((ρ.set v none).set v (some d))) : lcK (gNam v) (pur true) fe [v] ds ρ = .ok (.lst (ds.map f)) ((ρ.set v none).set v (get ρ v)) := by
  unfold lcK
  rw [if_pos hl]
  simp only [wipe_1]
  rw [lc_go h]
  simp only [unw_1]
end Fl

set_option maxHeartbeats 1000000
/-! rules of ends, loops -/
namespace Fl
open PySem PySem.Spec PyProof.Rows L2
def wq (o : Out) (Qn : Rho → Prop) (Qr : D → Rho → Prop) : Prop := match o with
  | .nx ρ => Qn ρ
  | .rt d ρ => Qr d ρ
  | _ => False
@[simp] theorem wq_nx (ρ : Rho) (Qn : Rho → Prop) (Qr : D → Rho → Prop) : wq (.nx ρ) Qn Qr = Qn ρ := rfl
@[simp] theorem wq_rt (d : D) (ρ : Rho) (Qn : Rho → Prop) (Qr : D → Rho → Prop) : wq (.rt d ρ) Qn Qr = Qr d ρ := rfl
theorem wq_sq {s t : S} {ρ : Rho} {Qn : Rho → Prop} {Qr : D → Rho → Prop} (h : wq (s ρ) (fun ρ' => wq (t ρ') Qn Qr) Qr) : wq (sq s t ρ) Qn Qr := by
  unfold sq
  cases e : s ρ <;> rw [e] at h <;> first | exact h | exact h.elim
theorem wq_sqx {s t : S} {ρ ρ' : Rho} {Qn : Rho → Prop} {Qr : D → Rho → Prop} (h : s ρ = .nx ρ') (k : wq (t ρ') Qn Qr) : wq (sq s t ρ) Qn Qr := wq_sq (by rw [h]; exact k)
theorem wq_mono {o : Out} {Qn Qn' : Rho → Prop} {Qr Qr' : D → Rho → Prop} (h : wq o Qn Qr) (k : ∀ ρ, Qn ρ → Qn' ρ) (k' : ∀ d ρ, Qr d ρ → Qr' d ρ) : wq o Qn' Qr' := by
  cases o <;> first | exact k _ h | exact k' _ _ h | exact h.elim
theorem wq_go {g : G} {s : S} {Qr : D → Rho → Prop} (P : Nat → Rho → Prop) : ∀ (ds : List D) (i : Nat) (ρ : Rho), (∀ j d ρ, ds[j]? = some d → P (i + j) ρ → ∃ ρ1, g d ρ = some ρ1 ∧ wq (s ρ1) (P (i + j + 1)) Qr) → P i ρ → wq (forGo g s ds ρ) (P (i + ds.length)) Qr
  | [], i, ρ, _, h => h
  | d :: ds, i, ρ, st, h => by
    obtain ⟨ρ1, h1, h2⟩ := st 0 d ρ rfl h
    unfold forGo
    rw [h1]
    simp only
    cases e : s ρ1 <;> rw [e] at h2 <;> try exact h2.elim
    · rename_i ρ2
      have := wq_go P ds (i + 1) ρ2 (fun j d ρ hj hp => by
        have q := st (j + 1) d ρ (by simpa using hj) (by rw [show i + (j + 1) = i + 1 + j by omega]; exact hp)
        rw [show i + 1 + j + 1 = i + (j + 1) + 1 by omega]
        exact q) h2
      rw [show i + (d :: ds).length = i + 1 + ds.length by simp; omega]
      exact this
    · exact h2
theorem wq_for {it : M (List D)} {g : G} {s : S} {ρ ρ1 : Rho} {ds : List D} {Qn : Rho → Prop} {Qr : D → Rho → Prop} (P : Nat → Rho → Prop) (hi : it ρ = .ok ds ρ1) (h0 : P 0 ρ1) (st : ∀ j d ρ, ds[j]? = some d → P j ρ → ∃ ρ2, g d ρ = some ρ2 ∧ wq (s ρ2) (P (j + 1)) Qr) (k : ∀ ρ, P ds.length ρ → Qn ρ) : wq (forS it g s ρ) Qn Qr := by
  unfold forS thn
  rw [hi]
  have := wq_go (Qr := Qr) P ds 0 ρ1 (fun j d ρ hj hp => by simpa using st j d ρ hj (by simpa using hp)) h0
  rw [Nat.zero_add] at this
  exact wq_mono this k fun _ _ h => h
theorem runF_of {n N : Nat} {kp : Nat → Bool} {rm : Bool} {g : S} {ds : List D} {post : D → Rho → Prop} (hl : ds.length = n) (h : wq (g (ds.map some ++ List.replicate (N - n) none)) (fun _ => False) fun d ρ => post d ((mask kp 0 ρ).take n)) : ∃ d outs, runF n N kp rm g ds = .ok d outs ∧ post d outs := by
  unfold runF
  rw [if_pos hl]
  cases e : g (ds.map some ++ List.replicate (N - n) none) <;> rw [e] at h <;> try exact h.elim
  exact ⟨_, _, rfl, h⟩
@[simp] theorem szL_lt {n : Nat} (h : n < 2 ^ 20) : n < szL := by unfold szL; omega
theorem appL {xs : List D} {y : D} (h : xs.length < 2 ^ 20) : appD (.lst xs) [y] = some (.non, .lst (xs ++ [y])) := if_pos (szL_lt h)
theorem addT {xs ys : List D} (h : xs.length + ys.length < 2 ^ 20) : addD (.tup xs) (.tup ys) = some (.tup (xs ++ ys)) := if_pos (szL_ok h)
@[simp] theorem isLst_l (xs : List D) : isLst (.lst xs) = some () := rfl
theorem x_updS (j : Nat) (g : D → Option (D × D)) (ρ : Rho) : updS j g ρ = match get ρ j with | some d => (match g d with | some (r, d') => .ok r (ρ.set j (some d')) | none => .no) | none => .no := (rfl)
mutual
def deq : D → D → Bool
  | .non, .non => true
  | .bl a, .bl b => a == b
  | .int a, .int b => decide (a = b)
  | .str a, .str b => decide (a = b)
  | .tup a, .tup b => deqs a b
  | .lst a, .lst b => deqs a b
  | _, _ => false
def deqs : List D → List D → Bool
  | [], [] => true
  | x :: xs, y :: ys => deq x y && deqs xs ys
  | _, _ => false
end
mutual
theorem deq_ok : ∀ {x y : D}, deq x y = true → x = y
  | .non, .non, _ => rfl
  | .bl a, .bl b, h => by simp [deq] at h; rw [h]
  | .int a, .int b, h => by simp [deq] at h; rw [h]
  | .str a, .str b, h => by simp [deq] at h; rw [h]
  | .tup a, .tup b, h => congrArg D.tup (deqs_ok (x := a) (y := b) (by simpa [deq] using h))
  | .lst a, .lst b, h => congrArg D.lst (deqs_ok (x := a) (y := b) (by simpa [deq] using h))
theorem deqs_ok : ∀ {x y : List D}, deqs x y = true → x = y
  | [], [], _ => rfl
  | x :: xs, y :: ys, h => by
    simp [deqs] at h
    rw [deq_ok h.1, deqs_ok h.2]
end
def isOk (r : R D) (d : D) (n : Nat) : Bool := match r with
  | .ok e outs => deq e d && outs.all (·.isNone) && decide (outs.length = n)
  | _ => false
theorem isOk_ok {r : R D} {d : D} {n : Nat} (h : isOk r d n = true) : r = .ok d (List.replicate n none) := by
  unfold isOk at h
  split at h
  · rename_i e outs
    simp only [Bool.and_eq_true, decide_eq_true_iff] at h
    obtain ⟨⟨h1, h2⟩, h3⟩ := h
    rw [deq_ok h1]
    congr 1
    refine List.ext_getElem (by simp [h3]) fun i a b => ?_
    have := List.all_eq_true.mp h2 outs[i] (List.getElem_mem _)
    rw [List.getElem_replicate]
    simpa using this
  · cases h
theorem cut_to {α : Type} (xs : List α) (p : Nat) : cutA xs none (some (p : Int)) = xs.take p := by
  unfold cutA
  rw [HT.sIx_none, HT.sIx_nat]
  simp
theorem cut_from {α : Type} (xs : List α) (p : Nat) : cutA xs (some (p : Int)) none = xs.drop p := by
  unfold cutA
  rw [HT.sIx_none, HT.sIx_nat]
  rw [List.take_of_length_le (by simp)]
  rcases Nat.le_total p xs.length with h | h
  · rw [Nat.min_eq_left h]
  · rw [Nat.min_eq_right h, List.drop_length, List.drop_of_length_le h]
@[simp] theorem intD_N (n : Nat) : intD (N n) = some (n : Int) := rfl
end Fl

set_option maxHeartbeats 1000000
/-! more steps -/
namespace Fl
open PySem PySem.Spec PyProof.Rows L2
theorem runF_rt {n m : Nat} {kp : Nat → Bool} {rm : Bool} {g : S} {ds : List D} {ρ ρ0 : Rho} {d : D} {outs : List (Option D)} (hn : ds.length = n) (e0 : ds.map some ++ List.replicate (m - n) none = ρ0) (h : g ρ0 = .rt d ρ) (ho : (mask kp 0 ρ).take n = outs) : runF n m kp rm g ds = .ok d outs := by
  unfold runF
  rw [if_pos hn, e0, h, ← ho]
theorem runF_ex {n m : Nat} {kp : Nat → Bool} {rm : Bool} {g : S} {ds : List D} {ρ ρ0 : Rho} {x : Str} {d : D} {outs : List (Option D)} (hn : ds.length = n) (e0 : ds.map some ++ List.replicate (m - n) none = ρ0) (h : g ρ0 = .ex x d ρ) (ho : (mask kp 0 ρ).take n = outs) : runF n m kp rm g ds = .ex x d outs := by
  unfold runF
  rw [if_pos hn, e0, h, ← ho]
theorem runF_nx {n m : Nat} {kp : Nat → Bool} {g : S} {ds : List D} {ρ ρ0 : Rho} {outs : List (Option D)} (hn : ds.length = n) (e0 : ds.map some ++ List.replicate (m - n) none = ρ0) (h : g ρ0 = .nx ρ) (ho : (mask kp 0 ρ).take n = outs) : runF n m kp false g ds = .ok .non outs := by
  unfold runF
  rw [if_pos hn, e0, h, ← ho]; rfl
theorem sq_ex {s t : S} {ρ ρ' : Rho} {x : Str} {d : D} (h : s ρ = .ex x d ρ') : sq s t ρ = .ex x d ρ' := by unfold sq; rw [h]
theorem getE_put {κ : Type} [DecidableEq κ] (k k' : κ) (d : D) : ∀ (es : List (κ × D)), getE (putE es k d) k' = if k' = k then some d else getE es k' := fun es => by
  unfold putE
  split
  · rename_i h
    induction es with
    | nil => simp at h
    | cons e es ih =>
      unfold getE at ih ⊢
      rw [List.map_cons, List.find?_cons, List.find?_cons]
      by_cases h1 : e.1 = k
      · simp only [h1, if_true]
        by_cases h2 : k = k'
        · simp [h2]
        · have h2' : ¬ k' = k := fun z => h2 z.symm
          simp only [h2, decide_false, if_neg h2', h1]
          by_cases h3 : (es.any fun e => decide (e.1 = k)) = true
          · rw [ih h3, if_neg h2']
          · have : es.map (fun e => if e.1 = k then (e.1, d) else e) = es := by
              rw [List.map_congr_left (g := id), List.map_id]
              intro q hq
              by_cases h4 : q.1 = k
              · exact absurd (List.any_eq_true.mpr ⟨q, hq, by simp [h4]⟩) h3
              · rw [if_neg h4]; rfl
            simp only [if_neg h2'] at *
            rw [this]
      · simp only [if_neg h1]
        have h3 : (es.any fun e => decide (e.1 = k)) = true := by simpa [h1] using h
        by_cases h2 : e.1 = k'
        · have : ¬ k' = k := fun z => h1 (h2.trans z)
          simp [h2, this]
        · simp only [h2, decide_false]
          exact ih h3
  · rename_i h
    unfold getE
    rw [List.find?_append]
    cases e : es.find? (fun e => decide (e.1 = k')) with
    | none =>
      by_cases h2 : k' = k
      · simp [h2]
      · have : ¬ k = k' := fun z => h2 z.symm
        simp [h2, this]
    | some q =>
      have hq := List.find?_some e
      have hm := List.mem_of_find?_eq_some e
      have h2 : ¬ k' = k := fun z => h (List.any_eq_true.mpr ⟨q, hm, by rw [← z]; exact hq⟩)
      simp [h2]
section
variable {α β : Type} (ρ : Rho)
@[simp ↓] theorem x_get2M (fd fk fx : M D) : get2M fd fk fx ρ = bnd fd (fun d => bnd (lift (isDicO d)) fun _ => bnd fk fun k => bnd fx fun x => lift (getD2 d k x)) ρ := (rfl)
@[simp ↓] theorem x_get1M (fd fk : M D) : get1M fd fk ρ = bnd fd (fun d => bnd (lift (isDicO d)) fun _ => bnd fk fun k => lift (getD1 d k)) ρ := (rfl)
@[simp ↓] theorem x_get1S (j : Nat) (fk : M D) : get1S j fk ρ = bnd (rd j) (fun d => bnd (lift (isDicO d)) fun _ => bnd fk fun k => bnd (rd j) fun d => lift (getD1 d k)) ρ := (rfl)
@[simp ↓] theorem x_get2S (j : Nat) (fk fx : M D) : get2S j fk fx ρ = bnd (rd j) (fun d => bnd (lift (isDicO d)) fun _ => bnd fk fun k => bnd fx fun x => bnd (rd j) fun d => lift (getD2 d k x)) ρ := (rfl)
@[simp ↓] theorem x_dictZipM (fa fb : M D) : dictZipM fa fb ρ = bnd (aCons fa (aCons fb aNil)) (fun xs => lift (dictZipL xs)) ρ := (rfl)
@[simp ↓] theorem x_raiseS (x : Str) (f : M D) : raiseS x f ρ = thn f (fun d ρ => match d with
  | .str s => if s.length ≤ 1000 then .ex x (.str s) ρ else .no
  | _ => .no) ρ := (rfl)
@[simp ↓] theorem x_tryW (x : Str) (i : Nat) (lit : Str) (g : S) : tryW x i lit g ρ = match g ρ with
  | .ex y d ρ1 => if y = x ∧ i < ρ1.length then (match eqD d (.str lit) with
    | some r => .rt r ρ1
    | none => .no) else .no
  | o => o := by unfold tryW; rfl
end
/-- a comprehension that changes its state -/
theorem lc_sgo {v : Nat} {fe : M D} (Q : Nat → List D → Rho → Prop) : ∀ (ds : List D) (i : Nat) (acc : List D) (ρ : Rho),
    (∀ j d acc ρ, ds[j]? = some d → Q (i + j) acc ρ → ∃ y ρ', fe (ρ.set v (some d)) = .ok y ρ' ∧ Q (i + j + 1) (acc ++ [y]) (ρ'.set v none)) → Q i acc ρ →
    ∃ ys ρ', lcGo (gNam v) (pur true) fe [v] ds ρ = some (ys, ρ') ∧ Q (i + ds.length) (acc ++ ys) ρ' ∧ ys.length = ds.length
  | [], i, acc, ρ, _, q => ⟨[], ρ, rfl, by simpa using q, rfl⟩
  | d :: ds, i, acc, ρ, st, q => by
    obtain ⟨y, ρ', e, q'⟩ := st 0 d acc ρ rfl q
    obtain ⟨ys, ρ2, e2, q2, l2⟩ := lc_sgo Q ds (i + 1) (acc ++ [y]) (ρ'.set v none) (fun j d2 acc2 ρ2 hj qj => by
      have := st (j + 1) d2 acc2 ρ2 (by simpa using hj) (by rw [show i + (j + 1) = i + 1 + j by omega]; exact qj)
      rw [show i + (j + 1) = i + 1 + j by omega] at this
      exact this) q'
    refine ⟨y :: ys, ρ2, ?_, ?_, by simp [l2]⟩
    · unfold lcGo
      simp only [gNam_x, x_pur, e, wipe_1]
      rw [e2]
    · rw [List.append_assoc] at q2
      rw [List.length_cons, show i + (ds.length + 1) = i + 1 + ds.length by omega]
      exact q2
theorem lc_sk {v : Nat} {fe : M D} (Q : Nat → List D → Rho → Prop) {ds : List D} {ρ : Rho} (hl : ds.length ≤ szL)
    (st : ∀ j d acc ρ, ds[j]? = some d → Q j acc ρ → ∃ y ρ', fe (ρ.set v (some d)) = .ok y ρ' ∧ Q (j + 1) (acc ++ [y]) (ρ'.set v none)) (q : Q 0 [] (ρ.set v none)) :
    ∃ ys ρ', lcK (gNam v) (pur true) fe [v] ds ρ = .ok (.lst ys) (ρ'.set v (get ρ v)) ∧ Q ds.length ys ρ' ∧ ys.length = ds.length := by
  obtain ⟨ys, ρ', e, q', l⟩ := lc_sgo (v := v) (fe := fe) Q ds 0 [] (ρ.set v none) (fun j d acc ρ hj qj => by
    rw [Nat.zero_add] at qj ⊢; exact st j d acc ρ hj qj) q
  rw [Nat.zero_add, List.nil_append] at q'
  refine ⟨ys, ρ', ?_, q', l⟩
  unfold lcK
  rw [if_pos hl]
  simp only [wipe_1, e, unw_1]
theorem popIN {xs : List D} {i : Nat} {d : D} (h : xs[i]? = some d) (hi : i < 2 ^ 20) : popI (.lst xs) [N i] = some (d, .lst (xs.eraseIdx i)) := by
  have hl := (List.getElem?_eq_some_iff.mp h).1
  show popK xs (i : Int) = _
  unfold popK
  rw [if_pos (okR_iff.mpr ⟨by omega, by omega⟩)]
  have : seqIndex? (i : Int) xs.length = some i := by
    unfold seqIndex?
    have h0 : ¬ ((i : Int) < 0) := by omega
    simp [h0, hl]
  rw [this]
  simp only [h]
theorem rgL0 {n : Nat} (h : n < 2 ^ 20) : rgL 0 (n : Int) = some ((List.range n).map N) := by
  unfold rgL
  rw [if_pos ⟨okR_iff.mpr ⟨by omega, by omega⟩, okR_iff.mpr ⟨by omega, by omega⟩, by omega⟩]
  have : ((n : Int) - 0).toNat = n := by omega
  rw [this]
  unfold countD
  congr 1
  apply List.map_congr_left
  intro i _
  show D.int (0 + (i : Int) * 1) = D.int i
  congr 1; omega
@[simp ↓] theorem x_rgM1 (fa : M D) (ρ : Rho) : rgM1 fa ρ = bnd fa (fun x => bnd (lift (intD x)) fun i => lift (rgL 0 i)) ρ := (rfl)
theorem inLN {xs : List Nat} {k : Nat} : inD (N k) (.lst (xs.map N)) = some (.bl (decide (k ∈ xs))) := by
  have h1 : SeqAt.shaped (toP (N k)) = true := rfl
  have h2 : ∀ xs : List Nat, SeqAt.shaped (.list (toPs (xs.map N))) = true := fun xs => by
    induction xs with
    | nil => rfl
    | cons x xs ih => exact ih
  have h3 : ∀ x, PyData.eqv (toP (N x)) (toP (N k)) = decide (x = k) := fun x => by
    show decide ((x : Int) = k) = _
    congr 1; exact propext (by omega)
  show (if SeqAt.shaped (toP (N k)) = true ∧ SeqAt.shaped (toP (.lst (xs.map N))) = true then some ((xs.map N).any fun z => PyData.eqv (toP z) (toP (N k))) else none).map D.bl = _
  rw [if_pos ⟨h1, h2 xs⟩]
  show some (D.bl _) = _
  congr 2
  rw [List.any_map]
  induction xs with
  | nil => simp
  | cons x xs ih =>
    rw [List.any_cons, ih]
    show (PyData.eqv (toP (N x)) (toP (N k)) || _) = _
    rw [h3]
    by_cases e : x = k
    · simp [e]
    · have : ¬ k = x := fun z => e z.symm
      simp [e, this]
end Fl

set_option maxHeartbeats 1000000
/-! equality of plain data -/
namespace Fl
open PySem PySem.Spec PyProof.Rows L2
mutual
def pln : Nat → D → Bool
  | _, .non => true
  | _, .int _ => true
  | _, .str s => PyData.strOk s
  | n + 1, .tup xs => plns n xs
  | n + 1, .lst xs => plns n xs
  | _, _ => false
def plns : Nat → List D → Bool
  | _, [] => true
  | n, x :: xs => pln n x && plns n xs
end
theorem plns_all {n : Nat} : ∀ {xs : List D}, (∀ x ∈ xs, pln n x = true) → plns n xs = true
  | [], _ => by simp [plns]
  | x :: xs, h => by
    unfold plns
    rw [h x (by simp), plns_all fun y hy => h y (by simp [hy])]; rfl
theorem pln_N (n k : Nat) : pln n (N k) = true := by unfold N; cases n <;> simp [pln]
theorem plns_N (n : Nat) (xs : List Nat) : plns n (xs.map N) = true := plns_all fun x hx => by
  rw [List.mem_map] at hx
  obtain ⟨k, _, rfl⟩ := hx
  exact pln_N n k
mutual
theorem pln_lay : ∀ (n : Nat) (d : D), pln n d = true → (toP d).canLay0 = true ∧ (toP d).depth ≤ n
  | _, .non, _ => by simp [toP, PyData.canLay0, PyData.depth]
  | _, .int _, _ => by simp [toP, PyData.canLay0, PyData.depth]
  | _, .str s, h => by
    have : PyData.strOk s = true := by
      rename_i n
      cases n <;> simpa [pln] using h
    simp [toP, PyData.canLay0, PyData.depth, this]
  | n + 1, .tup xs, h => by
    obtain ⟨a, b⟩ := plns_lay n xs (by simpa [pln] using h)
    simp [toP, PyData.canLay0, PyData.depth, a, b]
  | n + 1, .lst xs, h => by
    obtain ⟨a, b⟩ := plns_lay n xs (by simpa [pln] using h)
    simp [toP, PyData.canLay0, PyData.depth, a, b]
  | 0, .tup xs, h => by simp [pln] at h
  | 0, .lst xs, h => by simp [pln] at h
  | n, .bl _, h => by cases n <;> simp [pln] at h
  | n, .scr _, h => by cases n <;> simp [pln] at h
  | n, .dic _, h => by cases n <;> simp [pln] at h
  | n, .dit _, h => by cases n <;> simp [pln] at h
theorem plns_lay : ∀ (n : Nat) (ds : List D), plns n ds = true → PyData.canLayAll0 (toPs ds) = true ∧ PyData.depthAll (toPs ds) ≤ n
  | _, [], _ => by simp [toPs, PyData.canLayAll0, PyData.depthAll]
  | n, x :: xs, h => by
    have h2 : pln n x = true ∧ plns n xs = true := by simpa [plns] using h
    obtain ⟨a, b⟩ := pln_lay n x h2.1
    obtain ⟨c, d⟩ := plns_lay n xs h2.2
    simp [toPs, PyData.canLayAll0, PyData.depthAll, a, b, c, d]
    omega
end
mutual
theorem pln_inj : ∀ (n m : Nat) (x y : D), pln n x = true → pln m y = true → PyData.eqv (toP x) (toP y) = true → x = y
  | n, m, .non, y, h1, h2, e => by
    cases y <;> simp [toP, PyData.eqv] at e <;> try rfl
  | n, m, .int i, y, h1, h2, e => by
    cases y <;> simp [toP, PyData.eqv] at e <;> try (rw [e])
    cases m <;> simp [pln] at h2
  | n, m, .str i, y, h1, h2, e => by
    cases y <;> simp [toP, PyData.eqv] at e <;> try (rw [e])
  | n + 1, m, .tup xs, y, h1, h2, e => by
    cases y <;> simp [toP, PyData.eqv] at e
    rename_i ys
    cases m with
    | zero => simp [pln] at h2
    | succ m => rw [plns_inj n m xs ys (by simpa [pln] using h1) (by simpa [pln] using h2) e]
  | n + 1, m, .lst xs, y, h1, h2, e => by
    cases y <;> simp [toP, PyData.eqv] at e
    · rename_i ys
      cases m with
      | zero => simp [pln] at h2
      | succ m => rw [plns_inj n m xs ys (by simpa [pln] using h1) (by simpa [pln] using h2) e]
    · cases m <;> simp [pln] at h2
  | 0, m, .tup xs, y, h1, h2, e => by simp [pln] at h1
  | 0, m, .lst xs, y, h1, h2, e => by simp [pln] at h1
  | n, m, .bl _, y, h1, h2, e => by cases n <;> simp [pln] at h1
  | n, m, .scr _, y, h1, h2, e => by cases n <;> simp [pln] at h1
  | n, m, .dic _, y, h1, h2, e => by cases n <;> simp [pln] at h1
  | n, m, .dit _, y, h1, h2, e => by cases n <;> simp [pln] at h1
theorem plns_inj : ∀ (n m : Nat) (xs ys : List D), plns n xs = true → plns m ys = true → PyData.eqvAll (toPs xs) (toPs ys) = true → xs = ys
  | _, _, [], [], _, _, _ => rfl
  | _, _, [], _ :: _, _, _, e => by simp [toPs, PyData.eqvAll] at e
  | _, _, _ :: _, [], _, _, e => by simp [toPs, PyData.eqvAll] at e
  | n, m, x :: xs, y :: ys, h1, h2, e => by
    have h1' : pln n x = true ∧ plns n xs = true := by simpa [plns] using h1
    have h2' : pln m y = true ∧ plns m ys = true := by simpa [plns] using h2
    have e' : PyData.eqv (toP x) (toP y) = true ∧ PyData.eqvAll (toPs xs) (toPs ys) = true := by simpa [toPs, PyData.eqvAll] using e
    rw [pln_inj n m x y h1'.1 h2'.1 e'.1, plns_inj n m xs ys h1'.2 h2'.2 e'.2]
end
theorem shaped_pln {d : D} (h : pln 64 d = true) : SeqAt.shaped (toP d) = true := by
  obtain ⟨a, b⟩ := pln_lay 64 d h
  unfold SeqAt.shaped
  simp [a, b]
theorem eqD_self {d : D} (h : pln 64 d = true) : eqD d d = some (.bl true) := by
  have s := shaped_pln h
  unfold eqD
  rw [if_pos ⟨s, s⟩, PySem.SeqAt.eqv_refl _ (pln_lay 64 d h).1]
theorem neD_self {d : D} (h : pln 64 d = true) : neD d d = some (.bl false) := by
  have s := shaped_pln h
  unfold neD
  rw [if_pos ⟨s, s⟩, PySem.SeqAt.eqv_refl _ (pln_lay 64 d h).1]; rfl
theorem eqD_ne {x y : D} (h1 : pln 64 x = true) (h2 : pln 64 y = true) (h : x ≠ y) : eqD x y = some (.bl false) := by
  have s1 := shaped_pln h1
  have s2 := shaped_pln h2
  unfold eqD
  rw [if_pos ⟨s1, s2⟩]
  cases e : PyData.eqv (toP x) (toP y) with
  | false => rfl
  | true => exact absurd (pln_inj _ _ _ _ h1 h2 e) h
theorem neD_ne {x y : D} (h1 : pln 64 x = true) (h2 : pln 64 y = true) (h : x ≠ y) : neD x y = some (.bl true) := by
  have s1 := shaped_pln h1
  have s2 := shaped_pln h2
  unfold neD
  rw [if_pos ⟨s1, s2⟩]
  cases e : PyData.eqv (toP x) (toP y) with
  | false => rfl
  | true => exact absurd (pln_inj _ _ _ _ h1 h2 e) h
theorem pln_tup {n : Nat} {xs : List D} (h : plns n xs = true) : pln (n + 1) (.tup xs) = true := by unfold pln; exact h
theorem pln_lst {n : Nat} {xs : List D} (h : plns n xs = true) : pln (n + 1) (.lst xs) = true := by unfold pln; exact h
end Fl

set_option maxHeartbeats 1000000
/-! sorted, by what comes out -/
namespace Fl
open PySem PySem.Spec PyProof.Rows L2
abbrev leT : D → D → Bool := PySem.W.dataLe false toP
theorem sort_to {ds es : List D} (p : ds.Perm es) (s : es.Pairwise fun a b => leT a b = true) (anti : ∀ a b, a ∈ ds → b ∈ ds → leT a b = true → leT b a = true → a = b) : sortDs ds = es := by
  unfold sortDs
  have tot := PySem.W.sortLe_total (PyProof.Rows.listOrd PyProof.Rows.itemOrd) false fun b : D => PySem.W.keyToks (toP b)
  have pm : (ds.mergeSort (PySem.W.dataLe false toP)).Perm ds := List.mergeSort_perm ds _
  refine List.Perm.eq_of_pairwise (le := fun a b => leT a b = true) (fun a b ha hb h1 h2 => anti a b (pm.subset ha) (p.symm.subset hb) h1 h2) ?_ s (pm.trans p)
  exact List.pairwise_mergeSort (le := PySem.W.dataLe false toP) (fun a b c => tot.trans a b c) (fun a b => by
    rcases tot.total a b with h | h
    · exact Bool.or_eq_true_iff.mpr (.inl h)
    · exact Bool.or_eq_true_iff.mpr (.inr h)) ds
theorem leT_N (a b : Nat) : leT (N a) (N b) = decide (a ≤ b) := by
  show (!PyProof.Rows.lexLt PyProof.Rows.itemOrd [.inl (b : Int)] [.inl (a : Int)]) = _
  show (!(decide ((b : Int) < a) || (!decide ((a : Int) < b) && false))) = _
  rw [Bool.and_false, Bool.or_false]
  by_cases h : a ≤ b
  · have : ¬ (b : Int) < a := by omega
    simp [h, this]
  · have : (b : Int) < a := by omega
    simp [h, this]
theorem okSort_N (xs : List Nat) : okSort ((xs.map N).map toP) = true := by
  unfold okSort
  have h1 : ∀ d ∈ (xs.map N).map toP, ∃ k : Nat, d = .int (k : Int) := fun d hd => by
    rw [List.map_map, List.mem_map] at hd
    obtain ⟨k, _, rfl⟩ := hd
    exact ⟨k, rfl⟩
  rw [Bool.and_eq_true, Bool.and_eq_true]
  refine ⟨⟨List.all_eq_true.mpr fun d hd => List.all_eq_true.mpr fun e he => ?_, ?_⟩, List.all_eq_true.mpr fun d hd => ?_⟩
  · obtain ⟨k, rfl⟩ := h1 d hd
    obtain ⟨j, rfl⟩ := h1 e he
    rfl
  · refine Bool.or_eq_true_iff.mpr (.inr (List.all_eq_true.mpr fun d hd => ?_))
    obtain ⟨k, rfl⟩ := h1 d hd
    rfl
  · obtain ⟨k, rfl⟩ := h1 d hd
    rfl
theorem sort_N {xs ys : List Nat} (p : xs.Perm ys) (s : ys.Pairwise (· ≤ ·)) : sortDs (xs.map N) = ys.map N := by
  refine sort_to (p.map N) ?_ fun a b ha hb h1 h2 => ?_
  · rw [List.pairwise_map]
    exact s.imp fun {a b} h => by rw [leT_N]; simpa using h
  · rw [List.mem_map] at ha hb
    obtain ⟨a, _, rfl⟩ := ha
    obtain ⟨b, _, rfl⟩ := hb
    rw [leT_N] at h1 h2
    have h1 := of_decide_eq_true h1
    have h2 := of_decide_eq_true h2
    rw [Nat.le_antisymm h1 h2]
theorem sortD_N {xs ys : List Nat} (p : xs.Perm ys) (s : ys.Pairwise (· ≤ ·)) : sortD (.lst (xs.map N)) = some (.lst (ys.map N)) := by
  show (if okSort ((xs.map N).map toP) = true then some (Fl.D.lst (sortDs (xs.map N))) else none) = _
  rw [if_pos (okSort_N xs), sort_N p s]
theorem mulT1 {d : D} {n : Nat} (h : n ≤ 1000) : mulD (.tup [d]) (N n) = some (.tup (List.replicate n d)) := by
  show (if -1000 ≤ (n : Int) ∧ (n : Int) ≤ 1000 ∧ [d].length ≤ 1000 then some (Fl.D.tup (List.replicate (n : Int).toNat [d]).flatten) else none) = _
  rw [if_pos ⟨by omega, by omega, by simp⟩, Int.toNat_natCast]
  congr 2
  induction n with
  | zero => rfl
  | succ n ih => rw [List.replicate_succ, List.replicate_succ, List.flatten_cons, ih (by omega)]; rfl
end Fl

set_option maxHeartbeats 1000000
/-! texts -/
namespace Fl
open PySem PySem.Spec PyProof.Rows L2
def strsD : List D → Option (List Str)
  | [] => some []
  | .str x :: ds => (strsD ds).map (x :: ·)
  | _ => none
theorem strsD_v : ∀ {ds : List D} {ns : List Str}, strsD ds = some ns → ds = ns.map D.str
  | [], ns, h => by cases h; rfl
  | .str i :: ds, ns, h => by
    unfold strsD at h
    cases e : strsD ds with
    | none => rw [e] at h; cases h
    | some ms => rw [e] at h; cases h; rw [List.map_cons, strsD_v e]
  | .non :: _, _, h => by cases h
  | .bl _ :: _, _, h => by cases h
  | .int _ :: _, _, h => by cases h
  | .tup _ :: _, _, h => by cases h
  | .lst _ :: _, _, h => by cases h
  | .scr _ :: _, _, h => by cases h
  | .dic _ :: _, _, h => by cases h
  | .dit _ :: _, _, h => by cases h
theorem strsD_map : ∀ (ns : List Str), strsD (ns.map D.str) = some ns
  | [] => rfl
  | n :: ns => by rw [List.map_cons]; unfold strsD; rw [strsD_map ns]; rfl
theorem RepL.strs {K : PySem.W.Frag} {B : Hp} : ∀ {xs : List V} {ns : List Str}, RepL K B xs (ns.map D.str) → xs = ns.map V.str
  | _, [], .nil => rfl
  | _, _ :: _, .cons (.str _) t => congrArg _ (RepL.strs t)
theorem rep_strs {K : PySem.W.Frag} {B : Hp} : ∀ (ns : List Str), RepL K B (ns.map V.str) (ns.map D.str)
  | [] => .nil
  | n :: ns => .cons (.str n) (rep_strs ns)
/-- str(int) -/
def strD : D → Option D
  | .int i => if Nat.ble (i.natAbs.log2 + 1) 1920 then some (.str (Str.ofString (toString i))) else none
  | _ => none
def intT (a : Str) : Option D := match PySem.intText? a with
  | some n => if a.length ≤ 640 then some (.int n) else none
  | none => none
/-- int(int), int(bool), int(text) -/
def intX : D → Option D
  | .int i => some (.int i)
  | .bl b => some (.int (if b then 1 else 0))
  | .str a => intT a
  | _ => none
def tlB : D → Option (List D)
  | .lst ys => some ys
  | .tup ys => some ys
  | _ => none
def joinD (x y : D) : Option D := match x with
  | .str a => ((tlB y).bind strsD).bind fun ys => if (ys.map (·.length)).sum + ys.length * a.length ≤ szL then some (.str (Txt.join a ys)) else none
  | _ => none
def splitD (x y : D) : Option D := match x, y with
  | .str a, .str b => if (b.length == 0) = false ∧ a.length + 2 ≤ szL then some (.lst ((Txt.split a b).map D.str)) else none
  | _, _ => none
def countSD (x y : D) : Option D := match x, y with
  | .str a, .str b => some (.int (Txt.count a b))
  | _, _ => none
def findD (x y : D) : Option D := match x, y with
  | .str a, .str b => some (.int (Txt.find a b))
  | _, _ => none
def sidxD (x y : D) : Option D := match x, y with
  | .str a, .str b => (Txt.index0 a b).map fun k => .int (k : Nat)
  | _, _ => none
section
variable {c : Cn} {X : Cx} {a b e o : Expr} {fa fb : M D} {p pos apos cpos : Pos}
theorem cg_str : Cg1 c (fun xs H Q => ∃ i, xs = [.int i] ∧ i.natAbs.log2 < 1920 ∧ Q (.str (toString i)) H) strD (relV c) := fun {fp0 H0 B ρ fp σ H x dx Q} S hz hx q => by
  obtain ⟨d, hd, k⟩ := at_lift q
  rcases hx with h | ⟨P, h⟩
  · cases h <;> try cases hd
    · obtain ⟨hl, rfl⟩ := ite_some hd
      exact ⟨_, rfl, by have := Nat.le_of_ble_eq_true hl; omega, k _ fp B H (.refl S) (.str _)⟩
  · cases h <;> cases hd
theorem EV_strI (hm : X.mg "str" = none) (ha : EV c X a fa) (hx : Gl X "str" := by rfl) (hs : starEach [a] X.env = (false, eval a X.env) :: starEach [] X.env := by rfl) (hpl : (backTo pos (starEach [] X.env)).any (·.1) = false := by rfl) :
    EV c X (.Call (.Name "str" p) [a] [] pos) (op1 strD fa) := E_t1 call_str_int cg_str hm (EB_of ha) hx (by decide +kernel) (by decide) (by decide) hs hpl
theorem cg_intX : Cg1 c (fun xs H Q => ((∃ i, xs = [.int i] ∧ Q (.int i) H) ∨ ∃ k, xs = [.bl k] ∧ Q (.int (if k then 1 else 0)) H) ∨ ∃ a n, xs = [.str a] ∧ PySem.intText? a = some n ∧ a.length ≤ 640 ∧ Q (.int n) H) intX (relV c) := fun {fp0 H0 B ρ fp σ H x dx Q} S hz hx q => by
  obtain ⟨d, hd, k⟩ := at_lift q
  rcases hx with h | ⟨P, h⟩
  · cases h <;> try cases hd
    · exact .inl (.inr ⟨_, rfl, k _ fp B H (.refl S) (.int _)⟩)
    · exact .inl (.inl ⟨_, rfl, k _ fp B H (.refl S) (.int _)⟩)
    · rename_i z
      have hd : intT z = some d := hd
      unfold intT at hd
      cases e : PySem.intText? z with
      | none => rw [e] at hd; cases hd
      | some n =>
        rw [e] at hd
        obtain ⟨hl, rfl⟩ := ite_some hd
        exact .inr ⟨_, _, rfl, e, hl, k _ fp B H (.refl S) (.int _)⟩
  · cases h <;> cases hd
theorem EV_intX (hm : X.mg "int" = none) (ha : EB c X a fa) (hx : Gl X "int" := by rfl) (hs : starEach [a] X.env = (false, eval a X.env) :: starEach [] X.env := by rfl) (hpl : (backTo pos (starEach [] X.env)).any (·.1) = false := by rfl) :
    EV c X (.Call (.Name "int" p) [a] [] pos) (op1 intX fa) := E_t1 (call_int1.or call_int_str) cg_intX hm ha hx (by decide +kernel) (by decide) (by decide) hs hpl
/-- a text's method of one text -/
theorem E_sm {name : Str} {id : String} {r : V → List V → Hp → VK → Prop} {g : D → D → Option D} {rel : Rel V D} (slot : Slot "str" name id) (hty : typeOf (.builtin id) = pure (.type "method_descriptor")) (hm : MtR X id r) (ha : EV c X o fa) (hb : EB c X b fb)
    (hg : ∀ {fp0 H0 B ρ fp σ H x y dx dy Q}, SR c.K c.ow B H σ ρ fp → (∀ a, H a = none → H0 a = none) → Rep c.K B x dx → Bor c.K B H y dy → c.at fp0 H0 B ρ fp (lift (g dx dy)) rel σ H Q → r x [y] H Q)
    (hbase : attributeBase o name X.env (eval o X.env) = eval o X.env := by rfl)
    (hfew : ((backTo cpos (starEach [b] X.env)).all (fun x => !x.1) && (backToKw cpos (keywordEach [] X.env)).all (fun x => x.1.isSome)
      && decide ([b].length + ([] : List Keyword).length + (if ([] : List Keyword).isEmpty then 0 else 1) < 30)) = true := by rfl)
    (hline : (apos.endLine == cpos.line) = true := by rfl) (hs : starEach [b] X.env = (false, eval b X.env) :: starEach [] X.env := by rfl) (hplain : (backTo cpos (starEach [] X.env)).any (·.1) = false := by rfl) :
    PE X (.Call (.Attribute o name apos) [b] [] cpos) (can c (bnd fa fun x => bnd (lift (match x with | .str _ => some () | _ => none)) fun _ => bnd fb fun y => lift (g x y)) rel) :=
  peOf (pe_bm PySem.F.plainAttrs_str slot hty hm ha (pa_cons hb pa_nil hs) hbase hfew hline hs hplain) fun σ H Q ⟨B, ρ, fp, S, q⟩ => ⟨B, ρ, fp, S, at_bnd q fun x dx ρ1 fp1 B1 H1 g1 r1 q1 => by
    obtain ⟨_, hl, q2⟩ := at_bl q1
    cases r1 with
    | str z =>
      exact ⟨rfl, B1, ρ1, fp1, g1.sr, at_bnd q2 fun y dy ρ2 fp2 B2 H2 g2 r2 q3 => hg g2.sr (fun a z => g1.non (g2.non z)) (.str z) r2 q3⟩
    | _ => cases hl⟩
def strM (g : D → D → Option D) (fa fb : M D) : M D := bnd fa fun x => bnd (lift (match x with | .str _ => some () | _ => none)) fun _ => bnd fb fun y => lift (g x y)
theorem EN_split (ha : EV c X o fa) (hb : EV c X b fb)
    (hbase : attributeBase o "split" X.env (eval o X.env) = eval o X.env := by rfl)
    (hfew : ((backTo cpos (starEach [b] X.env)).all (fun x => !x.1) && (backToKw cpos (keywordEach [] X.env)).all (fun x => x.1.isSome)
      && decide ([b].length + ([] : List Keyword).length + (if ([] : List Keyword).isEmpty then 0 else 1) < 30)) = true := by rfl)
    (hline : (apos.endLine == cpos.line) = true := by rfl) (hs : starEach [b] X.env = (false, eval b X.env) :: starEach [] X.env := by rfl) (hplain : (backTo cpos (starEach [] X.env)).any (·.1) = false := by rfl) :
    EN c X (.Call (.Attribute o "split" apos) [b] [] cpos) (strM splitD fa fb) :=
  E_sm PySem.F.slot_str_split PySem.F.type_str_split mt_split ha (EB_of hb) (fun {fp0 H0 B ρ fp σ H x y dx dy Q} S hz rx ry q => by
    obtain ⟨d, hd, k⟩ := at_lift q
    cases rx <;> try cases hd
    rename_i a
    cases dy <;> try cases hd
    rename_i b
    rcases ry with ry | ⟨P, ry⟩
    · cases ry
      obtain ⟨⟨h1, h2⟩, rfl⟩ := ite_some hd
      exact ⟨a, b, rfl, rfl, h1, by rw [← szL_eq]; exact h2, fun p hp => fin_own S k hp (hz p hp) (.lst rfl upd_same (rep_strs _))⟩
    · cases ry) hbase hfew hline hs hplain
theorem tlB_bor {K : PySem.W.Frag} {B H : Hp} {x : V} {d : D} {ds : List D} (ex : Ex B H) (h : Bor K B H x d) (e : tlB d = some ds) : ∃ a xs, x = .ref a ∧ (SqL K H a xs ∨ SqT K H a xs) ∧ RepL K B xs ds := by
  cases d <;> try cases e
  · rcases h with h | ⟨P, h⟩
    · cases h with
      | tup e r => exact ⟨_, _, rfl, .inr (SqT.of (ex _ _ e)), r⟩
    · cases h
  · rcases h with h | ⟨P, h⟩
    · cases h with
      | lst e r => exact ⟨_, _, rfl, .inl (SqL.of (ex _ _ e)), r⟩
    · cases h with
      | lst p e r => exact ⟨_, _, rfl, .inl (SqL.of e), r⟩
theorem szL_n : szL = 16777216 := by rfl
theorem EV_join (ha : EV c X o fa) (hb : EB c X b fb) (hK : c.K = X.K := by rfl)
    (hbase : attributeBase o "join" X.env (eval o X.env) = eval o X.env := by rfl)
    (hfew : ((backTo cpos (starEach [b] X.env)).all (fun x => !x.1) && (backToKw cpos (keywordEach [] X.env)).all (fun x => x.1.isSome)
      && decide ([b].length + ([] : List Keyword).length + (if ([] : List Keyword).isEmpty then 0 else 1) < 30)) = true := by rfl)
    (hline : (apos.endLine == cpos.line) = true := by rfl) (hs : starEach [b] X.env = (false, eval b X.env) :: starEach [] X.env := by rfl) (hplain : (backTo cpos (starEach [] X.env)).any (·.1) = false := by rfl) :
    EV c X (.Call (.Attribute o "join" apos) [b] [] cpos) (strM joinD fa fb) :=
  E_sm PySem.F.slot_str_join PySem.F.type_str_join mt_join ha hb (fun {fp0 H0 B ρ fp σ H x y dx dy Q} S hz rx ry q => by
    obtain ⟨d, hd, k⟩ := at_lift q
    cases rx <;> try cases hd
    rename_i a
    unfold joinD at hd
    cases e : tlB dy with
    | none => simp only [e, Option.bind_none] at hd; cases hd
    | some ds =>
      cases e2 : strsD ds with
      | none => simp only [e, e2, Option.bind_none, Option.bind_some] at hd; cases hd
      | some ys =>
        simp only [e, e2, Option.bind_some] at hd
        obtain ⟨hl, rfl⟩ := ite_some hd
        obtain ⟨p, xs, rfl, hs, r⟩ := tlB_bor S.ex ry e
        rw [strsD_v e2] at r
        rw [r.strs] at hs
        exact ⟨a, p, ys, rfl, rfl, by rw [← hK]; exact hs, by rw [← szL_n]; exact hl, k _ fp B H (.refl S) (.str _)⟩) hbase hfew hline hs hplain
theorem EV_count (ha : EV c X o fa) (hb : EV c X b fb)
    (hbase : attributeBase o "count" X.env (eval o X.env) = eval o X.env := by rfl)
    (hfew : ((backTo cpos (starEach [b] X.env)).all (fun x => !x.1) && (backToKw cpos (keywordEach [] X.env)).all (fun x => x.1.isSome)
      && decide ([b].length + ([] : List Keyword).length + (if ([] : List Keyword).isEmpty then 0 else 1) < 30)) = true := by rfl)
    (hline : (apos.endLine == cpos.line) = true := by rfl) (hs : starEach [b] X.env = (false, eval b X.env) :: starEach [] X.env := by rfl) (hplain : (backTo cpos (starEach [] X.env)).any (·.1) = false := by rfl) :
    EV c X (.Call (.Attribute o "count" apos) [b] [] cpos) (strM countSD fa fb) :=
  E_sm PySem.F.slot_str_count PySem.F.type_str_count mt_count ha (EB_of hb) (fun {fp0 H0 B ρ fp σ H x y dx dy Q} S hz rx ry q => by
    obtain ⟨d, hd, k⟩ := at_lift q
    cases rx <;> try cases hd
    rename_i a
    cases dy <;> try cases hd
    rename_i b
    rcases ry with ry | ⟨P, ry⟩
    · cases ry
      exact ⟨a, b, rfl, rfl, k _ fp B H (.refl S) (.int _)⟩
    · cases ry) hbase hfew hline hs hplain
theorem EV_find (ha : EV c X o fa) (hb : EV c X b fb)
    (hbase : attributeBase o "find" X.env (eval o X.env) = eval o X.env := by rfl)
    (hfew : ((backTo cpos (starEach [b] X.env)).all (fun x => !x.1) && (backToKw cpos (keywordEach [] X.env)).all (fun x => x.1.isSome)
      && decide ([b].length + ([] : List Keyword).length + (if ([] : List Keyword).isEmpty then 0 else 1) < 30)) = true := by rfl)
    (hline : (apos.endLine == cpos.line) = true := by rfl) (hs : starEach [b] X.env = (false, eval b X.env) :: starEach [] X.env := by rfl) (hplain : (backTo cpos (starEach [] X.env)).any (·.1) = false := by rfl) :
    EV c X (.Call (.Attribute o "find" apos) [b] [] cpos) (strM findD fa fb) :=
  E_sm PySem.F.slot_str_find PySem.F.type_str_find mt_find ha (EB_of hb) (fun {fp0 H0 B ρ fp σ H x y dx dy Q} S hz rx ry q => by
    obtain ⟨d, hd, k⟩ := at_lift q
    cases rx <;> try cases hd
    rename_i a
    cases dy <;> try cases hd
    rename_i b
    rcases ry with ry | ⟨P, ry⟩
    · cases ry
      exact ⟨a, b, rfl, rfl, k _ fp B H (.refl S) (.int _)⟩
    · cases ry) hbase hfew hline hs hplain
end
end Fl

set_option maxHeartbeats 1000000
/-! more of texts: index, in, signs; a list of literals times an int; min of data; range with a step -/
namespace Fl
open PySem PySem.Spec PyProof.Rows L2
/-- text.index(text): found -/
theorem mt_sidx {X : Cx} : MtR X "str.index" (fun x xs H Q => ∃ (a b : Str) (k : Nat), x = .str a ∧ xs = [.str b] ∧ Txt.index0 a b = some k ∧ Q (.int (k : Nat)) H) := by
  intro pins s σ H x xs v us Q I rx rs h
  obtain ⟨a, b, j, rfl, rfl, hy, w⟩ := h
  obtain ⟨t, rfl⟩ := rx
  cases rs with
  | cons r1 rs =>
    cases rs
    obtain ⟨u, rfl⟩ := r1
    unfold Txt.index0 at hy
    cases q : Builtin.Str.occurrences a b 0 a.length 1 with
    | nil => rw [q] at hy; cases hy
    | cons k rest =>
      rw [q] at hy
      have hy : k = j := Option.some.inj hy
      subst hy
      exact PySem.SC.index q ⟨.int (k : Nat), H, I.tok _, ⟨_, rfl⟩, w⟩
section
variable {c : Cn} {X : Cx} {a b e o d : Expr} {fa fb fd : M D} {p pos apos cpos : Pos}
theorem EV_sidx (ha : EV c X o fa) (hb : EV c X b fb)
    (hbase : attributeBase o "index" X.env (eval o X.env) = eval o X.env := by rfl)
    (hfew : ((backTo cpos (starEach [b] X.env)).all (fun x => !x.1) && (backToKw cpos (keywordEach [] X.env)).all (fun x => x.1.isSome)
      && decide ([b].length + ([] : List Keyword).length + (if ([] : List Keyword).isEmpty then 0 else 1) < 30)) = true := by rfl)
    (hline : (apos.endLine == cpos.line) = true := by rfl) (hs : starEach [b] X.env = (false, eval b X.env) :: starEach [] X.env := by rfl) (hplain : (backTo cpos (starEach [] X.env)).any (·.1) = false := by rfl) :
    EV c X (.Call (.Attribute o "index" apos) [b] [] cpos) (strM sidxD fa fb) :=
  E_sm PySem.F.slot_str_index PySem.F.type_str_index mt_sidx ha (EB_of hb) (fun {fp0 H0 B ρ fp σ H x y dx dy Q} S hz rx ry q => by
    obtain ⟨d, hd, k⟩ := at_lift q
    cases rx <;> try cases hd
    rename_i a
    cases dy <;> try cases hd
    rename_i b
    rcases ry with ry | ⟨P, ry⟩
    · cases ry
      have hd : (Txt.index0 a b).map (fun (k : Nat) => Fl.D.int (k : Nat)) = some d := hd
      cases e : Txt.index0 a b with
      | none => rw [e] at hd; cases hd
      | some j => rw [e] at hd; cases hd; exact ⟨a, b, j, rfl, rfl, e, k _ fp B H (.refl S) (.int _)⟩
    · cases ry) hbase hfew hline hs hplain
/-- x in text, in a tuple, else as before -/
def hasT (x d : D) : Option (Option Bool) := match x, d with
  | .str i, .str j => some (some (!(Builtin.Str.occurrences j i 0 j.length 1).isEmpty))
  | x, .tup ds => some (if SeqAt.shaped (toP x) = true ∧ SeqAt.shaped (toP (.tup ds)) = true then some (ds.any fun z => PyData.eqv (toP z) (toP x)) else none)
  | _, _ => none
def inX (x d : D) : Option D := match hasT x d with
  | some o => o.map .bl
  | none => inD x d
def notInX (x d : D) : Option D := match hasT x d with
  | some o => o.map fun b => .bl (!b)
  | none => notInD x d
def rInT (K : PySem.W.Frag) : R2 := fun x y H Q => ∃ d ds, Dp K H x d ∧ Dp K H y (.tuple ds) ∧ SeqAt.shaped d = true ∧ SeqAt.shaped (.tuple ds) = true ∧ Q (.bl (ds.any fun z => PyData.eqv z d)) H
def rNotInT (K : PySem.W.Frag) : R2 := fun x y H Q => ∃ d ds, Dp K H x d ∧ Dp K H y (.tuple ds) ∧ SeqAt.shaped d = true ∧ SeqAt.shaped (.tuple ds) = true ∧ Q (.bl (!ds.any fun z => PyData.eqv z d)) H
theorem op_inT (hu : X.A.units + 65 < cLine) : OpR X (compareOp .In) (rInT X.K) := by
  intro pins s σ H x y v u Q I rx ry h
  obtain ⟨d, ds, hd, he, sd, se, q⟩ := h
  obtain ⟨as, r1⟩ := Dp.reads I d x v hd rx
  obtain ⟨bs, r2⟩ := Dp.reads I (.tuple ds) y u he ry
  exact SeqAt.in_tuple_reads r2 r1 (SeqAt.canLay_of_shaped se) (SeqAt.canLay_of_shaped sd) (room_in_shaped sd hu) ⟨.bl _, H, I, rfl, q⟩
theorem op_notInT (hu : X.A.units + 65 < cLine) : OpR X (compareOp .NotIn) (rNotInT X.K) := by
  intro pins s σ H x y v u Q I rx ry h
  obtain ⟨d, ds, hd, he, sd, se, q⟩ := h
  obtain ⟨as, r1⟩ := Dp.reads I d x v hd rx
  obtain ⟨bs, r2⟩ := Dp.reads I (.tuple ds) y u he ry
  exact SeqAt.notIn_tuple_reads r2 r1 (SeqAt.canLay_of_shaped se) (SeqAt.canLay_of_shaped sd) (room_in_shaped sd hu) ⟨.bl _, H, I, rfl, q⟩
theorem ck_inX {k : Nat} (hr : Room (k + 1) X.A) (hK : c.K = X.K := by rfl) : CmpK c X .In inX := ⟨_, (op_in_str.or (op_inT (un65 hr))).or ((op_inDic (hu_of hr)).or (op_inD (un65 hr))), fun {fp0 H0 B ρ fp σ H x y dx dy Q} S hz rx ry q => by
  obtain ⟨d, hd, kk⟩ := at_lift q
  unfold inX at hd
  cases e0 : hasT dx dy with
  | none =>
    rw [e0] at hd
    have hd : inD dx dy = some d := hd
    unfold inD at hd
    cases e : inB dx dy with
    | none => rw [e] at hd; cases hd
    | some t =>
      rw [e] at hd; cases hd
      rw [← hK]
      exact .inr (in_any S.ex rx (.inl ry) e (kk _ fp B H (.refl S) (.bl _)))
  | some o =>
    rw [e0] at hd
    cases o with
    | none => cases hd
    | some t =>
      cases hd
      cases dy with
      | tup ds =>
        have e0 : (if SeqAt.shaped (toP dx) = true ∧ SeqAt.shaped (toP (.tup ds)) = true then some (ds.any fun z => PyData.eqv (toP z) (toP dx)) else none) = some t := by
          unfold hasT at e0
          cases dx <;> exact Option.some.inj e0
        obtain ⟨⟨h1, h2⟩, rfl⟩ := ite_some e0
        refine .inl (.inr ⟨toP dx, toPs ds, by rw [← hK]; exact dp_of (rx.mono S.ex) (SeqAt.canLay_of_shaped h1), ?_, h1, by simpa [toP] using h2, by rw [any_toPs]; exact kk _ fp B H (.refl S) (.bl _)⟩)
        have := dp_of (ry.mono S.ex) (SeqAt.canLay_of_shaped h2)
        unfold toP at this
        rw [← hK]; exact this
      | str j =>
        cases dx <;> try cases e0
        cases rx
        cases ry
        exact .inl (.inl ⟨_, _, rfl, rfl, kk _ fp B H (.refl S) (.bl _)⟩)
      | _ => cases dx <;> cases e0⟩
theorem ck_notInX {k : Nat} (hr : Room (k + 1) X.A) (hK : c.K = X.K := by rfl) : CmpK c X .NotIn notInX := ⟨_, (op_notIn_str.or (op_notInT (un65 hr))).or ((op_notInDic (hu_of hr)).or (op_notInD (un65 hr))), fun {fp0 H0 B ρ fp σ H x y dx dy Q} S hz rx ry q => by
  obtain ⟨d, hd, kk⟩ := at_lift q
  unfold notInX at hd
  cases e0 : hasT dx dy with
  | none =>
    rw [e0] at hd
    have hd : notInD dx dy = some d := hd
    unfold notInD at hd
    cases e : inB dx dy with
    | none => rw [e] at hd; cases hd
    | some t =>
      rw [e] at hd; cases hd
      rw [← hK]
      exact .inr (notIn_any S.ex rx (.inl ry) e (kk _ fp B H (.refl S) (.bl _)))
  | some o =>
    rw [e0] at hd
    cases o with
    | none => cases hd
    | some t =>
      cases hd
      cases dy with
      | tup ds =>
        have e0 : (if SeqAt.shaped (toP dx) = true ∧ SeqAt.shaped (toP (.tup ds)) = true then some (ds.any fun z => PyData.eqv (toP z) (toP dx)) else none) = some t := by
          unfold hasT at e0
          cases dx <;> exact Option.some.inj e0
        obtain ⟨⟨h1, h2⟩, rfl⟩ := ite_some e0
        refine .inl (.inr ⟨toP dx, toPs ds, by rw [← hK]; exact dp_of (rx.mono S.ex) (SeqAt.canLay_of_shaped h1), ?_, h1, by simpa [toP] using h2, by rw [any_toPs]; exact kk _ fp B H (.refl S) (.bl _)⟩)
        have := dp_of (ry.mono S.ex) (SeqAt.canLay_of_shaped h2)
        unfold toP at this
        rw [← hK]; exact this
      | str j =>
        cases dx <;> try cases e0
        cases rx
        cases ry
        exact .inl (.inl ⟨_, _, rfl, rfl, kk _ fp B H (.refl S) (.bl _)⟩)
      | _ => cases dx <;> cases e0⟩
/-- the signs of a text -/
def sgnD (z : Str) : List D := z.cps.toList.map fun n => .str ⟨#[n]⟩
def itStr (f : M D) : M (List D) := bnd f fun d => lift (match d with | .str z => some (sgnD z) | _ => none)
theorem Yl_str {K : PySem.W.Frag} {B : Hp} {z : Str} : Yl K (Its z) B (sgnD z) := fun B2 H2 e1 e2 i => by
  unfold sgnD
  refine ⟨fun d hd => ?_, fun hl => by
    show z.cps.size ≤ i
    simpa using hl⟩
  rw [List.getElem?_map] at hd
  by_cases hi : i < z.cps.size
  · have e : z.cps.toList[i]? = some z.cps[i] := by simp [hi]
    rw [e] at hd
    cases hd
    refine ⟨hi, fun x H3 ⟨eH, c, hc, ex⟩ => ⟨B2, .inl ⟨rfl, eH⟩, ?_⟩⟩
    rw [Array.getElem?_eq_getElem hi] at hc
    cases hc
    subst ex
    exact .str _
  · rw [List.getElem?_eq_none (by simpa using hi)] at hd; cases hd
theorem EI_str {tg : Expr} (ha : EV c X a fa) : EI c X tg a (itStr fa) :=
  piOf (pi_str ha) fun σ H R ⟨B, ρ, fp, S, q⟩ => ⟨B, ρ, fp, S, at_bnd q fun v d ρ1 fp1 B1 H1 g r q1 => by
    obtain ⟨ds, hd, k⟩ := at_lift q1
    cases r <;> try cases hd
    exact ⟨_, rfl, k _ fp1 B1 H1 (.refl g.sr) Yl_str⟩⟩
/-- a list times an int: a new one -/
def mulL (x y : D) : Option D := match x, y with
  | .lst xs, .int k => if okR k = true ∧ xs.length * k.toNat ≤ szL then some (.lst (List.replicate k.toNat xs).flatten) else none
  | _, _ => none
theorem og_mulL : OpG c rRep mulL (relN c) := fun {fp0 H0 B ρ fp σ H x y dx dy Q} S hz rx ry q => by
  obtain ⟨d, hd, k⟩ := at_lift q
  cases rx <;> try cases hd
  rename_i a xs ds e r
  cases ry <;> try cases hd
  rename_i j
  obtain ⟨⟨h1, h2⟩, rfl⟩ := ite_some hd
  obtain ⟨h3, h4⟩ := okR_iff.mp h1
  exact ⟨a, j, xs, rfl, rfl, S.ex _ _ e, by omega, by omega, by rw [r.length, ← szL_eq]; exact h2, fun p hp => fin_own S k hp (hz p hp) (.lst rfl upd_same (rep_rep r _))⟩
theorem EN_mulL (ha : EV c X a fa) (hb : EV c X b fb) : EN c X (.BinOp a .Mult b pos) (op2 mulL fa fb) := E_op op_rep og_mulL ha hb
/-- min of data -/
def minP : List D → Option D
  | [] => none
  | x :: xs => some (xs.foldl (fun a y => if PySem.W.dataLt (toP y) (toP a) then y else a) x)
def minX (d : D) : Option D := (seqB d).bind fun ds => if ds.all (pln 60) = true ∧ okSort (ds.map toP) = true then minP ds else none
theorem minP_toP : ∀ (xs : List D) (x : D), toP (xs.foldl (fun a y => if PySem.W.dataLt (toP y) (toP a) then y else a) x) = PySem.W.minD (toP x) (xs.map toP)
  | [], x => rfl
  | y :: xs, x => by
    rw [List.foldl_cons, minP_toP xs]
    show PySem.W.minD (toP (if PySem.W.dataLt (toP y) (toP x) then y else x)) (xs.map toP) = PySem.W.minD (if PySem.W.dataLt (toP y) (toP x) then toP y else toP x) (xs.map toP)
    split <;> rfl
theorem minP_mem : ∀ (xs : List D) (x : D), xs.foldl (fun a y => if PySem.W.dataLt (toP y) (toP a) then y else a) x ∈ x :: xs
  | [], x => by simp
  | y :: xs, x => by
    rw [List.foldl_cons]
    have := minP_mem xs (if PySem.W.dataLt (toP y) (toP x) then y else x)
    split at this
    · rename_i h; rw [if_pos h]
      rcases List.mem_cons.mp this with e | e
      · rw [e]; simp
      · exact List.mem_cons_of_mem _ (List.mem_cons_of_mem _ e)
    · rename_i h; rw [if_neg h]
      rcases List.mem_cons.mp this with e | e
      · rw [e]; simp
      · exact List.mem_cons_of_mem _ (List.mem_cons_of_mem _ e)
theorem toP_inj {d e : D} (h1 : pln 60 d = true) (h2 : pln 60 e = true) (h : toP d = toP e) : d = e := by
  refine pln_inj 60 60 d e h1 h2 ?_
  rw [← h]
  exact PySem.SeqAt.eqv_refl _ (pln_lay 60 d h1).1
def rMinD (K : PySem.W.Frag) : List V → Hp → VK → Prop := fun vs H Q => ∃ (a : Addr) (xs : List V) (ds : List D) (B : Hp) (m : D), vs = [.ref a] ∧ SqL K H a xs ∧ Ex B H ∧ RepL K B xs ds ∧ ds.all (pln 60) = true ∧ okSort (ds.map toP) = true ∧ minP ds = some m ∧
  ∀ y : V, Rep K B y m → Q y H
theorem each_at {α β : Type} {R : α → β → Prop} : ∀ {as : List α} {bs : List β}, PySem.W.EachIs R as bs → ∀ {i : Nat} {a : α}, as[i]? = some a → ∃ b ∈ bs, R a b
  | _, _, .nil, i, a, h => by simp at h
  | _, _, .cons r t, 0, a, h => by simp at h; subst h; exact ⟨_, by simp, r⟩
  | _, _, .cons r t, i + 1, a, h => by
    obtain ⟨b, hb, hr⟩ := each_at t (by simpa using h)
    exact ⟨b, List.mem_cons_of_mem _ hb, hr⟩
theorem depthAll_le : ∀ {n : Nat} (xs : List PyData), (∀ x ∈ xs, x.depth ≤ n) → PyData.depthAll xs ≤ n
  | n, [], _ => by simp [PyData.depthAll]
  | n, x :: xs, h => by
    have h1 := h x (by simp)
    have h2 := depthAll_le xs fun y hy => h y (by simp [hy])
    simp only [PyData.depthAll]; omega
theorem cr_minD (hu : X.A.units + 65 < cLine) (hc : X.calm = true) : CallR X (.builtin "min") (rMinD X.K) := by
  intro pins s σ H vs us Q I r h
  obtain ⟨a, xs, ds, B, m, rfl, hs, ex, rp, pl, ok, hm, q⟩ := h
  obtain ⟨its, rv, hl, hz⟩ := I.list hs
  rw [Vals.ref1 r]
  obtain ⟨h1, h2, h3⟩ := okSort_ok ok
  cases ds with
  | nil => cases hm
  | cons x ds =>
    cases hm
    have e := each_rep rp rv
    have er : PySem.W.EachIs (fun v b => ∃ as, Reads s.heap v (toP b) as) its (x :: ds) := each_mono_mem e fun u d m ⟨x, rx, hx⟩ =>
      Dp.reads I (toP d) x u (dp_of (hx.mono ex) (h3 _ (List.mem_map_of_mem m)).1) rx
    obtain ⟨as, ra⟩ := PySem.W.each_readsAll toP er
    refine PySem.W.min_list_data (A := X.A) (I.ok.hd hc) hl.isList (x := toP x) (xs := ds.map toP) ra ⟨fun d hd e he => h1 d hd e he, fun d hd => h2.elim (fun q => by obtain ⟨_, _, z⟩ := q d hd; rw [z]; exact fun w => nomatch w) fun q => (q d hd).1⟩ ?_ fun i v h' tk bs hv rd keep => ?_
    · have := depthAll_le (n := 60) ((x :: ds).map toP) fun y hy => (h3 y hy).2
      show X.A.units + 1 + PyData.depthAll ((x :: ds).map toP) < cLine
      omega
    · have hi : i < its.length := by
        have := (Array.getElem?_eq_some_iff.mp hv).1
        simpa using this
      have hlen : its.length = (x :: ds).length := by rw [← rv.length]; exact rp.length
      obtain ⟨vi, hvi⟩ : ∃ vi, its[i]? = some vi := ⟨its[i], List.getElem?_eq_getElem hi⟩
      have evi : v = vi := by
        have : its[i]? = some v := by simpa using hv
        rw [hvi] at this; exact (Option.some.inj this).symm
      subst evi
      obtain ⟨d, hd, y, ry, hy⟩ := each_at e hvi
      obtain ⟨as2, r2⟩ := Dp.reads I (toP d) y v (dp_of (hy.mono ex) (h3 _ (List.mem_map_of_mem hd)).1) ry
      have eq : toP d = PySem.W.minD (toP x) (ds.map toP) := PySem.SeqAt.Reads.unique _ _ v as2 bs (h3 _ (List.mem_map_of_mem hd)).1 (PySem.W.reads_keeps keep r2) rd
      rw [← minP_toP] at eq
      have hdm := toP_inj (List.all_eq_true.mp pl d hd) (List.all_eq_true.mp pl _ (minP_mem ds x)) eq
      exact ⟨y, H, I.kept (t' := tk) keep, ry, q y (by rw [← hdm]; exact hy)⟩
theorem cg_minX : Cg1 c (rMinD c.K) minX (relV c) := fun {fp0 H0 B ρ fp σ H x dx Q} S hz hx q => by
  obtain ⟨d, hd, k⟩ := at_lift q
  unfold minX at hd
  cases e : seqB dx with
  | none => rw [e] at hd; cases hd
  | some ds =>
    rw [e] at hd
    simp only [Option.bind_some] at hd
    by_cases ok : ds.all (pln 60) = true ∧ okSort (ds.map toP) = true
    · rw [if_pos ok] at hd
      obtain ⟨a, xs, rfl, hs, r⟩ := seqB_bor S.ex hx e
      exact ⟨a, xs, ds, B, d, rfl, hs, S.ex, r, ok.1, ok.2, hd, fun y hy => k _ fp B H (.refl S) hy⟩
    · rw [if_neg ok] at hd; cases hd
theorem EV_minX {k : Nat} (hr : Room (k + 1) X.A) (hm : X.mg "min" = none) (hc : X.calm = true) (ha : EB c X a fa) (hK : c.K = X.K := by rfl) (hx : Gl X "min" := by rfl) (hs : starEach [a] X.env = (false, eval a X.env) :: starEach [] X.env := by rfl) (hpl : (backTo pos (starEach [] X.env)).any (·.1) = false := by rfl) :
    EV c X (.Call (.Name "min" p) [a] [] pos) (op1 minX fa) := E_b1 (cr_minD (un65 hr) hc) (by rw [← hK]; exact cg_minX) hm ha hx (by decide +kernel) (by decide) (by decide) hs hpl
/-- range(0, n, c), c > 0 -/
def rng0k : List D → Option (List D)
  | [.int i, .int j, .int c] => if i = 0 ∧ okR j = true ∧ 0 ≤ j ∧ 0 < c ∧ c < 1000000 then some (countD 0 c (Builtin.Range.rangeSize 0 j c).toNat) else none
  | _ => none
def it0k (fa fb fc : M D) : M (List D) := bnd (aCons fa (aCons fb (aCons fc aNil))) fun xs => lift (rng0k xs)
theorem rng0k_inv {ds ys : List D} (h : rng0k ds = some ys) : ∃ j c, ds = [.int 0, .int j, .int c] ∧ okR j = true ∧ 0 ≤ j ∧ 0 < c ∧ c < 1000000 ∧ ys = countD 0 c (Builtin.Range.rangeSize 0 j c).toNat := by
  unfold rng0k at h
  split at h
  · obtain ⟨⟨rfl, h1, h2, h3, h4⟩, rfl⟩ := ite_some h
    exact ⟨_, _, rfl, h1, h2, h3, h4, rfl⟩
  · cases h
theorem RgC.up {j c : Int} (h1 : j < 2 ^ 62) (h2 : 0 ≤ j) (h3 : 0 < c) (h4 : c < 1000000) : RgC 0 j c (Builtin.Range.rangeSize 0 j c).toNat := by
  have e := PyProof.Rows.rangeSize_pos (len := j) (c := c) (by omega) h2
  have q1 : 0 ≤ (j + c - 1) / c := Int.ediv_nonneg (by omega) (by omega)
  have q2 : (j + c - 1) / c ≤ j := by
    rcases Int.lt_or_le 0 j with h | h
    · refine Int.ediv_le_of_le_mul h3 ?_
      have : j * c = j * (c - 1) + j := by rw [Int.mul_sub, Int.mul_one]; omega
      have : 1 * (c - 1) ≤ j * (c - 1) := Int.mul_le_mul_of_nonneg_right (by omega) (by omega)
      omega
    · have : j = 0 := by omega
      subst this
      rw [Int.zero_add, Int.ediv_eq_zero_of_lt (by omega) (by omega)]; exact Int.le_refl _
  have q3 : (j + c - 1) / c * c ≤ j + c - 1 := Int.ediv_mul_le _ (by omega)
  refine ⟨by omega, by omega, ?_, ?_⟩
  · unfold Builtin.Range.small
    rw [e]
    simp only [Builtin.Range.rangeFitsLong, Bool.and_eq_true, Bool.or_eq_true, decide_eq_true_eq, beq_iff_eq]
    refine ⟨by omega, .inr ?_⟩
    rw [if_pos (by omega)]
    simp only [Bool.and_eq_true, decide_eq_true_eq]; omega
  · rw [e]; omega
theorem EI_0k {tg : Expr} (ha : EV c X a fa) (hb : EV c X b fb) (hd : EV c X d fd) (hm : X.mg "range" = none) (hg : Gl X "range" := by rfl)
    (hs : starEach [a, b, d] X.env = (false, eval a X.env) :: starEach [b, d] X.env := by rfl) (hs2 : starEach [b, d] X.env = (false, eval b X.env) :: starEach [d] X.env := by rfl) (hs3 : starEach [d] X.env = (false, eval d X.env) :: starEach [] X.env := by rfl)
    (hpl : (backTo pos (starEach [b, d] X.env)).any (·.1) = false := by rfl) :
    EI c X tg (.Call (.Name "range" p) [a, b, d] [] pos) (it0k fa fb fd) :=
  piOf (pi_range3 hg hm (EA_cons ha (EA_cons hb (EA_cons hd EA_nil hs3) hs2) hs) hs hpl) fun σ H R ⟨B, ρ, fp, S, q⟩ => ⟨B, ρ, fp, S, at_bnd q fun vs ds ρ1 fp1 B1 H1 g r q1 => by
    obtain ⟨ys, hy, k⟩ := at_lift q1
    have r := relA_v (n := 3) (B := B) (H := H) r
    obtain ⟨j, k2, rfl, hj, h0, h3, h4, rfl⟩ := rng0k_inv hy
    obtain ⟨h1, h2⟩ := okR_iff.mp hj
    exact ⟨0, j, k2, _, RepL.ints (ns := [0, j, k2]) r, RgC.up h2 h0 h3 h4, k _ fp1 B1 H1 (.refl g.sr) Yl_rngc⟩⟩
end
end Fl

set_option maxHeartbeats 1000000
/-! a, b, .. = x, y, .. with new things, by way of a tuple (printed by mkFlX.py) -/
namespace Fl
open PySem PySem.Spec PyProof.Rows L2
section
variable {c : Cn} {X : Cx} {f : M (List D)} {pos : Pos} {m1 m2 m3 m4 : Md}
theorem ES_parT2 {i1 i2 : Nat} {x1 x2 : Str} {p1 p2 pt : Pos} {e1 e2 : Expr} {kt k2 pt2} (hc : X.calm = true) (hN : X.N.Nodup)
    (h1 : X.N[i1]? = some x1) (h2 : X.N[i2]? = some x2) (l1 : Loc X.env.scope x1) (l2 : Loc X.env.scope x2)
    (ha : EA c X [m1, m2] [e1, e2] f) (hp : plainM [m1, m2] = true := by rfl)
    (o1 : c.ow i1 = m1.own := by rfl) (o2 : c.ow i2 = m2.own := by rfl) (q1 : c.kp i1 = false := by rfl) (q2 : c.kp i2 = false := by rfl)
    (f1 : X.fn x1 = true ∨ X.env.scope.names.lookup x1 = some .local := by first | exact .inl rfl | exact .inr rfl) (f2 : X.fn x2 = true ∨ X.env.scope.names.lookup x2 = some .local := by first | exact .inl rfl | exact .inr rfl)
    (hst : (assignEach [.Name x1 p1, .Name x2 p2] X.env).findIdx? (·.1) = none := by rfl)
    (hs : swapsWithSole [.Tuple [.Name x1 p1, .Name x2 p2] kt pt] (.Tuple [e1, e2] k2 pt2) pos.line X.env = pure false := by rfl)
    (hw : swappedStores [.Tuple [.Name x1 p1, .Name x2 p2] kt pt] (.Tuple [e1, e2] k2 pt2) X.env = pure none := by rfl)
    (h0 : (assignEach [.Tuple [.Name x1 p1, .Name x2 p2] kt pt] X.env).map (·.2) = [assign (.Tuple [.Name x1 p1, .Name x2 p2] kt pt) X.env] := by rfl) :
    ES c X (.Assign [.Tuple [.Name x1 p1, .Name x2 p2] kt pt] (.Tuple [e1, e2] k2 pt2) pos) (parS [i1, i2] f) :=
  psOf (ps_asg (pe_tup ha) (pg_tup (n := 2) hc (pgs_cons (pg_name hN h1 l1 f1) (pgs_cons (pg_name hN h2 l2 f2) pgs_nil)) rfl hst) hs hw h0) fun D σ H ⟨B, ρ, fp, S, i0, q⟩ => ⟨B, ρ, fp, S, at_thnG q fun vs ds ρ1 fp1 B1 H1 g1 r qq => by
    obtain ⟨fa, hl, hl2, get, fr, dj⟩ := arg_at r hp
    match ds, hl with
    | [d1, d2], _ =>
      match vs, hl2 with
      | [v1, v2], _ =>
        refine ⟨(by decide : 2 ≤ sizeLine), fun p hp0 => ?_⟩
        have g0 := g1.trans (g1.sr.fresh (.tup [v1, v2]) hp0)
        have ol : ∀ {P : Addr → Prop} {v : V} {dd : Fl.D} {o : Bool}, (if o = true then Own c.K B1 H1 P v dd else Rep c.K B1 v dd) → (if o = true then Own c.K B1 (upd H1 p (.tup [v1, v2])) P v dd else Rep c.K B1 v dd) := fun {P v dd o} h => by
          cases o with
          | false => exact h
          | true => exact Own.mono (Ex.refl _) (fun a u _ e => Ex.new hp0 a u e) h
        have fr' : ∀ i a, fa i a → H a = none ∧ B1 a = none ∧ (∃ o, (upd H1 p (.tup [v1, v2])) a = some o) ∧ ∀ j, ¬ fp1 j a := fun i a h => by
          obtain ⟨z1, z2, ⟨o, z3⟩, z4⟩ := fr i a h
          exact ⟨z1, z2, ⟨o, Ex.new hp0 a o z3⟩, z4⟩
        obtain ⟨_, y1, r1⟩ := get 0 d1 rfl
        cases y1
        obtain ⟨_, y2, r2⟩ := get 1 d2 rfl
        cases y2
        obtain ⟨fp2, g2, k2, s2⟩ := put1 g0 (.refl σ) o1 q1 (ol r1) (fr' 0)
        obtain ⟨fp3, g3, k3, s3⟩ := put1 g2 k2 o2 q2 (ol r2) fun a p => ⟨(fr' 1 a p).1, (fr' 1 a p).2.1, (fr' 1 a p).2.2.1, fun l z => ((s2 l a z).elim (fun z => ((fr' 1 a p).2.2.2 l z)) fun z => by cases dj 0 1 a z p)⟩
        exact ⟨p, [v1, v2], rfl, SqT.of upd_same, rfl, _, _, rfl, _, _, rfl, rfl, qq _ fp3 B1 _ g3 k3⟩⟩
theorem ES_parT3 {i1 i2 i3 : Nat} {x1 x2 x3 : Str} {p1 p2 p3 pt : Pos} {e1 e2 e3 : Expr} {kt k2 pt2} (hc : X.calm = true) (hN : X.N.Nodup)
    (h1 : X.N[i1]? = some x1) (h2 : X.N[i2]? = some x2) (h3 : X.N[i3]? = some x3) (l1 : Loc X.env.scope x1) (l2 : Loc X.env.scope x2) (l3 : Loc X.env.scope x3)
    (ha : EA c X [m1, m2, m3] [e1, e2, e3] f) (hp : plainM [m1, m2, m3] = true := by rfl)
    (o1 : c.ow i1 = m1.own := by rfl) (o2 : c.ow i2 = m2.own := by rfl) (o3 : c.ow i3 = m3.own := by rfl) (q1 : c.kp i1 = false := by rfl) (q2 : c.kp i2 = false := by rfl) (q3 : c.kp i3 = false := by rfl)
    (f1 : X.fn x1 = true ∨ X.env.scope.names.lookup x1 = some .local := by first | exact .inl rfl | exact .inr rfl) (f2 : X.fn x2 = true ∨ X.env.scope.names.lookup x2 = some .local := by first | exact .inl rfl | exact .inr rfl) (f3 : X.fn x3 = true ∨ X.env.scope.names.lookup x3 = some .local := by first | exact .inl rfl | exact .inr rfl)
    (hst : (assignEach [.Name x1 p1, .Name x2 p2, .Name x3 p3] X.env).findIdx? (·.1) = none := by rfl)
    (hs : swapsWithSole [.Tuple [.Name x1 p1, .Name x2 p2, .Name x3 p3] kt pt] (.Tuple [e1, e2, e3] k2 pt2) pos.line X.env = pure false := by rfl)
    (hw : swappedStores [.Tuple [.Name x1 p1, .Name x2 p2, .Name x3 p3] kt pt] (.Tuple [e1, e2, e3] k2 pt2) X.env = pure none := by rfl)
    (h0 : (assignEach [.Tuple [.Name x1 p1, .Name x2 p2, .Name x3 p3] kt pt] X.env).map (·.2) = [assign (.Tuple [.Name x1 p1, .Name x2 p2, .Name x3 p3] kt pt) X.env] := by rfl) :
    ES c X (.Assign [.Tuple [.Name x1 p1, .Name x2 p2, .Name x3 p3] kt pt] (.Tuple [e1, e2, e3] k2 pt2) pos) (parS [i1, i2, i3] f) :=
  psOf (ps_asg (pe_tup ha) (pg_tup (n := 3) hc (pgs_cons (pg_name hN h1 l1 f1) (pgs_cons (pg_name hN h2 l2 f2) (pgs_cons (pg_name hN h3 l3 f3) pgs_nil))) rfl hst) hs hw h0) fun D σ H ⟨B, ρ, fp, S, i0, q⟩ => ⟨B, ρ, fp, S, at_thnG q fun vs ds ρ1 fp1 B1 H1 g1 r qq => by
    obtain ⟨fa, hl, hl2, get, fr, dj⟩ := arg_at r hp
    match ds, hl with
    | [d1, d2, d3], _ =>
      match vs, hl2 with
      | [v1, v2, v3], _ =>
        refine ⟨(by decide : 3 ≤ sizeLine), fun p hp0 => ?_⟩
        have g0 := g1.trans (g1.sr.fresh (.tup [v1, v2, v3]) hp0)
        have ol : ∀ {P : Addr → Prop} {v : V} {dd : Fl.D} {o : Bool}, (if o = true then Own c.K B1 H1 P v dd else Rep c.K B1 v dd) → (if o = true then Own c.K B1 (upd H1 p (.tup [v1, v2, v3])) P v dd else Rep c.K B1 v dd) := fun {P v dd o} h => by
          cases o with
          | false => exact h
          | true => exact Own.mono (Ex.refl _) (fun a u _ e => Ex.new hp0 a u e) h
        have fr' : ∀ i a, fa i a → H a = none ∧ B1 a = none ∧ (∃ o, (upd H1 p (.tup [v1, v2, v3])) a = some o) ∧ ∀ j, ¬ fp1 j a := fun i a h => by
          obtain ⟨z1, z2, ⟨o, z3⟩, z4⟩ := fr i a h
          exact ⟨z1, z2, ⟨o, Ex.new hp0 a o z3⟩, z4⟩
        obtain ⟨_, y1, r1⟩ := get 0 d1 rfl
        cases y1
        obtain ⟨_, y2, r2⟩ := get 1 d2 rfl
        cases y2
        obtain ⟨_, y3, r3⟩ := get 2 d3 rfl
        cases y3
        obtain ⟨fp2, g2, k2, s2⟩ := put1 g0 (.refl σ) o1 q1 (ol r1) (fr' 0)
        obtain ⟨fp3, g3, k3, s3⟩ := put1 g2 k2 o2 q2 (ol r2) fun a p => ⟨(fr' 1 a p).1, (fr' 1 a p).2.1, (fr' 1 a p).2.2.1, fun l z => ((s2 l a z).elim (fun z => ((fr' 1 a p).2.2.2 l z)) fun z => by cases dj 0 1 a z p)⟩
        obtain ⟨fp4, g4, k4, s4⟩ := put1 g3 k3 o3 q3 (ol r3) fun a p => ⟨(fr' 2 a p).1, (fr' 2 a p).2.1, (fr' 2 a p).2.2.1, fun l z => ((s3 l a z).elim (fun z => ((s2 l a z).elim (fun z => ((fr' 2 a p).2.2.2 l z)) fun z => by cases dj 0 2 a z p)) fun z => by cases dj 1 2 a z p)⟩
        exact ⟨p, [v1, v2, v3], rfl, SqT.of upd_same, rfl, _, _, rfl, _, _, rfl, _, _, rfl, rfl, qq _ fp4 B1 _ g4 k4⟩⟩
theorem ES_parT4 {i1 i2 i3 i4 : Nat} {x1 x2 x3 x4 : Str} {p1 p2 p3 p4 pt : Pos} {e1 e2 e3 e4 : Expr} {kt k2 pt2} (hc : X.calm = true) (hN : X.N.Nodup)
    (h1 : X.N[i1]? = some x1) (h2 : X.N[i2]? = some x2) (h3 : X.N[i3]? = some x3) (h4 : X.N[i4]? = some x4) (l1 : Loc X.env.scope x1) (l2 : Loc X.env.scope x2) (l3 : Loc X.env.scope x3) (l4 : Loc X.env.scope x4)
    (ha : EA c X [m1, m2, m3, m4] [e1, e2, e3, e4] f) (hp : plainM [m1, m2, m3, m4] = true := by rfl)
    (o1 : c.ow i1 = m1.own := by rfl) (o2 : c.ow i2 = m2.own := by rfl) (o3 : c.ow i3 = m3.own := by rfl) (o4 : c.ow i4 = m4.own := by rfl) (q1 : c.kp i1 = false := by rfl) (q2 : c.kp i2 = false := by rfl) (q3 : c.kp i3 = false := by rfl) (q4 : c.kp i4 = false := by rfl)
    (f1 : X.fn x1 = true ∨ X.env.scope.names.lookup x1 = some .local := by first | exact .inl rfl | exact .inr rfl) (f2 : X.fn x2 = true ∨ X.env.scope.names.lookup x2 = some .local := by first | exact .inl rfl | exact .inr rfl) (f3 : X.fn x3 = true ∨ X.env.scope.names.lookup x3 = some .local := by first | exact .inl rfl | exact .inr rfl) (f4 : X.fn x4 = true ∨ X.env.scope.names.lookup x4 = some .local := by first | exact .inl rfl | exact .inr rfl)
    (hst : (assignEach [.Name x1 p1, .Name x2 p2, .Name x3 p3, .Name x4 p4] X.env).findIdx? (·.1) = none := by rfl)
    (hs : swapsWithSole [.Tuple [.Name x1 p1, .Name x2 p2, .Name x3 p3, .Name x4 p4] kt pt] (.Tuple [e1, e2, e3, e4] k2 pt2) pos.line X.env = pure false := by rfl)
    (hw : swappedStores [.Tuple [.Name x1 p1, .Name x2 p2, .Name x3 p3, .Name x4 p4] kt pt] (.Tuple [e1, e2, e3, e4] k2 pt2) X.env = pure none := by rfl)
    (h0 : (assignEach [.Tuple [.Name x1 p1, .Name x2 p2, .Name x3 p3, .Name x4 p4] kt pt] X.env).map (·.2) = [assign (.Tuple [.Name x1 p1, .Name x2 p2, .Name x3 p3, .Name x4 p4] kt pt) X.env] := by rfl) :
    ES c X (.Assign [.Tuple [.Name x1 p1, .Name x2 p2, .Name x3 p3, .Name x4 p4] kt pt] (.Tuple [e1, e2, e3, e4] k2 pt2) pos) (parS [i1, i2, i3, i4] f) :=
  psOf (ps_asg (pe_tup ha) (pg_tup (n := 4) hc (pgs_cons (pg_name hN h1 l1 f1) (pgs_cons (pg_name hN h2 l2 f2) (pgs_cons (pg_name hN h3 l3 f3) (pgs_cons (pg_name hN h4 l4 f4) pgs_nil)))) rfl hst) hs hw h0) fun D σ H ⟨B, ρ, fp, S, i0, q⟩ => ⟨B, ρ, fp, S, at_thnG q fun vs ds ρ1 fp1 B1 H1 g1 r qq => by
    obtain ⟨fa, hl, hl2, get, fr, dj⟩ := arg_at r hp
    match ds, hl with
    | [d1, d2, d3, d4], _ =>
      match vs, hl2 with
      | [v1, v2, v3, v4], _ =>
        refine ⟨(by decide : 4 ≤ sizeLine), fun p hp0 => ?_⟩
        have g0 := g1.trans (g1.sr.fresh (.tup [v1, v2, v3, v4]) hp0)
        have ol : ∀ {P : Addr → Prop} {v : V} {dd : Fl.D} {o : Bool}, (if o = true then Own c.K B1 H1 P v dd else Rep c.K B1 v dd) → (if o = true then Own c.K B1 (upd H1 p (.tup [v1, v2, v3, v4])) P v dd else Rep c.K B1 v dd) := fun {P v dd o} h => by
          cases o with
          | false => exact h
          | true => exact Own.mono (Ex.refl _) (fun a u _ e => Ex.new hp0 a u e) h
        have fr' : ∀ i a, fa i a → H a = none ∧ B1 a = none ∧ (∃ o, (upd H1 p (.tup [v1, v2, v3, v4])) a = some o) ∧ ∀ j, ¬ fp1 j a := fun i a h => by
          obtain ⟨z1, z2, ⟨o, z3⟩, z4⟩ := fr i a h
          exact ⟨z1, z2, ⟨o, Ex.new hp0 a o z3⟩, z4⟩
        obtain ⟨_, y1, r1⟩ := get 0 d1 rfl
        cases y1
        obtain ⟨_, y2, r2⟩ := get 1 d2 rfl
        cases y2
        obtain ⟨_, y3, r3⟩ := get 2 d3 rfl
        cases y3
        obtain ⟨_, y4, r4⟩ := get 3 d4 rfl
        cases y4
        obtain ⟨fp2, g2, k2, s2⟩ := put1 g0 (.refl σ) o1 q1 (ol r1) (fr' 0)
        obtain ⟨fp3, g3, k3, s3⟩ := put1 g2 k2 o2 q2 (ol r2) fun a p => ⟨(fr' 1 a p).1, (fr' 1 a p).2.1, (fr' 1 a p).2.2.1, fun l z => ((s2 l a z).elim (fun z => ((fr' 1 a p).2.2.2 l z)) fun z => by cases dj 0 1 a z p)⟩
        obtain ⟨fp4, g4, k4, s4⟩ := put1 g3 k3 o3 q3 (ol r3) fun a p => ⟨(fr' 2 a p).1, (fr' 2 a p).2.1, (fr' 2 a p).2.2.1, fun l z => ((s3 l a z).elim (fun z => ((s2 l a z).elim (fun z => ((fr' 2 a p).2.2.2 l z)) fun z => by cases dj 0 2 a z p)) fun z => by cases dj 1 2 a z p)⟩
        obtain ⟨fp5, g5, k5, s5⟩ := put1 g4 k4 o4 q4 (ol r4) fun a p => ⟨(fr' 3 a p).1, (fr' 3 a p).2.1, (fr' 3 a p).2.2.1, fun l z => ((s4 l a z).elim (fun z => ((s3 l a z).elim (fun z => ((s2 l a z).elim (fun z => ((fr' 3 a p).2.2.2 l z)) fun z => by cases dj 0 3 a z p)) fun z => by cases dj 1 3 a z p)) fun z => by cases dj 2 3 a z p)⟩
        exact ⟨p, [v1, v2, v3, v4], rfl, SqT.of upd_same, rfl, _, _, rfl, _, _, rfl, _, _, rfl, _, _, rfl, rfl, qq _ fp5 B1 _ g5 k5⟩⟩
end
end Fl

set_option maxHeartbeats 1000000
/-! one's own compared with a value -/
namespace Fl
open PySem PySem.Spec PyProof.Rows L2
def opL (g : D → D → Option D) (j : Nat) (fb : M D) : M D := bnd (rd j) fun _ => bnd fb fun y => bnd (rd j) fun d => lift (g d y)
@[simp ↓] theorem x_opL (g : D → D → Option D) (j : Nat) (fb : M D) (ρ : Rho) : opL g j fb ρ = bnd (rd j) (fun _ => bnd fb fun y => bnd (rd j) fun d => lift (g d y)) ρ := (rfl)
structure CmpL (c : Cn) (X : Cx) (op : CmpOp) (g : D → D → Option D) : Prop where
  ex : ∃ r, OpR X (compareOp op) r ∧ ∀ {fp0 H0 B ρ fp σ H x y dx dy Q}, SR c.K c.ow B H σ ρ fp → Bor c.K B H x dx → Rep c.K B y dy → c.at fp0 H0 B ρ fp (lift (g dx dy)) (relV c) σ H Q → r x y H Q
section
variable {c : Cn} {X : Cx} {a b : Expr} {fb : M D} {pos : Pos} {j : Nat}
theorem bor_dp {K : PySem.W.Frag} {B H : Hp} {x : V} {d : D} (ex : Ex B H) (hx : Bor K B H x d) (h : (toP d).canLay0 = true) : Dp K H x (toP d) := by
  rcases hx with hx | ⟨P, hx⟩
  · exact dp_of (hx.mono ex) h
  · cases hx with
    | @lst a xs _ p e r => exact dp_of (Rep.lst e (r.mono ex)) h
    | dic _ _ _ => simp [toP, PyData.canLay0] at h
    | dit _ _ _ => simp [toP, PyData.canLay0] at h
theorem ol_eq {k : Nat} (hr : Room k X.A) (hK : c.K = X.K := by rfl) : CmpL c X .Eq eqD := ⟨_, op_eqD hr.units, fun {fp0 H0 B ρ fp σ H x y dx dy Q} S rx ry q => by
  obtain ⟨d, hd, k⟩ := at_lift q
  obtain ⟨h, rfl⟩ := ite_some hd
  rw [← hK]
  exact ⟨_, _, bor_dp S.ex rx (SeqAt.canLay_of_shaped h.1), dp_of (ry.mono S.ex) (SeqAt.canLay_of_shaped h.2), h.1, h.2, k _ fp B H (.refl S) (.bl _)⟩⟩
theorem ol_ne {k : Nat} (hr : Room k X.A) (hK : c.K = X.K := by rfl) : CmpL c X .NotEq neD := ⟨_, op_neD hr.units, fun {fp0 H0 B ρ fp σ H x y dx dy Q} S rx ry q => by
  obtain ⟨d, hd, k⟩ := at_lift q
  obtain ⟨h, rfl⟩ := ite_some hd
  rw [← hK]
  exact ⟨_, _, bor_dp S.ex rx (SeqAt.canLay_of_shaped h.1), dp_of (ry.mono S.ex) (SeqAt.canLay_of_shaped h.2), h.1, h.2, k _ fp B H (.refl S) (.bl _)⟩⟩
theorem EV_cmpL {op : CmpOp} {g : D → D → Option D} (h : CmpL c X op g) (ha : PE X a (tVar j)) (hb : EV c X b fb) (hj : c.ow j = true := by rfl) (hm : behindInMarks op b = false := by first | exact nomark _ | rfl) : EV c X (.Compare a [op] [b] pos) (opL g j fb) := by
  obtain ⟨r, h1, h2⟩ := h.ex
  exact peOf (pe_cmpR h1 ha hb hm) fun σ H Q ⟨B, ρ, fp, S, q⟩ => by
    obtain ⟨d0, hd0, q0⟩ := at_rd q
    obtain ⟨v, hv, _⟩ := S.own hj (get_some hd0)
    refine ⟨v, hv, B, ρ, fp, S, at_bnd q0 fun y dy ρ2 fp2 B2 H2 g2 r2 q2 => ?_⟩
    obtain ⟨dx, hdx, q3⟩ := at_rd q2
    obtain ⟨v2, hv2, o2⟩ := g2.sr.own hj (get_some hdx)
    rw [hv] at hv2; cases hv2
    exact h2 g2.sr (.inr ⟨_, o2⟩) r2 q3
theorem ET_cmpL {op : CmpOp} {g : D → D → Option D} (h : CmpL c X op g) (ha : PE X a (tVar j)) (hb : EV c X b fb) (hj : c.ow j = true := by rfl) (hm : behindInMarks op b = false := by first | exact nomark _ | rfl) : ET c X (.Compare a [op] [b] pos) (tst (opL g j fb)) := by
  obtain ⟨r, h1, h2⟩ := h.ex
  exact ptOf (pt_cmpR h1 ha hb hm) fun σ H Q ⟨B, ρ, fp, S, q⟩ => by
    obtain ⟨d0, hd0, q0⟩ := at_rd (at_tst q)
    obtain ⟨v, hv, _⟩ := S.own hj (get_some hd0)
    refine ⟨v, hv, B, ρ, fp, S, at_bnd q0 fun y dy ρ2 fp2 B2 H2 g2 r2 q2 => ?_⟩
    obtain ⟨dx, hdx, q3⟩ := at_rd q2
    obtain ⟨v2, hv2, o2⟩ := g2.sr.own hj (get_some hdx)
    rw [hv] at hv2; cases hv2
    exact h2 g2.sr (.inr ⟨_, o2⟩) r2 q3
end
end Fl

set_option maxHeartbeats 4000000
/-! the defs of the linked text as functions upon data (printed by gen.py) -/
namespace K74
open PySem PySem.Spec PyProof.Rows L2 Fl
def g_DIGITS : D := .str (PySem.Str.ofString "0123456789abcdef")
/-! is_number: 0 thing -/
def S_is_number : S :=
    (ret (andV (op1 (isiD "int") (rd 0)) (andV (notV (op1 (isiD "bool") (rd 0))) (op2 geD (rd 0) (pur (.int 0))))))
def F_is_number : List D → R D := runF 1 1 (lk []) false S_is_number

/-! is_number_text: 0 text 1 sign -/
def S_is_number_text : S :=
    (sq (ifS (orT (tst (op2 eqD (rd 0) (pur (.str (PySem.Str.ofString ""))))) (orT (tst (op2 gtD (op1 lenD (rd 0)) (pur (.int 4000)))) (notT (tst (op1 allD (lcM (itStr (rd 0)) (gNam 1) (pur true) (op2 inX (rd 1) (pur (.str (PySem.Str.ofString "0123456789")))) [1])))))) (ret (pur (.bl false))) skip)
    (ret (orV (op2 eqD (rd 0) (pur (.str (PySem.Str.ofString "0")))) (op2 neD (op2 ixD (rd 0) (pur (.int 0))) (pur (.str (PySem.Str.ofString "0")))))))
def F_is_number_text : List D → R D := runF 1 2 (lk []) false S_is_number_text

/-! is_numbers: 0 thing 1 own -/
def S_is_numbers : S :=
    (ret (andV (op1 (isiD "tuple") (rd 0)) (op1 allD (lcM (itSeq (rd 0)) (gNam 1) (pur true) (andV (callF [.v] F_is_number (aCons (rd 1) aNil)) (op2 ltD (rd 1) (pur (.int 256)))) [1]))))
def F_is_numbers : List D → R D := runF 1 2 (lk []) false S_is_numbers

/-! hex_text: 0 numbers 1 own -/
def S_hex_text : S :=
    (ret (strM joinD (pur (.str (PySem.Str.ofString ""))) (lcM (itSeq (rd 0)) (gNam 1) (pur true) (op2 addD (op2 ixD (pur g_DIGITS) (op2 divD (rd 1) (pur (.int 16)))) (op2 ixD (pur g_DIGITS) (op2 modD (rd 1) (pur (.int 16))))) [1])))
def F_hex_text : List D → R D := runF 1 2 (lk []) false S_hex_text

/-! read_hex: 0 text 1 sign 2 k -/
def S_read_hex : S :=
    (sq (ifS (orT (tst (op2 neD (op2 modD (op1 lenD (rd 0)) (pur (.int 2))) (pur (.int 0)))) (notT (tst (op1 allD (lcM (itStr (rd 0)) (gNam 1) (pur true) (op2 inX (rd 1) (pur g_DIGITS)) [1]))))) (ret (pur .non)) skip)
    (ret (op1 tupD (lcM (it0k (pur (.int 0)) (op1 lenD (rd 0)) (pur (.int 2))) (gNam 2) (pur true) (op2 addD (op2 mulD (pur (.int 16)) (strM sidxD (pur g_DIGITS) (op2 ixD (rd 0) (rd 2)))) (strM sidxD (pur g_DIGITS) (op2 ixD (rd 0) (op2 addD (rd 2) (pur (.int 1)))))) [2]))))
def F_read_hex : List D → R D := runF 1 3 (lk []) false S_read_hex

/-! is_piece: 0 thing -/
def S_is_piece : S :=
    (sq (ifS (orT (notT (tst (op1 (isiD "tuple") (rd 0)))) (orT (tst (op2 ltD (op1 lenD (rd 0)) (pur (.int 2)))) (notT (tst (op1 (isiD "str") (op2 ixD (rd 0) (pur (.int 0)))))))) (ret (pur (.bl false))) skip)
    (sq (ifS (tst (op2 eqD (op2 ixD (rd 0) (pur (.int 0))) (pur (.str (PySem.Str.ofString "put"))))) (ret (andV (op2 eqD (op1 lenD (rd 0)) (pur (.int 2))) (andV (callF [.v] F_is_numbers (aCons (op2 ixD (rd 0) (pur (.int 1))) aNil)) (op2 neD (op2 ixD (rd 0) (pur (.int 1))) (bnd aNil fun xs => lift (mkTup xs)))))) skip)
    (ret (andV (op2 eqD (op2 ixD (rd 0) (pur (.int 0))) (pur (.str (PySem.Str.ofString "copy")))) (andV (op2 eqD (op1 lenD (rd 0)) (pur (.int 3))) (andV (callF [.v] F_is_number (aCons (op2 ixD (rd 0) (pur (.int 1))) aNil)) (andV (callF [.v] F_is_number (aCons (op2 ixD (rd 0) (pur (.int 2))) aNil)) (op2 gtD (op2 ixD (rd 0) (pur (.int 2))) (pur (.int 0))))))))))
def F_is_piece : List D → R D := runF 1 1 (lk []) false S_is_piece

/-! is_delta: 0 old 1 thing 2 step -/
def S_is_delta : S :=
    (sq (ifS (orT (notT (tst (op1 (isiD "tuple") (rd 1)))) (notT (tst (op1 allD (lcM (itSeq (rd 1)) (gNam 2) (pur true) (callF [.v] F_is_piece (aCons (rd 2) aNil)) [2]))))) (ret (pur (.bl false))) skip)
    (ret (op1 allD (lcM (itSeq (rd 1)) (gNam 2) (tst (op2 eqD (op2 ixD (rd 2) (pur (.int 0))) (pur (.str (PySem.Str.ofString "copy"))))) (op2 leD (op2 addD (op2 ixD (rd 2) (pur (.int 1))) (op2 ixD (rd 2) (pur (.int 2)))) (op1 lenD (rd 0))) [2]))))
def F_is_delta : List D → R D := runF 2 3 (lk []) false S_is_delta

/-! made_by: 0 step 1 old -/
def S_made_by : S :=
    (ret (ifM (tst (op2 eqD (op2 ixD (rd 0) (pur (.int 0))) (pur (.str (PySem.Str.ofString "put"))))) (op2 ixD (rd 0) (pur (.int 1))) (slM (rd 1) (oSome (op2 ixD (rd 0) (pur (.int 1)))) (oSome (op2 addD (op2 ixD (rd 0) (pur (.int 1))) (op2 ixD (rd 0) (pur (.int 2))))))))
def F_made_by : List D → R D := runF 2 2 (lk []) false S_made_by

/-! applied_delta: 0 delta 1 old 2 found 3 step -/
def b1_applied_delta : S :=
    (thn (methM 2 extD (aCons (callF [.v, .v] F_made_by (aCons (rd 3) (aCons (rd 1) aNil))) aNil)) fun _ => skip)
def S_applied_delta : S :=
    (sq (ifS (notT (tst (callF [.v, .v] F_is_delta (aCons (rd 1) (aCons (rd 0) aNil))))) (fun _ => .no) skip)
    (sq (setS 2 (bnd aNil fun xs => lift (mkLst xs)))
    (sq (forS (itSeq (rd 0)) (gNam 3) b1_applied_delta)
    (ret (op1 tupD (rd 2))))))
def F_applied_delta : List D → R D := runF 2 4 (lk []) false S_applied_delta

/-! delta_cost: 0 delta 1 costs 2 step -/
def S_delta_cost : S :=
    (ret (op1 sumD (lcM (itSeq (rd 0)) (gNam 2) (pur true) (ifM (tst (op2 eqD (op2 ixD (rd 2) (pur (.int 0))) (pur (.str (PySem.Str.ofString "copy"))))) (op2 ixD (rd 1) (pur (.int 0))) (op2 addD (op2 ixD (rd 1) (pur (.int 1))) (op2 mulD (op2 ixD (rd 1) (pur (.int 2))) (op1 lenD (op2 ixD (rd 2) (pur (.int 1))))))) [2])))
def F_delta_cost : List D → R D := runF 2 3 (lk []) false S_delta_cost

/-! step_row: 0 step -/
def S_step_row : S :=
    (ret (ifM (tst (op2 eqD (op2 ixD (rd 0) (pur (.int 0))) (pur (.str (PySem.Str.ofString "put"))))) (op2 addD (pur (.str (PySem.Str.ofString "put "))) (callF [.v] F_hex_text (aCons (op2 ixD (rd 0) (pur (.int 1))) aNil))) (op2 addD (op2 addD (op2 addD (pur (.str (PySem.Str.ofString "copy "))) (op1 strD (op2 ixD (rd 0) (pur (.int 1))))) (pur (.str (PySem.Str.ofString " ")))) (op1 strD (op2 ixD (rd 0) (pur (.int 2)))))))
def F_step_row : List D → R D := runF 1 1 (lk []) false S_step_row

/-! delta_text: 0 delta 1 step -/
def S_delta_text : S :=
    (ret (strM joinD (pur (.str (PySem.Str.ofString ""))) (lcM (itSeq (rd 0)) (gNam 1) (pur true) (op2 addD (callF [.v] F_step_row (aCons (rd 1) aNil)) (pur (.str (PySem.Str.ofString "\n")))) [1])))
def F_delta_text : List D → R D := runF 1 2 (lk []) false S_delta_text

/-! read_step: 0 row 1 words 2 step -/
def S_read_step : S :=
    (sq (setS 1 (strM splitD (rd 0) (pur (.str (PySem.Str.ofString " ")))))
    (sq (ifS (andT (tst (op2 eqD (op2 ixD (rd 1) (pur (.int 0))) (pur (.str (PySem.Str.ofString "put"))))) (tst (op2 eqD (op1 lenD (rd 1)) (pur (.int 2))))) (setS 2 (bnd (aCons (pur (.str (PySem.Str.ofString "put"))) (aCons (callF [.v] F_read_hex (aCons (op2 ixD (rd 1) (pur (.int 1))) aNil)) aNil)) fun xs => lift (mkTup xs))) (ifS (andT (tst (op2 eqD (op2 ixD (rd 1) (pur (.int 0))) (pur (.str (PySem.Str.ofString "copy"))))) (andT (tst (op2 eqD (op1 lenD (rd 1)) (pur (.int 3)))) (andT (tst (callF [.v] F_is_number_text (aCons (op2 ixD (rd 1) (pur (.int 1))) aNil))) (tst (callF [.v] F_is_number_text (aCons (op2 ixD (rd 1) (pur (.int 2))) aNil)))))) (setS 2 (bnd (aCons (pur (.str (PySem.Str.ofString "copy"))) (aCons (op1 intX (op2 ixD (rd 1) (pur (.int 1)))) (aCons (op1 intX (op2 ixD (rd 1) (pur (.int 2)))) aNil))) fun xs => lift (mkTup xs))) (ret (pur .non))))
    (ret (ifM (tst (callF [.v] F_is_piece (aCons (rd 2) aNil))) (rd 2) (pur .non)))))
def F_read_step : List D → R D := runF 1 3 (lk []) false S_read_step

/-! read_delta: 0 text 1 rows 2 steps 3 row -/
def S_read_delta : S :=
    (sq (setS 1 (strM splitD (rd 0) (pur (.str (PySem.Str.ofString "\n")))))
    (sq (ifS (tst (op2 neD (op2 ixD (rd 1) (op1 negD (pur (.int 1)))) (pur (.str (PySem.Str.ofString ""))))) (fun _ => .no) skip)
    (sq (setS 2 (lcM (itSeq (slM (rd 1) oNone (oSome (op1 negD (pur (.int 1)))))) (gNam 3) (pur true) (callF [.v] F_read_step (aCons (rd 3) aNil)) [3]))
    (sq (ifS (tst (op2 inX (pur .non) (rd 2))) (fun _ => .no) skip)
    (ret (op1 tupD (rd 2)))))))
def F_read_delta : List D → R D := runF 1 4 (lk []) false S_read_delta

/-! longest_runs: 0 old 1 new 2 runs 3 last 4 j 5 row 6 i 7 best -/
def b1_longest_runs : S :=
    (sq (setS 5 (op2 addD (lcM (it1 (op1 lenD (rd 0))) (gNam 6) (pur true) (ifM (tst (op2 eqD (op2 ixD (rd 0) (rd 6)) (op2 ixD (rd 1) (rd 4)))) (op2 addD (op2 ixD (rd 3) (op2 addD (rd 6) (pur (.int 1)))) (pur (.int 1))) (pur (.int 0))) [6]) (bnd (aCons (pur (.int 0)) aNil) fun xs => lift (mkLst xs))))
    (sq (setS 7 (op1 maxD (rd 5)))
    (sq (asgS (bnd (aCons (rd 7) (aCons (indexM (rd 5) (rd 7)) aNil)) fun xs => lift (mkTup xs)) (gSubS 2 (rd 4)))
    (setS 3 (rd 5)))))
def S_longest_runs : S :=
    (sq (parS [2, 3] (aCons (op2 mulL (bnd (aCons (bnd (aCons (pur (.int 0)) (aCons (pur (.int 0)) aNil)) fun xs => lift (mkTup xs)) aNil) fun xs => lift (mkLst xs)) (op2 addD (op1 lenD (rd 1)) (pur (.int 1)))) (aCons (op2 mulL (bnd (aCons (pur (.int 0)) aNil) fun xs => lift (mkLst xs)) (op2 addD (op1 lenD (rd 0)) (pur (.int 1)))) aNil)))
    (sq (forS (it3 (op2 subD (op1 lenD (rd 1)) (pur (.int 1))) (op1 negD (pur (.int 1))) (op1 negD (pur (.int 1)))) (gNam 4) b1_longest_runs)
    (ret (rd 2))))
def F_longest_runs : List D → R D := runF 2 8 (lk []) false S_longest_runs

/-! steps_to: 0 runs 1 costs 2 place 3 found 4 begin -/
def b1_steps_to : S :=
    (sq (thn (methM 3 appD (aCons (bnd (aCons (op2 addD (op2 ixD (rd 1) (pur (.int 1))) (op2 mulD (op2 ixD (rd 1) (pur (.int 2))) (op2 subD (rd 2) (rd 4)))) (aCons (rd 4) (aCons (pur (.str (PySem.Str.ofString "put"))) aNil))) fun xs => lift (mkTup xs)) aNil)) fun _ => skip)
    (ifS (tst (op2 geD (op2 addD (rd 4) (op2 ixD (op2 ixD (rd 0) (rd 4)) (pur (.int 0)))) (rd 2))) (thn (methM 3 appD (aCons (bnd (aCons (op2 ixD (rd 1) (pur (.int 0))) (aCons (rd 4) (aCons (pur (.str (PySem.Str.ofString "copy"))) aNil))) fun xs => lift (mkTup xs)) aNil)) fun _ => skip) skip))
def S_steps_to : S :=
    (sq (setS 3 (bnd aNil fun xs => lift (mkLst xs)))
    (sq (forS (it1 (rd 2)) (gNam 4) b1_steps_to)
    (ret (rd 3))))
def F_steps_to : List D → R D := runF 3 5 (lk []) false S_steps_to

/-! cheapest: 0 old 1 new 2 costs 3 runs 4 found 5 place 6 rows 7 cost 8 begin 9 word -/
def b1_cheapest : S :=
    (sq (setS 6 (lcM (itSeq (callF [.v, .v, .v] F_steps_to (aCons (rd 3) (aCons (rd 2) (aCons (rd 5) aNil))))) (gTupD (gMore (gNam 7) (gMore (gNam 8) (gMore (gNam 9) gEnd)))) (pur true) (bnd (aCons (op2 addD (op2 ixD (ixS 4 (rd 8)) (pur (.int 0))) (rd 7)) (aCons (rd 8) (aCons (rd 9) aNil))) fun xs => lift (mkTup xs)) [7, 8, 9]))
    (thn (methM 4 appD (aCons (op1 minX (rd 6)) aNil)) fun _ => skip))
def S_cheapest : S :=
    (sq (parS [3, 4] (aCons (callF [.v, .v] F_longest_runs (aCons (rd 0) (aCons (rd 1) aNil))) (aCons (bnd (aCons (bnd (aCons (pur (.int 0)) (aCons (pur (.int 0)) (aCons (pur (.str (PySem.Str.ofString ""))) aNil))) fun xs => lift (mkTup xs)) aNil) fun xs => lift (mkLst xs)) aNil)))
    (sq (forS (it2 (pur (.int 1)) (op2 addD (op1 lenD (rd 1)) (pur (.int 1)))) (gNam 5) b1_cheapest)
    (ret (rd 4))))
def F_cheapest : List D → R D := runF 3 10 (lk []) false S_cheapest

/-! potentials_of: 0 old 1 new 2 costs 3 row -/
def S_potentials_of : S :=
    (ret (op1 tupD (lcM (itSeq (callF [.v, .v, .v] F_cheapest (aCons (rd 0) (aCons (rd 1) (aCons (rd 2) aNil))))) (gNam 3) (pur true) (op2 ixD (rd 3) (pur (.int 0))) [3])))
def F_potentials_of : List D → R D := runF 3 4 (lk []) false S_potentials_of

/-! least_delta: 0 old 1 new 2 costs 3 runs 4 rows 5 steps 6 place 7 _ 8 begin 9 word -/
def b1_least_delta : S :=
    (sq (asgS (op2 ixD (rd 4) (rd 6)) (gTupD (gMore (gNam 7) (gMore (gNam 8) (gMore (gNam 9) gEnd)))))
    (sq (ifS (tst (op2 eqD (rd 9) (pur (.str (PySem.Str.ofString "put"))))) (thn (methM 5 appD (aCons (bnd (aCons (pur (.str (PySem.Str.ofString "put"))) (aCons (slM (rd 1) (oSome (rd 8)) (oSome (rd 6))) aNil)) fun xs => lift (mkTup xs)) aNil)) fun _ => skip) (thn (methM 5 appD (aCons (bnd (aCons (pur (.str (PySem.Str.ofString "copy"))) (aCons (op2 ixD (op2 ixD (rd 3) (rd 8)) (pur (.int 1))) (aCons (op2 subD (rd 6) (rd 8)) aNil))) fun xs => lift (mkTup xs)) aNil)) fun _ => skip))
    (setS 6 (rd 8))))
def S_least_delta : S :=
    (sq (parS [3, 4, 5, 6] (aCons (callF [.v, .v] F_longest_runs (aCons (rd 0) (aCons (rd 1) aNil))) (aCons (callF [.v, .v, .v] F_cheapest (aCons (rd 0) (aCons (rd 1) (aCons (rd 2) aNil)))) (aCons (bnd aNil fun xs => lift (mkLst xs)) (aCons (op1 lenD (rd 1)) aNil)))))
    (sq (whGo (tst (op2 gtD (rd 6) (pur (.int 0)))) b1_least_delta 1000000)
    (ret (op1 tupD (op1 revD (rd 5))))))
def F_least_delta : List D → R D := runF 3 10 (lk []) false S_least_delta

/-! are_potentials: 0 old 1 new 2 costs 3 thing 4 own 5 runs 6 place 7 cost 8 begin 9 _ -/
def b1_are_potentials : S :=
    (ifS (tst (op2 gtD (op2 ixD (rd 3) (rd 6)) (op2 addD (op2 ixD (rd 3) (rd 8)) (rd 7)))) (ret (pur (.bl false))) skip)
def b2_are_potentials : S :=
    (forS (itSeq (callF [.v, .v, .v] F_steps_to (aCons (rd 5) (aCons (rd 2) (aCons (rd 6) aNil))))) (gTupD (gMore (gNam 7) (gMore (gNam 8) (gMore (gNam 9) gEnd)))) b1_are_potentials)
def S_are_potentials : S :=
    (sq (ifS (orT (notT (tst (op1 (isiD "tuple") (rd 3)))) (orT (tst (op2 neD (op1 lenD (rd 3)) (op2 addD (op1 lenD (rd 1)) (pur (.int 1))))) (notT (tst (op1 allD (lcM (itSeq (rd 3)) (gNam 4) (pur true) (callF [.v] F_is_number (aCons (rd 4) aNil)) [4])))))) (ret (pur (.bl false))) skip)
    (sq (setS 5 (callF [.v, .v] F_longest_runs (aCons (rd 0) (aCons (rd 1) aNil))))
    (sq (forS (it2 (pur (.int 1)) (op2 addD (op1 lenD (rd 1)) (pur (.int 1)))) (gNam 6) b2_are_potentials)
    (ret (op2 eqD (op2 ixD (rd 3) (pur (.int 0))) (pur (.int 0)))))))
def F_are_potentials : List D → R D := runF 4 10 (lk []) false S_are_potentials

/-! is_least_delta: 0 old 1 new 2 costs 3 delta 4 thing -/
def S_is_least_delta : S :=
    (sq (ifS (orT (notT (tst (callF [.v, .v] F_is_delta (aCons (rd 0) (aCons (rd 3) aNil))))) (orT (tst (op2 neD (callF [.v, .v] F_applied_delta (aCons (rd 3) (aCons (rd 0) aNil))) (rd 1))) (notT (tst (callF [.v, .v, .v, .v] F_are_potentials (aCons (rd 0) (aCons (rd 1) (aCons (rd 2) (aCons (rd 4) aNil))))))))) (ret (pur (.bl false))) skip)
    (ret (op2 eqD (op2 ixD (rd 4) (op1 negD (pur (.int 1)))) (callF [.v, .v] F_delta_cost (aCons (rd 3) (aCons (rd 2) aNil))))))
def F_is_least_delta : List D → R D := runF 5 5 (lk []) false S_is_least_delta

/-! u_law_draws: 0 script 1 many 2 draws 3 mixed 4 k 5 cell 6 rest 7 turn -/
def b1_u_law_draws : S :=
    (sq (setS 3 (op2 modD (op1 intX (op2 addD (op2 addD (op2 mulD (rd 3) (pur (.int 16807))) (rd 4)) (pur (.int 1)))) (pur (.int 65537))))
    (thn (methM 2 appD (aCons (op2 modD (op1 intX (rd 3)) (pur (.int 997))) aNil)) fun _ => skip))
def b2_u_law_draws : S :=
    (ifS (tst (op2 gtD (rd 6) (pur (.int 0)))) (sq (thn (methM 2 appD (aCons (op2 modD (op1 intX (rd 6)) (pur (.int 997))) aNil)) fun _ => skip)
    (setS 6 (op2 divD (rd 6) (pur (.int 997))))) skip)
def b3_u_law_draws : S :=
    (sq (setS 5 (op1 absD (op1 intX (op2 ixD (rd 0) (rd 4)))))
    (sq (setS 3 (op2 modD (op1 intX (op2 addD (op2 addD (op2 mulD (rd 3) (pur (.int 48271))) (op2 modD (rd 5) (pur (.int 1000003)))) (rd 4))) (pur (.int 65537))))
    (sq (setS 6 (pur (.int 0)))
    (sq (ifS (tst (op2 geD (rd 5) (op2 powD (pur (.int 10)) (pur (.int 18))))) (setS 6 (rd 5)) (sq (thn (methM 2 appD (aCons (op2 modD (op1 intX (rd 5)) (pur (.int 997))) aNil)) fun _ => skip)
    (thn (methM 2 appD (aCons (op2 modD (op2 modD (op1 intX (op2 addD (op2 mulD (rd 3) (pur (.int 69621))) (pur (.int 5)))) (pur (.int 65521))) (pur (.int 997))) aNil)) fun _ => skip)))
    (forS (it1 (pur (.int 60))) (gNam 7) b2_u_law_draws)))))
def S_u_law_draws : S :=
    (sq (setS 2 (bnd aNil fun xs => lift (mkLst xs)))
    (sq (setS 3 (pur (.int 7)))
    (sq (forS (it1 (op1 lenD (rd 0))) (gNam 4) b3_u_law_draws)
    (sq (forS (it1 (rd 1)) (gNam 4) b1_u_law_draws)
    (ret (slS 2 oNone (oSome (rd 1))))))))
def F_u_law_draws : List D → R D := runF 2 8 (lk []) false S_u_law_draws

/-! u_law_next: 0 w 1 many -/
def S_u_law_next : S :=
    (sq (daugS 0 (pur (.str (PySem.Str.ofString "at"))) (gI (fun _ _ => true) (· + ·)) (pur (.int 1)))
    (sq (ifS (tst (op2 gtD (ixS 0 (pur (.str (PySem.Str.ofString "at")))) (op1 lenD (ixS 0 (pur (.str (PySem.Str.ofString "draws"))))))) (ret (pur (.int 0))) skip)
    (ret (op2 modD (op1 intX (op2 ixD (ixS 0 (pur (.str (PySem.Str.ofString "draws")))) (op2 subD (ixS 0 (pur (.str (PySem.Str.ofString "at")))) (pur (.int 1))))) (rd 1)))))
def F_u_law_next : List D → R D := runF 2 2 (lk [0]) false S_u_law_next

/-! u_law_runs: 0 places 1 many 2 found 3 last 4 own 5 is_old -/
def b1_u_law_runs : S :=
    (sq (setS 5 (op2 ltD (rd 4) (rd 1)))
    (sq (ifS (andT (tst (opL neD 2 (bnd aNil fun xs => lift (mkLst xs)))) (andT (tst (op2 eqD (op2 ixD (ixS 2 (op1 negD (pur (.int 1)))) (pur (.int 0))) (rd 5))) (orT (notT (tst (rd 5))) (tst (op2 eqD (op2 addD (rd 3) (pur (.int 1))) (rd 4)))))) (asgS (bnd (aCons (rd 5) (aCons (op2 addD (op2 ixD (ixS 2 (op1 negD (pur (.int 1)))) (pur (.int 1))) (pur (.int 1))) aNil)) fun xs => lift (mkTup xs)) (gSubS 2 (op1 negD (pur (.int 1))))) (thn (methM 2 appD (aCons (bnd (aCons (rd 5) (aCons (pur (.int 1)) aNil)) fun xs => lift (mkTup xs)) aNil)) fun _ => skip))
    (setS 3 (rd 4))))
def S_u_law_runs : S :=
    (sq (parS [2, 3] (aCons (bnd aNil fun xs => lift (mkLst xs)) (aCons (pur .non) aNil)))
    (sq (forS (itSeq (rd 0)) (gNam 4) b1_u_law_runs)
    (ret (rd 2))))
def F_u_law_runs : List D → R D := runF 2 6 (lk []) false S_u_law_runs

/-! u_law_cost: 0 runs 1 costs 2 high 3 free 4 laid 5 is_old 6 long 7 begun 8 best -/
def b1_u_law_cost : S :=
    (sq (parS [7, 8] (aCons (bnd (aCons (op2 addD (rd 3) (op2 ixD (rd 1) (pur (.int 1)))) (aCons (rd 4) aNil)) fun xs => lift (min2 xs)) (aCons (bnd (aCons (rd 3) (aCons (rd 4) aNil)) fun xs => lift (min2 xs)) aNil)))
    (parS [3, 4] (aCons (ifM (tst (rd 5)) (op2 addD (rd 8) (op2 ixD (rd 1) (pur (.int 0)))) (rd 2)) (aCons (op2 addD (rd 7) (op2 mulD (op2 ixD (rd 1) (pur (.int 2))) (rd 6))) aNil))))
def S_u_law_cost : S :=
    (sq (setS 2 (op2 powD (pur (.int 10)) (pur (.int 9))))
    (sq (parS [3, 4] (aCons (pur (.int 0)) (aCons (rd 2) aNil)))
    (sq (forS (itSeq (rd 0)) (gTupD (gMore (gNam 5) (gMore (gNam 6) gEnd))) b1_u_law_cost)
    (ret (bnd (aCons (rd 3) (aCons (rd 4) aNil)) fun xs => lift (min2 xs))))))
def F_u_law_cost : List D → R D := runF 2 9 (lk []) false S_u_law_cost

/-! u_law_places: 0 w 1 many 2 found 3 k 4 begin 5 long 6 j -/
def b1_u_law_places : S :=
    (sq (parS [4, 5] (aCons (callF [.s 0, .v] F_u_law_next (aSlot 0 (aCons (rd 1) aNil))) (aCons (op2 addD (pur (.int 1)) (callF [.s 0, .v] F_u_law_next (aSlot 0 (aCons (pur (.int 8)) aNil)))) aNil)))
    (ifS (tst (op2 eqD (callF [.s 0, .v] F_u_law_next (aSlot 0 (aCons (pur (.int 3)) aNil))) (pur (.int 0)))) (setS 2 (op2 addD (rd 2) (lcM (it1 (op2 addD (pur (.int 1)) (callF [.s 0, .v] F_u_law_next (aSlot 0 (aCons (pur (.int 4)) aNil))))) (gNam 6) (pur true) (op2 addD (rd 1) (callF [.s 0, .v] F_u_law_next (aSlot 0 (aCons (op2 subD (pur (.int 250)) (rd 1)) aNil)))) [6]))) (setS 2 (op2 addD (rd 2) (bnd (rgM2 (rd 4) (bnd (aCons (rd 1) (aCons (op2 addD (rd 4) (rd 5)) aNil)) fun xs => lift (min2 xs))) fun ds => pur (.lst ds))))))
def S_u_law_places : S :=
    (sq (setS 2 (bnd aNil fun xs => lift (mkLst xs)))
    (sq (forS (it1 (callF [.s 0, .v] F_u_law_next (aSlot 0 (aCons (pur (.int 6)) aNil)))) (gNam 3) b1_u_law_places)
    (ret (rd 2))))
def F_u_law_places : List D → R D := runF 2 7 (lk [0]) false S_u_law_places

/-! law: 0 script 1 w 2 turn 3 many 4 begin 5 step 6 costs 7 places 8 old 9 new 10 k 11 own 12 due 13 delta 14 told 15 whole 16 is_best -/
def b1_law : S :=
    (sq (asgS (bnd (aCons (op2 addD (pur (.int 1)) (callF [.s 1, .v] F_u_law_next (aSlot 1 (aCons (pur (.int 20)) aNil)))) (aCons (callF [.s 1, .v] F_u_law_next (aSlot 1 (aCons (pur (.int 251)) aNil))) (aCons (op2 addD (pur (.int 1)) (callF [.s 1, .v] F_u_law_next (aSlot 1 (aCons (pur (.int 250)) aNil)))) aNil))) fun xs => lift (mkTup xs)) (gTupD (gMore (gNam 3) (gMore (gNam 4) (gMore (gNam 5) gEnd)))))
    (sq (setS 6 (bnd (aCons (callF [.s 1, .v] F_u_law_next (aSlot 1 (aCons (pur (.int 12)) aNil))) (aCons (callF [.s 1, .v] F_u_law_next (aSlot 1 (aCons (pur (.int 12)) aNil))) (aCons (callF [.s 1, .v] F_u_law_next (aSlot 1 (aCons (pur (.int 4)) aNil))) aNil))) fun xs => lift (mkTup xs)))
    (sq (setS 7 (callF [.s 1, .v] F_u_law_places (aSlot 1 (aCons (rd 3) aNil))))
    (sq (parS [8, 9] (aCons (op1 tupD (lcM (it1 (rd 3)) (gNam 10) (pur true) (op2 modD (op2 addD (rd 4) (op2 mulD (rd 5) (rd 10))) (pur (.int 251))) [10])) (aCons (op1 tupD (lcM (itSeq (rd 7)) (gNam 11) (pur true) (op2 modD (op2 addD (rd 4) (op2 mulD (rd 5) (rd 11))) (pur (.int 251))) [11])) aNil)))
    (sq (setS 12 (op1 tupD (lcM (it1 (op2 addD (op1 lenD (rd 7)) (pur (.int 1)))) (gNam 10) (pur true) (callF [.v, .v] F_u_law_cost (aCons (callF [.v, .v] F_u_law_runs (aCons (slM (rd 7) oNone (oSome (rd 10))) (aCons (rd 3) aNil))) (aCons (rd 6) aNil))) [10])))
    (sq (parS [13, 14] (aCons (callF [.v, .v, .v] F_least_delta (aCons (rd 8) (aCons (rd 9) (aCons (rd 6) aNil)))) (aCons (callF [.v, .v, .v] F_potentials_of (aCons (rd 8) (aCons (rd 9) (aCons (rd 6) aNil)))) aNil)))
    (sq (ifS (orT (tst (op2 isNotB (callF [.v, .v] F_is_delta (aCons (rd 8) (aCons (rd 13) aNil))) (pur (.bl true)))) (orT (tst (op2 neD (callF [.v, .v] F_applied_delta (aCons (rd 13) (aCons (rd 8) aNil))) (rd 9))) (orT (tst (op2 neD (callF [.v, .v] F_delta_cost (aCons (rd 13) (aCons (rd 6) aNil))) (op2 ixD (rd 12) (op1 negD (pur (.int 1)))))) (tst (op2 neD (rd 14) (rd 12)))))) (ret (pur (.bl false))) skip)
    (sq (ifS (orT (tst (op2 isNotB (callF [.v, .v, .v, .v, .v] F_is_least_delta (aCons (rd 8) (aCons (rd 9) (aCons (rd 6) (aCons (rd 13) (aCons (rd 12) aNil)))))) (pur (.bl true)))) (tst (op2 neD (callF [.v] F_read_delta (aCons (callF [.v] F_delta_text (aCons (rd 13) aNil)) aNil)) (rd 13)))) (ret (pur (.bl false))) skip)
    (sq (setS 15 (ifM (tst (op2 neD (rd 9) (bnd aNil fun xs => lift (mkTup xs)))) (bnd (aCons (bnd (aCons (pur (.str (PySem.Str.ofString "put"))) (aCons (rd 9) aNil)) fun xs => lift (mkTup xs)) aNil) fun xs => lift (mkTup xs)) (bnd aNil fun xs => lift (mkTup xs))))
    (sq (setS 16 (orV (op2 eqD (rd 15) (bnd aNil fun xs => lift (mkTup xs))) (op2 eqD (op2 addD (op2 ixD (rd 6) (pur (.int 1))) (op2 mulD (op2 ixD (rd 6) (pur (.int 2))) (op1 lenD (rd 9)))) (op2 ixD (rd 12) (op1 negD (pur (.int 1)))))))
    (sq (ifS (tst (op2 neD (op2 isB (callF [.v, .v, .v, .v, .v] F_is_least_delta (aCons (rd 8) (aCons (rd 9) (aCons (rd 6) (aCons (rd 15) (aCons (rd 12) aNil)))))) (pur (.bl true))) (rd 16))) (ret (pur (.bl false))) skip)
    (sq (ifS (andT (tst (op2 gtD (op2 ixD (rd 12) (op1 negD (pur (.int 1)))) (pur (.int 0)))) (tst (op2 isNotB (callF [.v, .v, .v, .v, .v] F_is_least_delta (aCons (rd 8) (aCons (rd 9) (aCons (rd 6) (aCons (rd 13) (aCons (op2 addD (slM (rd 12) oNone (oSome (op1 negD (pur (.int 1))))) (bnd (aCons (op2 subD (op2 ixD (rd 12) (op1 negD (pur (.int 1)))) (pur (.int 1))) aNil) fun xs => lift (mkTup xs))) aNil)))))) (pur (.bl false))))) (ret (pur (.bl false))) skip)
    (ifS (orT (tst (op2 neD (strM countSD (callF [.v] F_delta_text (aCons (rd 13) aNil)) (pur (.str (PySem.Str.ofString "\n")))) (op1 lenD (rd 13)))) (tst (op2 isNotB (callF [.v, .v] F_is_delta (aCons (rd 8) (aCons (bnd (aCons (bnd (aCons (pur (.str (PySem.Str.ofString "copy"))) (aCons (pur (.int 0)) (aCons (op2 addD (rd 3) (pur (.int 1))) aNil))) fun xs => lift (mkTup xs)) aNil) fun xs => lift (mkTup xs)) aNil))) (pur (.bl false))))) (ret (pur (.bl false))) skip)))))))))))))
def S_law : S :=
    (sq (setS 1 (dispM [((pur (.str (PySem.Str.ofString "draws"))), (callF [.v, .v] F_u_law_draws (aCons (rd 0) (aCons (pur (.int 300)) aNil)))), ((pur (.str (PySem.Str.ofString "at"))), (pur (.int 0)))]))
    (sq (forS (it1 (pur (.int 4))) (gNam 2) b1_law)
    (ret (pur (.bl true)))))
def F_law : List D → R D := runF 1 17 (lk []) false S_law

end K74

set_option maxHeartbeats 4000000
/-! each def keeps its function (printed by gen.py) -/
namespace K74
open PySem PySem.Spec PyProof.Rows L2 Fl
def topS (i : Nat) : Stmt := PySem.Challenge.pw_servedasmade_k74_whole_deltas_by_runs.main.body.getD i (.Pass ⟨0, 0, 0, 0⟩)
abbrev s_is_number : Stmt := topS 5
abbrev N_is_number : List Str := ["thing"]
theorem sc_is_number : FnScope N_is_number ["thing"] (defScope s_is_number) := ⟨rfl, rfl, rfl, by decide +kernel, rfl, by decide +kernel, by decide +kernel⟩
abbrev s_is_number_text : Stmt := topS 6
abbrev N_is_number_text : List Str := ["text", "sign"]
theorem sc_is_number_text : FnScope N_is_number_text ["text"] (defScope s_is_number_text) := ⟨rfl, rfl, rfl, by decide +kernel, rfl, by decide +kernel, by decide +kernel⟩
abbrev s_is_numbers : Stmt := topS 9
abbrev N_is_numbers : List Str := ["thing", "own"]
theorem sc_is_numbers : FnScope N_is_numbers ["thing"] (defScope s_is_numbers) := ⟨rfl, rfl, rfl, by decide +kernel, rfl, by decide +kernel, by decide +kernel⟩
abbrev s_hex_text : Stmt := topS 10
abbrev N_hex_text : List Str := ["numbers", "own"]
theorem sc_hex_text : FnScope N_hex_text ["numbers"] (defScope s_hex_text) := ⟨rfl, rfl, rfl, by decide +kernel, rfl, by decide +kernel, by decide +kernel⟩
abbrev s_read_hex : Stmt := topS 11
abbrev N_read_hex : List Str := ["text", "sign", "k"]
theorem sc_read_hex : FnScope N_read_hex ["text"] (defScope s_read_hex) := ⟨rfl, rfl, rfl, by decide +kernel, rfl, by decide +kernel, by decide +kernel⟩
abbrev s_is_piece : Stmt := topS 13
abbrev N_is_piece : List Str := ["thing"]
theorem sc_is_piece : FnScope N_is_piece ["thing"] (defScope s_is_piece) := ⟨rfl, rfl, rfl, by decide +kernel, rfl, by decide +kernel, by decide +kernel⟩
abbrev s_is_delta : Stmt := topS 14
abbrev N_is_delta : List Str := ["old", "thing", "step"]
theorem sc_is_delta : FnScope N_is_delta ["old", "thing"] (defScope s_is_delta) := ⟨rfl, rfl, rfl, by decide +kernel, rfl, by decide +kernel, by decide +kernel⟩
abbrev s_made_by : Stmt := topS 15
abbrev N_made_by : List Str := ["step", "old"]
theorem sc_made_by : FnScope N_made_by ["step", "old"] (defScope s_made_by) := ⟨rfl, rfl, rfl, by decide +kernel, rfl, by decide +kernel, by decide +kernel⟩
abbrev s_applied_delta : Stmt := topS 16
abbrev N_applied_delta : List Str := ["delta", "old", "found", "step"]
theorem sc_applied_delta : FnScope N_applied_delta ["delta", "old"] (defScope s_applied_delta) := ⟨rfl, rfl, rfl, by decide +kernel, rfl, by decide +kernel, by decide +kernel⟩
abbrev s_delta_cost : Stmt := topS 17
abbrev N_delta_cost : List Str := ["delta", "costs", "step"]
theorem sc_delta_cost : FnScope N_delta_cost ["delta", "costs"] (defScope s_delta_cost) := ⟨rfl, rfl, rfl, by decide +kernel, rfl, by decide +kernel, by decide +kernel⟩
abbrev s_step_row : Stmt := topS 18
abbrev N_step_row : List Str := ["step"]
theorem sc_step_row : FnScope N_step_row ["step"] (defScope s_step_row) := ⟨rfl, rfl, rfl, by decide +kernel, rfl, by decide +kernel, by decide +kernel⟩
abbrev s_delta_text : Stmt := topS 19
abbrev N_delta_text : List Str := ["delta", "step"]
theorem sc_delta_text : FnScope N_delta_text ["delta"] (defScope s_delta_text) := ⟨rfl, rfl, rfl, by decide +kernel, rfl, by decide +kernel, by decide +kernel⟩
abbrev s_read_step : Stmt := topS 20
abbrev N_read_step : List Str := ["row", "words", "step"]
theorem sc_read_step : FnScope N_read_step ["row"] (defScope s_read_step) := ⟨rfl, rfl, rfl, by decide +kernel, rfl, by decide +kernel, by decide +kernel⟩
abbrev s_read_delta : Stmt := topS 21
abbrev N_read_delta : List Str := ["text", "rows", "steps", "row"]
theorem sc_read_delta : FnScope N_read_delta ["text"] (defScope s_read_delta) := ⟨rfl, rfl, rfl, by decide +kernel, rfl, by decide +kernel, by decide +kernel⟩
abbrev s_longest_runs : Stmt := topS 23
abbrev N_longest_runs : List Str := ["old", "new", "runs", "last", "j", "row", "i", "best"]
theorem sc_longest_runs : FnScope N_longest_runs ["old", "new"] (defScope s_longest_runs) := ⟨rfl, rfl, rfl, by decide +kernel, rfl, by decide +kernel, by decide +kernel⟩
abbrev s_steps_to : Stmt := topS 24
abbrev N_steps_to : List Str := ["runs", "costs", "place", "found", "begin"]
theorem sc_steps_to : FnScope N_steps_to ["runs", "costs", "place"] (defScope s_steps_to) := ⟨rfl, rfl, rfl, by decide +kernel, rfl, by decide +kernel, by decide +kernel⟩
abbrev s_cheapest : Stmt := topS 25
abbrev N_cheapest : List Str := ["old", "new", "costs", "runs", "found", "place", "rows", "cost", "begin", "word"]
theorem sc_cheapest : FnScope N_cheapest ["old", "new", "costs"] (defScope s_cheapest) := ⟨rfl, rfl, rfl, by decide +kernel, rfl, by decide +kernel, by decide +kernel⟩
abbrev s_potentials_of : Stmt := topS 26
abbrev N_potentials_of : List Str := ["old", "new", "costs", "row"]
theorem sc_potentials_of : FnScope N_potentials_of ["old", "new", "costs"] (defScope s_potentials_of) := ⟨rfl, rfl, rfl, by decide +kernel, rfl, by decide +kernel, by decide +kernel⟩
abbrev s_least_delta : Stmt := topS 27
abbrev N_least_delta : List Str := ["old", "new", "costs", "runs", "rows", "steps", "place", "_", "begin", "word"]
theorem sc_least_delta : FnScope N_least_delta ["old", "new", "costs"] (defScope s_least_delta) := ⟨rfl, rfl, rfl, by decide +kernel, rfl, by decide +kernel, by decide +kernel⟩
abbrev s_are_potentials : Stmt := topS 28
abbrev N_are_potentials : List Str := ["old", "new", "costs", "thing", "own", "runs", "place", "cost", "begin", "_"]
theorem sc_are_potentials : FnScope N_are_potentials ["old", "new", "costs", "thing"] (defScope s_are_potentials) := ⟨rfl, rfl, rfl, by decide +kernel, rfl, by decide +kernel, by decide +kernel⟩
abbrev s_is_least_delta : Stmt := topS 29
abbrev N_is_least_delta : List Str := ["old", "new", "costs", "delta", "thing"]
theorem sc_is_least_delta : FnScope N_is_least_delta ["old", "new", "costs", "delta", "thing"] (defScope s_is_least_delta) := ⟨rfl, rfl, rfl, by decide +kernel, rfl, by decide +kernel, by decide +kernel⟩
abbrev s_u_law_draws : Stmt := topS 31
abbrev N_u_law_draws : List Str := ["script", "many", "draws", "mixed", "k", "cell", "rest", "turn"]
theorem sc_u_law_draws : FnScope N_u_law_draws ["script", "many"] (defScope s_u_law_draws) := ⟨rfl, rfl, rfl, by decide +kernel, rfl, by decide +kernel, by decide +kernel⟩
abbrev s_u_law_next : Stmt := topS 32
abbrev N_u_law_next : List Str := ["w", "many"]
theorem sc_u_law_next : FnScope N_u_law_next ["w", "many"] (defScope s_u_law_next) := ⟨rfl, rfl, rfl, by decide +kernel, rfl, by decide +kernel, by decide +kernel⟩
abbrev s_u_law_runs : Stmt := topS 33
abbrev N_u_law_runs : List Str := ["places", "many", "found", "last", "own", "is_old"]
theorem sc_u_law_runs : FnScope N_u_law_runs ["places", "many"] (defScope s_u_law_runs) := ⟨rfl, rfl, rfl, by decide +kernel, rfl, by decide +kernel, by decide +kernel⟩
abbrev s_u_law_cost : Stmt := topS 34
abbrev N_u_law_cost : List Str := ["runs", "costs", "high", "free", "laid", "is_old", "long", "begun", "best"]
theorem sc_u_law_cost : FnScope N_u_law_cost ["runs", "costs"] (defScope s_u_law_cost) := ⟨rfl, rfl, rfl, by decide +kernel, rfl, by decide +kernel, by decide +kernel⟩
abbrev s_u_law_places : Stmt := topS 35
abbrev N_u_law_places : List Str := ["w", "many", "found", "k", "begin", "long", "j"]
theorem sc_u_law_places : FnScope N_u_law_places ["w", "many"] (defScope s_u_law_places) := ⟨rfl, rfl, rfl, by decide +kernel, rfl, by decide +kernel, by decide +kernel⟩
abbrev s_law : Stmt := topS 36
abbrev N_law : List Str := ["script", "w", "turn", "many", "begin", "step", "costs", "places", "old", "new", "k", "own", "due", "delta", "told", "whole", "is_best"]
theorem sc_law : FnScope N_law ["script"] (defScope s_law) := ⟨rfl, rfl, rfl, by decide +kernel, rfl, by decide +kernel, by decide +kernel⟩

structure Tx (P : Program) (K : PySem.W.Frag) (mg : Str → Option Value) : Prop where
  z_abs : mg "abs" = none
  z_all : mg "all" = none
  z_bool : mg "bool" = none
  z_int : mg "int" = none
  z_isinstance : mg "isinstance" = none
  z_len : mg "len" = none
  z_list : mg "list" = none
  z_max : mg "max" = none
  z_min : mg "min" = none
  z_range : mg "range" = none
  z_str : mg "str" = none
  z_sum : mg "sum" = none
  z_tuple : mg "tuple" = none
  d_is_number : Has K mg "is_number" s_is_number ["thing"]
  d_is_number_text : Has K mg "is_number_text" s_is_number_text ["text"]
  d_is_numbers : Has K mg "is_numbers" s_is_numbers ["thing"]
  d_hex_text : Has K mg "hex_text" s_hex_text ["numbers"]
  d_read_hex : Has K mg "read_hex" s_read_hex ["text"]
  d_is_piece : Has K mg "is_piece" s_is_piece ["thing"]
  d_is_delta : Has K mg "is_delta" s_is_delta ["old", "thing"]
  d_made_by : Has K mg "made_by" s_made_by ["step", "old"]
  d_applied_delta : Has K mg "applied_delta" s_applied_delta ["delta", "old"]
  d_delta_cost : Has K mg "delta_cost" s_delta_cost ["delta", "costs"]
  d_step_row : Has K mg "step_row" s_step_row ["step"]
  d_delta_text : Has K mg "delta_text" s_delta_text ["delta"]
  d_read_step : Has K mg "read_step" s_read_step ["row"]
  d_read_delta : Has K mg "read_delta" s_read_delta ["text"]
  d_longest_runs : Has K mg "longest_runs" s_longest_runs ["old", "new"]
  d_steps_to : Has K mg "steps_to" s_steps_to ["runs", "costs", "place"]
  d_cheapest : Has K mg "cheapest" s_cheapest ["old", "new", "costs"]
  d_potentials_of : Has K mg "potentials_of" s_potentials_of ["old", "new", "costs"]
  d_least_delta : Has K mg "least_delta" s_least_delta ["old", "new", "costs"]
  d_are_potentials : Has K mg "are_potentials" s_are_potentials ["old", "new", "costs", "thing"]
  d_is_least_delta : Has K mg "is_least_delta" s_is_least_delta ["old", "new", "costs", "delta", "thing"]
  d_u_law_draws : Has K mg "_law_draws" s_u_law_draws ["script", "many"]
  d_u_law_next : Has K mg "_law_next" s_u_law_next ["w", "many"]
  d_u_law_runs : Has K mg "_law_runs" s_u_law_runs ["places", "many"]
  d_u_law_cost : Has K mg "_law_cost" s_u_law_cost ["runs", "costs"]
  d_u_law_places : Has K mg "_law_places" s_u_law_places ["w", "many"]
  d_law : Has K mg "law" s_law ["script"]
  g_DIGITS : GlobV K mg "DIGITS" g_DIGITS
abbrev Tx.xr {P : Program} {K : PySem.W.Frag} {mg : Str → Option Value} (_ : Tx P K mg) : Str → D → Value → Option Addr → Hp → Prop := fun _ _ _ _ _ => False
section
variable {P : Program} {w : World} {K : PySem.W.Frag} {mg : Str → Option Value} {base : Heap}
theorem ok_is_number (T : Tx P K mg) : Okd P w K mg base 2 "is_number" ["thing"] (ownM [.v]) (lk []) false T.xr 1 F_is_number := by
  obtain ⟨f, fd, F, hm, hb⟩ := T.d_is_number
  refine ⟨f, fd, hm, F.kp, hb, fn_F (N := N_is_number) (ow := lk []) F sc_is_number rfl rfl rfl rfl fun cdv A outer s H E fp hr => ?_⟩
  have tk : Takes (xOf P w K mg base N_is_number "is_number" s_is_number f cdv A outer s H E) (fun cl d _ H => E cl d H) := takes_of rfl rfl rfl rfl
  have hp : PassesOwn (model P w) (xOf P w K mg base N_is_number "is_number" s_is_number f cdv A outer s H E).A (xOf P w K mg base N_is_number "is_number" s_is_number f cdv A outer s H E).env (xOf P w K mg base N_is_number "is_number" s_is_number f cdv A outer s H E).xe := passes_of rfl
  exact (ESs_one (ES_ret (EV_and (EV_isi (Ts := "int") T.z_isinstance T.z_int (by decide +kernel) (EV_var (pv 0))) (EV_and (EV_not (EV_isi (Ts := "bool") T.z_isinstance T.z_bool (by decide +kernel) (EV_var (pv 0)))) (EV_one (EV_cmp ck_ge (EV_var (pv 0)) EV_int))))))

theorem ok_is_number_text (T : Tx P K mg) : Okd P w K mg base 2 "is_number_text" ["text"] (ownM [.v]) (lk []) false T.xr 1 F_is_number_text := by
  obtain ⟨f, fd, F, hm, hb⟩ := T.d_is_number_text
  refine ⟨f, fd, hm, F.kp, hb, fn_F (N := N_is_number_text) (ow := lk []) F sc_is_number_text rfl rfl rfl rfl fun cdv A outer s H E fp hr => ?_⟩
  have tk : Takes (xOf P w K mg base N_is_number_text "is_number_text" s_is_number_text f cdv A outer s H E) (fun cl d _ H => E cl d H) := takes_of rfl rfl rfl rfl
  have hp : PassesOwn (model P w) (xOf P w K mg base N_is_number_text "is_number_text" s_is_number_text f cdv A outer s H E).A (xOf P w K mg base N_is_number_text "is_number_text" s_is_number_text f cdv A outer s H E).env (xOf P w K mg base N_is_number_text "is_number_text" s_is_number_text f cdv A outer s H E).xe := passes_of rfl
  exact (ESs_cons (ES_if (ET_w (EW_or (ET_cm (ck_eq hr) (EV_var (pv 0)) EV_str) (EW_or (ET_cm ck_gt (EV_len T.z_len (EB_of (EV_var (pv 0)))) EV_int) (EW_or1 (ET_not (ET_val (EV_all T.z_all rfl (EB_ofN (EN_lc rfl sc_is_number_text.nd (EI_str (EV_var (pv 0))) (blkOk_by (own := [("sign", 1)]) (N := N_is_number_text) (sc := defScope s_is_number_text) (by decide +kernel)) (fun _ _ _ _ _ => (EG_name sc_is_number_text.nd (i := 1) rfl (by first | exact .inl rfl | exact .inr rfl))) (fun _ _ _ _ _ => ETs_nil) (fun _ _ _ _ _ => (EV_cmp (ck_inX hr) (EV_var (pv 1)) EV_str)))))))))))
    (ESs_one (ES_ret EV_bl)) ESs_nil)
    (ESs_one (ES_ret (EV_or (EV_cmp (ck_eq hr) (EV_var (pv 0)) EV_str) (EV_one (EV_cmp (ck_ne hr) (EV_ix hr (EV_var (pv 0)) EV_int) EV_str))))))

theorem ok_is_numbers (T : Tx P K mg) : Okd P w K mg base 3 "is_numbers" ["thing"] (ownM [.v]) (lk []) false T.xr 1 F_is_numbers := by
  obtain ⟨f, fd, F, hm, hb⟩ := T.d_is_numbers
  refine ⟨f, fd, hm, F.kp, hb, fn_F (N := N_is_numbers) (ow := lk []) F sc_is_numbers rfl rfl rfl rfl fun cdv A outer s H E fp hr => ?_⟩
  have tk : Takes (xOf P w K mg base N_is_numbers "is_numbers" s_is_numbers f cdv A outer s H E) (fun cl d _ H => E cl d H) := takes_of rfl rfl rfl rfl
  have hp : PassesOwn (model P w) (xOf P w K mg base N_is_numbers "is_numbers" s_is_numbers f cdv A outer s H E).A (xOf P w K mg base N_is_numbers "is_numbers" s_is_numbers f cdv A outer s H E).env (xOf P w K mg base N_is_numbers "is_numbers" s_is_numbers f cdv A outer s H E).xe := passes_of rfl
  exact (ESs_one (ES_ret (EV_and (EV_isi (Ts := "tuple") T.z_isinstance T.z_tuple (by decide +kernel) (EV_var (pv 0))) (EV_one (EV_all T.z_all rfl (EB_ofN (EN_lc rfl sc_is_numbers.nd (EI_seq (EV_var (pv 0))) (blkOk_by (own := [("own", 1)]) (N := N_is_numbers) (sc := defScope s_is_numbers) (by decide +kernel)) (fun _ _ _ _ _ => (EG_name sc_is_numbers.nd (i := 1) rfl (by first | exact .inl rfl | exact .inr rfl))) (fun _ _ _ _ _ => ETs_nil) (fun _ _ _ _ _ => (EV_and (EV_cal (ms := [.v]) (ok_is_number T) hr takes0 (EA_cons (EV_var (pv 1)) EA_nil)) (EV_one (EV_cmp ck_lt (EV_var (pv 1)) EV_int)))))))))))

theorem ok_hex_text (T : Tx P K mg) : Okd P w K mg base 2 "hex_text" ["numbers"] (ownM [.v]) (lk []) false T.xr 1 F_hex_text := by
  obtain ⟨f, fd, F, hm, hb⟩ := T.d_hex_text
  refine ⟨f, fd, hm, F.kp, hb, fn_F (N := N_hex_text) (ow := lk []) F sc_hex_text rfl rfl rfl rfl fun cdv A outer s H E fp hr => ?_⟩
  have tk : Takes (xOf P w K mg base N_hex_text "hex_text" s_hex_text f cdv A outer s H E) (fun cl d _ H => E cl d H) := takes_of rfl rfl rfl rfl
  have hp : PassesOwn (model P w) (xOf P w K mg base N_hex_text "hex_text" s_hex_text f cdv A outer s H E).A (xOf P w K mg base N_hex_text "hex_text" s_hex_text f cdv A outer s H E).env (xOf P w K mg base N_hex_text "hex_text" s_hex_text f cdv A outer s H E).xe := passes_of rfl
  exact (ESs_one (ES_ret (EV_join EV_str (EB_ofN (EN_lc rfl sc_hex_text.nd (EI_seq (EV_var (pv 0))) (blkOk_by (own := [("own", 1)]) (N := N_hex_text) (sc := defScope s_hex_text) (by decide +kernel)) (fun _ _ _ _ _ => (EG_name sc_hex_text.nd (i := 1) rfl (by first | exact .inl rfl | exact .inr rfl))) (fun _ _ _ _ _ => ETs_nil) (fun _ _ _ _ _ => (EV_add (EV_ix hr (EV_glob T.g_DIGITS) (EV_fdiv (EV_var (pv 1)) EV_int)) (EV_ix hr (EV_glob T.g_DIGITS) (EV_mod (EV_var (pv 1)) EV_int)))))))))

theorem ok_read_hex (T : Tx P K mg) : Okd P w K mg base 2 "read_hex" ["text"] (ownM [.v]) (lk []) false T.xr 1 F_read_hex := by
  obtain ⟨f, fd, F, hm, hb⟩ := T.d_read_hex
  refine ⟨f, fd, hm, F.kp, hb, fn_F (N := N_read_hex) (ow := lk []) F sc_read_hex rfl rfl rfl rfl fun cdv A outer s H E fp hr => ?_⟩
  have tk : Takes (xOf P w K mg base N_read_hex "read_hex" s_read_hex f cdv A outer s H E) (fun cl d _ H => E cl d H) := takes_of rfl rfl rfl rfl
  have hp : PassesOwn (model P w) (xOf P w K mg base N_read_hex "read_hex" s_read_hex f cdv A outer s H E).A (xOf P w K mg base N_read_hex "read_hex" s_read_hex f cdv A outer s H E).env (xOf P w K mg base N_read_hex "read_hex" s_read_hex f cdv A outer s H E).xe := passes_of rfl
  exact (ESs_cons (ES_if (ET_w (EW_or (ET_cm (ck_ne hr) (EV_mod (EV_len T.z_len (EB_of (EV_var (pv 0)))) EV_int) EV_int) (EW_or1 (ET_not (ET_val (EV_all T.z_all rfl (EB_ofN (EN_lc rfl sc_read_hex.nd (EI_str (EV_var (pv 0))) (blkOk_by (own := [("sign", 1)]) (N := N_read_hex) (sc := defScope s_read_hex) (by decide +kernel)) (fun _ _ _ _ _ => (EG_name sc_read_hex.nd (i := 1) rfl (by first | exact .inl rfl | exact .inr rfl))) (fun _ _ _ _ _ => ETs_nil) (fun _ _ _ _ _ => (EV_cmp (ck_inX hr) (EV_var (pv 1)) (EV_glob T.g_DIGITS)))))))))))
    (ESs_one (ES_ret EV_non)) ESs_nil)
    (ESs_one (ES_ret (EV_tupO T.z_tuple (EB_ofN (EN_lc rfl sc_read_hex.nd (EI_0k EV_int (EV_len T.z_len (EB_of (EV_var (pv 0)))) EV_int T.z_range) (blkOk_by (own := [("k", 2)]) (N := N_read_hex) (sc := defScope s_read_hex) (by decide +kernel)) (fun _ _ _ _ _ => (EG_name sc_read_hex.nd (i := 2) rfl (by first | exact .inl rfl | exact .inr rfl))) (fun _ _ _ _ _ => ETs_nil) (fun _ _ _ _ _ => (EV_add (EV_mul EV_int (EV_sidx (EV_glob T.g_DIGITS) (EV_ix hr (EV_var (pv 0)) (EV_var (pv 2))))) (EV_sidx (EV_glob T.g_DIGITS) (EV_ix hr (EV_var (pv 0)) (EV_add (EV_var (pv 2)) EV_int)))))))))))

theorem ok_is_piece (T : Tx P K mg) : Okd P w K mg base 4 "is_piece" ["thing"] (ownM [.v]) (lk []) false T.xr 1 F_is_piece := by
  obtain ⟨f, fd, F, hm, hb⟩ := T.d_is_piece
  refine ⟨f, fd, hm, F.kp, hb, fn_F (N := N_is_piece) (ow := lk []) F sc_is_piece rfl rfl rfl rfl fun cdv A outer s H E fp hr => ?_⟩
  have tk : Takes (xOf P w K mg base N_is_piece "is_piece" s_is_piece f cdv A outer s H E) (fun cl d _ H => E cl d H) := takes_of rfl rfl rfl rfl
  have hp : PassesOwn (model P w) (xOf P w K mg base N_is_piece "is_piece" s_is_piece f cdv A outer s H E).A (xOf P w K mg base N_is_piece "is_piece" s_is_piece f cdv A outer s H E).env (xOf P w K mg base N_is_piece "is_piece" s_is_piece f cdv A outer s H E).xe := passes_of rfl
  exact (ESs_cons (ES_if (ET_w (EW_or (ET_not (ET_val (EV_isi (Ts := "tuple") T.z_isinstance T.z_tuple (by decide +kernel) (EV_var (pv 0))))) (EW_or (ET_cm ck_lt (EV_len T.z_len (EB_of (EV_var (pv 0)))) EV_int) (EW_or1 (ET_not (ET_val (EV_isi (Ts := "str") T.z_isinstance T.z_str (by decide +kernel) (EV_ix hr (EV_var (pv 0)) EV_int))))))))
    (ESs_one (ES_ret EV_bl)) ESs_nil)
    (ESs_cons (ES_if (ET_cm (ck_eq hr) (EV_ix hr (EV_var (pv 0)) EV_int) EV_str)
    (ESs_one (ES_ret (EV_and (EV_cmp (ck_eq hr) (EV_len T.z_len (EB_of (EV_var (pv 0)))) EV_int) (EV_and (EV_cal (ms := [.v]) (ok_is_numbers T) hr tk (EA_cons (EV_ix hr (EV_var (pv 0)) EV_int) EA_nil)) (EV_one (EV_cmp (ck_ne hr) (EV_ix hr (EV_var (pv 0)) EV_int) (EV_tup (n := 0) EA_nil))))))) ESs_nil)
    (ESs_one (ES_ret (EV_and (EV_cmp (ck_eq hr) (EV_ix hr (EV_var (pv 0)) EV_int) EV_str) (EV_and (EV_cmp (ck_eq hr) (EV_len T.z_len (EB_of (EV_var (pv 0)))) EV_int) (EV_and (EV_cal (ms := [.v]) (ok_is_number T) hr tk (EA_cons (EV_ix hr (EV_var (pv 0)) EV_int) EA_nil)) (EV_and (EV_cal (ms := [.v]) (ok_is_number T) hr tk (EA_cons (EV_ix hr (EV_var (pv 0)) EV_int) EA_nil)) (EV_one (EV_cmp ck_gt (EV_ix hr (EV_var (pv 0)) EV_int) EV_int))))))))))

theorem ok_is_delta (T : Tx P K mg) : Okd P w K mg base 5 "is_delta" ["old", "thing"] (ownM [.v, .v]) (lk []) false T.xr 2 F_is_delta := by
  obtain ⟨f, fd, F, hm, hb⟩ := T.d_is_delta
  refine ⟨f, fd, hm, F.kp, hb, fn_F (N := N_is_delta) (ow := lk []) F sc_is_delta rfl rfl rfl rfl fun cdv A outer s H E fp hr => ?_⟩
  have tk : Takes (xOf P w K mg base N_is_delta "is_delta" s_is_delta f cdv A outer s H E) (fun cl d _ H => E cl d H) := takes_of rfl rfl rfl rfl
  have hp : PassesOwn (model P w) (xOf P w K mg base N_is_delta "is_delta" s_is_delta f cdv A outer s H E).A (xOf P w K mg base N_is_delta "is_delta" s_is_delta f cdv A outer s H E).env (xOf P w K mg base N_is_delta "is_delta" s_is_delta f cdv A outer s H E).xe := passes_of rfl
  exact (ESs_cons (ES_if (ET_w (EW_or (ET_not (ET_val (EV_isi (Ts := "tuple") T.z_isinstance T.z_tuple (by decide +kernel) (EV_var (pv 1))))) (EW_or1 (ET_not (ET_val (EV_all T.z_all rfl (EB_ofN (EN_lc rfl sc_is_delta.nd (EI_seq (EV_var (pv 1))) (blkOk_by (own := [("step", 2)]) (N := N_is_delta) (sc := defScope s_is_delta) (by decide +kernel)) (fun _ _ _ _ _ => (EG_name sc_is_delta.nd (i := 2) rfl (by first | exact .inl rfl | exact .inr rfl))) (fun _ _ _ _ _ => ETs_nil) (fun _ _ _ _ _ => (EV_cal (ms := [.v]) (ok_is_piece T) hr takes0 (EA_cons (EV_var (pv 2)) EA_nil)))))))))))
    (ESs_one (ES_ret EV_bl)) ESs_nil)
    (ESs_one (ES_ret (EV_all T.z_all rfl (EB_ofN (EN_lc rfl sc_is_delta.nd (EI_seq (EV_var (pv 1))) (blkOk_by (own := [("step", 2)]) (N := N_is_delta) (sc := defScope s_is_delta) (by decide +kernel)) (fun _ _ _ _ _ => (EG_name sc_is_delta.nd (i := 2) rfl (by first | exact .inl rfl | exact .inr rfl))) (fun _ _ _ _ _ => ETs_one (ET_cm (ck_eq hr) (EV_ix hr (EV_var (pv 2)) EV_int) EV_str)) (fun _ _ _ _ _ => (EV_cmp ck_le (EV_add (EV_ix hr (EV_var (pv 2)) EV_int) (EV_ix hr (EV_var (pv 2)) EV_int)) (EV_len T.z_len (EB_of (EV_var (pv 0))))))))))))

theorem ok_made_by (T : Tx P K mg) : Okd P w K mg base 2 "made_by" ["step", "old"] (ownM [.v, .v]) (lk []) false T.xr 2 F_made_by := by
  obtain ⟨f, fd, F, hm, hb⟩ := T.d_made_by
  refine ⟨f, fd, hm, F.kp, hb, fn_F (N := N_made_by) (ow := lk []) F sc_made_by rfl rfl rfl rfl fun cdv A outer s H E fp hr => ?_⟩
  have tk : Takes (xOf P w K mg base N_made_by "made_by" s_made_by f cdv A outer s H E) (fun cl d _ H => E cl d H) := takes_of rfl rfl rfl rfl
  have hp : PassesOwn (model P w) (xOf P w K mg base N_made_by "made_by" s_made_by f cdv A outer s H E).A (xOf P w K mg base N_made_by "made_by" s_made_by f cdv A outer s H E).env (xOf P w K mg base N_made_by "made_by" s_made_by f cdv A outer s H E).xe := passes_of rfl
  exact (ESs_one (ES_ret (E_if (ET_cm (ck_eq hr) (EV_ix hr (EV_var (pv 0)) EV_int) EV_str) (EV_ix hr (EV_var (pv 0)) EV_int) (EV_sl (EV_var (pv 1)) (EO_some (EV_ix hr (EV_var (pv 0)) EV_int)) (EO_some (EV_add (EV_ix hr (EV_var (pv 0)) EV_int) (EV_ix hr (EV_var (pv 0)) EV_int)))))))

theorem ok_applied_delta (T : Tx P K mg) : Okd P w K mg base 6 "applied_delta" ["delta", "old"] (ownM [.v, .v]) (lk []) false T.xr 2 F_applied_delta := by
  obtain ⟨f, fd, F, hm, hb⟩ := T.d_applied_delta
  refine ⟨f, fd, hm, F.kp, hb, fn_F (N := N_applied_delta) (ow := lk [2]) F sc_applied_delta rfl rfl rfl rfl fun cdv A outer s H E fp hr => ?_⟩
  have tk : Takes (xOf P w K mg base N_applied_delta "applied_delta" s_applied_delta f cdv A outer s H E) (fun cl d _ H => E cl d H) := takes_of rfl rfl rfl rfl
  have hp : PassesOwn (model P w) (xOf P w K mg base N_applied_delta "applied_delta" s_applied_delta f cdv A outer s H E).A (xOf P w K mg base N_applied_delta "applied_delta" s_applied_delta f cdv A outer s H E).env (xOf P w K mg base N_applied_delta "applied_delta" s_applied_delta f cdv A outer s H E).xe := passes_of rfl
  exact (ESs_cons (ES_if (ET_not (ET_val (EV_cal (ms := [.v, .v]) (ok_is_delta T) hr tk (EA_cons (EV_var (pv 1)) (EA_cons (EV_var (pv 0)) EA_nil)))))
    (ESs_one ES_no) ESs_nil)
    (ESs_cons (ES_setN (i := 2) sc_applied_delta.nd rfl (.inl rfl) (EN_lst (n := 0) EA_nil))
    (ESs_cons (ES_for hp rfl (EI_seq (EV_var (pv 0))) (EG_name sc_applied_delta.nd (i := 3) rfl (by first | exact .inl rfl | exact .inr rfl))
    (ESs_one (ES_expr (EV_extend (pv 2) (EV_cal (ms := [.v, .v]) (ok_made_by T) hr tk (EA_cons (EV_var (pv 3)) (EA_cons (EV_var (pv 1)) EA_nil)))))))
    (ESs_one (ES_ret (EV_tupO T.z_tuple (EB_own (pv 2))))))))

theorem ok_delta_cost (T : Tx P K mg) : Okd P w K mg base 2 "delta_cost" ["delta", "costs"] (ownM [.v, .v]) (lk []) false T.xr 2 F_delta_cost := by
  obtain ⟨f, fd, F, hm, hb⟩ := T.d_delta_cost
  refine ⟨f, fd, hm, F.kp, hb, fn_F (N := N_delta_cost) (ow := lk []) F sc_delta_cost rfl rfl rfl rfl fun cdv A outer s H E fp hr => ?_⟩
  have tk : Takes (xOf P w K mg base N_delta_cost "delta_cost" s_delta_cost f cdv A outer s H E) (fun cl d _ H => E cl d H) := takes_of rfl rfl rfl rfl
  have hp : PassesOwn (model P w) (xOf P w K mg base N_delta_cost "delta_cost" s_delta_cost f cdv A outer s H E).A (xOf P w K mg base N_delta_cost "delta_cost" s_delta_cost f cdv A outer s H E).env (xOf P w K mg base N_delta_cost "delta_cost" s_delta_cost f cdv A outer s H E).xe := passes_of rfl
  exact (ESs_one (ES_ret (EV_sum T.z_sum rfl (EB_ofN (EN_lc rfl sc_delta_cost.nd (EI_seq (EV_var (pv 0))) (blkOk_by (own := [("step", 2)]) (N := N_delta_cost) (sc := defScope s_delta_cost) (by decide +kernel)) (fun _ _ _ _ _ => (EG_name sc_delta_cost.nd (i := 2) rfl (by first | exact .inl rfl | exact .inr rfl))) (fun _ _ _ _ _ => ETs_nil) (fun _ _ _ _ _ => (E_if (ET_cm (ck_eq hr) (EV_ix hr (EV_var (pv 2)) EV_int) EV_str) (EV_ix hr (EV_var (pv 1)) EV_int) (EV_add (EV_ix hr (EV_var (pv 1)) EV_int) (EV_mul (EV_ix hr (EV_var (pv 1)) EV_int) (EV_len T.z_len (EB_of (EV_ix hr (EV_var (pv 2)) EV_int))))))))))))

theorem ok_step_row (T : Tx P K mg) : Okd P w K mg base 3 "step_row" ["step"] (ownM [.v]) (lk []) false T.xr 1 F_step_row := by
  obtain ⟨f, fd, F, hm, hb⟩ := T.d_step_row
  refine ⟨f, fd, hm, F.kp, hb, fn_F (N := N_step_row) (ow := lk []) F sc_step_row rfl rfl rfl rfl fun cdv A outer s H E fp hr => ?_⟩
  have tk : Takes (xOf P w K mg base N_step_row "step_row" s_step_row f cdv A outer s H E) (fun cl d _ H => E cl d H) := takes_of rfl rfl rfl rfl
  have hp : PassesOwn (model P w) (xOf P w K mg base N_step_row "step_row" s_step_row f cdv A outer s H E).A (xOf P w K mg base N_step_row "step_row" s_step_row f cdv A outer s H E).env (xOf P w K mg base N_step_row "step_row" s_step_row f cdv A outer s H E).xe := passes_of rfl
  exact (ESs_one (ES_ret (E_if (ET_cm (ck_eq hr) (EV_ix hr (EV_var (pv 0)) EV_int) EV_str) (EV_add EV_str (EV_cal (ms := [.v]) (ok_hex_text T) hr tk (EA_cons (EV_ix hr (EV_var (pv 0)) EV_int) EA_nil))) (EV_add (EV_add (EV_add EV_str (EV_strI T.z_str (EV_ix hr (EV_var (pv 0)) EV_int))) EV_str) (EV_strI T.z_str (EV_ix hr (EV_var (pv 0)) EV_int))))))

theorem ok_delta_text (T : Tx P K mg) : Okd P w K mg base 4 "delta_text" ["delta"] (ownM [.v]) (lk []) false T.xr 1 F_delta_text := by
  obtain ⟨f, fd, F, hm, hb⟩ := T.d_delta_text
  refine ⟨f, fd, hm, F.kp, hb, fn_F (N := N_delta_text) (ow := lk []) F sc_delta_text rfl rfl rfl rfl fun cdv A outer s H E fp hr => ?_⟩
  have tk : Takes (xOf P w K mg base N_delta_text "delta_text" s_delta_text f cdv A outer s H E) (fun cl d _ H => E cl d H) := takes_of rfl rfl rfl rfl
  have hp : PassesOwn (model P w) (xOf P w K mg base N_delta_text "delta_text" s_delta_text f cdv A outer s H E).A (xOf P w K mg base N_delta_text "delta_text" s_delta_text f cdv A outer s H E).env (xOf P w K mg base N_delta_text "delta_text" s_delta_text f cdv A outer s H E).xe := passes_of rfl
  exact (ESs_one (ES_ret (EV_join EV_str (EB_ofN (EN_lc rfl sc_delta_text.nd (EI_seq (EV_var (pv 0))) (blkOk_by (own := [("step", 1)]) (N := N_delta_text) (sc := defScope s_delta_text) (by decide +kernel)) (fun _ _ _ _ _ => (EG_name sc_delta_text.nd (i := 1) rfl (by first | exact .inl rfl | exact .inr rfl))) (fun _ _ _ _ _ => ETs_nil) (fun _ _ _ _ _ => (EV_add (EV_cal (ms := [.v]) (ok_step_row T) hr takes0 (EA_cons (EV_var (pv 1)) EA_nil)) EV_str)))))))

theorem ok_read_step (T : Tx P K mg) : Okd P w K mg base 5 "read_step" ["row"] (ownM [.v]) (lk []) false T.xr 1 F_read_step := by
  obtain ⟨f, fd, F, hm, hb⟩ := T.d_read_step
  refine ⟨f, fd, hm, F.kp, hb, fn_F (N := N_read_step) (ow := lk []) F sc_read_step rfl rfl rfl rfl fun cdv A outer s H E fp hr => ?_⟩
  have tk : Takes (xOf P w K mg base N_read_step "read_step" s_read_step f cdv A outer s H E) (fun cl d _ H => E cl d H) := takes_of rfl rfl rfl rfl
  have hp : PassesOwn (model P w) (xOf P w K mg base N_read_step "read_step" s_read_step f cdv A outer s H E).A (xOf P w K mg base N_read_step "read_step" s_read_step f cdv A outer s H E).env (xOf P w K mg base N_read_step "read_step" s_read_step f cdv A outer s H E).xe := passes_of rfl
  exact (ESs_cons (ES_set (i := 1) sc_read_step.nd rfl (.inl rfl) (EV_of (EN_split (EV_var (pv 0)) EV_str)))
    (ESs_cons (ES_if (ET_w (EW_and (ET_cm (ck_eq hr) (EV_ix hr (EV_var (pv 1)) EV_int) EV_str) (EW_and1 (ET_cm (ck_eq hr) (EV_len T.z_len (EB_of (EV_var (pv 1)))) EV_int))))
    (ESs_one (ES_set (i := 2) sc_read_step.nd rfl (.inl rfl) (EV_tup (n := 2) (EA_cons EV_str (EA_cons (EV_cal (ms := [.v]) (ok_read_hex T) hr tk (EA_cons (EV_ix hr (EV_var (pv 1)) EV_int) EA_nil)) EA_nil))))) (ESs_one (ES_if (ET_w (EW_and (ET_cm (ck_eq hr) (EV_ix hr (EV_var (pv 1)) EV_int) EV_str) (EW_and (ET_cm (ck_eq hr) (EV_len T.z_len (EB_of (EV_var (pv 1)))) EV_int) (EW_and (ET_val (EV_cal (ms := [.v]) (ok_is_number_text T) hr tk (EA_cons (EV_ix hr (EV_var (pv 1)) EV_int) EA_nil))) (EW_and1 (ET_val (EV_cal (ms := [.v]) (ok_is_number_text T) hr tk (EA_cons (EV_ix hr (EV_var (pv 1)) EV_int) EA_nil))))))))
    (ESs_one (ES_set (i := 2) sc_read_step.nd rfl (.inl rfl) (EV_tup (n := 3) (EA_cons EV_str (EA_cons (EV_intX T.z_int (EB_of (EV_ix hr (EV_var (pv 1)) EV_int))) (EA_cons (EV_intX T.z_int (EB_of (EV_ix hr (EV_var (pv 1)) EV_int))) EA_nil)))))) (ESs_one (ES_ret EV_non)))))
    (ESs_one (ES_ret (E_if (ET_val (EV_cal (ms := [.v]) (ok_is_piece T) hr tk (EA_cons (EV_var (pv 2)) EA_nil))) (EV_var (pv 2)) EV_non)))))

theorem ok_read_delta (T : Tx P K mg) : Okd P w K mg base 6 "read_delta" ["text"] (ownM [.v]) (lk []) false T.xr 1 F_read_delta := by
  obtain ⟨f, fd, F, hm, hb⟩ := T.d_read_delta
  refine ⟨f, fd, hm, F.kp, hb, fn_F (N := N_read_delta) (ow := lk []) F sc_read_delta rfl rfl rfl rfl fun cdv A outer s H E fp hr => ?_⟩
  have tk : Takes (xOf P w K mg base N_read_delta "read_delta" s_read_delta f cdv A outer s H E) (fun cl d _ H => E cl d H) := takes_of rfl rfl rfl rfl
  have hp : PassesOwn (model P w) (xOf P w K mg base N_read_delta "read_delta" s_read_delta f cdv A outer s H E).A (xOf P w K mg base N_read_delta "read_delta" s_read_delta f cdv A outer s H E).env (xOf P w K mg base N_read_delta "read_delta" s_read_delta f cdv A outer s H E).xe := passes_of rfl
  exact (ESs_cons (ES_set (i := 1) sc_read_delta.nd rfl (.inl rfl) (EV_of (EN_split (EV_var (pv 0)) EV_str)))
    (ESs_cons (ES_if (ET_cm (ck_ne hr) (EV_ix hr (EV_var (pv 1)) (EV_neg EV_int)) EV_str)
    (ESs_one ES_no) ESs_nil)
    (ESs_cons (ES_setLc (i := 2) rfl sc_read_delta.nd rfl rfl (sw_true rfl rfl rfl (by decide +kernel)) (EI_seq (EV_sl (EV_var (pv 1)) EO_none (EO_some (EV_neg EV_int)))) (blkOk_by (own := [("row", 3)]) (N := N_read_delta) (sc := defScope s_read_delta) (by decide +kernel)) (fun _ _ _ _ _ => (EG_name sc_read_delta.nd (i := 3) rfl (by first | exact .inl rfl | exact .inr rfl))) (fun _ _ _ _ _ => ETs_nil) (fun _ _ _ _ _ => (EV_cal (ms := [.v]) (ok_read_step T) hr takes0 (EA_cons (EV_var (pv 3)) EA_nil))))
    (ESs_cons (ES_if (ET_cm (ck_inX hr) EV_non (EV_var (pv 2)))
    (ESs_one ES_no) ESs_nil)
    (ESs_one (ES_ret (EV_tupO T.z_tuple (EB_of (EV_var (pv 2))))))))))

theorem ok_longest_runs (T : Tx P K mg) : Okd P w K mg base 2 "longest_runs" ["old", "new"] (ownM [.v, .v]) (lk []) false T.xr 2 F_longest_runs := by
  obtain ⟨f, fd, F, hm, hb⟩ := T.d_longest_runs
  refine ⟨f, fd, hm, F.kp, hb, fn_F (N := N_longest_runs) (ow := lk [2]) F sc_longest_runs rfl rfl rfl rfl fun cdv A outer s H E fp hr => ?_⟩
  have tk : Takes (xOf P w K mg base N_longest_runs "longest_runs" s_longest_runs f cdv A outer s H E) (fun cl d _ H => E cl d H) := takes_of rfl rfl rfl rfl
  have hp : PassesOwn (model P w) (xOf P w K mg base N_longest_runs "longest_runs" s_longest_runs f cdv A outer s H E).A (xOf P w K mg base N_longest_runs "longest_runs" s_longest_runs f cdv A outer s H E).env (xOf P w K mg base N_longest_runs "longest_runs" s_longest_runs f cdv A outer s H E).xe := passes_of rfl
  exact (ESs_cons (ES_parT2 (i1 := 2) (m1 := .n) (i2 := 3) (m2 := .v) rfl sc_longest_runs.nd rfl rfl (by first | exact .inl rfl | exact .inr rfl) (by first | exact .inl rfl | exact .inr rfl) (EA_consN (EN_mulL (EV_of (EN_lst (n := 1) (EA_cons (EV_tup (n := 2) (EA_cons EV_int (EA_cons EV_int EA_nil))) EA_nil))) (EV_add (EV_len T.z_len (EB_of (EV_var (pv 1)))) EV_int)) (EA_cons (EV_of (EN_mulL (EV_of (EN_lst (n := 1) (EA_cons EV_int EA_nil))) (EV_add (EV_len T.z_len (EB_of (EV_var (pv 0)))) EV_int))) EA_nil)))
    (ESs_cons (ES_for hp rfl (EI_r3 (EV_sub (EV_len T.z_len (EB_of (EV_var (pv 1)))) EV_int) (EV_neg EV_int) (EV_neg EV_int) T.z_range) (EG_name sc_longest_runs.nd (i := 4) rfl (by first | exact .inl rfl | exact .inr rfl))
    (ESs_cons (ES_set (i := 5) sc_longest_runs.nd rfl (.inl rfl) (EV_add (EV_of (EN_lc rfl sc_longest_runs.nd (EI_r1 (EV_len T.z_len (EB_of (EV_var (pv 0)))) T.z_range) (blkOk_by (own := [("i", 6)]) (N := N_longest_runs) (sc := defScope s_longest_runs) (by decide +kernel)) (fun _ _ _ _ _ => (EG_name sc_longest_runs.nd (i := 6) rfl (by first | exact .inl rfl | exact .inr rfl))) (fun _ _ _ _ _ => ETs_nil) (fun _ _ _ _ _ => (E_if (ET_cm (ck_eq hr) (EV_ix hr (EV_var (pv 0)) (EV_var (pv 6))) (EV_ix hr (EV_var (pv 1)) (EV_var (pv 4)))) (EV_add (EV_ix hr (EV_var (pv 3)) (EV_add (EV_var (pv 6)) EV_int)) EV_int) EV_int)))) (EV_of (EN_lst (n := 1) (EA_cons EV_int EA_nil)))))
    (ESs_cons (ES_set (i := 7) sc_longest_runs.nd rfl (.inl rfl) (EV_max T.z_max rfl (EB_of (EV_var (pv 5)))))
    (ESs_cons (ES_asg (EV_tup (n := 2) (EA_cons (EV_var (pv 7)) (EA_cons (EV_index hr (EV_var (pv 5)) (EV_var (pv 7))) EA_nil))) (EG_sub hr (pv 2) (EV_var (pv 4))))
    (ESs_one (ES_set (i := 3) sc_longest_runs.nd rfl (.inr rfl) (EV_var (pv 5))))))))
    (ESs_one (ES_retF (pv 2)))))

theorem ok_steps_to (T : Tx P K mg) : Okd P w K mg base 2 "steps_to" ["runs", "costs", "place"] (ownM [.v, .v, .v]) (lk []) false T.xr 3 F_steps_to := by
  obtain ⟨f, fd, F, hm, hb⟩ := T.d_steps_to
  refine ⟨f, fd, hm, F.kp, hb, fn_F (N := N_steps_to) (ow := lk [3]) F sc_steps_to rfl rfl rfl rfl fun cdv A outer s H E fp hr => ?_⟩
  have tk : Takes (xOf P w K mg base N_steps_to "steps_to" s_steps_to f cdv A outer s H E) (fun cl d _ H => E cl d H) := takes_of rfl rfl rfl rfl
  have hp : PassesOwn (model P w) (xOf P w K mg base N_steps_to "steps_to" s_steps_to f cdv A outer s H E).A (xOf P w K mg base N_steps_to "steps_to" s_steps_to f cdv A outer s H E).env (xOf P w K mg base N_steps_to "steps_to" s_steps_to f cdv A outer s H E).xe := passes_of rfl
  exact (ESs_cons (ES_setN (i := 3) sc_steps_to.nd rfl (.inl rfl) (EN_lst (n := 0) EA_nil))
    (ESs_cons (ES_for hp rfl (EI_r1 (EV_var (pv 2)) T.z_range) (EG_name sc_steps_to.nd (i := 4) rfl (by first | exact .inl rfl | exact .inr rfl))
    (ESs_cons (ES_expr (EV_append (pv 3) (EV_tup (n := 3) (EA_cons (EV_add (EV_ix hr (EV_var (pv 1)) EV_int) (EV_mul (EV_ix hr (EV_var (pv 1)) EV_int) (EV_sub (EV_var (pv 2)) (EV_var (pv 4))))) (EA_cons (EV_var (pv 4)) (EA_cons EV_str EA_nil))))))
    (ESs_one (ES_if (ET_cm ck_ge (EV_add (EV_var (pv 4)) (EV_ix hr (EV_ix hr (EV_var (pv 0)) (EV_var (pv 4))) EV_int)) (EV_var (pv 2)))
    (ESs_one (ES_expr (EV_append (pv 3) (EV_tup (n := 3) (EA_cons (EV_ix hr (EV_var (pv 1)) EV_int) (EA_cons (EV_var (pv 4)) (EA_cons EV_str EA_nil))))))) ESs_nil))))
    (ESs_one (ES_retF (pv 3)))))

theorem ok_cheapest (T : Tx P K mg) : Okd P w K mg base 3 "cheapest" ["old", "new", "costs"] (ownM [.v, .v, .v]) (lk []) false T.xr 3 F_cheapest := by
  obtain ⟨f, fd, F, hm, hb⟩ := T.d_cheapest
  refine ⟨f, fd, hm, F.kp, hb, fn_F (N := N_cheapest) (ow := lk [4]) F sc_cheapest rfl rfl rfl rfl fun cdv A outer s H E fp hr => ?_⟩
  have tk : Takes (xOf P w K mg base N_cheapest "cheapest" s_cheapest f cdv A outer s H E) (fun cl d _ H => E cl d H) := takes_of rfl rfl rfl rfl
  have hp : PassesOwn (model P w) (xOf P w K mg base N_cheapest "cheapest" s_cheapest f cdv A outer s H E).A (xOf P w K mg base N_cheapest "cheapest" s_cheapest f cdv A outer s H E).env (xOf P w K mg base N_cheapest "cheapest" s_cheapest f cdv A outer s H E).xe := passes_of rfl
  exact (ESs_cons (ES_parT2 (i1 := 3) (m1 := .v) (i2 := 4) (m2 := .n) rfl sc_cheapest.nd rfl rfl (by first | exact .inl rfl | exact .inr rfl) (by first | exact .inl rfl | exact .inr rfl) (EA_cons (EV_cal (ms := [.v, .v]) (ok_longest_runs T) hr tk (EA_cons (EV_var (pv 0)) (EA_cons (EV_var (pv 1)) EA_nil))) (EA_consN (EN_lst (n := 1) (EA_cons (EV_tup (n := 3) (EA_cons EV_int (EA_cons EV_int (EA_cons EV_str EA_nil)))) EA_nil)) EA_nil)))
    (ESs_cons (ES_for hp rfl (EI_r2 EV_int (EV_add (EV_len T.z_len (EB_of (EV_var (pv 1)))) EV_int) T.z_range) (EG_name sc_cheapest.nd (i := 5) rfl (by first | exact .inl rfl | exact .inr rfl))
    (ESs_cons (ES_setLc (i := 6) rfl sc_cheapest.nd rfl rfl (sw_true rfl rfl rfl (by decide +kernel)) (EI_seq (EV_cal (ms := [.v, .v, .v]) (ok_steps_to T) hr tk (EA_cons (EV_var (pv 3)) (EA_cons (EV_var (pv 2)) (EA_cons (EV_var (pv 5)) EA_nil))))) (blkOk_by (own := [("cost", 7), ("begin", 8), ("word", 9)]) (N := N_cheapest) (sc := defScope s_cheapest) (by decide +kernel)) (fun _ _ _ _ _ => (EG_tup rfl (EGs_cons (EG_name sc_cheapest.nd (i := 7) rfl (by first | exact .inl rfl | exact .inr rfl)) (EGs_cons (EG_name sc_cheapest.nd (i := 8) rfl (by first | exact .inl rfl | exact .inr rfl)) (EGs_cons (EG_name sc_cheapest.nd (i := 9) rfl (by first | exact .inl rfl | exact .inr rfl)) EGs_nil))) (hl := (gMore_len (gMore_len (gMore_len gEnd_len)))))) (fun _ _ _ _ _ => ETs_nil) (fun _ _ _ _ _ => (EV_tup (n := 3) (EA_cons (EV_add (EV_ix hr (EV_ixS hr (pv 4) (EV_var (pv 8))) EV_int) (EV_var (pv 7))) (EA_cons (EV_var (pv 8)) (EA_cons (EV_var (pv 9)) EA_nil))))))
    (ESs_one (ES_expr (EV_append (pv 4) (EV_minX hr T.z_min rfl (EB_of (EV_var (pv 6)))))))))
    (ESs_one (ES_retF (pv 4)))))

theorem ok_potentials_of (T : Tx P K mg) : Okd P w K mg base 4 "potentials_of" ["old", "new", "costs"] (ownM [.v, .v, .v]) (lk []) false T.xr 3 F_potentials_of := by
  obtain ⟨f, fd, F, hm, hb⟩ := T.d_potentials_of
  refine ⟨f, fd, hm, F.kp, hb, fn_F (N := N_potentials_of) (ow := lk []) F sc_potentials_of rfl rfl rfl rfl fun cdv A outer s H E fp hr => ?_⟩
  have tk : Takes (xOf P w K mg base N_potentials_of "potentials_of" s_potentials_of f cdv A outer s H E) (fun cl d _ H => E cl d H) := takes_of rfl rfl rfl rfl
  have hp : PassesOwn (model P w) (xOf P w K mg base N_potentials_of "potentials_of" s_potentials_of f cdv A outer s H E).A (xOf P w K mg base N_potentials_of "potentials_of" s_potentials_of f cdv A outer s H E).env (xOf P w K mg base N_potentials_of "potentials_of" s_potentials_of f cdv A outer s H E).xe := passes_of rfl
  exact (ESs_one (ES_ret (EV_tupO T.z_tuple (EB_ofN (EN_lc rfl sc_potentials_of.nd (EI_seq (EV_cal (ms := [.v, .v, .v]) (ok_cheapest T) hr tk (EA_cons (EV_var (pv 0)) (EA_cons (EV_var (pv 1)) (EA_cons (EV_var (pv 2)) EA_nil))))) (blkOk_by (own := [("row", 3)]) (N := N_potentials_of) (sc := defScope s_potentials_of) (by decide +kernel)) (fun _ _ _ _ _ => (EG_name sc_potentials_of.nd (i := 3) rfl (by first | exact .inl rfl | exact .inr rfl))) (fun _ _ _ _ _ => ETs_nil) (fun _ _ _ _ _ => (EV_ix hr (EV_var (pv 3)) EV_int)))))))

theorem ok_least_delta (T : Tx P K mg) : Okd P w K mg base 4 "least_delta" ["old", "new", "costs"] (ownM [.v, .v, .v]) (lk []) false T.xr 3 F_least_delta := by
  obtain ⟨f, fd, F, hm, hb⟩ := T.d_least_delta
  refine ⟨f, fd, hm, F.kp, hb, fn_F (N := N_least_delta) (ow := lk [5]) F sc_least_delta rfl rfl rfl rfl fun cdv A outer s H E fp hr => ?_⟩
  have tk : Takes (xOf P w K mg base N_least_delta "least_delta" s_least_delta f cdv A outer s H E) (fun cl d _ H => E cl d H) := takes_of rfl rfl rfl rfl
  have hp : PassesOwn (model P w) (xOf P w K mg base N_least_delta "least_delta" s_least_delta f cdv A outer s H E).A (xOf P w K mg base N_least_delta "least_delta" s_least_delta f cdv A outer s H E).env (xOf P w K mg base N_least_delta "least_delta" s_least_delta f cdv A outer s H E).xe := passes_of rfl
  exact (ESs_cons (ES_parT4 (i1 := 3) (m1 := .v) (i2 := 4) (m2 := .v) (i3 := 5) (m3 := .n) (i4 := 6) (m4 := .v) rfl sc_least_delta.nd rfl rfl rfl rfl (by first | exact .inl rfl | exact .inr rfl) (by first | exact .inl rfl | exact .inr rfl) (by first | exact .inl rfl | exact .inr rfl) (by first | exact .inl rfl | exact .inr rfl) (EA_cons (EV_cal (ms := [.v, .v]) (ok_longest_runs T) hr tk (EA_cons (EV_var (pv 0)) (EA_cons (EV_var (pv 1)) EA_nil))) (EA_cons (EV_cal (ms := [.v, .v, .v]) (ok_cheapest T) hr tk (EA_cons (EV_var (pv 0)) (EA_cons (EV_var (pv 1)) (EA_cons (EV_var (pv 2)) EA_nil)))) (EA_consN (EN_lst (n := 0) EA_nil) (EA_cons (EV_len T.z_len (EB_of (EV_var (pv 1)))) EA_nil)))))
    (ESs_cons (ES_while 1000000 hp (ET_cm ck_gt (EV_var (pv 6)) EV_int)
    (ESs_cons (ES_asg (EV_ix hr (EV_var (pv 4)) (EV_var (pv 6))) (EG_tup rfl (EGs_cons (EG_name sc_least_delta.nd (i := 7) rfl (by first | exact .inl rfl | exact .inr rfl)) (EGs_cons (EG_name sc_least_delta.nd (i := 8) rfl (by first | exact .inl rfl | exact .inr rfl)) (EGs_cons (EG_name sc_least_delta.nd (i := 9) rfl (by first | exact .inl rfl | exact .inr rfl)) EGs_nil))) (hl := (gMore_len (gMore_len (gMore_len gEnd_len))))))
    (ESs_cons (ES_if (ET_cm (ck_eq hr) (EV_var (pv 9)) EV_str)
    (ESs_one (ES_expr (EV_append (pv 5) (EV_tup (n := 2) (EA_cons EV_str (EA_cons (EV_sl (EV_var (pv 1)) (EO_some (EV_var (pv 8))) (EO_some (EV_var (pv 6)))) EA_nil)))))) (ESs_one (ES_expr (EV_append (pv 5) (EV_tup (n := 3) (EA_cons EV_str (EA_cons (EV_ix hr (EV_ix hr (EV_var (pv 3)) (EV_var (pv 8))) EV_int) (EA_cons (EV_sub (EV_var (pv 6)) (EV_var (pv 8))) EA_nil))))))))
    (ESs_one (ES_set (i := 6) sc_least_delta.nd rfl (.inl rfl) (EV_var (pv 8)))))))
    (ESs_one (ES_ret (EV_tupO T.z_tuple (EB_ofN (EN_rev (EB_own (pv 5)))))))))

theorem ok_are_potentials (T : Tx P K mg) : Okd P w K mg base 3 "are_potentials" ["old", "new", "costs", "thing"] (ownM [.v, .v, .v, .v]) (lk []) false T.xr 4 F_are_potentials := by
  obtain ⟨f, fd, F, hm, hb⟩ := T.d_are_potentials
  refine ⟨f, fd, hm, F.kp, hb, fn_F (N := N_are_potentials) (ow := lk []) F sc_are_potentials rfl rfl rfl rfl fun cdv A outer s H E fp hr => ?_⟩
  have tk : Takes (xOf P w K mg base N_are_potentials "are_potentials" s_are_potentials f cdv A outer s H E) (fun cl d _ H => E cl d H) := takes_of rfl rfl rfl rfl
  have hp : PassesOwn (model P w) (xOf P w K mg base N_are_potentials "are_potentials" s_are_potentials f cdv A outer s H E).A (xOf P w K mg base N_are_potentials "are_potentials" s_are_potentials f cdv A outer s H E).env (xOf P w K mg base N_are_potentials "are_potentials" s_are_potentials f cdv A outer s H E).xe := passes_of rfl
  exact (ESs_cons (ES_if (ET_w (EW_or (ET_not (ET_val (EV_isi (Ts := "tuple") T.z_isinstance T.z_tuple (by decide +kernel) (EV_var (pv 3))))) (EW_or (ET_cm (ck_ne hr) (EV_len T.z_len (EB_of (EV_var (pv 3)))) (EV_add (EV_len T.z_len (EB_of (EV_var (pv 1)))) EV_int)) (EW_or1 (ET_not (ET_val (EV_all T.z_all rfl (EB_ofN (EN_lc rfl sc_are_potentials.nd (EI_seq (EV_var (pv 3))) (blkOk_by (own := [("own", 4)]) (N := N_are_potentials) (sc := defScope s_are_potentials) (by decide +kernel)) (fun _ _ _ _ _ => (EG_name sc_are_potentials.nd (i := 4) rfl (by first | exact .inl rfl | exact .inr rfl))) (fun _ _ _ _ _ => ETs_nil) (fun _ _ _ _ _ => (EV_cal (ms := [.v]) (ok_is_number T) hr takes0 (EA_cons (EV_var (pv 4)) EA_nil))))))))))))
    (ESs_one (ES_ret EV_bl)) ESs_nil)
    (ESs_cons (ES_set (i := 5) sc_are_potentials.nd rfl (.inl rfl) (EV_cal (ms := [.v, .v]) (ok_longest_runs T) hr tk (EA_cons (EV_var (pv 0)) (EA_cons (EV_var (pv 1)) EA_nil))))
    (ESs_cons (ES_for hp rfl (EI_r2 EV_int (EV_add (EV_len T.z_len (EB_of (EV_var (pv 1)))) EV_int) T.z_range) (EG_name sc_are_potentials.nd (i := 6) rfl (by first | exact .inl rfl | exact .inr rfl))
    (ESs_one (ES_for hp rfl (EI_seq (EV_cal (ms := [.v, .v, .v]) (ok_steps_to T) hr tk (EA_cons (EV_var (pv 5)) (EA_cons (EV_var (pv 2)) (EA_cons (EV_var (pv 6)) EA_nil))))) (EG_tup rfl (EGs_cons (EG_name sc_are_potentials.nd (i := 7) rfl (by first | exact .inl rfl | exact .inr rfl)) (EGs_cons (EG_name sc_are_potentials.nd (i := 8) rfl (by first | exact .inl rfl | exact .inr rfl)) (EGs_cons (EG_name sc_are_potentials.nd (i := 9) rfl (by first | exact .inl rfl | exact .inr rfl)) EGs_nil))) (hl := (gMore_len (gMore_len (gMore_len gEnd_len)))))
    (ESs_one (ES_if (ET_cm ck_gt (EV_ix hr (EV_var (pv 3)) (EV_var (pv 6))) (EV_add (EV_ix hr (EV_var (pv 3)) (EV_var (pv 8))) (EV_var (pv 7))))
    (ESs_one (ES_ret EV_bl)) ESs_nil)))))
    (ESs_one (ES_ret (EV_cmp (ck_eq hr) (EV_ix hr (EV_var (pv 3)) EV_int) EV_int))))))

theorem ok_is_least_delta (T : Tx P K mg) : Okd P w K mg base 7 "is_least_delta" ["old", "new", "costs", "delta", "thing"] (ownM [.v, .v, .v, .v, .v]) (lk []) false T.xr 5 F_is_least_delta := by
  obtain ⟨f, fd, F, hm, hb⟩ := T.d_is_least_delta
  refine ⟨f, fd, hm, F.kp, hb, fn_F (N := N_is_least_delta) (ow := lk []) F sc_is_least_delta rfl rfl rfl rfl fun cdv A outer s H E fp hr => ?_⟩
  have tk : Takes (xOf P w K mg base N_is_least_delta "is_least_delta" s_is_least_delta f cdv A outer s H E) (fun cl d _ H => E cl d H) := takes_of rfl rfl rfl rfl
  have hp : PassesOwn (model P w) (xOf P w K mg base N_is_least_delta "is_least_delta" s_is_least_delta f cdv A outer s H E).A (xOf P w K mg base N_is_least_delta "is_least_delta" s_is_least_delta f cdv A outer s H E).env (xOf P w K mg base N_is_least_delta "is_least_delta" s_is_least_delta f cdv A outer s H E).xe := passes_of rfl
  exact (ESs_cons (ES_if (ET_w (EW_or (ET_not (ET_val (EV_cal (ms := [.v, .v]) (ok_is_delta T) hr tk (EA_cons (EV_var (pv 0)) (EA_cons (EV_var (pv 3)) EA_nil))))) (EW_or (ET_cm (ck_ne hr) (EV_cal (ms := [.v, .v]) (ok_applied_delta T) hr tk (EA_cons (EV_var (pv 3)) (EA_cons (EV_var (pv 0)) EA_nil))) (EV_var (pv 1))) (EW_or1 (ET_not (ET_val (EV_cal (ms := [.v, .v, .v, .v]) (ok_are_potentials T) hr tk (EA_cons (EV_var (pv 0)) (EA_cons (EV_var (pv 1)) (EA_cons (EV_var (pv 2)) (EA_cons (EV_var (pv 4)) EA_nil)))))))))))
    (ESs_one (ES_ret EV_bl)) ESs_nil)
    (ESs_one (ES_ret (EV_cmp (ck_eq hr) (EV_ix hr (EV_var (pv 4)) (EV_neg EV_int)) (EV_cal (ms := [.v, .v]) (ok_delta_cost T) hr tk (EA_cons (EV_var (pv 3)) (EA_cons (EV_var (pv 2)) EA_nil)))))))

theorem ok_u_law_draws (T : Tx P K mg) : Okd P w K mg base 2 "_law_draws" ["script", "many"] (ownM [.v, .v]) (lk []) false T.xr 2 F_u_law_draws := by
  obtain ⟨f, fd, F, hm, hb⟩ := T.d_u_law_draws
  refine ⟨f, fd, hm, F.kp, hb, fn_F (N := N_u_law_draws) (ow := lk [2]) F sc_u_law_draws rfl rfl rfl rfl fun cdv A outer s H E fp hr => ?_⟩
  have tk : Takes (xOf P w K mg base N_u_law_draws "_law_draws" s_u_law_draws f cdv A outer s H E) (fun cl d _ H => E cl d H) := takes_of rfl rfl rfl rfl
  have hp : PassesOwn (model P w) (xOf P w K mg base N_u_law_draws "_law_draws" s_u_law_draws f cdv A outer s H E).A (xOf P w K mg base N_u_law_draws "_law_draws" s_u_law_draws f cdv A outer s H E).env (xOf P w K mg base N_u_law_draws "_law_draws" s_u_law_draws f cdv A outer s H E).xe := passes_of rfl
  exact (ESs_cons (ES_setN (i := 2) sc_u_law_draws.nd rfl (.inl rfl) (EN_lst (n := 0) EA_nil))
    (ESs_cons (ES_set (i := 3) sc_u_law_draws.nd rfl (.inl rfl) EV_int)
    (ESs_cons (ES_for hp rfl (EI_r1 (EV_len T.z_len (EB_of (EV_var (pv 0)))) T.z_range) (EG_name sc_u_law_draws.nd (i := 4) rfl (by first | exact .inl rfl | exact .inr rfl))
    (ESs_cons (ES_set (i := 5) sc_u_law_draws.nd rfl (.inl rfl) (EV_abs T.z_abs (EB_of (EV_intX T.z_int (EB_of (EV_ix hr (EV_var (pv 0)) (EV_var (pv 4))))))))
    (ESs_cons (ES_set (i := 3) sc_u_law_draws.nd rfl (.inl rfl) (EV_mod (EV_intX T.z_int (EB_of (EV_add (EV_add (EV_mul (EV_var (pv 3)) EV_int) (EV_mod (EV_var (pv 5)) EV_int)) (EV_var (pv 4))))) EV_int))
    (ESs_cons (ES_set (i := 6) sc_u_law_draws.nd rfl (.inl rfl) EV_int)
    (ESs_cons (ES_if (ET_cm ck_ge (EV_var (pv 5)) (EV_pow EV_int EV_int))
    (ESs_one (ES_set (i := 6) sc_u_law_draws.nd rfl (.inl rfl) (EV_var (pv 5)))) (ESs_cons (ES_expr (EV_append (pv 2) (EV_mod (EV_intX T.z_int (EB_of (EV_var (pv 5)))) EV_int)))
    (ESs_one (ES_expr (EV_append (pv 2) (EV_mod (EV_mod (EV_intX T.z_int (EB_of (EV_add (EV_mul (EV_var (pv 3)) EV_int) EV_int))) EV_int) EV_int))))))
    (ESs_one (ES_for hp rfl (EI_r1 EV_int T.z_range) (EG_name sc_u_law_draws.nd (i := 7) rfl (by first | exact .inl rfl | exact .inr rfl))
    (ESs_one (ES_if (ET_cm ck_gt (EV_var (pv 6)) EV_int)
    (ESs_cons (ES_expr (EV_append (pv 2) (EV_mod (EV_intX T.z_int (EB_of (EV_var (pv 6)))) EV_int)))
    (ESs_one (ES_set (i := 6) sc_u_law_draws.nd rfl (.inl rfl) (EV_fdiv (EV_var (pv 6)) EV_int)))) ESs_nil)))))))))
    (ESs_cons (ES_for hp rfl (EI_r1 (EV_var (pv 1)) T.z_range) (EG_name sc_u_law_draws.nd (i := 4) rfl (by first | exact .inl rfl | exact .inr rfl))
    (ESs_cons (ES_set (i := 3) sc_u_law_draws.nd rfl (.inl rfl) (EV_mod (EV_intX T.z_int (EB_of (EV_add (EV_add (EV_mul (EV_var (pv 3)) EV_int) (EV_var (pv 4))) EV_int))) EV_int))
    (ESs_one (ES_expr (EV_append (pv 2) (EV_mod (EV_intX T.z_int (EB_of (EV_var (pv 3)))) EV_int))))))
    (ESs_one (ES_ret (EV_of (EN_slS (pv 2) EO_none (EO_some (EV_var (pv 1)))))))))))

theorem ok_u_law_next (T : Tx P K mg) : Okd P w K mg base 2 "_law_next" ["w", "many"] (ownM [.n, .v]) (lk [0]) false T.xr 2 F_u_law_next := by
  obtain ⟨f, fd, F, hm, hb⟩ := T.d_u_law_next
  refine ⟨f, fd, hm, F.kp, hb, fn_F (N := N_u_law_next) (ow := lk [0]) F sc_u_law_next rfl rfl rfl rfl fun cdv A outer s H E fp hr => ?_⟩
  have tk : Takes (xOf P w K mg base N_u_law_next "_law_next" s_u_law_next f cdv A outer s H E) (fun cl d _ H => E cl d H) := takes_of rfl rfl rfl rfl
  have hp : PassesOwn (model P w) (xOf P w K mg base N_u_law_next "_law_next" s_u_law_next f cdv A outer s H E).A (xOf P w K mg base N_u_law_next "_law_next" s_u_law_next f cdv A outer s H E).env (xOf P w K mg base N_u_law_next "_law_next" s_u_law_next f cdv A outer s H E).xe := passes_of rfl
  exact (ESs_cons (ES_daug hr (pv 0) EV_str EV_int)
    (ESs_cons (ES_if (ET_cm ck_gt (EV_ixS hr (pv 0) EV_str) (EV_len T.z_len (EB_of (EV_ixS hr (pv 0) EV_str))))
    (ESs_one (ES_ret EV_int)) ESs_nil)
    (ESs_one (ES_ret (EV_mod (EV_intX T.z_int (EB_of (EV_ix hr (EV_ixS hr (pv 0) EV_str) (EV_sub (EV_ixS hr (pv 0) EV_str) EV_int)))) (EV_var (pv 1)))))))

theorem ok_u_law_runs (T : Tx P K mg) : Okd P w K mg base 2 "_law_runs" ["places", "many"] (ownM [.v, .v]) (lk []) false T.xr 2 F_u_law_runs := by
  obtain ⟨f, fd, F, hm, hb⟩ := T.d_u_law_runs
  refine ⟨f, fd, hm, F.kp, hb, fn_F (N := N_u_law_runs) (ow := lk [2]) F sc_u_law_runs rfl rfl rfl rfl fun cdv A outer s H E fp hr => ?_⟩
  have tk : Takes (xOf P w K mg base N_u_law_runs "_law_runs" s_u_law_runs f cdv A outer s H E) (fun cl d _ H => E cl d H) := takes_of rfl rfl rfl rfl
  have hp : PassesOwn (model P w) (xOf P w K mg base N_u_law_runs "_law_runs" s_u_law_runs f cdv A outer s H E).A (xOf P w K mg base N_u_law_runs "_law_runs" s_u_law_runs f cdv A outer s H E).env (xOf P w K mg base N_u_law_runs "_law_runs" s_u_law_runs f cdv A outer s H E).xe := passes_of rfl
  exact (ESs_cons (ES_par2 rfl sc_u_law_runs.nd rfl rfl (by decide) rfl rfl (EA_consN (EN_lst (n := 0) EA_nil) (EA_cons EV_non EA_nil)) (by rfl) (i := 2) (j := 3))
    (ESs_cons (ES_for hp rfl (EI_seq (EV_var (pv 0))) (EG_name sc_u_law_runs.nd (i := 4) rfl (by first | exact .inl rfl | exact .inr rfl))
    (ESs_cons (ES_set (i := 5) sc_u_law_runs.nd rfl (.inl rfl) (EV_cmp ck_lt (EV_var (pv 4)) (EV_var (pv 1))))
    (ESs_cons (ES_if (ET_w (EW_and (ET_cmpL (ol_ne hr) (pv 2) (EV_of (EN_lst (n := 0) EA_nil))) (EW_and (ET_cm (ck_eq hr) (EV_ix hr (EV_ixS hr (pv 2) (EV_neg EV_int)) EV_int) (EV_var (pv 5))) (EW_and1 (ET_w (EW_or (ET_not (ET_val (EV_var (pv 5)))) (EW_or1 (ET_cm (ck_eq hr) (EV_add (EV_var (pv 3)) EV_int) (EV_var (pv 4))))))))))
    (ESs_one (ES_asg (EV_tup (n := 2) (EA_cons (EV_var (pv 5)) (EA_cons (EV_add (EV_ix hr (EV_ixS hr (pv 2) (EV_neg EV_int)) EV_int) EV_int) EA_nil))) (EG_sub hr (pv 2) (EV_neg EV_int)))) (ESs_one (ES_expr (EV_append (pv 2) (EV_tup (n := 2) (EA_cons (EV_var (pv 5)) (EA_cons EV_int EA_nil)))))))
    (ESs_one (ES_set (i := 3) sc_u_law_runs.nd rfl (.inl rfl) (EV_var (pv 4)))))))
    (ESs_one (ES_retF (pv 2)))))

theorem ok_u_law_cost (T : Tx P K mg) : Okd P w K mg base 2 "_law_cost" ["runs", "costs"] (ownM [.v, .v]) (lk []) false T.xr 2 F_u_law_cost := by
  obtain ⟨f, fd, F, hm, hb⟩ := T.d_u_law_cost
  refine ⟨f, fd, hm, F.kp, hb, fn_F (N := N_u_law_cost) (ow := lk []) F sc_u_law_cost rfl rfl rfl rfl fun cdv A outer s H E fp hr => ?_⟩
  have tk : Takes (xOf P w K mg base N_u_law_cost "_law_cost" s_u_law_cost f cdv A outer s H E) (fun cl d _ H => E cl d H) := takes_of rfl rfl rfl rfl
  have hp : PassesOwn (model P w) (xOf P w K mg base N_u_law_cost "_law_cost" s_u_law_cost f cdv A outer s H E).A (xOf P w K mg base N_u_law_cost "_law_cost" s_u_law_cost f cdv A outer s H E).env (xOf P w K mg base N_u_law_cost "_law_cost" s_u_law_cost f cdv A outer s H E).xe := passes_of rfl
  exact (ESs_cons (ES_set (i := 2) sc_u_law_cost.nd rfl (.inl rfl) (EV_pow EV_int EV_int))
    (ESs_cons (ES_par2 rfl sc_u_law_cost.nd rfl rfl (by decide) rfl rfl (EA_cons EV_int (EA_cons (EV_var (pv 2)) EA_nil)) (by rfl) (i := 3) (j := 4))
    (ESs_cons (ES_for hp rfl (EI_seq (EV_var (pv 0))) (EG_tup rfl (EGs_cons (EG_name sc_u_law_cost.nd (i := 5) rfl (by first | exact .inl rfl | exact .inr rfl)) (EGs_cons (EG_name sc_u_law_cost.nd (i := 6) rfl (by first | exact .inl rfl | exact .inr rfl)) EGs_nil)) (hl := (gMore_len (gMore_len gEnd_len))))
    (ESs_cons (ES_par2 rfl sc_u_law_cost.nd rfl rfl (by decide) rfl rfl (EA_cons (EV_min2 T.z_min rfl (EV_add (EV_var (pv 3)) (EV_ix hr (EV_var (pv 1)) EV_int)) (EV_var (pv 4))) (EA_cons (EV_min2 T.z_min rfl (EV_var (pv 3)) (EV_var (pv 4))) EA_nil)) (by rfl) (i := 7) (j := 8))
    (ESs_one (ES_par2 rfl sc_u_law_cost.nd rfl rfl (by decide) rfl rfl (EA_cons (E_if (ET_val (EV_var (pv 5))) (EV_add (EV_var (pv 8)) (EV_ix hr (EV_var (pv 1)) EV_int)) (EV_var (pv 2))) (EA_cons (EV_add (EV_var (pv 7)) (EV_mul (EV_ix hr (EV_var (pv 1)) EV_int) (EV_var (pv 6)))) EA_nil)) (by rfl) (i := 3) (j := 4)))))
    (ESs_one (ES_ret (EV_min2 T.z_min rfl (EV_var (pv 3)) (EV_var (pv 4))))))))

theorem ok_u_law_places (T : Tx P K mg) : Okd P w K mg base 3 "_law_places" ["w", "many"] (ownM [.n, .v]) (lk [0]) false T.xr 2 F_u_law_places := by
  obtain ⟨f, fd, F, hm, hb⟩ := T.d_u_law_places
  refine ⟨f, fd, hm, F.kp, hb, fn_F (N := N_u_law_places) (ow := lk [0]) F sc_u_law_places rfl rfl rfl rfl fun cdv A outer s H E fp hr => ?_⟩
  have tk : Takes (xOf P w K mg base N_u_law_places "_law_places" s_u_law_places f cdv A outer s H E) (fun cl d _ H => E cl d H) := takes_of rfl rfl rfl rfl
  have hp : PassesOwn (model P w) (xOf P w K mg base N_u_law_places "_law_places" s_u_law_places f cdv A outer s H E).A (xOf P w K mg base N_u_law_places "_law_places" s_u_law_places f cdv A outer s H E).env (xOf P w K mg base N_u_law_places "_law_places" s_u_law_places f cdv A outer s H E).xe := passes_of rfl
  exact (ESs_cons (ES_set (i := 2) sc_u_law_places.nd rfl (.inl rfl) (EV_of (EN_lst (n := 0) EA_nil)))
    (ESs_cons (ES_for hp rfl (EI_r1 (EV_cal (ms := [.s 0, .v]) (ok_u_law_next T) hr tk (EA_consS (pv 0) (EA_cons EV_int EA_nil))) T.z_range) (EG_name sc_u_law_places.nd (i := 3) rfl (by first | exact .inl rfl | exact .inr rfl))
    (ESs_cons (ES_par2 rfl sc_u_law_places.nd rfl rfl (by decide) rfl rfl (EA_cons (EV_cal (ms := [.s 0, .v]) (ok_u_law_next T) hr tk (EA_consS (pv 0) (EA_cons (EV_var (pv 1)) EA_nil))) (EA_cons (EV_add EV_int (EV_cal (ms := [.s 0, .v]) (ok_u_law_next T) hr tk (EA_consS (pv 0) (EA_cons EV_int EA_nil)))) EA_nil)) (by rfl) (i := 4) (j := 5))
    (ESs_one (ES_if (ET_cm (ck_eq hr) (EV_cal (ms := [.s 0, .v]) (ok_u_law_next T) hr tk (EA_consS (pv 0) (EA_cons EV_int EA_nil))) EV_int)
    (ESs_one (ES_set (i := 2) sc_u_law_places.nd rfl (.inl rfl) (EV_add (EV_var (pv 2)) (EV_of (EN_lc rfl sc_u_law_places.nd (EI_r1 (EV_add EV_int (EV_cal (ms := [.s 0, .v]) (ok_u_law_next T) hr tk (EA_consS (pv 0) (EA_cons EV_int EA_nil)))) T.z_range) (blkOk_by (own := [("j", 6)]) (N := N_u_law_places) (sc := defScope s_u_law_places) (by decide +kernel)) (fun _ _ _ _ _ => (EG_name sc_u_law_places.nd (i := 6) rfl (by first | exact .inl rfl | exact .inr rfl))) (fun _ _ _ _ _ => ETs_nil) (fun _ _ _ _ _ => (EV_add (EV_var (pv 1)) (EV_cal (ms := [.s 0, .v]) (ok_u_law_next T) hr takes0 (EA_consS (pv 0) (EA_cons (EV_sub EV_int (EV_var (pv 1))) EA_nil)))))))))) (ESs_one (ES_set (i := 2) sc_u_law_places.nd rfl (.inl rfl) (EV_add (EV_var (pv 2)) (EV_of (EN_lstR rfl T.z_list (ER_2 T.z_range (EV_var (pv 4)) (EV_min2 T.z_min rfl (EV_var (pv 1)) (EV_add (EV_var (pv 4)) (EV_var (pv 5))))))))))))))
    (ESs_one (ES_ret (EV_var (pv 2))))))

theorem ok_law (T : Tx P K mg) : Okd P w K mg base 8 "law" ["script"] (ownM [.v]) (lk []) false T.xr 1 F_law := by
  obtain ⟨f, fd, F, hm, hb⟩ := T.d_law
  refine ⟨f, fd, hm, F.kp, hb, fn_F (N := N_law) (ow := lk [1]) F sc_law rfl rfl rfl rfl fun cdv A outer s H E fp hr => ?_⟩
  have tk : Takes (xOf P w K mg base N_law "law" s_law f cdv A outer s H E) (fun cl d _ H => E cl d H) := takes_of rfl rfl rfl rfl
  have hp : PassesOwn (model P w) (xOf P w K mg base N_law "law" s_law f cdv A outer s H E).A (xOf P w K mg base N_law "law" s_law f cdv A outer s H E).env (xOf P w K mg base N_law "law" s_law f cdv A outer s H E).xe := passes_of rfl
  exact (ESs_cons (ES_setN (i := 1) sc_law.nd rfl (.inl rfl) (EN_disp (EPs_cons EV_str (EV_cal (ms := [.v, .v]) (ok_u_law_draws T) hr tk (EA_cons (EV_var (pv 0)) (EA_cons EV_int EA_nil))) (EPs_cons EV_str EV_int EPs_nil))))
    (ESs_cons (ES_for hp rfl (EI_r1 EV_int T.z_range) (EG_name sc_law.nd (i := 2) rfl (by first | exact .inl rfl | exact .inr rfl))
    (ESs_cons (ES_asg (EV_tup (n := 3) (EA_cons (EV_add EV_int (EV_cal (ms := [.s 1, .v]) (ok_u_law_next T) hr tk (EA_consS (pv 1) (EA_cons EV_int EA_nil)))) (EA_cons (EV_cal (ms := [.s 1, .v]) (ok_u_law_next T) hr tk (EA_consS (pv 1) (EA_cons EV_int EA_nil))) (EA_cons (EV_add EV_int (EV_cal (ms := [.s 1, .v]) (ok_u_law_next T) hr tk (EA_consS (pv 1) (EA_cons EV_int EA_nil)))) EA_nil)))) (EG_tup rfl (EGs_cons (EG_name sc_law.nd (i := 3) rfl (by first | exact .inl rfl | exact .inr rfl)) (EGs_cons (EG_name sc_law.nd (i := 4) rfl (by first | exact .inl rfl | exact .inr rfl)) (EGs_cons (EG_name sc_law.nd (i := 5) rfl (by first | exact .inl rfl | exact .inr rfl)) EGs_nil))) (hl := (gMore_len (gMore_len (gMore_len gEnd_len))))))
    (ESs_cons (ES_set (i := 6) sc_law.nd rfl (.inr rfl) (EV_tup (n := 3) (EA_cons (EV_cal (ms := [.s 1, .v]) (ok_u_law_next T) hr tk (EA_consS (pv 1) (EA_cons EV_int EA_nil))) (EA_cons (EV_cal (ms := [.s 1, .v]) (ok_u_law_next T) hr tk (EA_consS (pv 1) (EA_cons EV_int EA_nil))) (EA_cons (EV_cal (ms := [.s 1, .v]) (ok_u_law_next T) hr tk (EA_consS (pv 1) (EA_cons EV_int EA_nil))) EA_nil)))))
    (ESs_cons (ES_set (i := 7) sc_law.nd rfl (.inr rfl) (EV_cal (ms := [.s 1, .v]) (ok_u_law_places T) hr tk (EA_consS (pv 1) (EA_cons (EV_var (pv 3)) EA_nil))))
    (ESs_cons (ES_par2 rfl sc_law.nd rfl rfl (by decide) rfl rfl (EA_cons (EV_tupO T.z_tuple (EB_ofN (EN_lc rfl sc_law.nd (EI_r1 (EV_var (pv 3)) T.z_range) (blkOk_by (own := [("k", 10)]) (N := N_law) (sc := defScope s_law) (by decide +kernel)) (fun _ _ _ _ _ => (EG_name sc_law.nd (i := 10) rfl (by first | exact .inl rfl | exact .inr rfl))) (fun _ _ _ _ _ => ETs_nil) (fun _ _ _ _ _ => (EV_mod (EV_add (EV_var (pv 4)) (EV_mul (EV_var (pv 5)) (EV_var (pv 10)))) EV_int))))) (EA_cons (EV_tupO T.z_tuple (EB_ofN (EN_lc rfl sc_law.nd (EI_seq (EV_var (pv 7))) (blkOk_by (own := [("own", 11)]) (N := N_law) (sc := defScope s_law) (by decide +kernel)) (fun _ _ _ _ _ => (EG_name sc_law.nd (i := 11) rfl (by first | exact .inl rfl | exact .inr rfl))) (fun _ _ _ _ _ => ETs_nil) (fun _ _ _ _ _ => (EV_mod (EV_add (EV_var (pv 4)) (EV_mul (EV_var (pv 5)) (EV_var (pv 11)))) EV_int))))) EA_nil)) (by rfl) (i := 8) (j := 9))
    (ESs_cons (ES_set (i := 12) sc_law.nd rfl (.inl rfl) (EV_tupO T.z_tuple (EB_ofN (EN_lc rfl sc_law.nd (EI_r1 (EV_add (EV_len T.z_len (EB_of (EV_var (pv 7)))) EV_int) T.z_range) (blkOk_by (own := [("k", 10)]) (N := N_law) (sc := defScope s_law) (by decide +kernel)) (fun _ _ _ _ _ => (EG_name sc_law.nd (i := 10) rfl (by first | exact .inl rfl | exact .inr rfl))) (fun _ _ _ _ _ => ETs_nil) (fun _ _ _ _ _ => (EV_cal (ms := [.v, .v]) (ok_u_law_cost T) hr takes0 (EA_cons (EV_cal (ms := [.v, .v]) (ok_u_law_runs T) hr takes0 (EA_cons (EV_sl (EV_var (pv 7)) EO_none (EO_some (EV_var (pv 10)))) (EA_cons (EV_var (pv 3)) EA_nil))) (EA_cons (EV_var (pv 6)) EA_nil))))))))
    (ESs_cons (ES_par2 rfl sc_law.nd rfl rfl (by decide) rfl rfl (EA_cons (EV_cal (ms := [.v, .v, .v]) (ok_least_delta T) hr tk (EA_cons (EV_var (pv 8)) (EA_cons (EV_var (pv 9)) (EA_cons (EV_var (pv 6)) EA_nil)))) (EA_cons (EV_cal (ms := [.v, .v, .v]) (ok_potentials_of T) hr tk (EA_cons (EV_var (pv 8)) (EA_cons (EV_var (pv 9)) (EA_cons (EV_var (pv 6)) EA_nil)))) EA_nil)) (by rfl) (i := 13) (j := 14))
    (ESs_cons (ES_if (ET_w (EW_or (ET_cm ck_isNotB (EV_cal (ms := [.v, .v]) (ok_is_delta T) hr tk (EA_cons (EV_var (pv 8)) (EA_cons (EV_var (pv 13)) EA_nil))) EV_bl) (EW_or (ET_cm (ck_ne hr) (EV_cal (ms := [.v, .v]) (ok_applied_delta T) hr tk (EA_cons (EV_var (pv 13)) (EA_cons (EV_var (pv 8)) EA_nil))) (EV_var (pv 9))) (EW_or (ET_cm (ck_ne hr) (EV_cal (ms := [.v, .v]) (ok_delta_cost T) hr tk (EA_cons (EV_var (pv 13)) (EA_cons (EV_var (pv 6)) EA_nil))) (EV_ix hr (EV_var (pv 12)) (EV_neg EV_int))) (EW_or1 (ET_cm (ck_ne hr) (EV_var (pv 14)) (EV_var (pv 12))))))))
    (ESs_one (ES_ret EV_bl)) ESs_nil)
    (ESs_cons (ES_if (ET_w (EW_or (ET_cm ck_isNotB (EV_cal (ms := [.v, .v, .v, .v, .v]) (ok_is_least_delta T) hr tk (EA_cons (EV_var (pv 8)) (EA_cons (EV_var (pv 9)) (EA_cons (EV_var (pv 6)) (EA_cons (EV_var (pv 13)) (EA_cons (EV_var (pv 12)) EA_nil)))))) EV_bl) (EW_or1 (ET_cm (ck_ne hr) (EV_cal (ms := [.v]) (ok_read_delta T) hr tk (EA_cons (EV_cal (ms := [.v]) (ok_delta_text T) hr tk (EA_cons (EV_var (pv 13)) EA_nil)) EA_nil)) (EV_var (pv 13))))))
    (ESs_one (ES_ret EV_bl)) ESs_nil)
    (ESs_cons (ES_set (i := 15) sc_law.nd rfl (.inl rfl) (E_if (ET_cm (ck_ne hr) (EV_var (pv 9)) (EV_tup (n := 0) EA_nil)) (EV_tup (n := 1) (EA_cons (EV_tup (n := 2) (EA_cons EV_str (EA_cons (EV_var (pv 9)) EA_nil))) EA_nil)) (EV_tup (n := 0) EA_nil)))
    (ESs_cons (ES_set (i := 16) sc_law.nd rfl (.inl rfl) (EV_or (EV_cmp (ck_eq hr) (EV_var (pv 15)) (EV_tup (n := 0) EA_nil)) (EV_one (EV_cmp (ck_eq hr) (EV_add (EV_ix hr (EV_var (pv 6)) EV_int) (EV_mul (EV_ix hr (EV_var (pv 6)) EV_int) (EV_len T.z_len (EB_of (EV_var (pv 9)))))) (EV_ix hr (EV_var (pv 12)) (EV_neg EV_int))))))
    (ESs_cons (ES_if (ET_cm (ck_ne hr) (EV_cmp ck_isB (EV_cal (ms := [.v, .v, .v, .v, .v]) (ok_is_least_delta T) hr tk (EA_cons (EV_var (pv 8)) (EA_cons (EV_var (pv 9)) (EA_cons (EV_var (pv 6)) (EA_cons (EV_var (pv 15)) (EA_cons (EV_var (pv 12)) EA_nil)))))) EV_bl) (EV_var (pv 16)))
    (ESs_one (ES_ret EV_bl)) ESs_nil)
    (ESs_cons (ES_if (ET_w (EW_and (ET_cm ck_gt (EV_ix hr (EV_var (pv 12)) (EV_neg EV_int)) EV_int) (EW_and1 (ET_cm ck_isNotB (EV_cal (ms := [.v, .v, .v, .v, .v]) (ok_is_least_delta T) hr tk (EA_cons (EV_var (pv 8)) (EA_cons (EV_var (pv 9)) (EA_cons (EV_var (pv 6)) (EA_cons (EV_var (pv 13)) (EA_cons (EV_add (EV_sl (EV_var (pv 12)) EO_none (EO_some (EV_neg EV_int))) (EV_tup (n := 1) (EA_cons (EV_sub (EV_ix hr (EV_var (pv 12)) (EV_neg EV_int)) EV_int) EA_nil))) EA_nil)))))) EV_bl))))
    (ESs_one (ES_ret EV_bl)) ESs_nil)
    (ESs_one (ES_if (ET_w (EW_or (ET_cm (ck_ne hr) (EV_count (EV_cal (ms := [.v]) (ok_delta_text T) hr tk (EA_cons (EV_var (pv 13)) EA_nil)) EV_str) (EV_len T.z_len (EB_of (EV_var (pv 13))))) (EW_or1 (ET_cm ck_isNotB (EV_cal (ms := [.v, .v]) (ok_is_delta T) hr tk (EA_cons (EV_var (pv 8)) (EA_cons (EV_tup (n := 1) (EA_cons (EV_tup (n := 3) (EA_cons EV_str (EA_cons EV_int (EA_cons (EV_add (EV_var (pv 3)) EV_int) EA_nil)))) EA_nil)) EA_nil))) EV_bl))))
    (ESs_one (ES_ret EV_bl)) ESs_nil)))))))))))))))
    (ESs_one (ES_ret EV_bl))))
theorem fn_law (T : Tx P K mg) {f : Addr} {fd : FuncData} (F : Fun K "law" "law" s_law f fd) : FnOk P w K mg base (L2.CX P w) 8 f fd ["script"] (spF K (ownM [.v]) (lk []) false T.xr 1 F_law) := by
  refine fn_F (N := N_law) (ow := lk [1]) F sc_law rfl rfl rfl rfl fun cdv A outer s H E fp hr => ?_
  have tk : Takes (xOf P w K mg base N_law "law" s_law f cdv A outer s H E) (fun cl d _ H => E cl d H) := takes_of rfl rfl rfl rfl
  have hp : PassesOwn (model P w) (xOf P w K mg base N_law "law" s_law f cdv A outer s H E).A (xOf P w K mg base N_law "law" s_law f cdv A outer s H E).env (xOf P w K mg base N_law "law" s_law f cdv A outer s H E).xe := passes_of rfl
  exact (ESs_cons (ES_setN (i := 1) sc_law.nd rfl (.inl rfl) (EN_disp (EPs_cons EV_str (EV_cal (ms := [.v, .v]) (ok_u_law_draws T) hr tk (EA_cons (EV_var (pv 0)) (EA_cons EV_int EA_nil))) (EPs_cons EV_str EV_int EPs_nil))))
    (ESs_cons (ES_for hp rfl (EI_r1 EV_int T.z_range) (EG_name sc_law.nd (i := 2) rfl (by first | exact .inl rfl | exact .inr rfl))
    (ESs_cons (ES_asg (EV_tup (n := 3) (EA_cons (EV_add EV_int (EV_cal (ms := [.s 1, .v]) (ok_u_law_next T) hr tk (EA_consS (pv 1) (EA_cons EV_int EA_nil)))) (EA_cons (EV_cal (ms := [.s 1, .v]) (ok_u_law_next T) hr tk (EA_consS (pv 1) (EA_cons EV_int EA_nil))) (EA_cons (EV_add EV_int (EV_cal (ms := [.s 1, .v]) (ok_u_law_next T) hr tk (EA_consS (pv 1) (EA_cons EV_int EA_nil)))) EA_nil)))) (EG_tup rfl (EGs_cons (EG_name sc_law.nd (i := 3) rfl (by first | exact .inl rfl | exact .inr rfl)) (EGs_cons (EG_name sc_law.nd (i := 4) rfl (by first | exact .inl rfl | exact .inr rfl)) (EGs_cons (EG_name sc_law.nd (i := 5) rfl (by first | exact .inl rfl | exact .inr rfl)) EGs_nil))) (hl := (gMore_len (gMore_len (gMore_len gEnd_len))))))
    (ESs_cons (ES_set (i := 6) sc_law.nd rfl (.inr rfl) (EV_tup (n := 3) (EA_cons (EV_cal (ms := [.s 1, .v]) (ok_u_law_next T) hr tk (EA_consS (pv 1) (EA_cons EV_int EA_nil))) (EA_cons (EV_cal (ms := [.s 1, .v]) (ok_u_law_next T) hr tk (EA_consS (pv 1) (EA_cons EV_int EA_nil))) (EA_cons (EV_cal (ms := [.s 1, .v]) (ok_u_law_next T) hr tk (EA_consS (pv 1) (EA_cons EV_int EA_nil))) EA_nil)))))
    (ESs_cons (ES_set (i := 7) sc_law.nd rfl (.inr rfl) (EV_cal (ms := [.s 1, .v]) (ok_u_law_places T) hr tk (EA_consS (pv 1) (EA_cons (EV_var (pv 3)) EA_nil))))
    (ESs_cons (ES_par2 rfl sc_law.nd rfl rfl (by decide) rfl rfl (EA_cons (EV_tupO T.z_tuple (EB_ofN (EN_lc rfl sc_law.nd (EI_r1 (EV_var (pv 3)) T.z_range) (blkOk_by (own := [("k", 10)]) (N := N_law) (sc := defScope s_law) (by decide +kernel)) (fun _ _ _ _ _ => (EG_name sc_law.nd (i := 10) rfl (by first | exact .inl rfl | exact .inr rfl))) (fun _ _ _ _ _ => ETs_nil) (fun _ _ _ _ _ => (EV_mod (EV_add (EV_var (pv 4)) (EV_mul (EV_var (pv 5)) (EV_var (pv 10)))) EV_int))))) (EA_cons (EV_tupO T.z_tuple (EB_ofN (EN_lc rfl sc_law.nd (EI_seq (EV_var (pv 7))) (blkOk_by (own := [("own", 11)]) (N := N_law) (sc := defScope s_law) (by decide +kernel)) (fun _ _ _ _ _ => (EG_name sc_law.nd (i := 11) rfl (by first | exact .inl rfl | exact .inr rfl))) (fun _ _ _ _ _ => ETs_nil) (fun _ _ _ _ _ => (EV_mod (EV_add (EV_var (pv 4)) (EV_mul (EV_var (pv 5)) (EV_var (pv 11)))) EV_int))))) EA_nil)) (by rfl) (i := 8) (j := 9))
    (ESs_cons (ES_set (i := 12) sc_law.nd rfl (.inl rfl) (EV_tupO T.z_tuple (EB_ofN (EN_lc rfl sc_law.nd (EI_r1 (EV_add (EV_len T.z_len (EB_of (EV_var (pv 7)))) EV_int) T.z_range) (blkOk_by (own := [("k", 10)]) (N := N_law) (sc := defScope s_law) (by decide +kernel)) (fun _ _ _ _ _ => (EG_name sc_law.nd (i := 10) rfl (by first | exact .inl rfl | exact .inr rfl))) (fun _ _ _ _ _ => ETs_nil) (fun _ _ _ _ _ => (EV_cal (ms := [.v, .v]) (ok_u_law_cost T) hr takes0 (EA_cons (EV_cal (ms := [.v, .v]) (ok_u_law_runs T) hr takes0 (EA_cons (EV_sl (EV_var (pv 7)) EO_none (EO_some (EV_var (pv 10)))) (EA_cons (EV_var (pv 3)) EA_nil))) (EA_cons (EV_var (pv 6)) EA_nil))))))))
    (ESs_cons (ES_par2 rfl sc_law.nd rfl rfl (by decide) rfl rfl (EA_cons (EV_cal (ms := [.v, .v, .v]) (ok_least_delta T) hr tk (EA_cons (EV_var (pv 8)) (EA_cons (EV_var (pv 9)) (EA_cons (EV_var (pv 6)) EA_nil)))) (EA_cons (EV_cal (ms := [.v, .v, .v]) (ok_potentials_of T) hr tk (EA_cons (EV_var (pv 8)) (EA_cons (EV_var (pv 9)) (EA_cons (EV_var (pv 6)) EA_nil)))) EA_nil)) (by rfl) (i := 13) (j := 14))
    (ESs_cons (ES_if (ET_w (EW_or (ET_cm ck_isNotB (EV_cal (ms := [.v, .v]) (ok_is_delta T) hr tk (EA_cons (EV_var (pv 8)) (EA_cons (EV_var (pv 13)) EA_nil))) EV_bl) (EW_or (ET_cm (ck_ne hr) (EV_cal (ms := [.v, .v]) (ok_applied_delta T) hr tk (EA_cons (EV_var (pv 13)) (EA_cons (EV_var (pv 8)) EA_nil))) (EV_var (pv 9))) (EW_or (ET_cm (ck_ne hr) (EV_cal (ms := [.v, .v]) (ok_delta_cost T) hr tk (EA_cons (EV_var (pv 13)) (EA_cons (EV_var (pv 6)) EA_nil))) (EV_ix hr (EV_var (pv 12)) (EV_neg EV_int))) (EW_or1 (ET_cm (ck_ne hr) (EV_var (pv 14)) (EV_var (pv 12))))))))
    (ESs_one (ES_ret EV_bl)) ESs_nil)
    (ESs_cons (ES_if (ET_w (EW_or (ET_cm ck_isNotB (EV_cal (ms := [.v, .v, .v, .v, .v]) (ok_is_least_delta T) hr tk (EA_cons (EV_var (pv 8)) (EA_cons (EV_var (pv 9)) (EA_cons (EV_var (pv 6)) (EA_cons (EV_var (pv 13)) (EA_cons (EV_var (pv 12)) EA_nil)))))) EV_bl) (EW_or1 (ET_cm (ck_ne hr) (EV_cal (ms := [.v]) (ok_read_delta T) hr tk (EA_cons (EV_cal (ms := [.v]) (ok_delta_text T) hr tk (EA_cons (EV_var (pv 13)) EA_nil)) EA_nil)) (EV_var (pv 13))))))
    (ESs_one (ES_ret EV_bl)) ESs_nil)
    (ESs_cons (ES_set (i := 15) sc_law.nd rfl (.inl rfl) (E_if (ET_cm (ck_ne hr) (EV_var (pv 9)) (EV_tup (n := 0) EA_nil)) (EV_tup (n := 1) (EA_cons (EV_tup (n := 2) (EA_cons EV_str (EA_cons (EV_var (pv 9)) EA_nil))) EA_nil)) (EV_tup (n := 0) EA_nil)))
    (ESs_cons (ES_set (i := 16) sc_law.nd rfl (.inl rfl) (EV_or (EV_cmp (ck_eq hr) (EV_var (pv 15)) (EV_tup (n := 0) EA_nil)) (EV_one (EV_cmp (ck_eq hr) (EV_add (EV_ix hr (EV_var (pv 6)) EV_int) (EV_mul (EV_ix hr (EV_var (pv 6)) EV_int) (EV_len T.z_len (EB_of (EV_var (pv 9)))))) (EV_ix hr (EV_var (pv 12)) (EV_neg EV_int))))))
    (ESs_cons (ES_if (ET_cm (ck_ne hr) (EV_cmp ck_isB (EV_cal (ms := [.v, .v, .v, .v, .v]) (ok_is_least_delta T) hr tk (EA_cons (EV_var (pv 8)) (EA_cons (EV_var (pv 9)) (EA_cons (EV_var (pv 6)) (EA_cons (EV_var (pv 15)) (EA_cons (EV_var (pv 12)) EA_nil)))))) EV_bl) (EV_var (pv 16)))
    (ESs_one (ES_ret EV_bl)) ESs_nil)
    (ESs_cons (ES_if (ET_w (EW_and (ET_cm ck_gt (EV_ix hr (EV_var (pv 12)) (EV_neg EV_int)) EV_int) (EW_and1 (ET_cm ck_isNotB (EV_cal (ms := [.v, .v, .v, .v, .v]) (ok_is_least_delta T) hr tk (EA_cons (EV_var (pv 8)) (EA_cons (EV_var (pv 9)) (EA_cons (EV_var (pv 6)) (EA_cons (EV_var (pv 13)) (EA_cons (EV_add (EV_sl (EV_var (pv 12)) EO_none (EO_some (EV_neg EV_int))) (EV_tup (n := 1) (EA_cons (EV_sub (EV_ix hr (EV_var (pv 12)) (EV_neg EV_int)) EV_int) EA_nil))) EA_nil)))))) EV_bl))))
    (ESs_one (ES_ret EV_bl)) ESs_nil)
    (ESs_one (ES_if (ET_w (EW_or (ET_cm (ck_ne hr) (EV_count (EV_cal (ms := [.v]) (ok_delta_text T) hr tk (EA_cons (EV_var (pv 13)) EA_nil)) EV_str) (EV_len T.z_len (EB_of (EV_var (pv 13))))) (EW_or1 (ET_cm ck_isNotB (EV_cal (ms := [.v, .v]) (ok_is_delta T) hr tk (EA_cons (EV_var (pv 8)) (EA_cons (EV_tup (n := 1) (EA_cons (EV_tup (n := 3) (EA_cons EV_str (EA_cons EV_int (EA_cons (EV_add (EV_var (pv 3)) EV_int) EA_nil)))) EA_nil)) EA_nil))) EV_bl))))
    (ESs_one (ES_ret EV_bl)) ESs_nil)))))))))))))))
    (ESs_one (ES_ret EV_bl))))

end
end K74

set_option maxHeartbeats 1000000
/-! steps: texts -/
namespace Fl
open PySem PySem.Spec PyProof.Rows L2
def isStrO : D → Option Unit
  | .str _ => some ()
  | _ => none
def sgO : D → Option (List D)
  | .str z => some (sgnD z)
  | _ => none
section
variable (ρ : Rho)
@[simp ↓] theorem x_strM (g : D → D → Option D) (fa fb : M D) : strM g fa fb ρ = bnd fa (fun x => bnd (lift (isStrO x)) fun _ => bnd fb fun y => lift (g x y)) ρ := (rfl)
@[simp ↓] theorem x_itStr (f : M D) : itStr f ρ = bnd f (fun d => lift (sgO d)) ρ := (rfl)
@[simp ↓] theorem x_it0k (fa fb fc : M D) : it0k fa fb fc ρ = bnd (aCons fa (aCons fb (aCons fc aNil))) (fun xs => lift (rng0k xs)) ρ := (rfl)
@[simp ↓] theorem x_indexM (fa fb : M D) : indexM fa fb ρ = bnd fa (fun x => bnd (lift (isLstV x)) fun _ => bnd fb fun y => lift (indexD x y)) ρ := (rfl)
@[simp ↓] theorem x_opS (g : D → D → Option D) (fa : M D) (j : Nat) : opS g fa j ρ = bnd fa (fun x => bnd (rd j) fun d => lift (g x d)) ρ := (rfl)
end
@[simp] theorem intXN (a : Nat) : intX (N a) = some (N a) := (rfl)
theorem isi_gen {T : String} {d : D} {t : Bool} {ty : String} (h : tyD d = ty) (h1 : ty ≠ "list") (h2 : kitB ty T = some t) : isiD T d = some (.bl t) := by
  unfold isiD
  rw [h, if_pos h1, h2]; rfl
theorem isi_int (n : Nat) : isiD "int" (N n) = some (.bl true) := isi_gen (ty := "int") rfl (by decide) (by decide +kernel)
theorem isi_intb (n : Nat) : isiD "bool" (N n) = some (.bl false) := isi_gen (ty := "int") rfl (by decide) (by decide +kernel)
theorem isi_tup (xs : List D) : isiD "tuple" (.tup xs) = some (.bl true) := isi_gen (ty := "tuple") rfl (by decide) (by decide +kernel)
theorem isi_str (x : Str) : isiD "str" (.str x) = some (.bl true) := isi_gen (ty := "str") rfl (by decide) (by decide +kernel)
end Fl

set_option maxHeartbeats 1000000
/-! texts by their signs -/
namespace Fl
open PySem PySem.Spec PyProof.Rows L2 SX
mutual
theorem pln_up : ∀ {n m : Nat}, n ≤ m → ∀ (d : D), pln n d = true → pln m d = true
  | n, m, h, .non, _ => by cases m <;> simp [pln]
  | n, m, h, .int _, _ => by cases m <;> simp [pln]
  | n, m, h, .str s, e => by cases n <;> cases m <;> simpa [pln] using e
  | n + 1, m + 1, h, .tup xs, e => by
    unfold pln at e ⊢
    exact plns_up (by omega) xs e
  | n + 1, m + 1, h, .lst xs, e => by
    unfold pln at e ⊢
    exact plns_up (by omega) xs e
  | n + 1, 0, h, .tup xs, e => by omega
  | n + 1, 0, h, .lst xs, e => by omega
  | 0, m, h, .tup xs, e => by simp [pln] at e
  | 0, m, h, .lst xs, e => by simp [pln] at e
  | n, m, h, .bl _, e => by cases n <;> simp [pln] at e
  | n, m, h, .scr _, e => by cases n <;> simp [pln] at e
  | n, m, h, .dic _, e => by cases n <;> simp [pln] at e
  | n, m, h, .dit _, e => by cases n <;> simp [pln] at e
theorem plns_up : ∀ {n m : Nat}, n ≤ m → ∀ (ds : List D), plns n ds = true → plns m ds = true
  | _, _, _, [], _ => by simp [plns]
  | n, m, h, x :: xs, e => by
    have h2 : pln n x = true ∧ plns n xs = true := by simpa [plns] using e
    unfold plns
    rw [pln_up h x h2.1, plns_up h xs h2.2]; rfl
end
theorem plns_mem {n : Nat} : ∀ {ds : List D}, plns n ds = true → ∀ {z : D}, z ∈ ds → pln n z = true
  | [], _, z, h => by cases h
  | x :: xs, e, z, h => by
    have h2 : pln n x = true ∧ plns n xs = true := by simpa [plns] using e
    rcases List.mem_cons.mp h with rfl | h
    · exact h2.1
    · exact plns_mem h2.2 h
/-- the text of these signs -/
def tD (l : List Nat) : D := .str (SX.S l)
theorem tD_inj {a b : List Nat} (h : tD a = tD b) : a = b := by
  unfold tD at h
  exact S_inj (by injection h)
theorem lenT {l : List Nat} (h : l.length < 2 ^ 20) : lenD (tD l) = some (N l.length) := by
  show (if (SX.S l).length ≤ szL then some (Fl.D.int (SX.S l).length) else none) = _
  rw [S_len, if_pos (szL_ok h)]; rfl
theorem catT {l m : List Nat} (h : l.length + m.length < 2 ^ 20) : addD (tD l) (tD m) = some (tD (l ++ m)) := by
  show (if (SX.S l).length + (SX.S m).length ≤ szL then some (Fl.D.str (SX.S l ++ SX.S m)) else none) = _
  rw [S_len, S_len, if_pos (szL_ok h), S_cat]; rfl
theorem ixT {l : List Nat} {k c : Nat} (hl : l.length < 2 ^ 20) (h : l[k]? = some c) : ixD (tD l) (N k) = some (tD [c]) := by
  show (if (SX.S l).length ≤ szL then (atI (SX.S l).cps.toList (k : Int)).map fun n => Fl.D.str ⟨#[n]⟩ else none) = _
  rw [S_len, if_pos (szL_ok hl), atN (show (SX.S l).cps.toList[k]? = some c from h)]; rfl
theorem inT1 (c : Nat) (l : List Nat) : inX (tD [c]) (tD l) = some (.bl (decide (c ∈ l))) := by
  show some (Fl.D.bl (!(Builtin.Str.occurrences (SX.S l) (SX.S [c]) 0 (SX.S l).length 1).isEmpty)) = _
  rw [in_one]
theorem sgnT (l : List Nat) : sgnD (SX.S l) = l.map fun c => tD [c] := rfl
theorem strsT (ls : List (List Nat)) : strsD (ls.map tD) = some (ls.map SX.S) := by
  have : ls.map tD = (ls.map SX.S).map D.str := by rw [List.map_map]; rfl
  rw [this, strsD_map]
theorem joinT {sep : List Nat} {ls : List (List Nat)} (h : (ls.map List.length).sum + ls.length * sep.length < 2 ^ 20) : joinD (tD sep) (.lst (ls.map tD)) = some (tD (TL.joinL sep ls)) := by
  show ((some (ls.map tD)).bind strsD).bind (fun ys => if (ys.map (·.length)).sum + ys.length * (SX.S sep).length ≤ szL then some (Fl.D.str (Txt.join (SX.S sep) ys)) else none) = _
  rw [Option.bind_some, strsT, Option.bind_some, lens, List.length_map, S_len, if_pos (szL_ok h), join_S]; rfl
theorem joinL_nil : ∀ ls : List (List Nat), TL.joinL [] ls = ls.flatten
  | [] => rfl
  | [a] => by simp [TL.joinL]
  | a :: b :: r => by
    show a ++ ([] ++ TL.joinL [] (b :: r)) = _
    rw [joinL_nil (b :: r)]; simp
theorem joinT0 {ls : List (List Nat)} (h : (ls.map List.length).sum < 2 ^ 20) : joinD (tD []) (.lst (ls.map tD)) = some (tD ls.flatten) := by
  rw [joinT (by simpa using h), joinL_nil]
theorem splitT {a b : List Nat} (hb : b ≠ []) (hk : b.all (· < 256) = true) (ha : a.length + 2 < 2 ^ 20) : splitD (tD a) (tD b) = some (.lst ((TL.spl b 0 [] a).map tD)) := by
  have h0 : ((SX.S b).length == 0) = false := by
    rw [S_len]
    cases b with
    | nil => exact absurd rfl hb
    | cons x b => rfl
  show (if ((SX.S b).length == 0) = false ∧ (SX.S a).length + 2 ≤ szL then some (Fl.D.lst ((Txt.split (SX.S a) (SX.S b)).map D.str)) else none) = _
  rw [if_pos ⟨h0, by rw [S_len]; exact szL_ok ha⟩, split_S hb hk, List.map_map]; rfl
theorem splitJ {c : Nat} {ls : List (List Nat)} (hc : c < 256) (hne : ls ≠ []) (h : ∀ p ∈ ls, c ∉ p) (hl : (TL.joinL [c] ls).length + 2 < 2 ^ 20) : splitD (tD (TL.joinL [c] ls)) (tD [c]) = some (.lst (ls.map tD)) := by
  rw [splitT (by simp) (by simp [hc]) hl, spl_join hne h]
theorem log2_le {n k : Nat} (h : n < 2 ^ k) (hk : 0 < k) : n.log2 + 1 ≤ k := by
  rcases Nat.eq_zero_or_pos n with h0 | h0
  · subst h0
    have : Nat.log2 0 = 0 := by decide
    omega
  · have := (Nat.log2_lt (by omega)).mpr h; omega
theorem strT {n : Nat} (h : n < 2 ^ 64) : strD (N n) = some (tD (TL.numL n)) := by
  have h1 : Nat.ble (((n : Int).natAbs).log2 + 1) 1920 = true := by
    rw [Nat.ble_eq, Int.natAbs_natCast]
    have := log2_le h (by omega); omega
  show (if Nat.ble (((n : Int).natAbs).log2 + 1) 1920 = true then some (Fl.D.str (Str.ofString (toString (n : Int)))) else none) = _
  rw [if_pos h1, num_S]; rfl
theorem numL_len64 {n : Nat} (h : n < 2 ^ 64) : (TL.numL n).length ≤ 20 := TL.numL_len (by omega) (by omega)
theorem intTN {n : Nat} (h : n < 2 ^ 64) : intX (tD (TL.numL n)) = some (N n) := by
  have hl := numL_len64 h
  have h2 : PySem.intText? (SX.S (TL.numL n)) = some (n : Int) := by
    have := TL.int_num (n := n) (by omega)
    rwa [num_S] at this
  show intT (SX.S (TL.numL n)) = _
  unfold intT
  rw [h2]
  simp only [S_len]
  rw [if_pos (by omega)]; rfl
def okT (l : List Nat) : Prop := ∀ c ∈ l, c < 1114112
theorem plnT {n : Nat} {l : List Nat} (h : okT l) : pln n (tD l) = true := by
  have : PyData.strOk (SX.S l) = true := by
    show (l.toArray.all (· < 0x110000)) = true
    rw [List.all_toArray, List.all_eq_true]
    intro c hc
    have := h c hc
    simpa using this
  unfold tD
  cases n <;> simpa [pln] using this
theorem eqT {a b : List Nat} (ha : okT a) (hb : okT b) : eqD (tD a) (tD b) = some (.bl (decide (a = b))) := by
  by_cases h : a = b
  · subst h; rw [eqD_self (plnT ha)]; simp
  · rw [eqD_ne (plnT ha) (plnT hb) fun z => h (tD_inj z)]; simp [h]
theorem neT {a b : List Nat} (ha : okT a) (hb : okT b) : neD (tD a) (tD b) = some (.bl (!decide (a = b))) := by
  by_cases h : a = b
  · subst h; rw [neD_self (plnT ha)]; simp
  · rw [neD_ne (plnT ha) (plnT hb) fun z => h (tD_inj z)]; simp [h]
@[simp] theorem isStrT (l : List Nat) : isStrO (tD l) = some () := (rfl)
@[simp] theorem sgT (l : List Nat) : sgO (tD l) = some (l.map fun c => tD [c]) := (rfl)
theorem allT (bs : List Bool) : allD (.lst (bs.map D.bl)) = some (.bl (bs.all id)) := by
  show ((some (bs.map D.bl)).bind blsD).map _ = _
  rw [Option.bind_some, blsD_map]; rfl
theorem allT1 {α : Type} {xs : List α} {f : α → Bool} (h : ∀ x ∈ xs, f x = true) : allD (.lst (xs.map fun x => D.bl (f x))) = some (.bl true) := by
  have : xs.map (fun x => D.bl (f x)) = (xs.map f).map D.bl := by rw [List.map_map]; rfl
  rw [this, allT]
  congr 2
  rw [List.all_map]
  exact List.all_eq_true.mpr h
theorem rng0kN {n k : Nat} (hk : 0 < k) (hk2 : k < 1000000) (hn : n * k < 2 ^ 40) : rng0k [N 0, N (n * k), N k] = some ((List.range n).map fun i => N (k * i)) := by
  show (if (0 : Int) = 0 ∧ okR ((n * k : Nat) : Int) = true ∧ 0 ≤ ((n * k : Nat) : Int) ∧ 0 < (k : Int) ∧ (k : Int) < 1000000 then some (countD 0 k (Builtin.Range.rangeSize 0 ((n * k : Nat) : Int) k).toNat) else none) = _
  rw [if_pos ⟨rfl, okR_iff.mpr ⟨by omega, by omega⟩, by omega, by omega, by omega⟩]
  have e := PyProof.Rows.rangeSize_pos (len := ((n * k : Nat) : Int)) (c := (k : Int)) (by omega) (by omega)
  have e2 : (((n * k : Nat) : Int) + k - 1) / k = n := by
    have h1 : (((n * k : Nat) : Int) + k - 1) = (k - 1 : Int) + n * k := by push_cast; omega
    rw [h1, Int.add_mul_ediv_right _ _ (by omega), Int.ediv_eq_zero_of_lt (by omega) (by omega), Int.zero_add]
  rw [e, e2, Int.toNat_natCast]
  unfold countD
  congr 1
  apply List.map_congr_left
  intro i _
  show D.int (0 + (i : Int) * (k : Int)) = D.int ((k * i : Nat) : Int)
  congr 1; push_cast; rw [Int.zero_add, Int.mul_comm]
/-- a comprehension with a test -/
theorem lc_tf {v : Nat} {t : M Bool} {fe : M D} {ρ : Rho} {p : D → Bool} {f : D → D} : ∀ {ds : List D}, (∀ d ∈ ds, t ((ρ.set v none).set v (some d)) = .ok (p d) ((ρ.set v none).set v (some d))) → (∀ d ∈ ds, p d = true → fe ((ρ.set v none).set v (some d)) = .ok (f d) ((ρ.set v none).set v (some d))) → lcGo (gNam v) t fe [v] ds (ρ.set v none) = some ((ds.filter p).map f, ρ.set v none)
  | [], _, _ => rfl
  | d :: ds, h, h2 => by
    unfold lcGo
    simp only [gNam_x]
    rw [h d (by simp)]
    have ih := lc_tf (t := t) (fe := fe) (ρ := ρ) (p := p) (f := f) (ds := ds) (fun e he => h e (by simp [he])) (fun e he => h2 e (by simp [he]))
    cases hp : p d with
    | false => simp only [wipe_1, List.set_set, hp]; rw [ih]; simp [hp]
    | true => simp only [hp]; rw [h2 d (by simp) hp]; simp only [wipe_1, List.set_set]; rw [ih]; simp [hp]
theorem lc_tk {v : Nat} {t : M Bool} {fe : M D} {ρ : Rho} {p : D → Bool} {f : D → D} {ds : List D} (hl : ds.length ≤ szL) (h : ∀ d ∈ ds, t ((ρ.set v none).set v (some d)) = .ok (p d) ((ρ.set v none).set v (some d))) (h2 : ∀ d ∈ ds, p d = true → fe ((ρ.set v none).set v (some d)) = .ok (f d) ((ρ.set v none).set v (some d))) :
    lcK (gNam v) t fe [v] ds ρ = .ok (.lst ((ds.filter p).map f)) ((ρ.set v none).set v (get ρ v)) := by
  unfold lcK
  rw [if_pos hl]
  simp only [wipe_1]
  rw [lc_tf h h2]
  simp only [unw_1]
theorem cut_mid {α : Type} (xs : List α) (a b : Nat) : cutA xs (some (a : Int)) (some (b : Int)) = (xs.drop a).take (b - a) := by
  unfold cutA
  rw [HT.sIx_nat, HT.sIx_nat]
  rcases Nat.le_total xs.length a with h | h
  · rw [Nat.min_eq_right h, List.drop_length, List.drop_of_length_le h]; simp
  · rw [Nat.min_eq_left h]
    rcases Nat.le_total xs.length b with h2 | h2
    · rw [Nat.min_eq_right h2, List.take_of_length_le (by simp), List.take_of_length_le (by simp; omega)]
    · rw [Nat.min_eq_left h2]
theorem cut_last {α : Type} (xs : List α) : cutA xs none (some (-1)) = xs.dropLast := by
  unfold cutA
  rw [HT.sIx_none, List.drop_zero, Nat.sub_zero]
  have : HT.sIx xs.length xs.length (some (-1)) = xs.length - 1 := by
    show (if (-1 : Int) < 0 then ((-1 : Int) + (xs.length : Int)).toNat else min (-1 : Int).toNat xs.length) = _
    rw [if_pos (by omega)]; omega
  rw [this, List.dropLast_eq_take]
theorem ixN_last {n : Nat} (h : 0 < n) : ixN n (-1) = some (n - 1) := by
  unfold ixN
  simp
  omega
theorem hasT_lst (x : D) (ds : List D) : hasT x (.lst ds) = none := by cases x <;> rfl
theorem inX_no {x : D} {ds : List D} (hx : pln 63 x = true) (hd : plns 63 ds = true) (h : ∀ z ∈ ds, z ≠ x) : inX x (.lst ds) = some (.bl false) := by
  have h1 := shaped_pln (show pln 64 x = true from by
    have := pln_lay 63 x hx
    exact pln_up (by omega) x hx)
  have h2 := shaped_pln (show pln 64 (.lst ds) = true from pln_lst hd)
  unfold inX
  rw [hasT_lst]
  show (inB x (.lst ds)).map D.bl = _
  show (if SeqAt.shaped (toP x) = true ∧ SeqAt.shaped (toP (.lst ds)) = true then some (ds.any fun z => PyData.eqv (toP z) (toP x)) else none).map D.bl = _
  rw [if_pos ⟨h1, h2⟩]
  show some (D.bl _) = _
  congr 2
  rw [List.any_eq_false]
  intro z hz e
  exact h z hz (pln_inj 63 63 z x (plns_mem hd hz) hx e)
theorem inX_yes {x : D} {ds : List D} (hx : pln 63 x = true) (hd : plns 63 ds = true) (h : x ∈ ds) : inX x (.lst ds) = some (.bl true) := by
  have h1 := shaped_pln (show pln 64 x = true from pln_up (by omega) x hx)
  have h2 := shaped_pln (show pln 64 (.lst ds) = true from pln_lst hd)
  unfold inX
  rw [hasT_lst]
  show (if SeqAt.shaped (toP x) = true ∧ SeqAt.shaped (toP (.lst ds)) = true then some (ds.any fun z => PyData.eqv (toP z) (toP x)) else none).map D.bl = _
  rw [if_pos ⟨h1, h2⟩]
  show some (D.bl _) = _
  congr 2
  rw [List.any_eq_true]
  exact ⟨x, h, PySem.SeqAt.eqv_refl _ (pln_lay 63 x hx).1⟩
theorem joinL_ends (c : Nat) : ∀ ls : List (List Nat), (ls.map fun l => l ++ [c]).flatten = TL.joinL [c] (ls ++ [[]])
  | [] => rfl
  | [l] => by simp [TL.joinL]
  | l :: m :: r => by
    have ih := joinL_ends c (m :: r)
    show (l ++ [c]) ++ ((m :: r).map fun l => l ++ [c]).flatten = l ++ ([c] ++ TL.joinL [c] ((m :: r) ++ [[]]))
    rw [ih]; simp
theorem occ_len {a b : List Nat} (hb : b ≠ []) (hk : b.all (· < 256) = true) : (Builtin.Str.occurrences (SX.S a) (SX.S b) 0 (SX.S a).length ((SX.S a).length + 1)).length + 1 = (TL.spl b 0 [] a).length := by
  have e := congrArg List.length (split_S (a := a) hb hk)
  rw [List.length_map] at e
  rw [← e]
  have nk := TL.kind_ok (x := SX.S a) (y := SX.S b) (all256 hk)
  unfold Txt.split
  by_cases h1 : (SX.S a).length < (SX.S b).length
  · have h2 : Builtin.Str.occurrences (SX.S a) (SX.S b) 0 (SX.S a).length ((SX.S a).length + 1) = [] := by
      cases q : Builtin.Str.occurrences (SX.S a) (SX.S b) 0 (SX.S a).length ((SX.S a).length + 1) with
      | nil => rfl
      | cons i r =>
        have := (PySem.StrLaws.occ_spec (SX.S a) (SX.S b) 0 (SX.S a).length ((SX.S a).length + 1) i (by rw [q]; simp)).1
        omega
    rw [h2]
    simp [h1]
  · rw [if_neg (by simp [h1, nk])]
    cases q : Builtin.Str.occurrences (SX.S a) (SX.S b) 0 (SX.S a).length ((SX.S a).length + 1) with
    | nil => simp
    | cons i r =>
      rw [if_neg (by simp)]
      rw [PySem.length_partsBetween]
theorem countT {a : List Nat} {c : Nat} (hc : c < 256) : countSD (tD a) (tD [c]) = some (N ((TL.spl [c] 0 [] a).length - 1)) := by
  have := occ_len (a := a) (b := [c]) (by simp) (by simp [hc])
  show some (Fl.D.int (Txt.count (SX.S a) (SX.S [c]))) = _
  unfold Txt.count
  unfold N
  congr 2
  omega
theorem okT_num (n : Nat) : okT (TL.numL n) := fun c hc => by
  have := TL.numL_digits n c hc; omega
theorem okT_app {a b : List Nat} (ha : okT a) (hb : okT b) : okT (a ++ b) := fun c hc => by
  rcases List.mem_append.mp hc with h | h
  · exact ha c h
  · exact hb c h
end Fl

set_option maxHeartbeats 1000000
/-! literals (printed by mklit.py) -/
namespace K74
open PySem PySem.Spec PyProof.Rows L2 Fl
theorem i_0 : Fl.D.int 0 = N 0 := (rfl)
theorem i_1 : Fl.D.int 1 = N 1 := (rfl)
theorem i_2 : Fl.D.int 2 = N 2 := (rfl)
theorem i_3 : Fl.D.int 3 = N 3 := (rfl)
theorem i_4 : Fl.D.int 4 = N 4 := (rfl)
theorem i_5 : Fl.D.int 5 = N 5 := (rfl)
theorem i_6 : Fl.D.int 6 = N 6 := (rfl)
theorem i_7 : Fl.D.int 7 = N 7 := (rfl)
theorem i_8 : Fl.D.int 8 = N 8 := (rfl)
theorem i_9 : Fl.D.int 9 = N 9 := (rfl)
theorem i_10 : Fl.D.int 10 = N 10 := (rfl)
theorem i_12 : Fl.D.int 12 = N 12 := (rfl)
theorem i_16 : Fl.D.int 16 = N 16 := (rfl)
theorem i_18 : Fl.D.int 18 = N 18 := (rfl)
theorem i_20 : Fl.D.int 20 = N 20 := (rfl)
theorem i_60 : Fl.D.int 60 = N 60 := (rfl)
theorem i_250 : Fl.D.int 250 = N 250 := (rfl)
theorem i_251 : Fl.D.int 251 = N 251 := (rfl)
theorem i_256 : Fl.D.int 256 = N 256 := (rfl)
theorem i_300 : Fl.D.int 300 = N 300 := (rfl)
theorem i_997 : Fl.D.int 997 = N 997 := (rfl)
theorem i_4000 : Fl.D.int 4000 = N 4000 := (rfl)
theorem i_16807 : Fl.D.int 16807 = N 16807 := (rfl)
theorem i_48271 : Fl.D.int 48271 = N 48271 := (rfl)
theorem i_65521 : Fl.D.int 65521 = N 65521 := (rfl)
theorem i_65537 : Fl.D.int 65537 = N 65537 := (rfl)
theorem i_69621 : Fl.D.int 69621 = N 69621 := (rfl)
theorem i_1000003 : Fl.D.int 1000003 = N 1000003 := (rfl)
theorem l_0 : Fl.D.str (PySem.Str.ofString "") = tD [] := congrArg Fl.D.str (by decide +kernel)
theorem l_1 : Fl.D.str (PySem.Str.ofString "\n") = tD [10] := congrArg Fl.D.str (by decide +kernel)
theorem l_2 : Fl.D.str (PySem.Str.ofString " ") = tD [32] := congrArg Fl.D.str (by decide +kernel)
theorem l_3 : Fl.D.str (PySem.Str.ofString "0") = tD [48] := congrArg Fl.D.str (by decide +kernel)
theorem l_4 : Fl.D.str (PySem.Str.ofString "0123456789") = tD [48, 49, 50, 51, 52, 53, 54, 55, 56, 57] := congrArg Fl.D.str (by decide +kernel)
theorem l_5 : Fl.D.str (PySem.Str.ofString "0123456789abcdef") = tD [48, 49, 50, 51, 52, 53, 54, 55, 56, 57, 97, 98, 99, 100, 101, 102] := congrArg Fl.D.str (by decide +kernel)
theorem l_6 : Fl.D.str (PySem.Str.ofString "at") = tD [97, 116] := congrArg Fl.D.str (by decide +kernel)
theorem l_7 : Fl.D.str (PySem.Str.ofString "bad line ") = tD [98, 97, 100, 32, 108, 105, 110, 101, 32] := congrArg Fl.D.str (by decide +kernel)
theorem l_8 : Fl.D.str (PySem.Str.ofString "copy") = tD [99, 111, 112, 121] := congrArg Fl.D.str (by decide +kernel)
theorem l_9 : Fl.D.str (PySem.Str.ofString "copy ") = tD [99, 111, 112, 121, 32] := congrArg Fl.D.str (by decide +kernel)
theorem l_10 : Fl.D.str (PySem.Str.ofString "delta") = tD [100, 101, 108, 116, 97] := congrArg Fl.D.str (by decide +kernel)
theorem l_11 : Fl.D.str (PySem.Str.ofString "draws") = tD [100, 114, 97, 119, 115] := congrArg Fl.D.str (by decide +kernel)
theorem l_12 : Fl.D.str (PySem.Str.ofString "put") = tD [112, 117, 116] := congrArg Fl.D.str (by decide +kernel)
theorem l_13 : Fl.D.str (PySem.Str.ofString "put ") = tD [112, 117, 116, 32] := congrArg Fl.D.str (by decide +kernel)
theorem l_14 : Fl.D.str (PySem.Str.ofString "unfit: ") = tD [117, 110, 102, 105, 116, 58, 32] := congrArg Fl.D.str (by decide +kernel)
end K74

set_option maxHeartbeats 4000000
/-! draws -/
namespace K74
open PySem PySem.Spec PyProof.Rows L2 Fl
def wD (l : List Nat) (k : Nat) : D := .dic [(.inr (PySem.Str.ofString "draws"), .lst (l.map N)), (.inr (PySem.Str.ofString "at"), N k)]
theorem ne1 : ¬ (PySem.Str.ofString "draws" = PySem.Str.ofString "at") := by decide
theorem look_at (l : List Nat) (k : Nat) : lookD (wD l k) (.str (PySem.Str.ofString "at")) = some (some (N k)) := by
  have : getE (κ := Key) [(.inr (PySem.Str.ofString "draws"), Fl.D.lst (l.map N)), (.inr (PySem.Str.ofString "at"), N k)] (.inr (PySem.Str.ofString "at")) = some (N k) := by
    unfold getE
    simp [List.find?, ne1]
  unfold wD lookD keyOf
  simp only [Option.map_some]
  rw [this]
theorem ix_at (l : List Nat) (k : Nat) : ixD (wD l k) (.str (PySem.Str.ofString "at")) = some (N k) := by
  unfold wD ixD lookD keyOf getE
  simp [List.find?, ne1]
theorem ix_dr (l : List Nat) (k : Nat) : ixD (wD l k) (.str (PySem.Str.ofString "draws")) = some (.lst (l.map N)) := by
  unfold wD ixD lookD keyOf getE
  simp [List.find?]
theorem put_at (l : List Nat) (k j : Nat) : putD (wD l k) (.str (PySem.Str.ofString "at")) (N j) = some (wD l j) := by
  unfold wD putD keyOf
  simp [putE, szL, ne1]
theorem v_next (l : List Nat) (k n : Nat) (hn : 0 < n) : ∃ r, r < n ∧ F_u_law_next [wD l k, N n] = .ok (N r) [some (wD l (k + 1)), none] := by
  have g1 : gI (fun _ _ => true) (· + ·) (N k) (N 1) = some (N (k + 1)) := rfl
  have ln : lenD (.lst (l.map N)) = some (N l.length) := by
    show some (Fl.D.int (l.map N).length) = _
    rw [List.length_map]; rfl
  by_cases h : l.length < k + 1
  · refine ⟨0, hn, ?_⟩
    unfold F_u_law_next runF S_u_law_next
    simp [List.replicate, daugS, look_at, g1, putS, put_at, ix_at, ix_dr, ln, h]
  · have hk : (l.map N)[k]? = some (N l[k]) := by
      rw [List.getElem?_map, List.getElem?_eq_getElem (by omega)]; rfl
    refine ⟨l[k] % n, Nat.mod_lt _ hn, ?_⟩
    unfold F_u_law_next runF S_u_law_next
    simp [List.replicate, daugS, look_at, g1, putS, put_at, ix_at, ix_dr, ln, h, subN (show 1 ≤ k + 1 by omega), ixLN hk, modN hn]
/-- the draws are naturals -/
theorem dr_in (sc : Fl.D) (m2 j c : Nat) (lim : Nat) (l3 : List Nat) (r : Nat) (d : Option Fl.D) (h3 : l3.length < 2 ^ 20) : ∃ (l4 : List Nat) (r2 : Nat), b2_u_law_draws [some sc, some (N 300), some (.lst (l3.map N)), some (N m2), some (N j), some (N c), some (N r), d] = .nx [some sc, some (N 300), some (.lst (l4.map N)), some (N m2), some (N j), some (N c), some (N r2), d] ∧ l4.length ≤ l3.length + 1 := by
  unfold b2_u_law_draws
  by_cases hr : 0 < r
  · refine ⟨l3 ++ [r % 997], r / 997, ?_, by simp⟩
    simp [hr, modN, divN, x_updS, appL (xs := l3.map N) (by simpa using h3)]
  · refine ⟨l3, r, ?_, by simp⟩
    simp [hr]
theorem gen_mix (A B Md : Nat) (hA : A < 2 ^ 64) (hB : 0 < B) (hM : 0 < Md) (s0 s1 s2 : Option Fl.D) (m j x : Nat) (c d : Option Fl.D) : ∃ m2, setS 3 (op2 modD (op1 intX (op2 addD (op2 addD (op2 mulD (rd 3) (pur (N A))) (op2 modD (rd 5) (pur (N B)))) (rd 4))) (pur (N Md))) [s0, s1, s2, some (N m), some (N j), some (N x), c, d] = .nx [s0, s1, s2, some (N m2), some (N j), some (N x), c, d] :=
  ⟨(m * A + x % B + j) % Md, by simp [mulN (a := m) (b := A) (.inr hA), modN hB, modN hM]⟩
theorem gen_two (Q A C M2 : Nat) (hQ : 0 < Q) (hA : A < 2 ^ 64) (hM : 0 < M2) (s0 s1 : Option Fl.D) (l : List Nat) (m j x : Nat) (c d : Option Fl.D) (hl : l.length + 1 < 2 ^ 20) : ∃ l2 : List Nat, (sq (thn (methM 2 appD (aCons (op2 modD (op1 intX (rd 5)) (pur (N Q))) aNil)) fun _ => skip)
    (thn (methM 2 appD (aCons (op2 modD (op2 modD (op1 intX (op2 addD (op2 mulD (rd 3) (pur (N A))) (pur (N C)))) (pur (N M2))) (pur (N Q))) aNil)) fun _ => skip)) [s0, s1, some (.lst (l.map N)), some (N m), some (N j), some (N x), c, d] = .nx [s0, s1, some (.lst (l2.map N)), some (N m), some (N j), some (N x), c, d] ∧ l2.length ≤ l.length + 2 :=
  ⟨l ++ [x % Q, (m * A + C) % M2 % Q], by simp [modN hQ, modN hM, x_updS, appL (xs := l.map N) (by simp; omega), mulN (a := m) (b := A) (.inr hA), appL (xs := l.map N ++ [N (x % Q)]) (by simp; omega)], by simp⟩
theorem gen_tail (A Md Q : Nat) (hA : A < 2 ^ 64) (hM : 0 < Md) (hQ : 0 < Q) (s0 s1 : Option Fl.D) (l3 : List Nat) (m i : Nat) (b c d : Option Fl.D) (h3 : l3.length < 2 ^ 20) : ∃ (l4 : List Nat) (m2 : Nat), (sq (setS 3 (op2 modD (op1 intX (op2 addD (op2 addD (op2 mulD (rd 3) (pur (N A))) (rd 4)) (pur (N 1)))) (pur (N Md))))
    (thn (methM 2 appD (aCons (op2 modD (op1 intX (rd 3)) (pur (N Q))) aNil)) fun _ => skip)) [s0, s1, some (.lst (l3.map N)), some (N m), some (N i), b, c, d] = .nx [s0, s1, some (.lst (l4.map N)), some (N m2), some (N i), b, c, d] ∧ l4.length ≤ l3.length + 1 :=
  ⟨l3 ++ [(m * A + i + 1) % Md % Q], (m * A + i + 1) % Md, by simp [mulN (a := m) (b := A) (.inr hA), modN hM, modN hQ, x_updS, appL (xs := l3.map N) (by simpa using h3)], by simp⟩
theorem wq_ex {s : S} {ρ ρ' : Rho} {Qn : Rho → Prop} {Qr : Fl.D → Rho → Prop} (h : s ρ = .nx ρ') (k : Qn ρ') : wq (s ρ) Qn Qr := by rw [h]; exact k
theorem dr_out (ns : List Int) (hns : ns.length ≤ 63) (l : List Nat) (m j : Nat) (a b c d : Option Fl.D) (hl : l.length ≤ 62 * j) (hj : j < ns.length) : wq (b3_u_law_draws [some (.scr (ns.map D.int)), some (N 300), some (.lst (l.map N)), some (N m), some (N j), b, c, d])
    (fun ρ => ∃ (l : List Nat) (m : Nat) (a b c d : Option Fl.D), ρ = [some (Fl.D.scr (ns.map D.int)), some (N 300), some (.lst (l.map N)), some (N m), a, b, c, d] ∧ l.length ≤ 62 * (j + 1)) (fun _ _ => False) := by
  have ii : ixD (Fl.D.scr (ns.map D.int)) (N j) = some (.int ns[j]) := ixSN (by rw [List.getElem?_map, List.getElem?_eq_getElem hj]; rfl)
  have ab : absD (.int ns[j]) = some (N ns[j].natAbs) := by
    show some (Fl.D.int _) = some (Fl.D.int _)
    congr 2
    split <;> omega
  have fi : intX (.int ns[j]) = some (.int ns[j]) := rfl
  generalize hx : ns[j].natAbs = x at ab
  generalize (Fl.D.scr (ns.map D.int)) = sc at ii ⊢
  unfold b3_u_law_draws
  refine wq_sqx (ρ' := [some sc, some (N 300), some (.lst (l.map N)), some (N m), some (N j), some (N x), c, d]) (by simp [ii, fi, ab]) ?_
  obtain ⟨m2, em⟩ := gen_mix 48271 1000003 65537 (by omega) (by omega) (by omega) (some sc) (some (N 300)) (some (.lst (l.map N))) m j x c d
  refine wq_sqx em ?_
  clear em
  refine wq_sqx (ρ' := [some sc, some (N 300), some (.lst (l.map N)), some (N m2), some (N j), some (N x), some (N 0), d]) (by simp) ?_
  have pw : powD (N 10) (N 18) = some (N (10 ^ 18)) := powN (by omega) (by omega)
  have e1 : ∃ (l2 : List Nat) (r : Nat), (ifS (tst (op2 geD (rd 5) (op2 powD (pur (.int 10)) (pur (.int 18))))) (setS 6 (rd 5)) (sq (thn (methM 2 appD (aCons (op2 modD (op1 intX (rd 5)) (pur (.int 997))) aNil)) fun _ => skip)
    (thn (methM 2 appD (aCons (op2 modD (op2 modD (op1 intX (op2 addD (op2 mulD (rd 3) (pur (.int 69621))) (pur (.int 5)))) (pur (.int 65521))) (pur (.int 997))) aNil)) fun _ => skip))) [some sc, some (N 300), some (.lst (l.map N)), some (N m2), some (N j), some (N x), some (N 0), d] = .nx [some sc, some (N 300), some (.lst (l2.map N)), some (N m2), some (N j), some (N x), some (N r), d] ∧ l2.length ≤ l.length + 2 := by
    by_cases hc : 10 ^ 18 ≤ x
    · refine ⟨l, x, ?_, by omega⟩
      simp at hc
      simp [pw, hc]
    · obtain ⟨l2, e2, h2⟩ := gen_two 997 69621 5 65521 (by omega) (by omega) (by omega) (some sc) (some (N 300)) l m2 j x (some (N 0)) d (by omega)
      refine ⟨l2, 0, ?_, h2⟩
      have ge : geD (N x) (N (10 ^ 18)) = some (.bl false) := by rw [geN, decide_eq_false hc]
      refine Eq.trans ?_ e2
      unfold ifS Fl.thn tst op2
      simp only [x_bnd, x_rd, get_s, get_0, x_lift, x_pur, lit10, lit18, pw, ge, tru_bl]
      rfl
  obtain ⟨l2, r, e1, h2⟩ := e1
  refine wq_sqx e1 ?_
  have r60 := rng1N (n := 60) (by omega)
  refine wq_for (fun i ρ => ∃ (l3 : List Nat) (r : Nat) (d : Option Fl.D), ρ = [some sc, some (N 300), some (.lst (l3.map N)), some (N m2), some (N j), some (N x), some (N r), d] ∧ l3.length ≤ l2.length + i) (ds := (List.range 60).map N) (ρ1 := [some sc, some (N 300), some (.lst (l2.map N)), some (N m2), some (N j), some (N x), some (N r), d]) (by simp [r60]) ⟨l2, r, d, rfl, by omega⟩ (fun i d ρ hi ⟨l3, r, d2, e, h3⟩ => ?_) (fun ρ ⟨l3, r, d, e, h3⟩ => ?_)
  · subst e
    have hi2 : i < 60 := by
      have := (List.getElem?_eq_some_iff.mp hi).1
      simpa using this
    obtain ⟨l4, r2, e4, h4⟩ := dr_in sc m2 j x 0 l3 r (some d) (by omega)
    refine ⟨_, rfl, ?_⟩
    exact wq_ex e4 ⟨l4, r2, _, rfl, by omega⟩
  · subst e
    refine ⟨l3, m2, _, _, _, _, rfl, ?_⟩
    simp at h3; omega
theorem dr_tail (sc : Fl.D) (i : Nat) (l3 : List Nat) (m : Nat) (b c d : Option Fl.D) (h3 : l3.length < 2 ^ 20) : ∃ (l4 : List Nat) (m2 : Nat), b1_u_law_draws [some sc, some (N 300), some (.lst (l3.map N)), some (N m), some (N i), b, c, d] = .nx [some sc, some (N 300), some (.lst (l4.map N)), some (N m2), some (N i), b, c, d] ∧ l4.length ≤ l3.length + 1 := by
  exact gen_tail 16807 65537 997 (by omega) (by omega) (by omega) (some sc) (some (N 300)) l3 m i b c d h3
theorem cut_map {α β : Type} (f : α → β) (xs : List α) (lo hi : Option Int) : cutA (xs.map f) lo hi = (cutA xs lo hi).map f := by
  unfold cutA
  rw [List.length_map, ← List.map_drop, ← List.map_take]
theorem v_draws (ns : List Int) (hns : ns.length ≤ 63) : ∃ l : List Nat, F_u_law_draws [.scr (ns.map D.int), N 300] = .ok (.lst (l.map N)) [none, none] := by
  have key : ∃ d outs, F_u_law_draws [.scr (ns.map D.int), N 300] = .ok d outs ∧ (∃ l : List Nat, d = .lst (l.map N)) ∧ outs = [none, none] := by
    unfold F_u_law_draws
    refine runF_of (post := fun d outs => (∃ l : List Nat, d = .lst (l.map N)) ∧ outs = [none, none]) rfl ?_
    unfold S_u_law_draws
    have ln : lenD (Fl.D.scr (ns.map D.int)) = some (N ns.length) := by
      show some (Fl.D.int (ns.map Fl.D.int).length) = _
      rw [List.length_map]; rfl
    have rl := rng1N (n := ns.length) (by omega)
    have r4 := rng1N (n := 300) (by omega)
    simp only [List.map_cons, List.map_nil, List.replicate, List.cons_append, List.nil_append]
    refine wq_sqx (ρ' := [some (Fl.D.scr (ns.map D.int)), some (N 300), some (.lst ([].map N)), none, none, none, none, none]) (by simp) ?_
    refine wq_sqx (ρ' := [some (Fl.D.scr (ns.map D.int)), some (N 300), some (.lst ([].map N)), some (N 7), none, none, none, none]) (by simp) ?_
    apply wq_sq
    refine (wq_for (fun j ρ => ∃ (l : List Nat) (m : Nat) (a b c d : Option Fl.D), ρ = [some (Fl.D.scr (ns.map D.int)), some (N 300), some (.lst (l.map N)), some (N m), a, b, c, d] ∧ l.length ≤ 62 * j) (ds := (List.range ns.length).map N) (ρ1 := [some (Fl.D.scr (ns.map D.int)), some (N 300), some (.lst ([].map N)), some (N 7), none, none, none, none]) (by simp [ln, rl])
      ⟨[], 7, none, none, none, none, rfl, by simp⟩ (fun j d ρ hj ⟨l, m, a, b, c, dd, e, hl⟩ => ?_) (fun ρ ⟨l, m, a, b, c, d, e, hl⟩ => ?_))
    · have hjn : j < ns.length := by
        have := (List.getElem?_eq_some_iff.mp hj).1
        simpa using this
      have hd : d = N j := by
        rw [List.getElem?_map, List.getElem?_range hjn] at hj
        exact (Option.some.inj hj).symm
      subst e hd
      exact ⟨_, rfl, wq_mono (dr_out ns hns l m j a b c dd hl hjn) (fun _ h => h) (fun _ _ h => h.elim)⟩
    · subst e
      have hl' : l.length ≤ 62 * ns.length := by simpa using hl
      apply wq_sq
      refine (wq_for (fun i ρ => ∃ (l3 : List Nat) (m : Nat) (a b c d : Option Fl.D), ρ = [some (Fl.D.scr (ns.map D.int)), some (N 300), some (.lst (l3.map N)), some (N m), a, b, c, d] ∧ l3.length ≤ l.length + i) (ds := (List.range 300).map N) (ρ1 := [some (Fl.D.scr (ns.map D.int)), some (N 300), some (.lst (l.map N)), some (N m), a, b, c, d]) (by simp [r4])
        ⟨l, m, a, b, c, d, rfl, by omega⟩ (fun i d ρ hi ⟨l3, m, a, b, c, d2, e, h3⟩ => ?_) (fun ρ ⟨l3, m, a, b, c, d2, e, h3⟩ => ?_))
      · subst e
        have hi2 : i < 300 := by
          have := (List.getElem?_eq_some_iff.mp hi).1
          simpa using this
        have hd : d = N i := by
          rw [List.getElem?_map, List.getElem?_range hi2] at hi
          exact (Option.some.inj hi).symm
        subst hd
        obtain ⟨l4, m4, e4, h4⟩ := dr_tail (Fl.D.scr (ns.map D.int)) i l3 m b c d2 (by omega)
        exact ⟨_, rfl, wq_ex e4 ⟨l4, m4, _, _, _, _, rfl, by omega⟩⟩
      · subst e
        have i4 : intD (N 300) = some 300 := rfl
        have sl : slD (.lst (l3.map N)) none (some 300) = some (.lst ((cutA l3 none (some 300)).map N)) := by
          show some (Fl.D.lst _) = _
          rw [cut_map]
        simp [i4, sl]
        exact ⟨_, rfl⟩
  obtain ⟨d, outs, e, ⟨l, rfl⟩, rfl⟩ := key
  exact ⟨l, e⟩
end K74

set_option maxHeartbeats 4000000
/-! numbers as text -/
namespace K74
open PySem PySem.Spec PyProof.Rows L2 Fl
def vD (xs : List Nat) : Fl.D := .tup (xs.map N)
def Lt (xs : List Nat) : Prop := ∀ x ∈ xs, x < 256
theorem Lt.cons {x : Nat} {xs : List Nat} (h : Lt (x :: xs)) : x < 256 ∧ Lt xs := ⟨h x (by simp), fun y hy => h y (by simp [hy])⟩
theorem len_v (b : List Nat) : lenD (vD b) = some (N b.length) := by
  show some (Fl.D.int (b.map N).length) = _
  rw [List.length_map]; rfl
theorem v_isnum (n : Nat) : F_is_number [N n] = .ok (.bl true) [none] := by
  unfold F_is_number runF S_is_number
  simp [List.replicate, isi_int, isi_intb]
theorem v_isnums {xs : List Nat} (h : Lt xs) (hl : xs.length < 1000) : F_is_numbers [vD xs] = .ok (.bl true) [none] := by
  have lc := lc_k (v := 1) (fe := andV (callF [.v] F_is_number (aCons (rd 1) aNil)) (op2 ltD (rd 1) (pur (.int 256)))) (ρ := [some (vD xs), none]) (f := fun d => .bl (decide (nat d < 256))) (ds := xs.map N) (szL_ok (by simp; omega)) (by
    intro d hd
    rw [List.mem_map] at hd
    obtain ⟨k, hk, rfl⟩ := hd
    simp [v_isnum, i_256])
  have e : (xs.map N).map (fun d => Fl.D.bl (decide (nat d < 256))) = xs.map fun x => Fl.D.bl (decide (x < 256)) := by
    rw [List.map_map]
    apply List.map_congr_left
    intro x _
    simp
  rw [e] at lc
  have al := allT1 (xs := xs) (f := fun x => decide (x < 256)) fun x hx => by simpa using h x hx
  have sq : seqD (vD xs) = some (xs.map N) := rfl
  have it : isiD "tuple" (vD xs) = some (.bl true) := isi_tup _
  unfold F_is_numbers runF S_is_numbers
  simp only [List.set_cons_succ, List.set_cons_zero] at lc
  simp [List.replicate, it, sq, lc, al]
def DG : List Nat := [48, 49, 50, 51, 52, 53, 54, 55, 56, 57, 97, 98, 99, 100, 101, 102]
def dg (k : Nat) : Nat := DG.getD k 0
theorem gD : g_DIGITS = tD DG := l_5
theorem dg_get : ∀ k < 16, DG[k]? = some (dg k) := by decide
theorem dg_mem : ∀ k < 16, dg k ∈ DG := by decide
theorem dg_idx : ∀ k < 16, Txt.index0 (SX.S DG) (SX.S [dg k]) = some k := by decide +kernel
def hex1 (b : Nat) : List Nat := [dg (b / 16), dg (b % 16)]
def hexT (xs : List Nat) : List Nat := (xs.map hex1).flatten
theorem hexT_len : ∀ (xs : List Nat), (hexT xs).length = 2 * xs.length
  | [] => rfl
  | x :: xs => by
    show (hex1 x ++ hexT xs).length = _
    rw [List.length_append, hexT_len xs]
    simp [hex1]; omega
theorem v_hex {xs : List Nat} (h : Lt xs) (hl : xs.length < 1000) : F_hex_text [vD xs] = .ok (tD (hexT xs)) [none] := by
  have lc := lc_k (v := 1) (fe := op2 addD (op2 ixD (pur g_DIGITS) (op2 divD (rd 1) (pur (.int 16)))) (op2 ixD (pur g_DIGITS) (op2 modD (rd 1) (pur (.int 16))))) (ρ := [some (vD xs), none]) (f := fun d => tD (hex1 (nat d))) (ds := xs.map N) (szL_ok (by simp; omega)) (by
    intro d hd
    rw [List.mem_map] at hd
    obtain ⟨k, hk, rfl⟩ := hd
    have hk2 := h k hk
    have x1 := ixT (l := DG) (by decide) (dg_get (k / 16) (by omega))
    have x2 := ixT (l := DG) (by decide) (dg_get (k % 16) (by omega))
    have c1 : addD (tD [dg (k / 16)]) (tD [dg (k % 16)]) = some (tD (hex1 k)) := catT (by simp)
    simp [gD, i_16, divN (show 0 < 16 by omega) (show 16 < 2 ^ 64 by omega), modN (show 0 < 16 by omega), x1, x2, c1])
  have e : (xs.map N).map (fun d => tD (hex1 (nat d))) = (xs.map hex1).map tD := by
    rw [List.map_map, List.map_map]
    apply List.map_congr_left
    intro x _
    simp
  rw [e] at lc
  have sq : seqD (vD xs) = some (xs.map N) := rfl
  have sm : ((xs.map hex1).map List.length).sum < 2 ^ 20 := by
    have : ((xs.map hex1).map List.length).sum = (hexT xs).length := by unfold hexT; rw [List.length_flatten]
    rw [this, hexT_len]; omega
  have jn := joinT0 sm
  unfold F_hex_text runF S_hex_text
  simp only [List.set_cons_succ, List.set_cons_zero, i_16] at lc
  simp only [l_0, i_16]
  simp [List.replicate, sq, lc, jn, -List.map_map]
  rfl
theorem hexT_get : ∀ (xs : List Nat) (k x : Nat), xs[k]? = some x → (hexT xs)[2 * k]? = some (dg (x / 16)) ∧ (hexT xs)[2 * k + 1]? = some (dg (x % 16))
  | [], k, x, h => by simp at h
  | y :: xs, 0, x, h => by
    simp at h; subst h
    exact ⟨rfl, rfl⟩
  | y :: xs, k + 1, x, h => by
    obtain ⟨a, b⟩ := hexT_get xs k x (by simpa using h)
    show (dg (y / 16) :: dg (y % 16) :: hexT xs)[2 * (k + 1)]? = _ ∧ (dg (y / 16) :: dg (y % 16) :: hexT xs)[2 * (k + 1) + 1]? = _
    rw [show 2 * (k + 1) = 2 * k + 1 + 1 by omega, show 2 * k + 1 + 1 + 1 = (2 * k + 1) + 1 + 1 by omega]
    exact ⟨by simpa using a, by simpa using b⟩
theorem hexT_mem : ∀ (xs : List Nat), Lt xs → ∀ c ∈ hexT xs, c ∈ DG
  | [], _, c, h => by cases h
  | y :: xs, hx, c, h => by
    have hy := (Lt.cons hx).1
    rcases List.mem_append.mp (show c ∈ hex1 y ++ hexT xs from h) with e | e
    · simp [hex1] at e
      rcases e with e | e
      · rw [e]; exact dg_mem _ (by omega)
      · rw [e]; exact dg_mem _ (by omega)
    · exact hexT_mem xs (Lt.cons hx).2 c e
theorem v_readhex {xs : List Nat} (h : Lt xs) (hl : xs.length < 1000) : F_read_hex [tD (hexT xs)] = .ok (vD xs) [none] := by
  have ln := lenT (l := hexT xs) (by rw [hexT_len]; omega)
  rw [hexT_len] at ln
  have m2 : modD (N (2 * xs.length)) (N 2) = some (N 0) := by rw [modN (by omega)]; congr 2; omega
  have lc := lc_k (v := 1) (fe := op2 inX (rd 1) (pur g_DIGITS)) (ρ := [some (tD (hexT xs)), none, none]) (f := fun d => .bl true) (ds := (hexT xs).map fun c => tD [c]) (szL_ok (by rw [List.length_map, hexT_len]; omega)) (by
    intro d hd
    rw [List.mem_map] at hd
    obtain ⟨k, hk, rfl⟩ := hd
    simp [gD, inT1, hexT_mem xs h k hk])
  have e : ((hexT xs).map fun c => tD [c]).map (fun d => Fl.D.bl true) = (hexT xs).map fun _ => Fl.D.bl ((fun _ => true) ()) := by rw [List.map_map]; rfl
  rw [e] at lc
  have al := allT1 (xs := hexT xs) (f := fun _ => true) fun _ _ => rfl
  have rg : rng0k [N 0, N (2 * xs.length), N 2] = some ((List.range xs.length).map fun i => N (2 * i)) := by
    rw [Nat.mul_comm]; exact rng0kN (by omega) (by omega) (by omega)
  have lc2 := lc_k (v := 2) (fe := op2 addD (op2 mulD (pur (.int 16)) (strM sidxD (pur g_DIGITS) (op2 ixD (rd 0) (rd 2)))) (strM sidxD (pur g_DIGITS) (op2 ixD (rd 0) (op2 addD (rd 2) (pur (.int 1)))))) (ρ := [some (tD (hexT xs)), none, none]) (f := fun d => N (xs.getD (nat d / 2) 0)) (ds := (List.range xs.length).map fun i => N (2 * i)) (szL_ok (by simp; omega)) (by
    intro d hd
    rw [List.mem_map] at hd
    obtain ⟨k, hk, rfl⟩ := hd
    rw [List.mem_range] at hk
    obtain ⟨g1, g2⟩ := hexT_get xs k xs[k] (List.getElem?_eq_getElem hk)
    have hx := h xs[k] (List.getElem_mem hk)
    have x1 := ixT (l := hexT xs) (by rw [hexT_len]; omega) g1
    have x2 := ixT (l := hexT xs) (by rw [hexT_len]; omega) g2
    have s1 : sidxD (tD DG) (tD [dg (xs[k] / 16)]) = some (N (xs[k] / 16)) := by
      show (Txt.index0 (SX.S DG) (SX.S [dg (xs[k] / 16)])).map _ = _
      rw [dg_idx _ (by omega)]; rfl
    have s2 : sidxD (tD DG) (tD [dg (xs[k] % 16)]) = some (N (xs[k] % 16)) := by
      show (Txt.index0 (SX.S DG) (SX.S [dg (xs[k] % 16)])).map _ = _
      rw [dg_idx _ (by omega)]; rfl
    have sm : 16 * (xs[k] / 16) + xs[k] % 16 = xs[k] := by omega
    have gd : xs[k]?.getD 0 = xs[k] := by rw [List.getElem?_eq_getElem hk]; rfl
    simp [gD, i_16, x1, x2, s1, s2, mulN (a := 16) (.inl (by omega)), sm, hk])
  have e2 : ((List.range xs.length).map fun i => N (2 * i)).map (fun d => N (xs.getD (nat d / 2) 0)) = xs.map N := by
    rw [List.map_map]
    refine List.ext_getElem (by simp) fun i h1 h2 => ?_
    simp at h1
    simp [h1]
  rw [e2] at lc2
  have tp : tupD (.lst (xs.map N)) = some (vD xs) := rfl
  unfold F_read_hex runF S_read_hex
  simp only [List.set_cons_succ, List.set_cons_zero, gD, i_16, lit1] at lc lc2
  simp only [gD, i_16]
  simp [List.replicate, ln, m2, lc, al, rg, lc2, tp, -List.map_const, -List.map_const']
end K74

set_option maxHeartbeats 4000000
/-! deltas -/
namespace K74
open PySem PySem.Spec PyProof.Rows L2 Fl
inductive Pc where
  | put (xs : List Nat)
  | cpy (a n : Nat)
def tPut : List Nat := [112, 117, 116]
def tCpy : List Nat := [99, 111, 112, 121]
def pcD : Pc → Fl.D
  | .put xs => .tup [tD tPut, vD xs]
  | .cpy a n => .tup [tD tCpy, N a, N n]
def Pc.ok (m : Nat) : Pc → Prop
  | .put xs => xs ≠ [] ∧ Lt xs ∧ xs.length < 1000
  | .cpy a n => 0 < n ∧ a + n ≤ m
def dD (ps : List Pc) : Fl.D := .tup (ps.map pcD)
def Pc.isC : Pc → Bool
  | .put _ => false
  | .cpy _ _ => true
theorem oput : okT tPut := by unfold okT; decide
theorem ocpy : okT tCpy := by unfold okT; decide
theorem lput : Fl.D.str (PySem.Str.ofString "put") = tD tPut := l_12
theorem lcpy : Fl.D.str (PySem.Str.ofString "copy") = tD tCpy := l_8
theorem n_pc : ¬ tPut = tCpy := by decide
theorem n_cp : ¬ tCpy = tPut := by decide
theorem e_pp : eqD (tD tPut) (tD tPut) = some (.bl true) := by rw [eqT oput oput]; simp
theorem e_cc : eqD (tD tCpy) (tD tCpy) = some (.bl true) := by rw [eqT ocpy ocpy]; simp
theorem e_pc : eqD (tD tPut) (tD tCpy) = some (.bl false) := by rw [eqT oput ocpy]; simp [n_pc]
theorem e_cp : eqD (tD tCpy) (tD tPut) = some (.bl false) := by rw [eqT ocpy oput]; simp [n_cp]
theorem isi_t (l : List Nat) : isiD "str" (tD l) = some (.bl true) := isi_str _
theorem pln_v (n : Nat) (b : List Nat) : pln (n + 1) (vD b) = true := pln_tup (plns_N n b)
theorem ne_v {a b : List Nat} : neD (vD a) (vD b) = some (.bl (!decide (a = b))) := by
  by_cases h : a = b
  · subst h; rw [neD_self (pln_v 63 a)]; simp
  · rw [neD_ne (pln_v 63 a) (pln_v 63 b)]
    · simp [h]
    · intro z
      apply h
      unfold vD at z
      have z2 : a.map N = b.map N := by injection z
      have : Function.Injective N := fun x y e => by unfold N at e; injection e with e; omega
      exact (List.map_inj_right fun x y e => this e).mp z2
theorem v_ispiece {m : Nat} (hm : m < 1000) : ∀ {p : Pc}, p.ok m → F_is_piece [pcD p] = .ok (.bl true) [none]
  | .put xs, ⟨h1, h2, h3⟩ => by
    have ix0 : ixD (.tup [tD tPut, vD xs]) (N 0) = some (tD tPut) := ixTN rfl
    have ix1 : ixD (.tup [tD tPut, vD xs]) (N 1) = some (vD xs) := ixTN rfl
    have ln : lenD (.tup [tD tPut, vD xs]) = some (N 2) := rfl
    have nn := v_isnums h2 h3
    have ne : neD (vD xs) (.tup []) = some (.bl true) := by
      have := ne_v (a := xs) (b := [])
      simp [h1] at this
      exact this
    unfold F_is_piece runF S_is_piece
    simp [List.replicate, pcD, isi_tup, ln, ix0, ix1, isi_t, lput, lcpy, e_pp, nn, ne]
  | .cpy a n, ⟨h1, h2⟩ => by
    have ix0 : ixD (.tup [tD tCpy, N a, N n]) (N 0) = some (tD tCpy) := ixTN rfl
    have ix1 : ixD (.tup [tD tCpy, N a, N n]) (N 1) = some (N a) := ixTN rfl
    have ix2 : ixD (.tup [tD tCpy, N a, N n]) (N 2) = some (N n) := ixTN rfl
    have ln : lenD (.tup [tD tCpy, N a, N n]) = some (N 3) := rfl
    unfold F_is_piece runF S_is_piece
    simp [List.replicate, pcD, isi_tup, ln, ix0, ix1, ix2, isi_t, lput, lcpy, e_cp, e_cc, v_isnum, h1]
theorem pc0 : ∀ p : Pc, ixD (pcD p) (N 0) = some (tD (if p.isC then tCpy else tPut))
  | .put xs => ixTN rfl
  | .cpy a n => ixTN rfl
theorem v_isdelta {ps : List Pc} {old : List Nat} (h : ∀ p ∈ ps, p.ok old.length) (hm : old.length < 1000) (hl : ps.length < 1000) : F_is_delta [vD old, dD ps] = .ok (.bl true) [none, none] := by
  have lc1 := lc_k (v := 2) (fe := callF [.v] F_is_piece (aCons (rd 2) aNil)) (ρ := [some (vD old), some (dD ps), none]) (f := fun d => .bl true) (ds := ps.map pcD) (szL_ok (by simp; omega)) (by
    intro d hd
    rw [List.mem_map] at hd
    obtain ⟨p, hp, rfl⟩ := hd
    simp [v_ispiece hm (h p hp)])
  have e1 : (ps.map pcD).map (fun d => Fl.D.bl true) = ps.map fun _ => Fl.D.bl ((fun _ => true) ()) := by rw [List.map_map]; rfl
  rw [e1] at lc1
  have al1 := allT1 (xs := ps) (f := fun _ => true) fun _ _ => rfl
  have ln := len_v old
  have lc2 := lc_tk (v := 2) (t := tst (op2 eqD (op2 ixD (rd 2) (pur (.int 0))) (pur (.str (PySem.Str.ofString "copy"))))) (fe := op2 leD (op2 addD (op2 ixD (rd 2) (pur (.int 1))) (op2 ixD (rd 2) (pur (.int 2)))) (op1 lenD (rd 0))) (ρ := [some (vD old), some (dD ps), none]) (p := fun d => match d with | .tup [_, _, _] => true | _ => false) (f := fun d => .bl true) (ds := ps.map pcD) (szL_ok (by simp; omega)) (by
    intro d hd
    rw [List.mem_map] at hd
    obtain ⟨p, hp, rfl⟩ := hd
    cases p with
    | put xs => simp [pc0, lcpy, e_pc, Pc.isC]; rfl
    | cpy a n => simp [pc0, lcpy, e_cc, Pc.isC]; rfl) (by
    intro d hd hpd
    rw [List.mem_map] at hd
    obtain ⟨p, hp, rfl⟩ := hd
    cases p with
    | put xs => cases hpd
    | cpy a n =>
      have ix1 : ixD (pcD (.cpy a n)) (N 1) = some (N a) := ixTN rfl
      have ix2 : ixD (pcD (.cpy a n)) (N 2) = some (N n) := ixTN rfl
      have := (h _ hp).2
      simp [ix1, ix2, ln, this])
  have e2 : ∀ ds : List Fl.D, ds.map (fun d => Fl.D.bl true) = ds.map fun _ => Fl.D.bl ((fun _ => true) ()) := fun _ => rfl
  rw [e2] at lc2
  have al2 := fun ds : List Fl.D => allT1 (xs := ds) (f := fun _ => true) fun _ _ => rfl
  have sq : seqD (dD ps) = some (ps.map pcD) := rfl
  have it : isiD "tuple" (dD ps) = some (.bl true) := isi_tup _
  unfold F_is_delta runF S_is_delta
  simp only [List.set_cons_succ, List.set_cons_zero, lcpy, lit0, lit1, lit2] at lc1 lc2
  simp only [lcpy, lit0, lit1, lit2]
  simp [List.replicate, it, sq, lc1, al1, lc2, al2, -List.map_const, -List.map_const', -List.filter_map]
def made (old : List Nat) : Pc → List Nat
  | .put xs => xs
  | .cpy a n => (old.drop a).take n
theorem v_made {old : List Nat} : ∀ (p : Pc), F_made_by [pcD p, vD old] = .ok (vD (made old p)) [none, none]
  | .put xs => by
    have ix1 : ixD (pcD (.put xs)) (N 1) = some (vD xs) := ixTN rfl
    unfold F_made_by runF S_made_by
    simp [List.replicate, pc0, lput, e_pp, Pc.isC, ix1, made]
  | .cpy a n => by
    have ix1 : ixD (pcD (.cpy a n)) (N 1) = some (N a) := ixTN rfl
    have ix2 : ixD (pcD (.cpy a n)) (N 2) = some (N n) := ixTN rfl
    have sl : slD (vD old) (some (a : Int)) (some ((a + n : Nat) : Int)) = some (vD ((old.drop a).take n)) := by
      show some (Fl.D.tup (cutA _ _ _)) = _
      rw [cut_map, cut_mid, show a + n - a = n by omega]; rfl
    unfold F_made_by runF S_made_by
    simp [List.replicate, pc0, lput, e_cp, Pc.isC, ix1, ix2, sl, made, -Int.natCast_add]
def app (old : List Nat) (ps : List Pc) : List Nat := (ps.map (made old)).flatten
theorem made_le {m : Nat} {old : List Nat} (hm : m < 1000) : ∀ {p : Pc}, p.ok m → (made old p).length ≤ 1000
  | .put xs, h => by have := h.2.2; show xs.length ≤ 1000; omega
  | .cpy a n, h => by
    have := h.2
    show ((old.drop a).take n).length ≤ 1000
    rw [List.length_take]; omega
theorem app_go {old : List Nat} (r0 : Option Fl.D) : ∀ (ps : List Pc) (f : List Nat) (x : Option Fl.D), (∀ p ∈ ps, p.ok old.length) → old.length < 1000 → f.length + 1000 * ps.length < 2 ^ 20 → ∃ y, forGo (gNam 3) b1_applied_delta (ps.map pcD) [r0, some (vD old), some (.lst (f.map N)), x] = .nx [r0, some (vD old), some (.lst ((f ++ app old ps).map N)), y]
  | [], f, x, _, _, _ => ⟨x, by unfold app; simp [forGo]⟩
  | p :: ps, f, x, h, hm, hl => by
    have ml := made_le (old := old) hm (h p (by simp))
    rw [List.length_cons] at hl
    obtain ⟨y, e⟩ := app_go r0 ps (f ++ made old p) (some (pcD p)) (fun q hq => h q (by simp [hq])) hm (by rw [List.length_append]; omega)
    refine ⟨y, ?_⟩
    have st : b1_applied_delta [r0, some (vD old), some (.lst (f.map N)), some (pcD p)] = .nx [r0, some (vD old), some (.lst ((f ++ made old p).map N)), some (pcD p)] := by
      have il : isLst (.lst (f.map N)) = some () := rfl
      have ex : extD (.lst (f.map N)) [vD (made old p)] = some (.non, .lst ((f ++ made old p).map N)) := by
        show (if (f.map N).length + ((made old p).map N).length ≤ szL then some (Fl.D.non, Fl.D.lst (f.map N ++ (made old p).map N)) else none) = _
        rw [if_pos (szL_ok (by simp; omega)), List.map_append]
      unfold b1_applied_delta
      simp [v_made, il, ex, x_updS]
    rw [List.map_cons]
    unfold forGo
    simp only [gNam_x, List.set_cons_succ, List.set_cons_zero, st]
    rw [e]
    have : app old (p :: ps) = made old p ++ app old ps := rfl
    rw [this, List.append_assoc]
theorem v_applied {ps : List Pc} {old : List Nat} (h : ∀ p ∈ ps, p.ok old.length) (hm : old.length < 1000) (hl : ps.length < 900) : F_applied_delta [dD ps, vD old] = .ok (vD (app old ps)) [none, none] := by
  have vi := v_isdelta h hm (by omega)
  obtain ⟨y, go⟩ := app_go (some (dD ps)) ps [] none h hm (by simp; omega)
  have sq : seqD (dD ps) = some (ps.map pcD) := rfl
  have tp : tupD (.lst ((app old ps).map N)) = some (vD (app old ps)) := rfl
  rw [List.nil_append] at go
  simp only [List.map_nil] at go
  unfold F_applied_delta runF S_applied_delta
  simp [List.replicate, vi, sq, go, tp]
def cost (c0 c1 c2 : Nat) : Pc → Nat
  | .put xs => c1 + c2 * xs.length
  | .cpy _ _ => c0
def csD (c0 c1 c2 : Nat) : Fl.D := .tup [N c0, N c1, N c2]
theorem v_cost {ps : List Pc} {m c0 c1 c2 : Nat} (h : ∀ p ∈ ps, p.ok m) (hc : c2 < 100) (hl : ps.length < 1000) : F_delta_cost [dD ps, csD c0 c1 c2] = .ok (N (ps.map (cost c0 c1 c2)).sum) [none, none] := by
  have k0 : ixD (csD c0 c1 c2) (N 0) = some (N c0) := ixTN rfl
  have k1 : ixD (csD c0 c1 c2) (N 1) = some (N c1) := ixTN rfl
  have k2 : ixD (csD c0 c1 c2) (N 2) = some (N c2) := ixTN rfl
  have lc := lc_k (v := 2) (fe := ifM (tst (op2 eqD (op2 ixD (rd 2) (pur (.int 0))) (pur (.str (PySem.Str.ofString "copy"))))) (op2 ixD (rd 1) (pur (.int 0))) (op2 addD (op2 ixD (rd 1) (pur (.int 1))) (op2 mulD (op2 ixD (rd 1) (pur (.int 2))) (op1 lenD (op2 ixD (rd 2) (pur (.int 1))))))) (ρ := [some (dD ps), some (csD c0 c1 c2), none]) (f := fun d => N (match d with | .tup [_, .tup xs] => c1 + c2 * xs.length | _ => c0)) (ds := ps.map pcD) (szL_ok (by simp; omega)) (by
    intro d hd
    rw [List.mem_map] at hd
    obtain ⟨p, hp, rfl⟩ := hd
    cases p with
    | put xs =>
      have ix1 : ixD (pcD (.put xs)) (N 1) = some (vD xs) := ixTN rfl
      simp [pc0, lcpy, e_pc, Pc.isC, k1, k2, ix1, len_v, mulN (a := c2) (.inl (by omega))]
      show N _ = N (c1 + c2 * (xs.map N).length)
      simp
    | cpy a n => simp [pc0, lcpy, e_cc, Pc.isC, k0]; rfl)
  have e : (ps.map pcD).map (fun d => N (match d with | .tup [_, .tup xs] => c1 + c2 * xs.length | _ => c0)) = (ps.map (cost c0 c1 c2)).map N := by
    rw [List.map_map, List.map_map]
    apply List.map_congr_left
    intro p _
    cases p with
    | put xs => show N (c1 + c2 * (xs.map N).length) = N (c1 + c2 * xs.length); rw [List.length_map]
    | cpy a n => rfl
  rw [e] at lc
  have sq : seqD (dD ps) = some (ps.map pcD) := rfl
  have sm : ∀ ns : List Nat, sumD (.lst (ns.map N)) = some (N ns.sum) := fun ns => by
    have e : ns.map N = (ns.map fun n : Nat => (n : Int)).map Fl.D.int := by rw [List.map_map]; rfl
    show ((some (ns.map N)).bind intsD).map _ = _
    rw [Option.bind_some, e, intsD_map]
    show some (Fl.D.int _) = some (Fl.D.int _)
    congr 2
    induction ns with
    | nil => rfl
    | cons n ns ih =>
      rw [List.map_cons, List.sum_cons, List.sum_cons, ih (by
        have := congrArg List.tail e; simpa using this)]
      push_cast; rfl
  unfold F_delta_cost runF S_delta_cost
  simp only [List.set_cons_succ, List.set_cons_zero, lcpy, lit0, lit1, lit2] at lc
  simp only [lcpy, lit0, lit1, lit2]
  simp [List.replicate, sq, lc, sm, -List.map_map]
end K74

set_option maxHeartbeats 4000000
/-! deltas as text -/
namespace K74
open PySem PySem.Spec PyProof.Rows L2 Fl
def rowT : Pc → List Nat
  | .put xs => tPut ++ ([32] ++ hexT xs)
  | .cpy a n => tCpy ++ ([32] ++ (TL.numL a ++ ([32] ++ TL.numL n)))
def words : Pc → List (List Nat)
  | .put xs => [tPut, hexT xs]
  | .cpy a n => [tCpy, TL.numL a, TL.numL n]
theorem rowT_join : ∀ p, rowT p = TL.joinL [32] (words p)
  | .put xs => rfl
  | .cpy a n => rfl
theorem hex_free {xs : List Nat} (h : Lt xs) {c : Nat} (hc : c ∉ DG) : c ∉ hexT xs := fun z => hc (hexT_mem xs h c z)
theorem words_free {m : Nat} : ∀ {p : Pc}, p.ok m → ∀ c, c ∉ DG → c ∉ tPut → c ∉ tCpy → (c < 48 ∨ 57 < c) → ∀ w ∈ words p, c ∉ w
  | .put xs, h, c, h1, h2, h3, h4, w, hw => by
    simp [words] at hw
    rcases hw with rfl | rfl
    · exact h2
    · exact hex_free h.2.1 h1
  | .cpy a n, h, c, h1, h2, h3, h4, w, hw => by
    simp [words] at hw
    rcases hw with rfl | rfl | rfl
    · exact h3
    · exact TL.numL_free h4
    · exact TL.numL_free h4
theorem row_len {m : Nat} (hm : m < 1000) : ∀ {p : Pc}, p.ok m → (rowT p).length ≤ 2010
  | .put xs, h => by
    have := h.2.2
    simp [rowT, tPut, hexT_len]; omega
  | .cpy a n, h => by
    have h2 := h.2
    have l1 := numL_len64 (n := a) (by omega)
    have l2 := numL_len64 (n := n) (by omega)
    simp [rowT, tCpy]; omega
theorem l_putS : Fl.D.str (PySem.Str.ofString "put ") = tD (tPut ++ [32]) := l_13
theorem l_cpyS : Fl.D.str (PySem.Str.ofString "copy ") = tD (tCpy ++ [32]) := l_9
theorem v_steprow {m : Nat} (hm : m < 1000) : ∀ {p : Pc}, p.ok m → F_step_row [pcD p] = .ok (tD (rowT p)) [none]
  | .put xs, h => by
    have ix1 : ixD (pcD (.put xs)) (N 1) = some (vD xs) := ixTN rfl
    have vh := v_hex h.2.1 h.2.2
    have l3 := h.2.2
    have c1 : addD (tD (tPut ++ [32])) (tD (hexT xs)) = some (tD (rowT (.put xs))) := by
      rw [catT (by rw [hexT_len]; simp [tPut]; omega), List.append_assoc]; rfl
    unfold F_step_row runF S_step_row
    simp [List.replicate, pc0, lput, e_pp, Pc.isC, ix1, l_putS, vh, c1]
  | .cpy a n, h => by
    have h2 := h.2
    have ix1 : ixD (pcD (.cpy a n)) (N 1) = some (N a) := ixTN rfl
    have ix2 : ixD (pcD (.cpy a n)) (N 2) = some (N n) := ixTN rfl
    have l1 := numL_len64 (n := a) (by omega)
    have l2 := numL_len64 (n := n) (by omega)
    have s1 := strT (n := a) (by omega)
    have s2 := strT (n := n) (by omega)
    have c1 : addD (tD (tCpy ++ [32])) (tD (TL.numL a)) = some (tD (tCpy ++ [32] ++ TL.numL a)) := catT (by simp [tCpy]; omega)
    have c2 : addD (tD (tCpy ++ [32] ++ TL.numL a)) (tD [32]) = some (tD (tCpy ++ [32] ++ TL.numL a ++ [32])) := catT (by simp [tCpy]; omega)
    have c3 : addD (tD (tCpy ++ [32] ++ TL.numL a ++ [32])) (tD (TL.numL n)) = some (tD (rowT (.cpy a n))) := by
      rw [catT (by simp [tCpy]; omega)]
      simp [rowT]
    unfold F_step_row runF S_step_row
    simp only [lput, l_cpyS, l_2, lit0, lit1, lit2]
    simp [List.replicate, pc0, e_cp, Pc.isC, ix1, ix2, s1, s2, c1, c2, c3, -List.append_assoc]
def txt (ps : List Pc) : List Nat := (ps.map fun p => rowT p ++ [10]).flatten
theorem txt_join (ps : List Pc) : txt ps = TL.joinL [10] (ps.map rowT ++ [[]]) := by
  rw [← joinL_ends]
  unfold txt
  rw [List.map_map]; rfl
theorem txt_len {m : Nat} (hm : m < 1000) : ∀ {ps : List Pc}, (∀ p ∈ ps, p.ok m) → (txt ps).length ≤ 2011 * ps.length
  | [], _ => by simp [txt]
  | p :: ps, h => by
    have := txt_len hm (ps := ps) fun q hq => h q (by simp [hq])
    have := row_len hm (h p (by simp))
    show (rowT p ++ [10] ++ txt ps).length ≤ 2011 * (ps.length + 1)
    simp; omega
theorem v_text {m : Nat} (hm : m < 1000) {ps : List Pc} (h : ∀ p ∈ ps, p.ok m) (hl : ps.length < 200) : F_delta_text [dD ps] = .ok (tD (txt ps)) [none] := by
  have lc := lc_k (v := 1) (fe := op2 addD (callF [.v] F_step_row (aCons (rd 1) aNil)) (pur (.str (PySem.Str.ofString "\n")))) (ρ := [some (dD ps), none]) (f := fun d => match F_step_row [d] with | .ok (.str z) _ => tD (z.cps.toList ++ [10]) | _ => .non) (ds := ps.map pcD) (szL_ok (by simp; omega)) (by
    intro d hd
    rw [List.mem_map] at hd
    obtain ⟨p, hp, rfl⟩ := hd
    have hr := row_len hm (h p hp)
    have c1 : addD (tD (rowT p)) (tD [10]) = some (tD (rowT p ++ [10])) := catT (by simp; omega)
    have vs := v_steprow hm (h p hp)
    simp [vs, l_1, c1]
    rfl)
  have e : (ps.map pcD).map (fun d => match F_step_row [d] with | .ok (.str z) _ => tD (z.cps.toList ++ [10]) | _ => .non) = (ps.map fun p => rowT p ++ [10]).map tD := by
    rw [List.map_map, List.map_map]
    apply List.map_congr_left
    intro p hp
    have vs := v_steprow hm (h p hp)
    show (match F_step_row [pcD p] with | .ok (.str z) _ => tD (z.cps.toList ++ [10]) | _ => .non) = _
    rw [vs]; rfl
  rw [e] at lc
  have tl := txt_len hm h
  have jn := joinT0 (ls := ps.map fun p => rowT p ++ [10]) (by
    have : ((ps.map fun p => rowT p ++ [10]).map List.length).sum = (txt ps).length := by unfold txt; rw [List.length_flatten]
    rw [this]; omega)
  have sq : seqD (dD ps) = some (ps.map pcD) := rfl
  unfold F_delta_text runF S_delta_text
  simp only [List.set_cons_succ, List.set_cons_zero, l_1] at lc
  simp only [l_0, l_1]
  simp [List.replicate, sq, lc, jn, -List.map_map]
  rfl
theorem numL_head : ∀ n : Nat, 0 < n → ∃ c r, TL.numL n = c :: r ∧ c ≠ 48 := fun n => by
  induction n using Nat.strongRecOn with
  | _ n ih =>
    intro h0
    by_cases h : n < 10
    · exact ⟨48 + n, [], TL.numL_lt h, by omega⟩
    · obtain ⟨c, r, e, hc⟩ := ih (n / 10) (by omega) (by omega)
      exact ⟨c, r ++ [48 + n % 10], by rw [TL.numL_step (by omega), e]; rfl, hc⟩
def D10 : List Nat := [48, 49, 50, 51, 52, 53, 54, 55, 56, 57]
theorem v_numtext {n : Nat} (h : n < 2 ^ 64) : F_is_number_text [tD (TL.numL n)] = .ok (.bl true) [none] := by
  have nl := numL_len64 h
  have ne := TL.numL_ne n
  have ok := okT_num n
  have ln := lenT (l := TL.numL n) (by omega)
  have e0 : eqD (tD (TL.numL n)) (tD []) = some (.bl false) := by rw [eqT ok (by unfold okT; simp)]; simp [ne]
  have lc := lc_k (v := 1) (fe := op2 inX (rd 1) (pur (.str (PySem.Str.ofString "0123456789")))) (ρ := [some (tD (TL.numL n)), none]) (f := fun d => .bl true) (ds := (TL.numL n).map fun c => tD [c]) (szL_ok (by rw [List.length_map]; omega)) (by
    intro d hd
    rw [List.mem_map] at hd
    obtain ⟨c, hc, rfl⟩ := hd
    have hd := TL.numL_digits n c hc
    have : c ∈ D10 := by
      have : ∀ c < 58, 48 ≤ c → c ∈ D10 := by decide
      exact this c (by omega) hd.1
    have l4 : Fl.D.str (PySem.Str.ofString "0123456789") = tD D10 := l_4
    simp [l4, inT1, this])
  have e : ((TL.numL n).map fun c => tD [c]).map (fun d => Fl.D.bl true) = (TL.numL n).map fun _ => Fl.D.bl ((fun _ => true) ()) := by rw [List.map_map]; rfl
  rw [e] at lc
  have al := allT1 (xs := TL.numL n) (f := fun _ => true) fun _ _ => rfl
  have g1 : gtD (N (TL.numL n).length) (N 4000) = some (.bl false) := by rw [gtN]; simp; omega
  have last : ∃ c, (TL.numL n)[0]? = some c ∧ (TL.numL n = [48] ∨ c ≠ 48) := by
    by_cases z : n = 0
    · subst z
      exact ⟨48, by rw [TL.numL_lt (by omega)]; rfl, .inl (TL.numL_lt (by omega))⟩
    · obtain ⟨c, r, e, hc⟩ := numL_head n (by omega)
      exact ⟨c, by rw [e]; rfl, .inr hc⟩
  obtain ⟨c, gc, hc⟩ := last
  have ix := ixT (l := TL.numL n) (by omega) gc
  have o48 : okT [48] := by unfold okT; decide
  have oc : okT [c] := fun x hx => by
    simp at hx; subst hx
    exact ok x (List.mem_of_getElem? gc)
  have e48 : eqD (tD (TL.numL n)) (tD [48]) = some (.bl (decide (TL.numL n = [48]))) := eqT ok o48
  have n48 : neD (tD [c]) (tD [48]) = some (.bl (!decide ([c] = [48]))) := neT oc o48
  have fin : (decide (TL.numL n = [48]) || !decide ([c] = [48])) = true := by
    rcases hc with h | h
    · simp [h]
    · simp [h]
  unfold F_is_number_text runF S_is_number_text
  simp only [List.set_cons_succ, List.set_cons_zero, l_4] at lc
  simp only [l_0, l_3, l_4, i_4000, lit0]
  simp [List.replicate, e0, ln, g1, lc, al, e48, ix, n48, -List.map_const, -List.map_const']
  by_cases q : TL.numL n = [48]
  · simp [q]
  · have hc2 : ¬ c = 48 := hc.resolve_left q
    simp [q, ix, n48, hc2]
end K74

set_option maxHeartbeats 4000000
/-! deltas read back -/
namespace K74
open PySem PySem.Spec PyProof.Rows L2 Fl
theorem v_readstep {m : Nat} (hm : m < 1000) : ∀ {p : Pc}, p.ok m → F_read_step [tD (rowT p)] = .ok (pcD p) [none]
  | .put xs, h => by
    have rl := row_len hm h
    have wf := words_free (c := 32) h (by decide) (by decide) (by decide) (by omega)
    have sp := splitJ (c := 32) (ls := words (.put xs)) (by omega) (by simp [words]) wf (by rw [← rowT_join]; omega)
    rw [← rowT_join] at sp
    have i0 : ixD (.lst ((words (.put xs)).map tD)) (N 0) = some (tD tPut) := ixLN rfl
    have i1 : ixD (.lst ((words (.put xs)).map tD)) (N 1) = some (tD (hexT xs)) := ixLN rfl
    have ln : lenD (.lst ((words (.put xs)).map tD)) = some (N 2) := rfl
    have vr := v_readhex h.2.1 h.2.2
    have vi := v_ispiece hm h
    have pd : Fl.D.tup [tD tPut, vD xs] = pcD (.put xs) := rfl
    unfold F_read_step runF S_read_step
    simp only [lput, lcpy, l_2, lit0, lit1, lit2]
    simp [List.replicate, sp, i0, i1, ln, e_pp, vr, pd, vi, -List.map_map]
  | .cpy a n, h => by
    have h2 := h.2
    have rl := row_len hm h
    have wf := words_free (c := 32) h (by decide) (by decide) (by decide) (by omega)
    have sp := splitJ (c := 32) (ls := words (.cpy a n)) (by omega) (by simp [words]) wf (by rw [← rowT_join]; omega)
    rw [← rowT_join] at sp
    have i0 : ixD (.lst ((words (.cpy a n)).map tD)) (N 0) = some (tD tCpy) := ixLN rfl
    have i1 : ixD (.lst ((words (.cpy a n)).map tD)) (N 1) = some (tD (TL.numL a)) := ixLN rfl
    have i2 : ixD (.lst ((words (.cpy a n)).map tD)) (N 2) = some (tD (TL.numL n)) := ixLN rfl
    have ln : lenD (.lst ((words (.cpy a n)).map tD)) = some (N 3) := rfl
    have n1 := v_numtext (n := a) (by omega)
    have n2 := v_numtext (n := n) (by omega)
    have t1 := intTN (n := a) (by omega)
    have t2 := intTN (n := n) (by omega)
    have vi := v_ispiece hm h
    have pd : Fl.D.tup [tD tCpy, N a, N n] = pcD (.cpy a n) := rfl
    unfold F_read_step runF S_read_step
    simp only [lput, lcpy, l_2, lit0, lit1, lit2, lit3]
    simp [List.replicate, sp, i0, i1, i2, ln, e_cp, e_cc, n1, n2, t1, t2, pd, vi, -List.map_map]
theorem pln_pc (n : Nat) : ∀ p : Pc, pln (n + 2) (pcD p) = true
  | .put xs => pln_tup (by simp [plns, plnT oput, pln_v])
  | .cpy a k => pln_tup (by simp [plns, plnT ocpy, pln_N])
theorem rowT_free {m : Nat} : ∀ {p : Pc}, p.ok m → (10 : Nat) ∉ rowT p := fun {p} h => by
  have wf := words_free (c := 10) h (by decide) (by decide) (by decide) (by omega)
  cases p with
  | put xs =>
    intro z
    rcases List.mem_append.mp z with z | z
    · exact wf tPut (by simp [words]) z
    · rcases List.mem_append.mp z with z | z
      · simp at z
      · exact wf (hexT xs) (by simp [words]) z
  | cpy a n =>
    intro z
    rcases List.mem_append.mp z with z | z
    · exact wf tCpy (by simp [words]) z
    · rcases List.mem_append.mp z with z | z
      · simp at z
      · rcases List.mem_append.mp z with z | z
        · exact wf (TL.numL a) (by simp [words]) z
        · rcases List.mem_append.mp z with z | z
          · simp at z
          · exact wf (TL.numL n) (by simp [words]) z
theorem rows_free {m : Nat} {ps : List Pc} (h : ∀ p ∈ ps, p.ok m) : ∀ w ∈ ps.map rowT ++ [[]], (10 : Nat) ∉ w := fun w hw => by
  rcases List.mem_append.mp hw with hw | hw
  · rw [List.mem_map] at hw
    obtain ⟨p, hp, rfl⟩ := hw
    exact rowT_free (h p hp)
  · simp at hw; subst hw; simp
theorem v_count {m : Nat} {ps : List Pc} (h : ∀ p ∈ ps, p.ok m) : countSD (tD (txt ps)) (tD [10]) = some (N ps.length) := by
  rw [countT (by omega), txt_join, SX.spl_join (by simp) (rows_free h)]
  simp
theorem v_read {m : Nat} (hm : m < 1000) {ps : List Pc} (h : ∀ p ∈ ps, p.ok m) (hl : ps.length < 200) : F_read_delta [tD (txt ps)] = .ok (dD ps) [none] := by
  have tl := txt_len hm h
  have sp := splitJ (c := 10) (ls := ps.map rowT ++ [[]]) (by omega) (by simp) (rows_free h) (by rw [← txt_join]; omega)
  rw [← txt_join] at sp
  have ng : negD (N 1) = some (.int (-1)) := rfl
  have il : ixD (.lst ((ps.map rowT ++ [[]]).map tD)) (.int (-1)) = some (tD []) := by
    show atI _ (-1) = _
    unfold atI
    rw [ixN_last (by simp)]
    simp
  have ne : neD (tD []) (tD []) = some (.bl false) := neD_self (plnT (by unfold okT; simp))
  have sl : slD (.lst ((ps.map rowT ++ [[]]).map tD)) none (some (-1)) = some (.lst ((ps.map rowT).map tD)) := by
    show some (Fl.D.lst (cutA _ _ _)) = _
    rw [cut_last]
    simp
  have lc := lc_k (v := 3) (fe := callF [.v] F_read_step (aCons (rd 3) aNil)) (ρ := [some (tD (txt ps)), some (.lst ((ps.map rowT ++ [[]]).map tD)), none, none]) (f := fun d => match F_read_step [d] with | .ok e _ => e | _ => .non) (ds := (ps.map rowT).map tD) (szL_ok (by simp; omega)) (by
    intro d hd
    rw [List.map_map, List.mem_map] at hd
    obtain ⟨p, hp, rfl⟩ := hd
    have vs := v_readstep hm (h p hp)
    simp [vs])
  have e : ((ps.map rowT).map tD).map (fun d => match F_read_step [d] with | .ok e _ => e | _ => .non) = ps.map pcD := by
    rw [List.map_map, List.map_map]
    apply List.map_congr_left
    intro p hp
    have vs := v_readstep hm (h p hp)
    show (match F_read_step [tD (rowT p)] with | .ok e _ => e | _ => .non) = _
    rw [vs]
  rw [e] at lc
  have nn : inX .non (.lst (ps.map pcD)) = some (.bl false) := inX_no (by simp [pln]) (plns_all fun x hx => by
    rw [List.mem_map] at hx
    obtain ⟨p, _, rfl⟩ := hx
    exact pln_pc 61 p) (fun z hz e => by
    rw [List.mem_map] at hz
    obtain ⟨p, _, rfl⟩ := hz
    cases p <;> cases e)
  have sq : seqD (.lst ((ps.map rowT).map tD)) = some ((ps.map rowT).map tD) := rfl
  have tp : tupD (.lst (ps.map pcD)) = some (dD ps) := rfl
  have im : Fl.intD (.int (-1)) = some (-1) := rfl
  have e1 : setS 1 (strM splitD (rd 0) (pur (.str (PySem.Str.ofString "\n")))) [some (tD (txt ps)), none, none, none] = .nx [some (tD (txt ps)), some (.lst ((ps.map rowT ++ [[]]).map tD)), none, none] := by
    simp [l_1, sp, -List.map_append]
  have e2 : (ifS (tst (op2 neD (op2 ixD (rd 1) (op1 negD (pur (.int 1)))) (pur (.str (PySem.Str.ofString ""))))) (fun _ => .no) skip) [some (tD (txt ps)), some (.lst ((ps.map rowT ++ [[]]).map tD)), none, none] = .nx [some (tD (txt ps)), some (.lst ((ps.map rowT ++ [[]]).map tD)), none, none] := by
    simp [l_0, ng, il, ne, -List.map_append]
  have e3 : setS 2 (lcM (itSeq (slM (rd 1) oNone (oSome (op1 negD (pur (.int 1)))))) (gNam 3) (pur true) (callF [.v] F_read_step (aCons (rd 3) aNil)) [3]) [some (tD (txt ps)), some (.lst ((ps.map rowT ++ [[]]).map tD)), none, none] = .nx [some (tD (txt ps)), some (.lst ((ps.map rowT ++ [[]]).map tD)), some (.lst (ps.map pcD)), none] := by
    simp only [List.set_cons_succ, List.set_cons_zero] at lc
    simp [ng, im, sl, sq, lc, -List.map_append, -List.map_map]
  refine runF_rt rfl rfl ((sq_nx e1).trans ((sq_nx e2).trans ((sq_nx e3).trans (?_ : _ = Out.rt _ [some (tD (txt ps)), some (.lst ((ps.map rowT ++ [[]]).map tD)), some (.lst (ps.map pcD)), none])))) rfl
  simp [nn, tp, -List.map_append]
end K74

set_option maxHeartbeats 4000000
/-! longest runs -/
namespace K74
open PySem PySem.Spec PyProof.Rows L2 Fl
def cp : List Nat → List Nat → Nat
  | x :: xs, y :: ys => if x = y then cp xs ys + 1 else 0
  | _, _ => 0
theorem cp_nil (xs : List Nat) : cp xs [] = 0 := by cases xs <;> rfl
theorem cp_le : ∀ xs ys : List Nat, cp xs ys ≤ xs.length ∧ cp xs ys ≤ ys.length
  | [], _ => by simp [cp]
  | _ :: _, [] => by simp [cp]
  | x :: xs, y :: ys => by
    have := cp_le xs ys
    unfold cp
    split <;> simp <;> omega
theorem cp_take : ∀ xs ys : List Nat, xs.take (cp xs ys) = ys.take (cp xs ys)
  | [], _ => by simp [cp]
  | _ :: _, [] => by simp [cp]
  | x :: xs, y :: ys => by
    have := cp_take xs ys
    unfold cp
    split
    · rename_i h; subst h; simp [this]
    · simp
def rowP (old suf : List Nat) : List Nat := (List.range (old.length + 1)).map fun i => cp (old.drop i) suf
def bst (l : List Nat) : Nat := l.foldl max 0
theorem bst_ge : ∀ (l : List Nat) (b : Nat), b ≤ l.foldl max b ∧ (∀ x ∈ l, x ≤ l.foldl max b) ∧ (l.foldl max b = b ∨ l.foldl max b ∈ l)
  | [], b => by simp
  | x :: l, b => by
    obtain ⟨h1, h2, h3⟩ := bst_ge l (max b x)
    rw [List.foldl_cons]
    refine ⟨by omega, fun y hy => ?_, ?_⟩
    · rcases List.mem_cons.mp hy with rfl | hy
      · omega
      · exact h2 y hy
    · rcases h3 with h | h
      · rw [h]
        rcases Nat.le_total b x with q | q
        · rw [Nat.max_eq_right q]; simp
        · rw [Nat.max_eq_left q]; simp
      · exact .inr (List.mem_cons_of_mem _ h)
theorem maxN (x : Nat) (l : List Nat) : maxD (.lst ((x :: l).map N)) = some (N (bst (x :: l))) := by
  have e : (x :: l).map N = ((x :: l).map fun n : Nat => (n : Int)).map Fl.D.int := by rw [List.map_map]; rfl
  show (((some ((x :: l).map N)).bind intsD).bind maxI).map _ = _
  rw [Option.bind_some, e, intsD_map, Option.bind_some]
  show some (Fl.D.int ((l.map fun n : Nat => (n : Int)).foldl max (x : Int))) = some (Fl.D.int ((bst (x :: l) : Nat) : Int))
  congr 2
  show _ = (((l.foldl max (max 0 x)) : Nat) : Int)
  rw [Nat.zero_max]
  clear e
  induction l generalizing x with
  | nil => rfl
  | cons y l ih =>
    rw [List.map_cons, List.foldl_cons, List.foldl_cons]
    have : max (x : Int) (y : Int) = ((max x y : Nat) : Int) := by omega
    rw [this, ih]
theorem idxN {l : List Nat} {x : Nat} (h : x ∈ l) : ∃ i, indexD (.lst (l.map N)) (N x) = some (N i) ∧ l[i]? = some x := by
  have sh : SeqAt.shaped (.list (toPs (l.map N))) = true := by
    have := shaped_pln (d := .lst (l.map N)) (pln_lst (plns_N 63 l))
    simpa [toP] using this
  have sx : SeqAt.shaped (toP (N x)) = true := rfl
  cases e : idxP (toPs (l.map N)) (toP (N x)) with
  | none =>
    exfalso
    unfold idxP at e
    rw [List.findIdx?_eq_none_iff] at e
    have hm : toP (N x) ∈ toPs (l.map N) := by
      clear e sh
      induction l with
      | nil => cases h
      | cons y l ih =>
        rw [List.map_cons]
        unfold toPs
        rcases List.mem_cons.mp h with rfl | h
        · simp
        · exact List.mem_cons_of_mem _ (ih h)
    have := e _ hm
    rw [PySem.SeqAt.eqv_refl _ rfl] at this
    cases this
  | some i =>
    obtain ⟨⟨z, hz, hz2⟩, _⟩ := idxP_spec e
    refine ⟨i, ?_, ?_⟩
    · show (if SeqAt.shaped (.list (toPs (l.map N))) = true ∧ SeqAt.shaped (toP (N x)) = true then (idxP (toPs (l.map N)) (toP (N x))).map fun j => Fl.D.int (j : Nat) else none) = _
      rw [if_pos ⟨sh, sx⟩, e]; rfl
    · have tg : ∀ (l : List Nat) (i : Nat), (toPs (l.map N))[i]? = (l[i]?).map fun k => toP (N k) := fun l => by
        induction l with
        | nil => intro i; rfl
        | cons y l ih =>
          intro i
          rw [List.map_cons]
          unfold toPs
          cases i with
          | zero => rfl
          | succ i => simpa using ih i
      rw [tg] at hz
      cases q : l[i]? with
      | none => rw [q] at hz; cases hz
      | some k =>
        rw [q] at hz
        cases hz
        have hk : (k : Int) = x := by
          have : ((k : Int) == (x : Int)) = true := hz2
          simpa using this
        congr 1; omega
structure RunOk (old suf : List Nat) (r : Nat × Nat) : Prop where
  ge : ∀ i, cp (old.drop i) suf ≤ r.1
  at_ : cp (old.drop r.2) suf = r.1
  le : r.2 ≤ old.length
def runD (r : Nat × Nat) : Fl.D := .tup [N r.1, N r.2]
def runsD (rs : List (Nat × Nat)) : Fl.D := .lst (rs.map runD)
theorem run_step {old new : List Nat} {j : Nat} {rs : List (Nat × Nat)} (hj : j < new.length) (hr : j < rs.length) (ho : old.length < 1000) (x5 x6 x7 : Option Fl.D) :
    ∃ (r : Nat × Nat) (y5 y6 y7 : Option Fl.D), RunOk old (new.drop j) r ∧ b1_longest_runs [some (vD old), some (vD new), some (runsD rs), some (.lst ((rowP old (new.drop (j + 1))).map N)), some (N j), x5, x6, x7] = .nx [some (vD old), some (vD new), some (runsD (rs.set j r)), some (.lst ((rowP old (new.drop j)).map N)), some (N j), y5, y6, y7] := by
  have hne : rowP old (new.drop j) ≠ [] := by unfold rowP; simp
  obtain ⟨x, l, hxl⟩ : ∃ x l, rowP old (new.drop j) = x :: l := by
    cases e : rowP old (new.drop j) with
    | nil => exact absurd e hne
    | cons x l => exact ⟨x, l, rfl⟩
  have bm : bst (rowP old (new.drop j)) ∈ rowP old (new.drop j) := by
    rcases (bst_ge (rowP old (new.drop j)) 0).2.2 with h | h
    · have h0 : bst (rowP old (new.drop j)) = 0 := h
      rw [h0]
      have : 0 = cp (old.drop old.length) (new.drop j) := by rw [List.drop_length]; rfl
      rw [this]
      unfold rowP
      exact List.mem_map.mpr ⟨old.length, by simp, rfl⟩
    · exact h
  obtain ⟨i, hi, hi2⟩ := idxN bm
  have hil : i ≤ old.length := by
    have := (List.getElem?_eq_some_iff.mp hi2).1
    unfold rowP at this
    simp at this; omega
  have hat : cp (old.drop i) (new.drop j) = bst (rowP old (new.drop j)) := by
    unfold rowP at hi2
    rw [List.getElem?_map, List.getElem?_range (by omega)] at hi2
    exact Option.some.inj hi2
  refine ⟨(bst (rowP old (new.drop j)), i), some (.lst ((rowP old (new.drop j)).map N)), x6, some (N (bst (rowP old (new.drop j)))), ⟨fun k => ?_, hat, hil⟩, ?_⟩
  · rcases Nat.lt_or_ge k (old.length + 1) with h | h
    · exact (bst_ge (rowP old (new.drop j)) 0).2.1 _ (List.mem_map.mpr ⟨k, by simpa using h, rfl⟩)
    · rw [List.drop_of_length_le (by omega)]
      exact Nat.zero_le _
  · have lo := len_v old
    have ro := rng1N (n := old.length) (by omega)
    have nj : ixD (vD new) (N j) = some (N new[j]) := ixTN (by rw [List.getElem?_map, List.getElem?_eq_getElem hj]; rfl)
    have lc := lc_k (v := 6) (fe := ifM (tst (op2 eqD (op2 ixD (rd 0) (rd 6)) (op2 ixD (rd 1) (rd 4)))) (op2 addD (op2 ixD (rd 3) (op2 addD (rd 6) (pur (.int 1)))) (pur (.int 1))) (pur (.int 0))) (ρ := [some (vD old), some (vD new), some (runsD rs), some (.lst ((rowP old (new.drop (j + 1))).map N)), some (N j), x5, x6, x7]) (f := fun d => N (cp (old.drop (nat d)) (new.drop j))) (ds := (List.range old.length).map N) (szL_ok (by simp; omega)) (by
      intro d hd
      rw [List.mem_map] at hd
      obtain ⟨k, hk, rfl⟩ := hd
      rw [List.mem_range] at hk
      have ok : ixD (vD old) (N k) = some (N old[k]) := ixTN (by rw [List.getElem?_map, List.getElem?_eq_getElem hk]; rfl)
      have lk1 : ixD (.lst ((rowP old (new.drop (j + 1))).map N)) (N (k + 1)) = some (N (cp (old.drop (k + 1)) (new.drop (j + 1)))) := ixLN (by
        unfold rowP
        rw [List.getElem?_map, List.getElem?_map, List.getElem?_range (by omega)]; rfl)
      have e : cp (old.drop k) (new.drop j) = if old[k] = new[j] then cp (old.drop (k + 1)) (new.drop (j + 1)) + 1 else 0 := by
        rw [List.drop_eq_getElem_cons hk, List.drop_eq_getElem_cons hj]; rfl
      by_cases h : old[k] = new[j]
      · rw [if_pos h] at e
        simp [ok, nj, lk1, h, e]
      · rw [if_neg h] at e
        simp [ok, nj, lk1, h, e])
    have el : ((List.range old.length).map N).map (fun d => N (cp (old.drop (nat d)) (new.drop j))) = ((List.range old.length).map fun i => cp (old.drop i) (new.drop j)).map N := by
      rw [List.map_map, List.map_map]
      apply List.map_congr_left
      intro k _
      simp
    rw [el] at lc
    have ad : addD (.lst (((List.range old.length).map fun i => cp (old.drop i) (new.drop j)).map N)) (.lst [N 0]) = some (.lst ((rowP old (new.drop j)).map N)) := by
      show (if (((List.range old.length).map fun i => cp (old.drop i) (new.drop j)).map N).length + [N 0].length ≤ szL then some (Fl.D.lst (((List.range old.length).map fun i => cp (old.drop i) (new.drop j)).map N ++ [N 0])) else none) = _
      rw [if_pos (szL_ok (by simp; omega))]
      unfold rowP
      rw [List.range_succ, List.map_append, List.map_append]
      simp [cp]
    have mx : maxD (.lst ((rowP old (new.drop j)).map N)) = some (N (bst (rowP old (new.drop j)))) := by rw [hxl]; exact maxN x l
    have st : stD (runsD rs) (N j) (.tup [N (bst (rowP old (new.drop j))), N i]) = some (runsD (rs.set j (bst (rowP old (new.drop j)), i))) := by
      show (ixN (rs.map _).length (j : Int)).map (fun q => Fl.D.lst ((rs.map _).set q _)) = _
      rw [ixNN (by rw [List.length_map]; exact hr)]
      show some (Fl.D.lst _) = some (Fl.D.lst _)
      rw [List.map_set]; rfl
    have mk1 : mkLst [N 0] = some (.lst [N 0]) := mkLst_ok (szL_ok (by simp))
    have il : isLstV (.lst ((rowP old (new.drop j)).map N)) = some () := rfl
    unfold b1_longest_runs
    simp only [List.set_cons_succ, List.set_cons_zero, lit0, lit1] at lc
    simp only [lit0, lit1]
    simp [lo, ro, lc, mk1, ad, mx, il, hi, gTupD, gMore, gEnd, gSubS, st, -List.map_map]
end K74

set_option maxHeartbeats 4000000
/-! longest runs, whole; steps -/
namespace K74
open PySem PySem.Spec PyProof.Rows L2 Fl
theorem mulL1 {d : Fl.D} {n : Nat} (h : n < 2 ^ 20) : mulL (.lst [d]) (N n) = some (.lst (List.replicate n d)) := by
  show (if okR (n : Int) = true ∧ [d].length * (n : Int).toNat ≤ szL then some (Fl.D.lst (List.replicate (n : Int).toNat [d]).flatten) else none) = _
  rw [if_pos ⟨okR_iff.mpr ⟨by omega, by omega⟩, by rw [Int.toNat_natCast]; exact szL_ok (by simpa using h)⟩, Int.toNat_natCast]
  congr 2
  clear h
  induction n with
  | zero => rfl
  | succ n ih => rw [List.replicate_succ, List.replicate_succ, List.flatten_cons, ih]; rfl
def RunsOk (old new : List Nat) (rs : List (Nat × Nat)) : Prop := rs.length = new.length + 1 ∧ ∀ j, j ≤ new.length → ∃ r, rs[j]? = some r ∧ RunOk old (new.drop j) r
theorem v_runs {old new : List Nat} (ho : old.length < 500) (hn : new.length < 500) : ∃ rs, F_longest_runs [vD old, vD new] = .ok (runsD rs) [none, none] ∧ RunsOk old new rs := by
  have lo := len_v old
  have ln := len_v new
  have m1 := mulL1 (d := .tup [N 0, N 0]) (n := new.length + 1) (by omega)
  have m2 := mulL1 (d := N 0) (n := old.length + 1) (by omega)
  have r1 : Fl.D.lst (List.replicate (new.length + 1) (.tup [N 0, N 0])) = runsD (List.replicate (new.length + 1) (0, 0)) := by
    unfold runsD; rw [List.map_replicate]; rfl
  have r2 : Fl.D.lst (List.replicate (old.length + 1) (N 0)) = .lst ((rowP old []).map N) := by
    unfold rowP
    rw [List.map_map]
    congr 1
    refine List.ext_getElem (by simp) fun i h1 h2 => ?_
    simp [cp_nil]
  have mk1 : mkLst [N 0] = some (.lst [N 0]) := mkLst_ok (szL_ok (by simp))
  have mk2 : mkLst [Fl.D.tup [N 0, N 0]] = some (.lst [.tup [N 0, N 0]]) := mkLst_ok (szL_ok (by simp))
  have e1 : parS [2, 3] (aCons (op2 mulL (bnd (aCons (bnd (aCons (pur (.int 0)) (aCons (pur (.int 0)) aNil)) fun xs => lift (mkTup xs)) aNil) fun xs => lift (mkLst xs)) (op2 addD (op1 lenD (rd 1)) (pur (.int 1)))) (aCons (op2 mulL (bnd (aCons (pur (.int 0)) aNil) fun xs => lift (mkLst xs)) (op2 addD (op1 lenD (rd 0)) (pur (.int 1)))) aNil)) [some (vD old), some (vD new), none, none, none, none, none, none] = .nx [some (vD old), some (vD new), some (runsD (List.replicate (new.length + 1) (0, 0))), some (.lst ((rowP old []).map N)), none, none, none, none] := by
    simp [mk1, mk2, lo, ln, m1, m2, r1, r2, -List.map_replicate]
  have it : ∃ ds, it3 (op2 subD (op1 lenD (rd 1)) (pur (.int 1))) (op1 negD (pur (.int 1))) (op1 negD (pur (.int 1))) [some (vD old), some (vD new), some (runsD (List.replicate (new.length + 1) (0, 0))), some (.lst ((rowP old []).map N)), none, none, none, none] = .ok ds [some (vD old), some (vD new), some (runsD (List.replicate (new.length + 1) (0, 0))), some (.lst ((rowP old []).map N)), none, none, none, none] ∧ ds = (List.range new.length).map fun i => N (new.length - 1 - i) := by
    have ng : negD (N 1) = some (.int (-1)) := rfl
    by_cases h : new.length = 0
    · refine ⟨[], ?_, by rw [h]; rfl⟩
      have s0 : subD (N 0) (N 1) = some (.int (-1)) := rfl
      have r0 : rng3 [.int (-1), .int (-1), .int (-1)] = some [] := by rfl
      rw [h] at ln
      simp [ln, s0, ng, r0]
    · refine ⟨_, ?_, rfl⟩
      simp [ln, subN (show 1 ≤ new.length by omega), ng, rng3N (n := new.length) (by omega) (by omega)]
  obtain ⟨ds, it, hds⟩ := it
  have post : wq (forS (it3 (op2 subD (op1 lenD (rd 1)) (pur (.int 1))) (op1 negD (pur (.int 1))) (op1 negD (pur (.int 1)))) (gNam 4) b1_longest_runs [some (vD old), some (vD new), some (runsD (List.replicate (new.length + 1) (0, 0))), some (.lst ((rowP old []).map N)), none, none, none, none])
      (fun ρ => ∃ (rs : List (Nat × Nat)) (y3 y4 y5 y6 y7 : Option Fl.D), ρ = [some (vD old), some (vD new), some (runsD rs), y3, y4, y5, y6, y7] ∧ RunsOk old new rs) (fun _ _ => False) := by
    refine wq_for (fun i ρ => ∃ (rs : List (Nat × Nat)) (y4 y5 y6 y7 : Option Fl.D), ρ = [some (vD old), some (vD new), some (runsD rs), some (.lst ((rowP old (new.drop (new.length - i))).map N)), y4, y5, y6, y7] ∧ rs.length = new.length + 1 ∧ ∀ j, new.length - i ≤ j → j ≤ new.length → ∃ r, rs[j]? = some r ∧ RunOk old (new.drop j) r) it ?_ (fun i d ρ hi hq => ?_) (fun ρ hq => ?_)
    · refine ⟨_, none, none, none, none, by rw [Nat.sub_zero, List.drop_length], by simp, fun j h1 h2 => ?_⟩
      have : j = new.length := by omega
      subst this
      refine ⟨(0, 0), by simp, fun i => ?_, ?_, by simp⟩
      · rw [List.drop_length, cp_nil]; exact Nat.le_refl _
      · rw [List.drop_length, cp_nil]
    · obtain ⟨rs, y4, y5, y6, y7, e, hl, hj⟩ := hq
      subst e
      have hin : i < new.length := by
        have := (List.getElem?_eq_some_iff.mp hi).1
        rw [hds] at this
        simpa using this
      have hd : d = N (new.length - 1 - i) := by
        rw [hds, List.getElem?_map, List.getElem?_range hin] at hi
        exact (Option.some.inj hi).symm
      subst hd
      have e2 : new.length - i = (new.length - 1 - i) + 1 := by omega
      rw [e2]
      obtain ⟨r, z5, z6, z7, hr, es⟩ := run_step (old := old) (new := new) (j := new.length - 1 - i) (rs := rs) (by omega) (by omega) (by omega) y5 y6 y7
      refine ⟨_, rfl, ?_⟩
      have e3 : new.length - (i + 1) = new.length - 1 - i := by omega
      refine wq_ex es ⟨rs.set (new.length - 1 - i) r, _, _, _, _, by rw [e3], by simp [hl], fun j h1 h2 => ?_⟩
      by_cases q : j = new.length - 1 - i
      · subst q
        exact ⟨r, by rw [List.getElem?_set_self (by omega)], hr⟩
      · rw [List.getElem?_set_ne (by omega)]
        exact hj j (by omega) h2
    · obtain ⟨rs, y4, y5, y6, y7, e, hl, hj⟩ := hq
      have hdl : ds.length = new.length := by rw [hds]; simp
      rw [hdl] at hj
      exact ⟨rs, _, y4, y5, y6, y7, e, hl, fun j h2 => hj j (by omega) h2⟩
  cases e : forS (it3 (op2 subD (op1 lenD (rd 1)) (pur (.int 1))) (op1 negD (pur (.int 1))) (op1 negD (pur (.int 1)))) (gNam 4) b1_longest_runs [some (vD old), some (vD new), some (runsD (List.replicate (new.length + 1) (0, 0))), some (.lst ((rowP old []).map N)), none, none, none, none] <;> rw [e] at post <;> try exact post.elim
  obtain ⟨rs, y3, y4, y5, y6, y7, rfl, hr⟩ := post
  exact ⟨rs, runF_rt rfl rfl ((sq_nx e1).trans ((sq_nx e).trans rfl)) rfl, hr⟩
abbrev St := Nat × Nat × List Nat
def stpD (s : St) : Fl.D := .tup [N s.1, N s.2.1, tD s.2.2]
def step1 (c0 c1 c2 : Nat) (rs : List (Nat × Nat)) (p b : Nat) : List St := (c1 + c2 * (p - b), b, tPut) :: (if p ≤ b + (rs.getD b (0, 0)).1 then [(c0, b, tCpy)] else [])
def stepsL (c0 c1 c2 : Nat) (rs : List (Nat × Nat)) (p k : Nat) : List St := (List.range k).flatMap (step1 c0 c1 c2 rs p)
theorem stepsL_s (c0 c1 c2 : Nat) (rs : List (Nat × Nat)) (p k : Nat) : stepsL c0 c1 c2 rs p (k + 1) = stepsL c0 c1 c2 rs p k ++ step1 c0 c1 c2 rs p k := by
  unfold stepsL
  rw [List.range_succ, List.flatMap_append]; simp
theorem stepsL_len (c0 c1 c2 : Nat) (rs : List (Nat × Nat)) (p : Nat) : ∀ k, (stepsL c0 c1 c2 rs p k).length ≤ 2 * k
  | 0 => by simp [stepsL]
  | k + 1 => by
    have := stepsL_len c0 c1 c2 rs p k
    rw [stepsL_s, List.length_append]
    have : (step1 c0 c1 c2 rs p k).length ≤ 2 := by unfold step1; split <;> simp
    omega
theorem v_steps {old new : List Nat} {rs : List (Nat × Nat)} {c0 c1 c2 p : Nat} (hr : rs.length = new.length + 1) (hp : p ≤ new.length) (hn : new.length < 500) (hc : c2 < 100) : F_steps_to [runsD rs, csD c0 c1 c2, N p] = .ok (.lst ((stepsL c0 c1 c2 rs p p).map stpD)) [none, none, none] := by
  have k0 : ixD (csD c0 c1 c2) (N 0) = some (N c0) := ixTN rfl
  have k1 : ixD (csD c0 c1 c2) (N 1) = some (N c1) := ixTN rfl
  have k2 : ixD (csD c0 c1 c2) (N 2) = some (N c2) := ixTN rfl
  have rp := rng1N (n := p) (by omega)
  have key : ∃ d outs, F_steps_to [runsD rs, csD c0 c1 c2, N p] = .ok d outs ∧ (d = .lst ((stepsL c0 c1 c2 rs p p).map stpD) ∧ outs = [none, none, none]) := by
    unfold F_steps_to
    refine runF_of (post := fun d outs => d = .lst ((stepsL c0 c1 c2 rs p p).map stpD) ∧ outs = [none, none, none]) rfl ?_
    unfold S_steps_to
    simp only [List.map_cons, List.map_nil, List.replicate, List.cons_append, List.nil_append]
    refine wq_sqx (ρ' := [some (runsD rs), some (csD c0 c1 c2), some (N p), some (.lst ((stepsL c0 c1 c2 rs p 0).map stpD)), none]) (by simp [stepsL]) ?_
    refine wq_sq ?_
    refine wq_for (fun i ρ => ∃ y : Option Fl.D, ρ = [some (runsD rs), some (csD c0 c1 c2), some (N p), some (.lst ((stepsL c0 c1 c2 rs p i).map stpD)), y]) (ds := (List.range p).map N) (ρ1 := [some (runsD rs), some (csD c0 c1 c2), some (N p), some (.lst ((stepsL c0 c1 c2 rs p 0).map stpD)), none]) (by simp [rp]) ⟨none, rfl⟩ (fun i d ρ hi hq => ?_) (fun ρ hq => ?_)
    · obtain ⟨y, e⟩ := hq
      subst e
      have hin : i < p := by
        have := (List.getElem?_eq_some_iff.mp hi).1
        simpa using this
      have hd : d = N i := by
        rw [List.getElem?_map, List.getElem?_range hin] at hi
        exact (Option.some.inj hi).symm
      subst hd
      refine ⟨_, rfl, ?_⟩
      have sl := stepsL_len c0 c1 c2 rs p i
      have hrs : i < rs.length := by omega
      have ri : ixD (runsD rs) (N i) = some (runD rs[i]) := ixLN (by rw [List.getElem?_map, List.getElem?_eq_getElem hrs]; rfl)
      have r0 : ixD (runD rs[i]) (N 0) = some (N rs[i].1) := ixTN rfl
      have il : isLst (.lst ((stepsL c0 c1 c2 rs p i).map stpD)) = some () := rfl
      have il2 : isLst (.lst ((stepsL c0 c1 c2 rs p i ++ [(c1 + c2 * (p - i), i, tPut)]).map stpD)) = some () := rfl
      have mt : ∀ a b w, mkTup [N a, N b, tD w] = some (stpD (a, b, w)) := fun a b w => mkTup_3 _ _ _
      have a1 : appD (.lst ((stepsL c0 c1 c2 rs p i).map stpD)) [stpD (c1 + c2 * (p - i), i, tPut)] = some (.non, .lst ((stepsL c0 c1 c2 rs p i ++ [(c1 + c2 * (p - i), i, tPut)]).map stpD)) := by
        rw [appL (by simp; omega), List.map_append]; rfl
      have a2 : appD (.lst ((stepsL c0 c1 c2 rs p i ++ [(c1 + c2 * (p - i), i, tPut)]).map stpD)) [stpD (c0, i, tCpy)] = some (.non, .lst ((stepsL c0 c1 c2 rs p i ++ [(c1 + c2 * (p - i), i, tPut), (c0, i, tCpy)]).map stpD)) := by
        rw [appL (by simp; omega)]; simp
      have gd : rs.getD i (0, 0) = rs[i] := by rw [List.getD_eq_getElem?_getD, List.getElem?_eq_getElem hrs]; rfl
      have e1 : (thn (methM 3 appD (aCons (bnd (aCons (op2 addD (op2 ixD (rd 1) (pur (.int 1))) (op2 mulD (op2 ixD (rd 1) (pur (.int 2))) (op2 subD (rd 2) (rd 4)))) (aCons (rd 4) (aCons (pur (.str (PySem.Str.ofString "put"))) aNil))) fun xs => lift (mkTup xs)) aNil)) fun _ => skip) [some (runsD rs), some (csD c0 c1 c2), some (N p), some (.lst ((stepsL c0 c1 c2 rs p i).map stpD)), some (N i)] = .nx [some (runsD rs), some (csD c0 c1 c2), some (N p), some (.lst ((stepsL c0 c1 c2 rs p i ++ [(c1 + c2 * (p - i), i, tPut)]).map stpD)), some (N i)] := by
        simp [il, k1, k2, subN (show i ≤ p by omega), mulN (a := c2) (.inl (by omega)), lput, mt, a1, x_updS, -List.map_append, -mkTup_3]
      unfold b1_steps_to
      refine wq_sqx e1 ?_
      rw [stepsL_s]
      unfold step1
      rw [gd]
      by_cases h : p ≤ i + rs[i].1
      · rw [if_pos h]
        refine wq_ex (ρ' := [some (runsD rs), some (csD c0 c1 c2), some (N p), some (.lst ((stepsL c0 c1 c2 rs p i ++ [(c1 + c2 * (p - i), i, tPut), (c0, i, tCpy)]).map stpD)), some (N i)]) ?_ ⟨_, rfl⟩
        simp [ri, r0, h, il2, k0, lcpy, mt, a2, x_updS, -List.map_append, -mkTup_3]
      · rw [if_neg h]
        refine wq_ex (ρ' := [some (runsD rs), some (csD c0 c1 c2), some (N p), some (.lst ((stepsL c0 c1 c2 rs p i ++ [(c1 + c2 * (p - i), i, tPut)]).map stpD)), some (N i)]) ?_ ⟨_, rfl⟩
        simp [ri, r0, h, -List.map_append]
    · obtain ⟨y, e⟩ := hq
      subst e
      simp
  obtain ⟨d, outs, e, rfl, rfl⟩ := key
  exact e
end K74

set_option maxHeartbeats 4000000
/-! cheapest -/
namespace K74
open PySem PySem.Spec PyProof.Rows L2 Fl
theorem lt_cons (a b : Int) (r t : List (Int ⊕ List Nat)) : PyProof.Rows.lexLt PyProof.Rows.itemOrd (.inl 1 :: .inl a :: r) (.inl 1 :: .inl b :: t) = (decide (a < b) || (!decide (b < a) && PyProof.Rows.lexLt PyProof.Rows.itemOrd r t)) := by
  show (decide ((1 : Int) < 1) || (!decide ((1 : Int) < 1) && (decide (a < b) || (!decide (b < a) && PyProof.Rows.lexLt PyProof.Rows.itemOrd r t)))) = _
  simp
theorem lt_st (a b : St) : (PySem.W.dataLt (toP (stpD a)) (toP (stpD b)) = true → a.1 ≤ b.1) ∧ (PySem.W.dataLt (toP (stpD a)) (toP (stpD b)) = false → b.1 ≤ a.1) := by
  have e : PySem.W.dataLt (toP (stpD a)) (toP (stpD b)) = (decide ((a.1 : Int) < b.1) || (!decide ((b.1 : Int) < a.1) && PyProof.Rows.lexLt PyProof.Rows.itemOrd (PySem.W.keyToksAll [.int a.2.1, .str (SX.S a.2.2)]) (PySem.W.keyToksAll [.int b.2.1, .str (SX.S b.2.2)]))) := by
    unfold PySem.W.dataLt
    exact lt_cons _ _ _ _
  rw [e]
  constructor
  · intro h
    rcases Bool.or_eq_true_iff.mp h with h | h
    · have := of_decide_eq_true h; omega
    · have := (Bool.and_eq_true_iff.mp h).1
      simp at this; omega
  · intro h
    have := (Bool.or_eq_false_iff.mp h).1
    simp at this; omega
theorem min_fold : ∀ (xs : List St) (x : St), ∃ m ∈ x :: xs, (xs.map stpD).foldl (fun a y => if PySem.W.dataLt (toP y) (toP a) then y else a) (stpD x) = stpD m ∧ ∀ s ∈ x :: xs, m.1 ≤ s.1
  | [], x => ⟨x, by simp, rfl, fun s h => by simp at h; rw [h]; exact Nat.le_refl _⟩
  | y :: xs, x => by
    rw [List.map_cons, List.foldl_cons]
    cases e : PySem.W.dataLt (toP (stpD y)) (toP (stpD x)) with
    | true =>
      obtain ⟨m, hm, h1, h2⟩ := min_fold xs y
      refine ⟨m, List.mem_cons_of_mem _ hm, by simpa using h1, fun s hs => ?_⟩
      have hy := h2 y (by simp)
      have := (lt_st y x).1 e
      rcases List.mem_cons.mp hs with rfl | hs
      · omega
      · exact h2 s hs
    | false =>
      obtain ⟨m, hm, h1, h2⟩ := min_fold xs x
      have hmm : m ∈ x :: y :: xs := by
        rcases List.mem_cons.mp hm with rfl | hm
        · simp
        · exact List.mem_cons_of_mem _ (List.mem_cons_of_mem _ hm)
      refine ⟨m, hmm, by simpa using h1, fun s hs => ?_⟩
      have hx := h2 x (by simp)
      have := (lt_st y x).2 e
      rcases List.mem_cons.mp hs with rfl | hs
      · exact hx
      · rcases List.mem_cons.mp hs with rfl | hs
        · omega
        · exact h2 s (List.mem_cons_of_mem _ hs)
theorem pln_st (n : Nat) (s : St) (h : okT s.2.2) : pln (n + 1) (stpD s) = true := pln_tup (by simp [plns, pln_N, plnT h])
theorem okSort_st {ls : List St} (h : ∀ s ∈ ls, okT s.2.2) : okSort ((ls.map stpD).map toP) = true := by
  unfold okSort
  have h1 : ∀ d ∈ (ls.map stpD).map toP, ∃ s : St, okT s.2.2 ∧ d = toP (stpD s) := fun d hd => by
    rw [List.map_map, List.mem_map] at hd
    obtain ⟨k, hk, rfl⟩ := hd
    exact ⟨k, h k hk, rfl⟩
  rw [Bool.and_eq_true, Bool.and_eq_true]
  refine ⟨⟨List.all_eq_true.mpr fun d hd => List.all_eq_true.mpr fun e he => ?_, ?_⟩, List.all_eq_true.mpr fun d hd => ?_⟩
  · obtain ⟨k, _, rfl⟩ := h1 d hd
    obtain ⟨j, _, rfl⟩ := h1 e he
    rfl
  · refine Bool.or_eq_true_iff.mpr (.inl (List.all_eq_true.mpr fun d hd => ?_))
    obtain ⟨k, _, rfl⟩ := h1 d hd
    rfl
  · obtain ⟨k, ok, rfl⟩ := h1 d hd
    obtain ⟨a, b⟩ := pln_lay 1 (stpD k) (pln_st 0 k ok)
    rw [Bool.and_eq_true, Nat.ble_eq]
    exact ⟨a, by omega⟩
theorem v_min {ls : List St} (hne : ls ≠ []) (hw : ∀ s ∈ ls, okT s.2.2) : ∃ m ∈ ls, minX (.lst (ls.map stpD)) = some (stpD m) ∧ ∀ s ∈ ls, m.1 ≤ s.1 := by
  cases ls with
  | nil => exact absurd rfl hne
  | cons x xs =>
    obtain ⟨m, hm, h1, h2⟩ := min_fold xs x
    refine ⟨m, hm, ?_, h2⟩
    have pl : ((x :: xs).map stpD).all (pln 60) = true := List.all_eq_true.mpr fun d hd => by
      rw [List.mem_map] at hd
      obtain ⟨s, hs, rfl⟩ := hd
      exact pln_st 59 s (hw s hs)
    show (if ((x :: xs).map stpD).all (pln 60) = true ∧ okSort (((x :: xs).map stpD).map toP) = true then minP ((x :: xs).map stpD) else none) = _
    rw [if_pos ⟨pl, okSort_st hw⟩]
    show some ((xs.map stpD).foldl _ (stpD x)) = _
    rw [h1]
/-- one row of the table: what is reached from rows ahead -/
def addR (fs : List St) (s : St) : St := ((fs.getD s.2.1 (0, 0, [])).1 + s.1, s.2.1, s.2.2)
structure Tab (c0 c1 c2 : Nat) (rs : List (Nat × Nat)) (fs : List St) : Prop where
  z : fs[0]? = some (0, 0, [])
  ok : ∀ p, 0 < p → ∀ f, fs[p]? = some f → f ∈ (stepsL c0 c1 c2 rs p p).map (addR fs) ∧ ∀ s ∈ stepsL c0 c1 c2 rs p p, f.1 ≤ (addR fs s).1
theorem steps_lt {c0 c1 c2 : Nat} {rs : List (Nat × Nat)} {p : Nat} : ∀ {k : Nat} {s : St}, s ∈ stepsL c0 c1 c2 rs p k → s.2.1 < k ∧ (s.2.2 = tPut ∨ s.2.2 = tCpy)
  | 0, s, h => by simp [stepsL] at h
  | k + 1, s, h => by
    rw [stepsL_s] at h
    rcases List.mem_append.mp h with h | h
    · have := steps_lt h
      exact ⟨by omega, this.2⟩
    · unfold step1 at h
      rcases List.mem_cons.mp h with rfl | h
      · exact ⟨by simp, .inl rfl⟩
      · split at h
        · simp at h; subst h; exact ⟨by simp, .inr rfl⟩
        · cases h
theorem rows_go {fs : List St} (r0 r1 r2 r3 r5 r6 : Option Fl.D) : ∀ (ls : List St), (∀ s ∈ ls, s.2.1 < fs.length) → lcGo (gTupD (gMore (gNam 7) (gMore (gNam 8) (gMore (gNam 9) gEnd)))) (pur true) (bnd (aCons (op2 addD (op2 ixD (ixS 4 (rd 8)) (pur (.int 0))) (rd 7)) (aCons (rd 8) (aCons (rd 9) aNil))) fun xs => lift (mkTup xs)) [7, 8, 9] (ls.map stpD) [r0, r1, r2, r3, some (.lst (fs.map stpD)), r5, r6, none, none, none] = some ((ls.map (addR fs)).map stpD, [r0, r1, r2, r3, some (.lst (fs.map stpD)), r5, r6, none, none, none])
  | [], _ => rfl
  | s :: ls, h => by
    have ih := rows_go r0 r1 r2 r3 r5 r6 ls fun t ht => h t (by simp [ht])
    have hs := h s (by simp)
    have ix : ixD (.lst (fs.map stpD)) (N s.2.1) = some (stpD fs[s.2.1]) := ixLN (by rw [List.getElem?_map, List.getElem?_eq_getElem hs]; rfl)
    have i0 : ixD (stpD fs[s.2.1]) (N 0) = some (N fs[s.2.1].1) := ixTN rfl
    have mt : mkTup [N (fs[s.2.1].1 + s.1), N s.2.1, tD s.2.2] = some (stpD (addR fs s)) := by
      rw [mkTup_3]
      unfold addR
      rw [List.getD_eq_getElem?_getD, List.getElem?_eq_getElem hs]; rfl
    show lcGo _ _ _ _ (Fl.D.tup [N s.1, N s.2.1, tD s.2.2] :: ls.map stpD) _ = _
    simp only [lit0] at ih
    unfold lcGo
    simp only [lit0]
    simp [gTupD, gMore, gEnd, wipeR, ix, i0, mt, ih, -mkTup_3]
theorem v_cheapest {old new : List Nat} {rs : List (Nat × Nat)} {c0 c1 c2 : Nat} (hv : F_longest_runs [vD old, vD new] = .ok (runsD rs) [none, none]) (hr : rs.length = new.length + 1) (hn : new.length < 500) (hc : c2 < 100) :
    ∃ fs, F_cheapest [vD old, vD new, csD c0 c1 c2] = .ok (.lst (fs.map stpD)) [none, none, none] ∧ fs.length = new.length + 1 ∧ Tab c0 c1 c2 rs fs := by
  have ln := len_v new
  have key : ∃ d outs, F_cheapest [vD old, vD new, csD c0 c1 c2] = .ok d outs ∧ ((∃ fs : List St, d = .lst (fs.map stpD) ∧ fs.length = new.length + 1 ∧ Tab c0 c1 c2 rs fs) ∧ outs = [none, none, none]) := by
    unfold F_cheapest
    refine runF_of (post := fun d outs => (∃ fs : List St, d = .lst (fs.map stpD) ∧ fs.length = new.length + 1 ∧ Tab c0 c1 c2 rs fs) ∧ outs = [none, none, none]) rfl ?_
    unfold S_cheapest
    simp only [List.map_cons, List.map_nil, List.replicate, List.cons_append, List.nil_append]
    have mk1 : mkLst [Fl.D.tup [N 0, N 0, tD []]] = some (.lst ([((0, 0, []) : St)].map stpD)) := mkLst_ok (szL_ok (by simp))
    refine wq_sqx (ρ' := [some (vD old), some (vD new), some (csD c0 c1 c2), some (runsD rs), some (.lst ([((0, 0, []) : St)].map stpD)), none, none, none, none, none]) (by simp [hv, l_0, mk1, -List.map_cons]) ?_
    refine wq_sq ?_
    have rg : rng2 [N 1, N (new.length + 1)] = some ((List.range new.length).map fun i => N (1 + i)) := by
      show (if okR (1 : Nat) = true ∧ okR ((new.length + 1 : Nat) : Int) = true then some (countD (1 : Nat) 1 (((new.length + 1 : Nat) : Int) - (1 : Nat)).toNat) else none) = _
      rw [if_pos ⟨by decide, okR_iff.mpr ⟨by omega, by omega⟩⟩]
      have : (((new.length + 1 : Nat) : Int) - (1 : Nat)).toNat = new.length := by omega
      rw [this]
      unfold countD
      congr 1
      apply List.map_congr_left
      intro i _
      show Fl.D.int ((1 : Nat) + (i : Int) * 1) = Fl.D.int ((1 + i : Nat) : Int)
      congr 1; omega
    refine wq_for (fun i ρ => ∃ (fs : List St) (y5 y6 : Option Fl.D), ρ = [some (vD old), some (vD new), some (csD c0 c1 c2), some (runsD rs), some (.lst (fs.map stpD)), y5, y6, none, none, none] ∧ fs.length = i + 1 ∧ Tab c0 c1 c2 rs fs) (ds := (List.range new.length).map fun i => N (1 + i)) (ρ1 := [some (vD old), some (vD new), some (csD c0 c1 c2), some (runsD rs), some (.lst ([((0, 0, []) : St)].map stpD)), none, none, none, none, none]) (by simp [ln, rg, -List.map_cons]) ⟨[(0, 0, [])], none, none, rfl, rfl, ⟨rfl, fun p hp f hf => ?_⟩⟩ (fun i d ρ hi hq => ?_) (fun ρ hq => ?_)
    · exfalso
      have := (List.getElem?_eq_some_iff.mp hf).1
      simp at this; omega
    · obtain ⟨fs, y5, y6, e, hl, hT⟩ := hq
      subst e
      have hin : i < new.length := by
        have := (List.getElem?_eq_some_iff.mp hi).1
        simpa using this
      have hd : d = N (1 + i) := by
        rw [List.getElem?_map, List.getElem?_range hin] at hi
        exact (Option.some.inj hi).symm
      subst hd
      refine ⟨_, rfl, ?_⟩
      have sl := stepsL_len c0 c1 c2 rs (1 + i) (1 + i)
      have vs := v_steps (old := old) (new := new) (rs := rs) (c0 := c0) (c1 := c1) (c2 := c2) (p := 1 + i) hr (by omega) hn hc
      have lt : ∀ s ∈ stepsL c0 c1 c2 rs (1 + i) (1 + i), s.2.1 < fs.length := fun s hs => by
        have := (steps_lt hs).1; omega
      have rg2 := rows_go (fs := fs) (some (vD old)) (some (vD new)) (some (csD c0 c1 c2)) (some (runsD rs)) (some (N (1 + i))) y6 (stepsL c0 c1 c2 rs (1 + i) (1 + i)) lt
      have hne : (stepsL c0 c1 c2 rs (1 + i) (1 + i)).map (addR fs) ≠ [] := by
        rw [Nat.add_comm 1 i, stepsL_s]
        simp [step1]
      have hw : ∀ s ∈ (stepsL c0 c1 c2 rs (1 + i) (1 + i)).map (addR fs), okT s.2.2 := fun s hs => by
        rw [List.mem_map] at hs
        obtain ⟨t, ht, rfl⟩ := hs
        show okT t.2.2
        rcases (steps_lt ht).2 with h | h
        · rw [h]; exact oput
        · rw [h]; exact ocpy
      obtain ⟨m, hm, mn, mle⟩ := v_min hne hw
      have il : isLst (.lst (fs.map stpD)) = some () := rfl
      have ap : appD (.lst (fs.map stpD)) [stpD m] = some (.non, .lst ((fs ++ [m]).map stpD)) := by
        rw [appL (by simp; omega), List.map_append]; rfl
      have sq1 : seqD (.lst ((stepsL c0 c1 c2 rs (1 + i) (1 + i)).map stpD)) = some ((stepsL c0 c1 c2 rs (1 + i) (1 + i)).map stpD) := rfl
      have lk : lcK (gTupD (gMore (gNam 7) (gMore (gNam 8) (gMore (gNam 9) gEnd)))) (pur true) (bnd (aCons (op2 addD (op2 ixD (ixS 4 (rd 8)) (pur (.int 0))) (rd 7)) (aCons (rd 8) (aCons (rd 9) aNil))) fun xs => lift (mkTup xs)) [7, 8, 9] ((stepsL c0 c1 c2 rs (1 + i) (1 + i)).map stpD) [some (vD old), some (vD new), some (csD c0 c1 c2), some (runsD rs), some (.lst (fs.map stpD)), some (N (1 + i)), y6, none, none, none] = .ok (.lst (((stepsL c0 c1 c2 rs (1 + i) (1 + i)).map (addR fs)).map stpD)) [some (vD old), some (vD new), some (csD c0 c1 c2), some (runsD rs), some (.lst (fs.map stpD)), some (N (1 + i)), y6, none, none, none] := by
        unfold lcK
        rw [if_pos (szL_ok (by simp; omega))]
        simp only [lit0] at rg2
        simp [wipeR, unw, rg2, -List.map_map]
      unfold b1_cheapest
      refine wq_sqx (ρ' := [some (vD old), some (vD new), some (csD c0 c1 c2), some (runsD rs), some (.lst (fs.map stpD)), some (N (1 + i)), some (.lst (((stepsL c0 c1 c2 rs (1 + i) (1 + i)).map (addR fs)).map stpD)), none, none, none]) (by simp only [lit0] at lk; simp [vs, sq1, lk, -List.map_map]) ?_
      refine wq_ex (ρ' := [some (vD old), some (vD new), some (csD c0 c1 c2), some (runsD rs), some (.lst ((fs ++ [m]).map stpD)), some (N (1 + i)), some (.lst (((stepsL c0 c1 c2 rs (1 + i) (1 + i)).map (addR fs)).map stpD)), none, none, none]) (by simp [il, mn, ap, x_updS, -List.map_map, -List.map_append]) ⟨fs ++ [m], _, _, rfl, by simp [hl], ?_⟩
      have ea : ∀ s : St, s.2.1 < fs.length → addR (fs ++ [m]) s = addR fs s := fun s hs => by
        unfold addR
        rw [List.getD_eq_getElem?_getD, List.getD_eq_getElem?_getD, List.getElem?_append_left hs]
      refine ⟨by rw [List.getElem?_append_left (by omega)]; exact hT.z, fun p hp f hf => ?_⟩
      rcases Nat.lt_or_ge p fs.length with h | h
      · rw [List.getElem?_append_left h] at hf
        obtain ⟨a1, a2⟩ := hT.ok p hp f hf
        refine ⟨?_, fun s hs => ?_⟩
        · rw [List.mem_map] at a1 ⊢
          obtain ⟨s, hs, e⟩ := a1
          exact ⟨s, hs, by rw [ea s (by have := (steps_lt hs).1; omega)]; exact e⟩
        · rw [ea s (by have := (steps_lt hs).1; omega)]; exact a2 s hs
      · have hp2 : p = 1 + i := by
          have := (List.getElem?_eq_some_iff.mp hf).1
          simp at this; omega
        subst hp2
        have hf2 : f = m := by
          rw [List.getElem?_append_right (by omega)] at hf
          have : 1 + i - fs.length = 0 := by omega
          rw [this] at hf
          simpa using hf.symm
        subst hf2
        refine ⟨?_, fun s hs => ?_⟩
        · rw [List.mem_map] at hm ⊢
          obtain ⟨s, hs, e⟩ := hm
          exact ⟨s, hs, by rw [ea s (lt s hs)]; exact e⟩
        · rw [ea s (lt s hs)]
          exact mle _ (List.mem_map.mpr ⟨s, hs, rfl⟩)
    · obtain ⟨fs, y5, y6, e, hl, hT⟩ := hq
      subst e
      simp
      exact ⟨fs, rfl, by simpa using hl, hT⟩
  obtain ⟨d, outs, e, ⟨fs, rfl, h1, h2⟩, rfl⟩ := key
  exact ⟨fs, e, h1, h2⟩
theorem v_pot {old new : List Nat} {fs : List St} {c0 c1 c2 : Nat} (hv : F_cheapest [vD old, vD new, csD c0 c1 c2] = .ok (.lst (fs.map stpD)) [none, none, none]) (hl : fs.length < 1000) : F_potentials_of [vD old, vD new, csD c0 c1 c2] = .ok (vD (fs.map (·.1))) [none, none, none] := by
  have sq : seqD (.lst (fs.map stpD)) = some (fs.map stpD) := rfl
  have lc := lc_k (v := 3) (fe := op2 ixD (rd 3) (pur (.int 0))) (ρ := [some (vD old), some (vD new), some (csD c0 c1 c2), none]) (f := fun d => match d with | .tup (x :: _) => x | _ => .non) (ds := fs.map stpD) (szL_ok (by simp; omega)) (by
    intro d hd
    rw [List.mem_map] at hd
    obtain ⟨s, hs, rfl⟩ := hd
    have : ixD (stpD s) (N 0) = some (N s.1) := ixTN rfl
    simp [this]; rfl)
  have e : (fs.map stpD).map (fun d => match d with | .tup (x :: _) => x | _ => .non) = (fs.map (·.1)).map N := by
    rw [List.map_map, List.map_map]; rfl
  rw [e] at lc
  have tp : tupD (.lst ((fs.map (·.1)).map N)) = some (vD (fs.map (·.1))) := rfl
  unfold F_potentials_of runF S_potentials_of
  simp only [List.set_cons_succ, List.set_cons_zero, lit0] at lc
  simp [List.replicate, hv, sq, lc, tp, -List.map_map]
end K74

set_option maxHeartbeats 4000000
/-! least_delta, potentials -/
namespace K74
open PySem PySem.Spec PyProof.Rows L2 Fl
theorem steps_mem {c0 c1 c2 : Nat} {rs : List (Nat × Nat)} {p : Nat} : ∀ {k : Nat} {s : St}, s ∈ stepsL c0 c1 c2 rs p k ↔ ∃ b, b < k ∧ (s = (c1 + c2 * (p - b), b, tPut) ∨ p ≤ b + (rs.getD b (0, 0)).1 ∧ s = (c0, b, tCpy)) := fun {k s} => by
  unfold stepsL
  rw [List.mem_flatMap]
  constructor
  · rintro ⟨b, hb, h⟩
    refine ⟨b, by simpa using hb, ?_⟩
    unfold step1 at h
    rcases List.mem_cons.mp h with h | h
    · exact .inl h
    · split at h
      · rename_i q; exact .inr ⟨q, by simpa using h⟩
      · cases h
  · rintro ⟨b, hb, h⟩
    refine ⟨b, by simpa using hb, ?_⟩
    unfold step1
    rcases h with h | ⟨q, h⟩
    · rw [h]; simp
    · rw [if_pos q, h]; simp
structure Dl (old new : List Nat) (c0 c1 c2 : Nat) (fs : List St) (p : Nat) (qs : List Pc) : Prop where
  ok : ∀ q ∈ qs, q.ok old.length
  ap : app old qs = new.drop p
  su : (qs.map (cost c0 c1 c2)).sum + (fs.getD p (0, 0, [])).1 = (fs.getD new.length (0, 0, [])).1
  le : qs.length + p ≤ new.length
theorem ld_step {old new : List Nat} {rs : List (Nat × Nat)} {c0 c1 c2 : Nat} {fs : List St} (R : RunsOk old new rs) (T : Tab c0 c1 c2 rs fs) (hfl : fs.length = new.length + 1) (hn : new.length < 500) (hL : Lt new) {p : Nat} (hp0 : 0 < p) (hp : p ≤ new.length) {qs : List Pc} (I : Dl old new c0 c1 c2 fs p qs) (x7 x8 x9 : Option Fl.D) :
    ∃ (q : Pc) (b : Nat) (y7 y9 : Option Fl.D), b < p ∧ Dl old new c0 c1 c2 fs b (q :: qs) ∧ b1_least_delta [some (vD old), some (vD new), some (csD c0 c1 c2), some (runsD rs), some (.lst (fs.map stpD)), some (.lst (qs.reverse.map pcD)), some (N p), x7, x8, x9] = .nx [some (vD old), some (vD new), some (csD c0 c1 c2), some (runsD rs), some (.lst (fs.map stpD)), some (.lst ((q :: qs).reverse.map pcD)), some (N b), y7, some (N b), y9] := by
  have hpf : p < fs.length := by omega
  obtain ⟨tm, _⟩ := T.ok p hp0 fs[p] (List.getElem?_eq_getElem hpf)
  rw [List.mem_map] at tm
  obtain ⟨s, hs, hfe⟩ := tm
  rw [steps_mem] at hs
  obtain ⟨b, hb, hs⟩ := hs
  have fix : ixD (.lst (fs.map stpD)) (N p) = some (stpD fs[p]) := ixLN (by rw [List.getElem?_map, List.getElem?_eq_getElem hpf]; rfl)
  have fp : (fs.getD p (0, 0, [])) = fs[p] := by rw [List.getD_eq_getElem?_getD, List.getElem?_eq_getElem hpf]; rfl
  have isu := I.su
  rw [fp, ← hfe] at isu
  have il : isLst (.lst (qs.reverse.map pcD)) = some () := rfl
  have ile := I.le
  have apn : ∀ q : Pc, appD (.lst (qs.reverse.map pcD)) [pcD q] = some (.non, .lst ((q :: qs).reverse.map pcD)) := fun q => by
    rw [appL (by simp; omega), List.reverse_cons, List.map_append]; rfl
  rcases hs with rfl | ⟨hrb, rfl⟩
  · have hf : fs[p] = ((fs.getD b (0, 0, [])).1 + (c1 + c2 * (p - b)), b, tPut) := hfe.symm
    refine ⟨.put ((new.drop b).take (p - b)), b, some (N ((fs.getD b (0, 0, [])).1 + (c1 + c2 * (p - b)))), some (tD tPut), hb, ⟨fun q hq => ?_, ?_, ?_, ?_⟩, ?_⟩
    · rcases List.mem_cons.mp hq with rfl | hq
      · refine ⟨fun z => ?_, fun y hy => hL y (List.mem_of_mem_drop (List.mem_of_mem_take hy)), by rw [List.length_take]; omega⟩
        have := congrArg List.length z
        simp at this; omega
      · exact I.ok q hq
    · show (new.drop b).take (p - b) ++ app old qs = _
      rw [I.ap]
      have : new.drop p = (new.drop b).drop (p - b) := by rw [List.drop_drop]; congr 1; omega
      rw [this, List.take_append_drop]
    · show (c1 + c2 * ((new.drop b).take (p - b)).length + (qs.map (cost c0 c1 c2)).sum) + _ = _
      have e : ((new.drop b).take (p - b)).length = p - b := by rw [List.length_take, List.length_drop]; omega
      rw [e]
      have : (addR fs (c1 + c2 * (p - b), b, tPut)).1 = (fs.getD b (0, 0, [])).1 + (c1 + c2 * (p - b)) := rfl
      rw [this] at isu
      omega
    · simp; omega
    · have sl : slD (vD new) (some (b : Int)) (some (p : Int)) = some (vD ((new.drop b).take (p - b))) := by
        show some (Fl.D.tup (cutA _ _ _)) = _
        rw [cut_map, cut_mid]; rfl
      have pd : Fl.D.tup [tD tPut, vD ((new.drop b).take (p - b))] = pcD (.put ((new.drop b).take (p - b))) := rfl
      have st : stpD fs[p] = .tup [N ((fs.getD b (0, 0, [])).1 + (c1 + c2 * (p - b))), N b, tD tPut] := by rw [hf]; rfl
      have e1 : asgS (op2 ixD (rd 4) (rd 6)) (gTupD (gMore (gNam 7) (gMore (gNam 8) (gMore (gNam 9) gEnd)))) [some (vD old), some (vD new), some (csD c0 c1 c2), some (runsD rs), some (.lst (fs.map stpD)), some (.lst (qs.reverse.map pcD)), some (N p), x7, x8, x9] = .nx [some (vD old), some (vD new), some (csD c0 c1 c2), some (runsD rs), some (.lst (fs.map stpD)), some (.lst (qs.reverse.map pcD)), some (N p), some (N ((fs.getD b (0, 0, [])).1 + (c1 + c2 * (p - b)))), some (N b), some (tD tPut)] := by
        simp only [x_asgS, x_thn, x_op2, x_bnd, x_rd, get_s, get_0, x_lift, fix, st]
        rfl
      unfold b1_least_delta
      rw [sq_nx e1]
      simp [lput, e_pp, il, sl, pd, apn, x_updS, -List.map_reverse, -List.map_cons, -List.reverse_cons]
  · have hf : fs[p] = ((fs.getD b (0, 0, [])).1 + c0, b, tCpy) := hfe.symm
    obtain ⟨r, hr, RO⟩ := R.2 b (by omega)
    have hrd : rs.getD b (0, 0) = r := by rw [List.getD_eq_getElem?_getD, hr]; rfl
    rw [hrd] at hrb
    have cl := cp_le (old.drop r.2) (new.drop b)
    rw [RO.at_, List.length_drop, List.length_drop] at cl
    refine ⟨.cpy r.2 (p - b), b, some (N ((fs.getD b (0, 0, [])).1 + c0)), some (tD tCpy), hb, ⟨fun q hq => ?_, ?_, ?_, ?_⟩, ?_⟩
    · rcases List.mem_cons.mp hq with rfl | hq
      · exact ⟨by omega, by have := RO.le; omega⟩
      · exact I.ok q hq
    · show (old.drop r.2).take (p - b) ++ app old qs = _
      rw [I.ap]
      have tk := cp_take (old.drop r.2) (new.drop b)
      rw [RO.at_] at tk
      have tk2 := congrArg (List.take (p - b)) tk
      rw [List.take_take, List.take_take, Nat.min_eq_left (by omega)] at tk2
      rw [tk2]
      have : new.drop p = (new.drop b).drop (p - b) := by rw [List.drop_drop]; congr 1; omega
      rw [this, List.take_append_drop]
    · show (c0 + (qs.map (cost c0 c1 c2)).sum) + _ = _
      have : (addR fs (c0, b, tCpy)).1 = (fs.getD b (0, 0, [])).1 + c0 := rfl
      rw [this] at isu
      omega
    · simp; omega
    · have ri : ixD (runsD rs) (N b) = some (runD r) := ixLN (by rw [List.getElem?_map, hr]; rfl)
      have r1 : ixD (runD r) (N 1) = some (N r.2) := ixTN rfl
      have pd : Fl.D.tup [tD tCpy, N r.2, N (p - b)] = pcD (.cpy r.2 (p - b)) := rfl
      have st : stpD fs[p] = .tup [N ((fs.getD b (0, 0, [])).1 + c0), N b, tD tCpy] := by rw [hf]; rfl
      have e1 : asgS (op2 ixD (rd 4) (rd 6)) (gTupD (gMore (gNam 7) (gMore (gNam 8) (gMore (gNam 9) gEnd)))) [some (vD old), some (vD new), some (csD c0 c1 c2), some (runsD rs), some (.lst (fs.map stpD)), some (.lst (qs.reverse.map pcD)), some (N p), x7, x8, x9] = .nx [some (vD old), some (vD new), some (csD c0 c1 c2), some (runsD rs), some (.lst (fs.map stpD)), some (.lst (qs.reverse.map pcD)), some (N p), some (N ((fs.getD b (0, 0, [])).1 + c0)), some (N b), some (tD tCpy)] := by
        simp only [x_asgS, x_thn, x_op2, x_bnd, x_rd, get_s, get_0, x_lift, fix, st]
        rfl
      unfold b1_least_delta
      rw [sq_nx e1]
      simp [lput, lcpy, e_cp, il, ri, r1, subN (show b ≤ p by omega), pd, apn, x_updS, -List.map_reverse, -List.map_cons, -List.reverse_cons]
theorem ld_go {old new : List Nat} {rs : List (Nat × Nat)} {c0 c1 c2 : Nat} {fs : List St} (R : RunsOk old new rs) (T : Tab c0 c1 c2 rs fs) (hfl : fs.length = new.length + 1) (hn : new.length < 500) (hL : Lt new) : ∀ (p fuel : Nat) (qs : List Pc) (x7 x8 x9 : Option Fl.D), p ≤ new.length → p < fuel → Dl old new c0 c1 c2 fs p qs →
    ∃ (qs' : List Pc) (y7 y8 y9 : Option Fl.D), whGo (tst (op2 gtD (rd 6) (pur (.int 0)))) b1_least_delta fuel [some (vD old), some (vD new), some (csD c0 c1 c2), some (runsD rs), some (.lst (fs.map stpD)), some (.lst (qs.reverse.map pcD)), some (N p), x7, x8, x9] = .nx [some (vD old), some (vD new), some (csD c0 c1 c2), some (runsD rs), some (.lst (fs.map stpD)), some (.lst (qs'.reverse.map pcD)), some (N 0), y7, y8, y9] ∧ Dl old new c0 c1 c2 fs 0 qs' := fun p => by
  induction p using Nat.strongRecOn with
  | _ p ih =>
    intro fuel qs x7 x8 x9 hp hfu I
    obtain ⟨fuel, rfl⟩ : ∃ k, fuel = k + 1 := ⟨fuel - 1, by omega⟩
    by_cases h : p = 0
    · subst h
      refine ⟨qs, x7, x8, x9, ?_, I⟩
      unfold whGo
      simp
    · obtain ⟨q, b, y7, y9, hb, I2, es⟩ := ld_step R T hfl hn hL (by omega) hp I x7 x8 x9
      obtain ⟨qs', z7, z8, z9, e, I3⟩ := ih b hb fuel (q :: qs) y7 (some (N b)) y9 (by omega) (by omega) I2
      refine ⟨qs', z7, z8, z9, ?_, I3⟩
      unfold whGo
      have hp0 : 0 < p := by omega
      simp [hp0, es, -List.map_reverse, -List.map_cons, -List.reverse_cons]
      simpa [-List.map_reverse, -List.map_cons, -List.reverse_cons] using e
theorem v_least {old new : List Nat} {rs : List (Nat × Nat)} {c0 c1 c2 : Nat} {fs : List St} (hv : F_longest_runs [vD old, vD new] = .ok (runsD rs) [none, none]) (hc : F_cheapest [vD old, vD new, csD c0 c1 c2] = .ok (.lst (fs.map stpD)) [none, none, none]) (R : RunsOk old new rs) (T : Tab c0 c1 c2 rs fs) (hfl : fs.length = new.length + 1) (hn : new.length < 500) (hL : Lt new) :
    ∃ ps, F_least_delta [vD old, vD new, csD c0 c1 c2] = .ok (dD ps) [none, none, none] ∧ Dl old new c0 c1 c2 fs 0 ps := by
  have ln := len_v new
  have I0 : Dl old new c0 c1 c2 fs new.length [] := ⟨fun q h => by (cases h), by simp [app], by simp, by simp⟩
  obtain ⟨qs, y7, y8, y9, go, I⟩ := ld_go R T hfl hn hL new.length 1000000 [] none none none (Nat.le_refl _) (by omega) I0
  refine ⟨qs, ?_, I⟩
  have rv : revD (.lst (qs.reverse.map pcD)) = some (.lst (qs.map pcD)) := by
    show some (Fl.D.lst (qs.reverse.map pcD).reverse) = _
    rw [← List.map_reverse, List.reverse_reverse]
  have tp : tupD (.lst (qs.map pcD)) = some (dD qs) := rfl
  have e1 : parS [3, 4, 5, 6] (aCons (callF [.v, .v] F_longest_runs (aCons (rd 0) (aCons (rd 1) aNil))) (aCons (callF [.v, .v, .v] F_cheapest (aCons (rd 0) (aCons (rd 1) (aCons (rd 2) aNil)))) (aCons (bnd aNil fun xs => lift (mkLst xs)) (aCons (op1 lenD (rd 1)) aNil)))) [some (vD old), some (vD new), some (csD c0 c1 c2), none, none, none, none, none, none, none] = .nx [some (vD old), some (vD new), some (csD c0 c1 c2), some (runsD rs), some (.lst (fs.map stpD)), some (.lst (([] : List Pc).reverse.map pcD)), some (N new.length), none, none, none] := by
    simp [hv, hc, ln]
  refine runF_rt rfl rfl ((sq_nx e1).trans ((sq_nx go).trans (?_ : _ = Out.rt _ [some (vD old), some (vD new), some (csD c0 c1 c2), some (runsD rs), some (.lst (fs.map stpD)), some (.lst (qs.reverse.map pcD)), some (N 0), y7, y8, y9]))) rfl
  simp [rv, tp, -List.map_reverse]
end K74

set_option maxHeartbeats 4000000
/-! potentials, the judge -/
namespace K74
open PySem PySem.Spec PyProof.Rows L2 Fl
theorem ix_v {xs : List Nat} {k x : Nat} (h : xs[k]? = some x) : ixD (vD xs) (N k) = some (N x) := ixTN (by rw [List.getElem?_map, h]; rfl)
def Pot (c0 c1 c2 : Nat) (rs : List (Nat × Nat)) (n : Nat) (th : List Nat) : Prop := th.length = n + 1 ∧ th[0]? = some 0 ∧ ∀ p, 0 < p → p ≤ n → ∀ s ∈ stepsL c0 c1 c2 rs p p, th.getD p 0 ≤ th.getD s.2.1 0 + s.1
theorem pot_go {th : List Nat} {p : Nat} (hp : p < th.length) (r0 r1 r2 r5 : Option Fl.D) : ∀ (ls : List St) (x7 x8 x9 : Option Fl.D), (∀ s ∈ ls, s.2.1 < th.length ∧ th.getD p 0 ≤ th.getD s.2.1 0 + s.1) → ∃ y7 y8 y9, forGo (gTupD (gMore (gNam 7) (gMore (gNam 8) (gMore (gNam 9) gEnd)))) b1_are_potentials (ls.map stpD) [r0, r1, r2, some (vD th), none, r5, some (N p), x7, x8, x9] = .nx [r0, r1, r2, some (vD th), none, r5, some (N p), y7, y8, y9]
  | [], x7, x8, x9, _ => ⟨x7, x8, x9, rfl⟩
  | s :: ls, x7, x8, x9, h => by
    obtain ⟨hs, hle⟩ := h s (by simp)
    obtain ⟨y7, y8, y9, e⟩ := pot_go hp r0 r1 r2 r5 ls (some (N s.1)) (some (N s.2.1)) (some (tD s.2.2)) fun t ht => h t (by simp [ht])
    refine ⟨y7, y8, y9, ?_⟩
    have i1 := ix_v (xs := th) (k := p) (List.getElem?_eq_getElem hp)
    have i2 := ix_v (xs := th) (k := s.2.1) (List.getElem?_eq_getElem hs)
    have g1 : th.getD p 0 = th[p] := by rw [List.getD_eq_getElem?_getD, List.getElem?_eq_getElem hp]; rfl
    have g2 : th.getD s.2.1 0 = th[s.2.1] := by rw [List.getD_eq_getElem?_getD, List.getElem?_eq_getElem hs]; rfl
    rw [g1, g2] at hle
    have st : b1_are_potentials [r0, r1, r2, some (vD th), none, r5, some (N p), some (N s.1), some (N s.2.1), some (tD s.2.2)] = .nx [r0, r1, r2, some (vD th), none, r5, some (N p), some (N s.1), some (N s.2.1), some (tD s.2.2)] := by
      have gt : gtD (N th[p]) (N (th[s.2.1] + s.1)) = some (.bl false) := by rw [gtN]; simp; omega
      unfold b1_are_potentials
      simp [i1, i2, gt]
    rw [List.map_cons]
    unfold forGo
    have tg : gTupD (gMore (gNam 7) (gMore (gNam 8) (gMore (gNam 9) gEnd))) (stpD s) [r0, r1, r2, some (vD th), none, r5, some (N p), x7, x8, x9] = some [r0, r1, r2, some (vD th), none, r5, some (N p), some (N s.1), some (N s.2.1), some (tD s.2.2)] := rfl
    simp only [tg, st]
    exact e
theorem v_arepot {old new : List Nat} {rs : List (Nat × Nat)} {c0 c1 c2 : Nat} {th : List Nat} (hv : F_longest_runs [vD old, vD new] = .ok (runsD rs) [none, none]) (hr : rs.length = new.length + 1) (hn : new.length < 500) (hc : c2 < 100) (P : Pot c0 c1 c2 rs new.length th) : F_are_potentials [vD old, vD new, csD c0 c1 c2, vD th] = .ok (.bl true) [none, none, none, none] := by
  obtain ⟨hl, h0, hp⟩ := P
  have ln := len_v new
  have lt := len_v th
  rw [hl] at lt
  have it : isiD "tuple" (vD th) = some (.bl true) := isi_tup _
  have sqt : seqD (vD th) = some (th.map N) := rfl
  have lc := lc_k (v := 4) (fe := callF [.v] F_is_number (aCons (rd 4) aNil)) (ρ := [some (vD old), some (vD new), some (csD c0 c1 c2), some (vD th), none, none, none, none, none, none]) (f := fun d => .bl true) (ds := th.map N) (szL_ok (by simp; omega)) (by
    intro d hd
    rw [List.mem_map] at hd
    obtain ⟨k, hk, rfl⟩ := hd
    simp [v_isnum])
  have e : (th.map N).map (fun d => Fl.D.bl true) = th.map fun _ => Fl.D.bl ((fun _ => true) ()) := by rw [List.map_map]; rfl
  rw [e] at lc
  have al := allT1 (xs := th) (f := fun _ => true) fun _ _ => rfl
  have key : ∃ d outs, F_are_potentials [vD old, vD new, csD c0 c1 c2, vD th] = .ok d outs ∧ (d = .bl true ∧ outs = [none, none, none, none]) := by
    unfold F_are_potentials
    refine runF_of (post := fun d outs => d = .bl true ∧ outs = [none, none, none, none]) rfl ?_
    unfold S_are_potentials
    simp only [List.map_cons, List.map_nil, List.replicate, List.cons_append, List.nil_append]
    refine wq_sqx (ρ' := [some (vD old), some (vD new), some (csD c0 c1 c2), some (vD th), none, none, none, none, none, none]) ?_ ?_
    · simp only [List.set_cons_succ, List.set_cons_zero] at lc
      simp [it, lt, ln, sqt, lc, al, -List.map_const, -List.map_const']
    refine wq_sqx (ρ' := [some (vD old), some (vD new), some (csD c0 c1 c2), some (vD th), none, some (runsD rs), none, none, none, none]) (by simp [hv]) ?_
    refine wq_sq ?_
    have rg : rng2 [N 1, N (new.length + 1)] = some ((List.range new.length).map fun i => N (1 + i)) := by
      show (if okR (1 : Nat) = true ∧ okR ((new.length + 1 : Nat) : Int) = true then some (countD (1 : Nat) 1 (((new.length + 1 : Nat) : Int) - (1 : Nat)).toNat) else none) = _
      rw [if_pos ⟨by decide, okR_iff.mpr ⟨by omega, by omega⟩⟩]
      have : (((new.length + 1 : Nat) : Int) - (1 : Nat)).toNat = new.length := by omega
      rw [this]
      unfold countD
      congr 1
      apply List.map_congr_left
      intro i _
      show Fl.D.int ((1 : Nat) + (i : Int) * 1) = Fl.D.int ((1 + i : Nat) : Int)
      congr 1; omega
    refine wq_for (fun i ρ => ∃ (y6 y7 y8 y9 : Option Fl.D), ρ = [some (vD old), some (vD new), some (csD c0 c1 c2), some (vD th), none, some (runsD rs), y6, y7, y8, y9]) (ds := (List.range new.length).map fun i => N (1 + i)) (ρ1 := [some (vD old), some (vD new), some (csD c0 c1 c2), some (vD th), none, some (runsD rs), none, none, none, none]) (by simp [ln, rg]) ⟨none, none, none, none, rfl⟩ (fun i d ρ hi hq => ?_) (fun ρ hq => ?_)
    · obtain ⟨y6, y7, y8, y9, e⟩ := hq
      subst e
      have hin : i < new.length := by
        have := (List.getElem?_eq_some_iff.mp hi).1
        simpa using this
      have hd : d = N (1 + i) := by
        rw [List.getElem?_map, List.getElem?_range hin] at hi
        exact (Option.some.inj hi).symm
      subst hd
      refine ⟨_, rfl, ?_⟩
      have vs := v_steps (old := old) (new := new) (rs := rs) (c0 := c0) (c1 := c1) (c2 := c2) (p := 1 + i) hr (by omega) hn hc
      obtain ⟨z7, z8, z9, go⟩ := pot_go (th := th) (p := 1 + i) (by omega) (some (vD old)) (some (vD new)) (some (csD c0 c1 c2)) (some (runsD rs)) (stepsL c0 c1 c2 rs (1 + i) (1 + i)) y7 y8 y9 fun s hs => ⟨by have := (steps_lt hs).1; omega, hp (1 + i) (by omega) (by omega) s hs⟩
      have sq1 : seqD (.lst ((stepsL c0 c1 c2 rs (1 + i) (1 + i)).map stpD)) = some ((stepsL c0 c1 c2 rs (1 + i) (1 + i)).map stpD) := rfl
      refine wq_ex (ρ' := [some (vD old), some (vD new), some (csD c0 c1 c2), some (vD th), none, some (runsD rs), some (N (1 + i)), z7, z8, z9]) ?_ ⟨_, _, _, _, rfl⟩
      unfold b2_are_potentials
      simp [vs, sq1, go]
    · obtain ⟨y6, y7, y8, y9, e⟩ := hq
      subst e
      have i0 := ix_v h0
      simp [i0]
  obtain ⟨d, outs, e, rfl, rfl⟩ := key
  exact e
theorem ix_last {xs : List Nat} {n x : Nat} (h : xs.length = n + 1) (hx : xs[n]? = some x) : ixD (vD xs) (.int (-1)) = some (N x) := by
  show atI (xs.map N) (-1) = _
  unfold atI
  rw [ixN_last (by simp; omega)]
  have := (List.getElem?_eq_some_iff.mp hx).2
  simp [h]
  rw [this]
theorem v_judge {old new : List Nat} {rs : List (Nat × Nat)} {c0 c1 c2 : Nat} {th : List Nat} {ps : List Pc} {x : Nat} (hv : F_longest_runs [vD old, vD new] = .ok (runsD rs) [none, none]) (hr : rs.length = new.length + 1) (ho : old.length < 500) (hn : new.length < 500) (hc : c2 < 100) (P : Pot c0 c1 c2 rs new.length th) (hok : ∀ p ∈ ps, p.ok old.length) (hl : ps.length < 500) (hap : app old ps = new) (hx : th[new.length]? = some x) :
    F_is_least_delta [vD old, vD new, csD c0 c1 c2, dD ps, vD th] = .ok (.bl (decide (x = (ps.map (cost c0 c1 c2)).sum))) [none, none, none, none, none] := by
  have v1 := v_isdelta (ps := ps) (old := old) hok (by omega) (by omega)
  have v2 := v_applied (ps := ps) (old := old) hok (by omega) (by omega)
  rw [hap] at v2
  have v3 := v_arepot hv hr hn hc P
  have v4 := v_cost (c0 := c0) (c1 := c1) hok hc (by omega)
  have nv : neD (vD new) (vD new) = some (.bl false) := by rw [ne_v]; simp
  have ng : negD (N 1) = some (.int (-1)) := rfl
  have il := ix_last (n := new.length) P.1 hx
  unfold F_is_least_delta runF S_is_least_delta
  simp [List.replicate, v1, v2, v3, v4, nv, ng, il]
end K74

set_option maxHeartbeats 4000000
/-! plain: costs by runs are least costs -/
namespace K74
section
variable (c0 c1 c2 hi : Nat) (F : Nat → Nat) (R : Nat → Nat → Prop)
/-- the least costs, step by step -/
structure Lc (n : Nat) : Prop where
  z : F 0 = 0
  put : ∀ p, p < n → ∀ b, b ≤ p → F (p + 1) ≤ F b + (c1 + c2 * (p + 1 - b))
  cpy : ∀ p, p < n → ∀ b, b ≤ p → R b (p + 1) → F (p + 1) ≤ F b + c0
  at_ : ∀ p, p < n → ∃ b, b ≤ p ∧ (F (p + 1) = F b + (c1 + c2 * (p + 1 - b)) ∨ R b (p + 1) ∧ F (p + 1) = F b + c0)
def gg : Nat → Nat
  | 0 => F 0 + c1
  | p + 1 => min (gg p + c2) (F (p + 1) + c1)
theorem gg_le : ∀ p b, b ≤ p → gg c1 c2 F p ≤ F b + (c1 + c2 * (p - b))
  | 0, b, h => by
    have : b = 0 := by omega
    subst this
    simp [gg]
  | p + 1, b, h => by
    unfold gg
    by_cases q : b = p + 1
    · subst q
      have : p + 1 - (p + 1) = 0 := by omega
      rw [this]; simp; omega
    · have := gg_le p b (by omega)
      have e : p + 1 - b = (p - b) + 1 := by omega
      rw [e, Nat.mul_add, Nat.mul_one]
      omega
theorem gg_at : ∀ p, ∃ b, b ≤ p ∧ gg c1 c2 F p = F b + (c1 + c2 * (p - b))
  | 0 => ⟨0, by omega, by simp [gg]⟩
  | p + 1 => by
    obtain ⟨b, hb, e⟩ := gg_at p
    unfold gg
    rcases Nat.le_total (gg c1 c2 F p + c2) (F (p + 1) + c1) with h | h
    · refine ⟨b, by omega, ?_⟩
      rw [Nat.min_eq_left h, e]
      have e2 : p + 1 - b = (p - b) + 1 := by omega
      rw [e2, Nat.mul_add, Nat.mul_one]; omega
    · refine ⟨p + 1, by omega, ?_⟩
      rw [Nat.min_eq_right h]; simp
/-- the law's state behind p places -/
structure Iv (p free laid s : Nat) (old : Bool) : Prop where
  a : F p = min free laid
  b : gg c1 c2 F p = min laid (free + c1)
  l : laid ≤ c1 + c2 * p
  sp : s < p
  f : free = if old = true then F s + c0 else hi
  m : ∀ b, s ≤ b → b ≤ p → F s ≤ F b
  r : ∀ b, b < p → (R b p ↔ (old = true ∧ s ≤ b))
theorem step_put {n : Nat} (L : Lc c0 c1 c2 F R n) {q : Nat} (hq : q < n) : (∀ x, (x = gg c1 c2 F q + c2 ∨ ∃ b, b ≤ q ∧ R b (q + 1) ∧ x = F b + c0) → F (q + 1) ≤ x) ∧ (F (q + 1) = gg c1 c2 F q + c2 ∨ ∃ b, b ≤ q ∧ R b (q + 1) ∧ F (q + 1) = F b + c0) := by
  constructor
  · intro x hx
    rcases hx with rfl | ⟨b, hb, hr, rfl⟩
    · obtain ⟨b, hb, e⟩ := gg_at c1 c2 F q
      have := L.put q hq b hb
      rw [e]
      have e2 : q + 1 - b = (q - b) + 1 := by omega
      rw [e2, Nat.mul_add, Nat.mul_one] at this; omega
    · exact L.cpy q hq b hb hr
  · obtain ⟨b, hb, h | ⟨hr, h⟩⟩ := L.at_ q hq
    · left
      have h1 := gg_le c1 c2 F q b hb
      obtain ⟨b2, hb2, e⟩ := gg_at c1 c2 F q
      have h2 := L.put q hq b2 hb2
      have e2 : q + 1 - b = (q - b) + 1 := by omega
      have e3 : q + 1 - b2 = (q - b2) + 1 := by omega
      rw [e2, Nat.mul_add, Nat.mul_one] at h
      rw [e3, Nat.mul_add, Nat.mul_one] at h2
      omega
    · exact .inr ⟨b, hb, hr, h⟩
/-- the first place, or a new run -/
theorem iv_new {n : Nat} (L : Lc c0 c1 c2 F R n) {q free laid : Nat} {old : Bool} (hq : q < n) (ha : F q = min free laid) (hb : gg c1 c2 F q = min laid (free + c1)) (hl : gg c1 c2 F q ≤ c1 + c2 * q) (hh : c1 + c2 * (q + 1) ≤ hi) (hr : ∀ b, b ≤ q → (R b (q + 1) ↔ (old = true ∧ q ≤ b))) :
    Iv c0 c1 c2 hi F R (q + 1) (if old = true then min free laid + c0 else hi) (min (free + c1) laid + c2) q old := by
  have e1 : min (free + c1) laid = gg c1 c2 F q := by rw [hb]; omega
  obtain ⟨up, at_⟩ := step_put c0 c1 c2 F R L hq
  have hF : F (q + 1) = min (if old = true then min free laid + c0 else hi) (min (free + c1) laid + c2) := by
    rw [e1]
    have u1 := up _ (.inl rfl)
    cases old with
    | true =>
      have u2 := up _ (.inr ⟨q, Nat.le_refl _, (hr q (Nat.le_refl _)).mpr ⟨rfl, Nat.le_refl _⟩, rfl⟩)
      simp only [if_true]
      rw [← ha]
      rcases at_ with h | ⟨b, hb2, hrb, h⟩
      · omega
      · have := ((hr b hb2).mp hrb).2
        have : b = q := by omega
        subst this; omega
    | false =>
      rw [Nat.mul_add, Nat.mul_one] at hh
      rcases at_ with h | ⟨b, hb2, hrb, h⟩
      · simp; omega
      · have := ((hr b hb2).mp hrb).1; cases this
  clear at_ up
  refine ⟨hF, ?_, ?_, by omega, ?_, fun b h1 h2 => ?_, fun b h => hr b (by omega)⟩
  · show min (gg c1 c2 F q + c2) (F (q + 1) + c1) = _
    rw [hF, e1]; omega
  · rw [e1, Nat.mul_add, Nat.mul_one]; omega
  · rw [← ha]
  · rcases Nat.lt_or_ge b (q + 1) with h | h
    · have : b = q := by omega
      subst this; exact Nat.le_refl _
    · have : b = q + 1 := by omega
      subst this
      rw [hF, ha]
      cases old with
      | true => simp; omega
      | false =>
        have : F q ≤ hi := by
          have : F q ≤ c1 + c2 * q := by
            rw [ha]; rw [hb] at hl; omega
          rw [Nat.mul_add, Nat.mul_one] at hh; omega
        rw [ha] at this
        simp; omega
/-- the run goes on -/
theorem iv_more {n : Nat} (L : Lc c0 c1 c2 F R n) {q free laid s : Nat} {old : Bool} (hq : q < n) (I : Iv c0 c1 c2 hi F R q free laid s old) (hh : c1 + c2 * (q + 1) ≤ hi) (hr : ∀ b, b ≤ q → (R b (q + 1) ↔ (old = true ∧ s ≤ b))) :
    Iv c0 c1 c2 hi F R (q + 1) free (laid + c2) s old := by
  obtain ⟨up, at_⟩ := step_put c0 c1 c2 F R L hq
  have hll := I.l
  have hsq := I.sp
  have hF : F (q + 1) = min free (laid + c2) := by
    have u1 := up _ (.inl rfl)
    have hf := I.f
    have hb := I.b
    cases old with
    | true =>
      simp only [if_true] at hf
      have u2 := up _ (.inr ⟨s, by omega, (hr s (by omega)).mpr ⟨rfl, Nat.le_refl _⟩, rfl⟩)
      rcases at_ with h | ⟨b, hb2, hrb, h⟩
      · rw [hb] at h u1; omega
      · have hsb := ((hr b hb2).mp hrb).2
        have := I.m b hsb hb2
        rw [hb] at u1; omega
    | false =>
      have hf : free = hi := by simpa using hf
      rw [Nat.mul_add, Nat.mul_one] at hh
      rcases at_ with h | ⟨b, hb2, hrb, h⟩
      · rw [hb] at h; omega
      · have := ((hr b hb2).mp hrb).1; cases this
  clear at_ up
  refine ⟨hF, ?_, ?_, by omega, I.f, fun b h1 h2 => ?_, fun b h => hr b (by omega)⟩
  · show min (gg c1 c2 F q + c2) (F (q + 1) + c1) = _
    rw [hF, I.b]; omega
  · rw [Nat.mul_add, Nat.mul_one]; omega
  · rcases Nat.lt_or_ge b (q + 1) with h | h
    · exact I.m b h1 (by omega)
    · have : b = q + 1 := by omega
      subst this
      have hs2 := I.m q (by omega) (Nat.le_refl _)
      rw [I.a] at hs2
      rw [hF]; omega
end
end K74

set_option maxHeartbeats 4000000
/-! plain: places, runs of places -/
namespace K74
open PySem PySem.Spec PyProof.Rows L2 Fl
/-- places from b on, ahead of p: old ones one behind the other -/
def Rn (m : Nat) (pl : List Nat) (b p : Nat) : Prop := b < p ∧ ∀ t, b ≤ t → t < p → ∃ x, pl[b]? = some x ∧ pl[t]? = some (x + (t - b)) ∧ x + (t - b) < m
theorem cp_ge : ∀ (xs ys : List Nat) (k : Nat), k ≤ cp xs ys ↔ (k ≤ xs.length ∧ k ≤ ys.length ∧ ∀ t, t < k → xs[t]? = ys[t]?)
  | [], ys, k => by
    show k ≤ 0 ↔ _
    constructor
    · intro h
      have : k = 0 := by omega
      subst this
      simp
    · intro h; simpa using h.1
  | x :: xs, [], k => by
    show k ≤ 0 ↔ _
    constructor
    · intro h
      have : k = 0 := by omega
      subst this
      simp
    · intro h; simpa using h.2.1
  | x :: xs, y :: ys, 0 => by simp
  | x :: xs, y :: ys, k + 1 => by
    have ih := cp_ge xs ys k
    unfold cp
    by_cases h : x = y
    · rw [if_pos h]
      constructor
      · intro hk
        obtain ⟨a, b, c⟩ := ih.mp (by omega)
        refine ⟨by simpa using a, by simpa using b, fun t ht => ?_⟩
        cases t with
        | zero => simp [h]
        | succ t => simpa using c t (by omega)
      · rintro ⟨a, b, c⟩
        have := ih.mpr ⟨by simpa using a, by simpa using b, fun t ht => by simpa using c (t + 1) (by omega)⟩
        omega
    · rw [if_neg h]
      constructor
      · intro hk; omega
      · rintro ⟨_, _, c⟩
        have := c 0 (by omega)
        simp at this
        exact absurd this h
def gN (bg st x : Nat) : Nat := (bg + st * x) % 251
theorem cop : ∀ s, s < 251 → 0 < s → Nat.Coprime 251 s := by decide
theorem g_inj {bg st x y : Nat} (h0 : 0 < st) (h1 : st < 251) (hx : x < 251) (hy : y < 251) (h : gN bg st x = gN bg st y) : x = y := by
  have key : ∀ {x y : Nat}, x ≤ y → y < 251 → (bg + st * x) % 251 = (bg + st * y) % 251 → x = y := fun {x y} hxy hy h => by
    have h2 := Nat.sub_mod_eq_zero_of_mod_eq h.symm
    have h3 : bg + st * y - (bg + st * x) = st * (y - x) := by
      rw [Nat.mul_sub]; omega
    rw [h3] at h2
    have h4 : 251 ∣ st * (y - x) := Nat.dvd_of_mod_eq_zero h2
    have h5 : 251 ∣ y - x := (cop st h1 h0).dvd_of_dvd_mul_left h4
    have := Nat.eq_zero_of_dvd_of_lt h5 (by omega)
    omega
  rcases Nat.le_total x y with q | q
  · exact key q hy h
  · exact (key q hx h.symm).symm
section
variable {m bg st : Nat} {pl : List Nat}
def oldL (m bg st : Nat) : List Nat := (List.range m).map (gN bg st)
def newL (bg st : Nat) (pl : List Nat) : List Nat := pl.map (gN bg st)
theorem run_iff (hm : m < 251) (h0 : 0 < st) (h1 : st < 251) (hp : ∀ x ∈ pl, x < 251) {rs : List (Nat × Nat)} (R : RunsOk (oldL m bg st) (newL bg st pl) rs) {b p : Nat} (hbp : b < p) (hpn : p ≤ pl.length) : p ≤ b + (rs.getD b (0, 0)).1 ↔ Rn m pl b p := by
  have hn : (newL bg st pl).length = pl.length := by unfold newL; simp
  have ho : (oldL m bg st).length = m := by unfold oldL; simp
  obtain ⟨r, hr, RO⟩ := R.2 b (by omega)
  have hrd : rs.getD b (0, 0) = r := by rw [List.getD_eq_getElem?_getD, hr]; rfl
  rw [hrd]
  have eqv : ∀ {i t x : Nat}, i < m → pl[t]? = some x → ((oldL m bg st)[i]? = (newL bg st pl)[t]? ↔ x = i) := fun {i t x} hi hx => by
    have hx2 := hp x (List.mem_of_getElem? hx)
    unfold oldL newL
    rw [List.getElem?_map, List.getElem?_map, hx, List.getElem?_range hi]
    constructor
    · intro h
      exact (g_inj h0 h1 (by omega) hx2 (Option.some.inj h)).symm
    · intro h; rw [h]
  constructor
  · intro h
    have h2 : p - b ≤ cp ((oldL m bg st).drop r.2) ((newL bg st pl).drop b) := by rw [RO.at_]; omega
    obtain ⟨a1, a2, a3⟩ := (cp_ge _ _ _).mp h2
    rw [List.length_drop, ho] at a1
    have key : ∀ t, t < p - b → pl[b + t]? = some (r.2 + t) := fun t ht => by
      have := a3 t ht
      rw [List.getElem?_drop, List.getElem?_drop] at this
      have hx := List.getElem?_eq_getElem (l := pl) (i := b + t) (by omega)
      have := (eqv (by omega) hx).mp this
      rw [hx, this]
    refine ⟨hbp, fun t t1 t2 => ⟨r.2, ?_, ?_, by omega⟩⟩
    · have := key 0 (by omega)
      simpa using this
    · have := key (t - b) (by omega)
      rwa [show b + (t - b) = t by omega] at this
  · rintro ⟨_, h⟩
    obtain ⟨x, hx, _, hxm⟩ := h b (Nat.le_refl _) hbp
    rw [Nat.sub_self, Nat.add_zero] at hxm
    have hend : x + (p - 1 - b) < m := by
      obtain ⟨y, hy, hy2, hy3⟩ := h (p - 1) (by omega) (by omega)
      rw [hx] at hy
      have hxy : x = y := Option.some.inj hy
      rw [← hxy] at hy3; exact hy3
    have h2 : p - b ≤ cp ((oldL m bg st).drop x) ((newL bg st pl).drop b) := by
      rw [cp_ge]
      refine ⟨by rw [List.length_drop, ho]; omega, by rw [List.length_drop, hn]; omega, fun t ht => ?_⟩
      rw [List.getElem?_drop, List.getElem?_drop]
      obtain ⟨y, hy, hy2, hy3⟩ := h (b + t) (by omega) (by omega)
      rw [hx] at hy
      have hxy : x = y := Option.some.inj hy
      subst hxy
      rw [show b + t - b = t by omega] at hy2 hy3
      exact (eqv hy3 hy2).mpr rfl
    have := RO.ge x
    omega
theorem lc_of (hm : m < 251) (h0 : 0 < st) (h1 : st < 251) (hp : ∀ x ∈ pl, x < 251) {rs : List (Nat × Nat)} (R : RunsOk (oldL m bg st) (newL bg st pl) rs) {c0 c1 c2 : Nat} {fs : List St} (T : Tab c0 c1 c2 rs fs) (hl : fs.length = pl.length + 1) :
    Lc c0 c1 c2 (fun p => (fs.getD p (0, 0, [])).1) (Rn m pl) pl.length := by
  have fg : ∀ p, p < pl.length → fs[p + 1]? = some (fs.getD (p + 1) (0, 0, [])) := fun p hp => by
    rw [List.getD_eq_getElem?_getD, List.getElem?_eq_getElem (by omega)]; rfl
  refine ⟨?_, fun p hpn b hb => ?_, fun p hpn b hb hr => ?_, fun p hpn => ?_⟩
  · show (fs.getD 0 (0, 0, [])).1 = 0
    rw [List.getD_eq_getElem?_getD, T.z]; rfl
  · have := (T.ok (p + 1) (by omega) _ (fg p hpn)).2 (c1 + c2 * (p + 1 - b), b, tPut) (steps_mem.mpr ⟨b, by omega, .inl rfl⟩)
    exact this
  · have hr2 := (run_iff hm h0 h1 hp R (by omega) (by omega)).mpr hr
    have := (T.ok (p + 1) (by omega) _ (fg p hpn)).2 (c0, b, tCpy) (steps_mem.mpr ⟨b, by omega, .inr ⟨hr2, rfl⟩⟩)
    exact this
  · have := (T.ok (p + 1) (by omega) _ (fg p hpn)).1
    rw [List.mem_map] at this
    obtain ⟨s, hs, e⟩ := this
    obtain ⟨b, hb, h | ⟨h2, h⟩⟩ := steps_mem.mp hs
    · refine ⟨b, by omega, .inl ?_⟩
      rw [h] at e
      exact (congrArg (·.1) e).symm
    · refine ⟨b, by omega, .inr ⟨(run_iff hm h0 h1 hp R (by omega) (by omega)).mp h2, ?_⟩⟩
      rw [h] at e
      exact (congrArg (·.1) e).symm
end
/-- the longest stretches -/
abbrev Rs := List (Bool × Nat) × Option Nat
def ext (m : Nat) (s : Rs) (own : Nat) : Option Nat := match s.1.getLast?, s.2 with
  | some (o, k), some l => if o = decide (own < m) ∧ (decide (own < m) = false ∨ l + 1 = own) then some k else none
  | _, _ => none
def rstep (m : Nat) (s : Rs) (own : Nat) : Rs := match ext m s own with
  | some k => (s.1.dropLast ++ [(decide (own < m), k + 1)], some own)
  | none => (s.1 ++ [(decide (own < m), 1)], some own)
def rruns (m : Nat) (pl : List Nat) : Rs := pl.foldl (rstep m) ([], none)
def cstep (c0 c1 c2 hi : Nat) (fl : Nat × Nat) (r : Bool × Nat) : Nat × Nat := (if r.1 = true then min fl.1 fl.2 + c0 else hi, min (fl.1 + c1) fl.2 + c2 * r.2)
def lcost (c0 c1 c2 hi : Nat) (rs : List (Bool × Nat)) : Nat × Nat := rs.foldl (cstep c0 c1 c2 hi) (0, hi)
structure Jv (c0 c1 c2 hi m : Nat) (F : Nat → Nat) (pl : List Nat) (p : Nat) : Prop where
  j : ∃ (pre : List (Bool × Nat)) (o : Bool) (k x : Nat), rruns m (pl.take p) = (pre ++ [(o, k)], some x) ∧ pl[p - 1]? = some x ∧ o = decide (x < m) ∧ k ≤ p ∧ 0 < k ∧ Iv c0 c1 c2 hi F (Rn m pl) p (lcost c0 c1 c2 hi (pre ++ [(o, k)])).1 (lcost c0 c1 c2 hi (pre ++ [(o, k)])).2 (p - k) o
theorem lcost_app (c0 c1 c2 hi : Nat) (pre : List (Bool × Nat)) (r : Bool × Nat) : lcost c0 c1 c2 hi (pre ++ [r]) = cstep c0 c1 c2 hi (lcost c0 c1 c2 hi pre) r := by
  unfold lcost
  rw [List.foldl_append]; rfl
theorem rruns_s {m : Nat} {pl : List Nat} {q x : Nat} (h : pl[q]? = some x) : rruns m (pl.take (q + 1)) = rstep m (rruns m (pl.take q)) x := by
  have hq := (List.getElem?_eq_some_iff.mp h).1
  have hx := (List.getElem?_eq_some_iff.mp h).2
  unfold rruns
  rw [List.take_succ_eq_append_getElem hq, List.foldl_append, hx]; rfl
section
variable {c0 c1 c2 hi m : Nat} {F : Nat → Nat} {pl : List Nat}
theorem Rn_last {q x : Nat} (h : pl[q]? = some x) : Rn m pl q (q + 1) ↔ x < m := by
  constructor
  · rintro ⟨_, h2⟩
    obtain ⟨y, h3, h4, h5⟩ := h2 q (Nat.le_refl _) (by omega)
    rw [h] at h3
    have : x = y := Option.some.inj h3
    subst this
    omega
  · intro hx
    refine ⟨by omega, fun t t1 t2 => ⟨x, h, ?_, ?_⟩⟩
    · have : t = q := by omega
      subst this
      simpa using h
    · omega
theorem Rn_more {q b x y : Nat} (hb : b < q) (h : pl[q]? = some x) (hy : pl[q - 1]? = some y) : Rn m pl b (q + 1) ↔ (Rn m pl b q ∧ x < m ∧ y + 1 = x) := by
  constructor
  · rintro ⟨_, h2⟩
    refine ⟨⟨hb, fun t t1 t2 => h2 t t1 (by omega)⟩, ?_⟩
    obtain ⟨z, z1, z2, z3⟩ := h2 q (by omega) (by omega)
    obtain ⟨w, w1, w2, w3⟩ := h2 (q - 1) (by omega) (by omega)
    rw [z1] at w1
    have : z = w := Option.some.inj w1
    subst this
    rw [h] at z2
    rw [hy] at w2
    have e1 : x = z + (q - b) := Option.some.inj z2
    have e2 : y = z + (q - 1 - b) := Option.some.inj w2
    omega
  · rintro ⟨⟨_, h2⟩, h3, h4⟩
    refine ⟨by omega, fun t t1 t2 => ?_⟩
    by_cases ht : t < q
    · exact h2 t t1 ht
    · have : t = q := by omega
      subst this
      obtain ⟨w, w1, w2, w3⟩ := h2 (t - 1) (by omega) (by omega)
      rw [hy] at w2
      have e2 : y = w + (t - 1 - b) := Option.some.inj w2
      refine ⟨w, w1, ?_, by omega⟩
      rw [h]; congr 1; omega
theorem jv_1 (L : Lc c0 c1 c2 F (Rn m pl) pl.length) (hn : 0 < pl.length) (hh : c1 + c2 * pl.length ≤ hi) : Jv c0 c1 c2 hi m F pl 1 := by
  obtain ⟨x, hx⟩ : ∃ x, pl[0]? = some x := ⟨pl[0], List.getElem?_eq_getElem hn⟩
  have rs := rruns_s (m := m) hx
  have r0 : rruns m (pl.take 0) = ([], none) := by simp [rruns]
  rw [r0] at rs
  have rs2 : rruns m (pl.take 1) = ([] ++ [(decide (x < m), 1)], some x) := rs
  refine ⟨[], decide (x < m), 1, x, rs2, hx, rfl, by omega, by omega, ?_⟩
  have h1 : c1 + c2 * 1 ≤ hi := by
    have : c2 * 1 ≤ c2 * pl.length := Nat.mul_le_mul_left _ hn
    omega
  have := iv_new c0 c1 c2 hi F (Rn m pl) L (q := 0) (free := 0) (laid := hi) (old := decide (x < m)) hn (by rw [L.z]; simp) (by show F 0 + c1 = _; rw [L.z]; omega) (by show F 0 + c1 ≤ _; rw [L.z]; omega) (by simpa using h1) (fun b hb => by
    have : b = 0 := by omega
    subst this
    rw [Rn_last hx]; simp)
  rw [lcost_app]
  simpa [cstep, lcost] using this
theorem jv_s (L : Lc c0 c1 c2 F (Rn m pl) pl.length) (hh : c1 + c2 * pl.length ≤ hi) {q : Nat} (hq0 : 0 < q) (hq : q < pl.length) (J : Jv c0 c1 c2 hi m F pl q) : Jv c0 c1 c2 hi m F pl (q + 1) := by
  obtain ⟨pre, o, k, y, hr, hy, ho, hk, hk0, I⟩ := J.j
  obtain ⟨x, hx⟩ : ∃ x, pl[q]? = some x := ⟨pl[q], List.getElem?_eq_getElem hq⟩
  have rs := rruns_s (m := m) hx
  rw [hr] at rs
  have hq1 : c1 + c2 * (q + 1) ≤ hi := by
    have : c2 * (q + 1) ≤ c2 * pl.length := Nat.mul_le_mul_left _ (by omega)
    omega
  have eg : ext m (pre ++ [(o, k)], some y) x = if o = decide (x < m) ∧ (decide (x < m) = false ∨ y + 1 = x) then some k else none := by
    unfold ext
    simp
  by_cases hc : o = decide (x < m) ∧ (decide (x < m) = false ∨ y + 1 = x)
  · rw [if_pos hc] at eg
    have rs2 : rruns m (pl.take (q + 1)) = (pre ++ [(decide (x < m), k + 1)], some x) := by
      rw [rs]
      unfold rstep
      rw [eg]
      simp
    refine ⟨pre, decide (x < m), k + 1, x, rs2, hx, rfl, by omega, by omega, ?_⟩
    have hr2 : ∀ b, b ≤ q → (Rn m pl b (q + 1) ↔ (o = true ∧ q - k ≤ b)) := fun b hb => by
      by_cases hbq : b = q
      · subst hbq
        rw [Rn_last hx, hc.1]
        simp
      · rw [Rn_more (by omega) hx hy, I.r b (by omega)]
        rcases hc.2 with h | h
        · rw [hc.1, h]
          simp
        · constructor
          · rintro ⟨h2, _⟩; exact h2
          · intro h2
            refine ⟨h2, ?_, h⟩
            have := h2.1
            rw [hc.1] at this
            exact of_decide_eq_true this
    have := iv_more c0 c1 c2 hi F (Rn m pl) L hq I hq1 hr2
    have e1 : q + 1 - (k + 1) = q - k := by omega
    rw [e1, ← hc.1]
    rw [lcost_app] at this ⊢
    simp only [cstep] at this ⊢
    rw [Nat.mul_add, Nat.mul_one, ← Nat.add_assoc]
    exact this
  · rw [if_neg hc] at eg
    have rs2 : rruns m (pl.take (q + 1)) = ((pre ++ [(o, k)]) ++ [(decide (x < m), 1)], some x) := by
      rw [rs]
      unfold rstep
      rw [eg]
    refine ⟨pre ++ [(o, k)], decide (x < m), 1, x, rs2, hx, rfl, by omega, by omega, ?_⟩
    have hr2 : ∀ b, b ≤ q → (Rn m pl b (q + 1) ↔ (decide (x < m) = true ∧ q ≤ b)) := fun b hb => by
      by_cases hbq : b = q
      · subst hbq
        rw [Rn_last hx]
        simp
      · rw [Rn_more (by omega) hx hy, I.r b (by omega)]
        constructor
        · rintro ⟨⟨h1, _⟩, h2, h3⟩
          exfalso
          exact hc ⟨by rw [h1]; simp [h2], .inr h3⟩
        · rintro ⟨_, h2⟩; omega
    have hl : gg c1 c2 F q ≤ c1 + c2 * q := by
      have h1 := I.b
      have h2 := I.l
      omega
    have := iv_new c0 c1 c2 hi F (Rn m pl) L (old := decide (x < m)) hq I.a I.b hl hq1 hr2
    rw [lcost_app]
    simp only [cstep]
    rw [Nat.mul_one]
    exact this
theorem jv_all (L : Lc c0 c1 c2 F (Rn m pl) pl.length) (hh : c1 + c2 * pl.length ≤ hi) : ∀ q, 0 < q → q ≤ pl.length → Jv c0 c1 c2 hi m F pl q
  | 0, h, _ => absurd h (by omega)
  | 1, _, hq => jv_1 L hq hh
  | q + 2, _, hq => jv_s L hh (by omega) (by omega) (jv_all L hh (q + 1) (by omega) (by omega))
/-- the law's cost is the least cost -/
theorem law_cost (L : Lc c0 c1 c2 F (Rn m pl) pl.length) (hh : c1 + c2 * pl.length ≤ hi) {q : Nat} (hq : q ≤ pl.length) : min (lcost c0 c1 c2 hi (rruns m (pl.take q)).1).1 (lcost c0 c1 c2 hi (rruns m (pl.take q)).1).2 = F q := by
  rcases Nat.eq_zero_or_pos q with h | h
  · subst h
    rw [L.z]
    simp [rruns, lcost]
  · obtain ⟨pre, o, k, x, hr, _, _, _, _, I⟩ := (jv_all L hh q h hq).j
    rw [hr, I.a]
end
end K74

set_option maxHeartbeats 4000000
/-! the law's own: runs, cost, places -/
namespace K74
open PySem PySem.Spec PyProof.Rows L2 Fl
def rnD (r : Bool × Nat) : Fl.D := .tup [.bl r.1, N r.2]
def lsD : Option Nat → Fl.D
  | none => .non
  | some y => N y
theorem sh_rn (rs : List (Bool × Nat)) : SeqAt.shaped (toP (.lst (rs.map rnD))) = true := by
  have h : PyData.canLayAll0 (toPs (rs.map rnD)) = true ∧ PyData.depthAll (toPs (rs.map rnD)) ≤ 1 := by
    induction rs with
    | nil => exact ⟨rfl, Nat.zero_le _⟩
    | cons r rs ih =>
      rw [List.map_cons]
      unfold toPs
      refine ⟨?_, ?_⟩
      · simp only [PyData.canLayAll0, Bool.and_eq_true]
        exact ⟨rfl, ih.1⟩
      · simp only [PyData.depthAll]
        have : (toP (rnD r)).depth = 1 := rfl
        omega
  unfold SeqAt.shaped
  simp only [toP, PyData.canLay0, PyData.depth, h.1, Bool.true_and, decide_eq_true_eq]
  omega
theorem ne_rn0 : neD (.lst []) (.lst []) = some (.bl false) := neD_self (by simp [pln, plns])
theorem ne_rn1 (pre : List (Bool × Nat)) (r : Bool × Nat) : neD (.lst ((pre ++ [r]).map rnD)) (.lst []) = some (.bl true) := by
  unfold neD
  rw [if_pos ⟨sh_rn _, by decide +kernel⟩]
  congr 2
  cases pre <;> rfl
theorem eq_bl (a b : Bool) : eqD (.bl a) (.bl b) = some (.bl (decide (a = b))) := by
  unfold eqD
  rw [if_pos ⟨rfl, rfl⟩]
  cases a <;> cases b <;> rfl
theorem ixN_l {α : Type} (pre : List α) (r : α) : ixN (pre ++ [r]).length (-1) = some pre.length := by
  rw [ixN_last (by simp)]; simp
def Vs : Rs → Prop := fun s => s = ([], none) ∨ ∃ pre o k y, s = (pre ++ [(o, k)], some y)
theorem Vs_step {m : Nat} {s : Rs} (h : Vs s) (x : Nat) : Vs (rstep m s x) := by
  unfold rstep
  cases e : ext m s x with
  | none => exact .inr ⟨s.1, _, _, _, rfl⟩
  | some k => exact .inr ⟨s.1.dropLast, _, _, _, rfl⟩
theorem v_rstep {m x : Nat} {s : Rs} (h : Vs s) (hl : s.1.length < 1000) (r0 z : Option Fl.D) : b1_u_law_runs [r0, some (N m), some (.lst (s.1.map rnD)), some (lsD s.2), some (N x), z] = .nx [r0, some (N m), some (.lst ((rstep m s x).1.map rnD)), some (lsD (rstep m s x).2), some (N x), some (.bl (decide (x < m)))] := by
  have mt : ∀ (o : Bool) (k : Nat), mkTup [Fl.D.bl o, N k] = some (rnD (o, k)) := fun o k => mkTup_2 _ _
  have ng : negD (N 1) = some (.int (-1)) := rfl
  have ap : appD (.lst (s.1.map rnD)) [rnD (decide (x < m), 1)] = some (.non, .lst ((s.1 ++ [(decide (x < m), 1)]).map rnD)) := by
    rw [appL (by simp; omega), List.map_append]; rfl
  have il : isLst (.lst (s.1.map rnD)) = some () := rfl
  rcases h with rfl | ⟨pre, o, k, y, rfl⟩
  · have e : rstep m ([], none) x = ([] ++ [(decide (x < m), 1)], some x) := rfl
    rw [e]
    unfold b1_u_law_runs
    simp only [List.map_nil, lsD] at *
    simp [ne_rn0, mt, il, ap, x_updS, -mkTup_2]
  · have ix : ixD (.lst ((pre ++ [(o, k)]).map rnD)) (.int (-1)) = some (rnD (o, k)) := by
      show atI _ (-1) = _
      unfold atI
      rw [List.map_append, List.map_singleton, ixN_l]
      simp
    have i0 : ixD (rnD (o, k)) (N 0) = some (.bl o) := ixTN rfl
    have i1 : ixD (rnD (o, k)) (N 1) = some (N k) := ixTN rfl
    have st : stD (.lst ((pre ++ [(o, k)]).map rnD)) (.int (-1)) (rnD (decide (x < m), k + 1)) = some (.lst ((pre ++ [(decide (x < m), k + 1)]).map rnD)) := by
      show (ixN ((pre ++ [(o, k)]).map rnD).length (-1)).map (fun j => Fl.D.lst (((pre ++ [(o, k)]).map rnD).set j _)) = _
      rw [List.map_append, List.map_singleton, ixN_l]
      show some (Fl.D.lst _) = _
      rw [List.length_map]
      congr 2
      rw [List.map_append, List.set_append_right _ _ (by simp)]
      simp
    have eg : ext m (pre ++ [(o, k)], some y) x = if o = decide (x < m) ∧ (decide (x < m) = false ∨ y + 1 = x) then some k else none := by
      unfold ext
      simp
    unfold b1_u_law_runs
    simp only [lsD] at *
    unfold rstep
    rw [eg]
    by_cases hx : x < m
    · by_cases ho : o = true
      · by_cases hy : y + 1 = x
        · subst ho
          simp only [hx, decide_true] at st
          simp [hx, hy, ne_rn1, ng, ix, i0, i1, eq_bl, mt, gSubS, st, il, lsD, -mkTup_2, -List.map_append]
        · subst ho
          simp only [hx, decide_true] at ap
          simp [hx, hy, ne_rn1, ng, ix, i0, i1, eq_bl, mt, il, ap, x_updS, lsD, -mkTup_2, -List.map_append]
      · have ho2 : o = false := by simpa using ho
        subst ho2
        simp only [hx, decide_true] at ap
        simp [hx, ne_rn1, ng, ix, i0, i1, eq_bl, mt, il, ap, x_updS, lsD, -mkTup_2, -List.map_append]
    · by_cases ho : o = true
      · subst ho
        simp only [hx, decide_false] at ap
        simp [hx, ne_rn1, ng, ix, i0, i1, eq_bl, mt, il, ap, x_updS, lsD, -mkTup_2, -List.map_append]
      · have ho2 : o = false := by simpa using ho
        subst ho2
        simp only [hx, decide_false] at st
        simp [hx, ne_rn1, ng, ix, i0, i1, eq_bl, mt, gSubS, st, il, lsD, -mkTup_2, -List.map_append]
theorem runs_go {m : Nat} (r0 : Option Fl.D) : ∀ (xs : List Nat) (s : Rs) (z4 z5 : Option Fl.D), Vs s → s.1.length + xs.length < 1000 → ∃ y3 y4 y5, forGo (gNam 4) b1_u_law_runs (xs.map N) [r0, some (N m), some (.lst (s.1.map rnD)), some (lsD s.2), z4, z5] = .nx [r0, some (N m), some (.lst ((xs.foldl (rstep m) s).1.map rnD)), y3, y4, y5]
  | [], s, z4, z5, _, _ => ⟨_, z4, z5, rfl⟩
  | x :: xs, s, z4, z5, h, hl => by
    rw [List.length_cons] at hl
    have hl2 : (rstep m s x).1.length ≤ s.1.length + 1 := by
      unfold rstep
      cases ext m s x <;> simp
    obtain ⟨y3, y4, y5, e⟩ := runs_go r0 xs (rstep m s x) (some (N x)) (some (.bl (decide (x < m)))) (Vs_step h x) (by omega)
    refine ⟨y3, y4, y5, ?_⟩
    rw [List.map_cons]
    unfold forGo
    simp only [gNam_x, List.set_cons_succ, List.set_cons_zero, v_rstep h (show s.1.length < 1000 by omega)]
    exact e
theorem v_lruns {m : Nat} {xs : List Nat} (hl : xs.length < 900) : F_u_law_runs [.lst (xs.map N), N m] = .ok (.lst ((rruns m xs).1.map rnD)) [none, none] := by
  obtain ⟨y3, y4, y5, go⟩ := runs_go (m := m) (some (.lst (xs.map N))) xs ([], none) none none (.inl rfl) (by simp; omega)
  have sq : seqD (.lst (xs.map N)) = some (xs.map N) := rfl
  have e1 : parS [2, 3] (aCons (bnd aNil fun xs => lift (mkLst xs)) (aCons (pur .non) aNil)) [some (.lst (xs.map N)), some (N m), none, none, none, none] = .nx [some (.lst (xs.map N)), some (N m), some (.lst []), some .non, none, none] := by simp
  have e2 : forS (itSeq (rd 0)) (gNam 4) b1_u_law_runs [some (.lst (xs.map N)), some (N m), some (.lst []), some .non, none, none] = .nx [some (.lst (xs.map N)), some (N m), some (.lst ((rruns m xs).1.map rnD)), y3, y4, y5] := by
    simp [sq]
    exact go
  refine runF_rt rfl rfl ((sq_nx e1).trans ((sq_nx e2).trans (?_ : _ = Out.rt _ [some (.lst (xs.map N)), some (N m), some (.lst ((rruns m xs).1.map rnD)), y3, y4, y5]))) rfl
  simp
theorem min2N (a b : Nat) : min2 [N a, N b] = some (N (min a b)) := by
  show some (Fl.D.int (if (b : Int) < a then (b : Int) else a)) = some (Fl.D.int ((min a b : Nat) : Int))
  congr 2
  split <;> omega
theorem cost_go {c0 c1 c2 hi : Nat} (hc : c2 < 100) (r0 : Option Fl.D) : ∀ (rs : List (Bool × Nat)) (fl : Nat × Nat) (z5 z6 z7 z8 : Option Fl.D), ∃ y5 y6 y7 y8, forGo (gTupD (gMore (gNam 5) (gMore (gNam 6) gEnd))) b1_u_law_cost (rs.map rnD) [r0, some (csD c0 c1 c2), some (N hi), some (N fl.1), some (N fl.2), z5, z6, z7, z8] = .nx [r0, some (csD c0 c1 c2), some (N hi), some (N (rs.foldl (cstep c0 c1 c2 hi) fl).1), some (N (rs.foldl (cstep c0 c1 c2 hi) fl).2), y5, y6, y7, y8]
  | [], fl, z5, z6, z7, z8 => ⟨z5, z6, z7, z8, rfl⟩
  | (o, k) :: rs, fl, z5, z6, z7, z8 => by
    obtain ⟨y5, y6, y7, y8, e⟩ := cost_go (hi := hi) (c0 := c0) (c1 := c1) hc r0 rs (cstep c0 c1 c2 hi fl (o, k)) (some (.bl o)) (some (N k)) (some (N (min (fl.1 + c1) fl.2))) (some (N (min fl.1 fl.2)))
    refine ⟨y5, y6, y7, y8, ?_⟩
    have k0 : ixD (csD c0 c1 c2) (N 0) = some (N c0) := ixTN rfl
    have k1 : ixD (csD c0 c1 c2) (N 1) = some (N c1) := ixTN rfl
    have k2 : ixD (csD c0 c1 c2) (N 2) = some (N c2) := ixTN rfl
    have tg : gTupD (gMore (gNam 5) (gMore (gNam 6) gEnd)) (rnD (o, k)) [r0, some (csD c0 c1 c2), some (N hi), some (N fl.1), some (N fl.2), z5, z6, z7, z8] = some [r0, some (csD c0 c1 c2), some (N hi), some (N fl.1), some (N fl.2), some (.bl o), some (N k), z7, z8] := rfl
    have st : b1_u_law_cost [r0, some (csD c0 c1 c2), some (N hi), some (N fl.1), some (N fl.2), some (.bl o), some (N k), z7, z8] = .nx [r0, some (csD c0 c1 c2), some (N hi), some (N (cstep c0 c1 c2 hi fl (o, k)).1), some (N (cstep c0 c1 c2 hi fl (o, k)).2), some (.bl o), some (N k), some (N (min (fl.1 + c1) fl.2)), some (N (min fl.1 fl.2))] := by
      unfold b1_u_law_cost
      cases o <;> simp [k0, k1, k2, min2N, mulN (a := c2) (.inl (by omega)), cstep]
    rw [List.map_cons]
    unfold forGo
    simp only [tg, st]
    exact e
theorem v_lcost {c0 c1 c2 : Nat} (hc : c2 < 100) (rs : List (Bool × Nat)) : F_u_law_cost [.lst (rs.map rnD), csD c0 c1 c2] = .ok (N (min (lcost c0 c1 c2 (10 ^ 9) rs).1 (lcost c0 c1 c2 (10 ^ 9) rs).2)) [none, none] := by
  have pw : powD (N 10) (N 9) = some (N (10 ^ 9)) := powN (by omega) (by omega)
  generalize 10 ^ 9 = hi at *
  obtain ⟨y5, y6, y7, y8, go⟩ := cost_go (c0 := c0) (c1 := c1) (hi := hi) hc (some (.lst (rs.map rnD))) rs (0, hi) none none none none
  have sq : seqD (.lst (rs.map rnD)) = some (rs.map rnD) := rfl
  have e1 : setS 2 (op2 powD (pur (.int 10)) (pur (.int 9))) [some (.lst (rs.map rnD)), some (csD c0 c1 c2), none, none, none, none, none, none, none] = .nx [some (.lst (rs.map rnD)), some (csD c0 c1 c2), some (N hi), none, none, none, none, none, none] := by simp [pw]
  have e2 : parS [3, 4] (aCons (pur (.int 0)) (aCons (rd 2) aNil)) [some (.lst (rs.map rnD)), some (csD c0 c1 c2), some (N hi), none, none, none, none, none, none] = .nx [some (.lst (rs.map rnD)), some (csD c0 c1 c2), some (N hi), some (N 0), some (N hi), none, none, none, none] := by simp
  have e3 : forS (itSeq (rd 0)) (gTupD (gMore (gNam 5) (gMore (gNam 6) gEnd))) b1_u_law_cost [some (.lst (rs.map rnD)), some (csD c0 c1 c2), some (N hi), some (N 0), some (N hi), none, none, none, none] = .nx [some (.lst (rs.map rnD)), some (csD c0 c1 c2), some (N hi), some (N (lcost c0 c1 c2 hi rs).1), some (N (lcost c0 c1 c2 hi rs).2), y5, y6, y7, y8] := by
    simp [sq]
    exact go
  refine runF_rt rfl rfl ((sq_nx e1).trans ((sq_nx e2).trans ((sq_nx e3).trans (?_ : _ = Out.rt _ [some (.lst (rs.map rnD)), some (csD c0 c1 c2), some (N hi), some (N (lcost c0 c1 c2 hi rs).1), some (N (lcost c0 c1 c2 hi rs).2), y5, y6, y7, y8])))) rfl
  simp [min2N]
end K74

set_option maxHeartbeats 4000000
/-! places -/
namespace K74
open PySem PySem.Spec PyProof.Rows L2 Fl
theorem rgLN {a b : Nat} (h : b < 2 ^ 20) (hab : a ≤ b) : rgL (a : Int) (b : Int) = some (((List.range (b - a)).map fun i => a + i).map N) := by
  unfold rgL
  rw [if_pos ⟨okR_iff.mpr ⟨by omega, by omega⟩, okR_iff.mpr ⟨by omega, by omega⟩, by omega⟩]
  have : ((b : Int) - a).toNat = b - a := by omega
  rw [this]
  unfold countD
  rw [List.map_map]
  congr 1
  apply List.map_congr_left
  intro i _
  show Fl.D.int ((a : Int) + (i : Int) * 1) = Fl.D.int ((a + i : Nat) : Int)
  congr 1; omega
theorem other_draw {l : List Nat} {k0 m c : Nat} (hm : m < 250) (hc : c < 100) (y2 y3 y4 y5 y6 : Option Fl.D) :
    ∃ (xs : List Nat) (k' : Nat), lcK (gNam 6) (pur true) (op2 addD (rd 1) (callF [.s 0, .v] F_u_law_next (aSlot 0 (aCons (op2 subD (pur (.int 250)) (rd 1)) aNil)))) [6] ((List.range c).map N) [some (wD l k0), some (N m), y2, y3, y4, y5, y6] = .ok (.lst (xs.map N)) [some (wD l k'), some (N m), y2, y3, y4, y5, y6] ∧ xs.length = c ∧ ∀ x ∈ xs, x < 250 := by
  obtain ⟨ys, ρ', e, ⟨b, k', rfl, rfl, hb⟩, hlen⟩ := lc_sk (v := 6) (fe := op2 addD (rd 1) (callF [.s 0, .v] F_u_law_next (aSlot 0 (aCons (op2 subD (pur (.int 250)) (rd 1)) aNil)))) (ds := (List.range c).map N) (ρ := [some (wD l k0), some (N m), y2, y3, y4, y5, y6])
    (fun j acc ρ => ∃ (b : List Nat) (k' : Nat), acc = b.map N ∧ ρ = [some (wD l k'), some (N m), y2, y3, y4, y5, none] ∧ ∀ x ∈ b, x < 250)
    (szL_ok (by simp; omega)) (fun j d acc ρ hj ⟨b, k', e1, e2, hb⟩ => by
      subst e1 e2
      obtain ⟨r, hr, er⟩ := v_next l k' (250 - m) (by omega)
      refine ⟨N (m + r), [some (wD l (k' + 1)), some (N m), y2, y3, y4, y5, some d], ?_, b ++ [m + r], k' + 1, by simp, by simp, fun y hy => ?_⟩
      · simp [i_250, subN (show m ≤ 250 by omega), er]
      · rcases List.mem_append.mp hy with h | h
        · exact hb y h
        · simp at h; omega) ⟨[], k0, rfl, by simp, fun y hy => by cases hy⟩
  refine ⟨b, k', ?_, by simpa using hlen, hb⟩
  rw [e]; simp
theorem pl_step {l : List Nat} {k0 m : Nat} (hm0 : 0 < m) (hm : m < 250) {pl : List Nat} (hl : pl.length < 1000) (y3 y4 y5 y6 : Option Fl.D) : ∃ (k' : Nat) (xs : List Nat) (z4 z5 : Option Fl.D), b1_u_law_places [some (wD l k0), some (N m), some (.lst (pl.map N)), y3, y4, y5, y6] = .nx [some (wD l k'), some (N m), some (.lst ((pl ++ xs).map N)), y3, z4, z5, y6] ∧ xs.length ≤ 8 ∧ ∀ x ∈ xs, x < 250 := by
  obtain ⟨a, ha, e1⟩ := v_next l k0 m hm0
  obtain ⟨b, hb, e2⟩ := v_next l (k0 + 1) 8 (by omega)
  obtain ⟨c, hc, e3⟩ := v_next l (k0 + 1 + 1) 3 (by omega)
  obtain ⟨d, hd, e4⟩ := v_next l (k0 + 1 + 1 + 1) 4 (by omega)
  have s1 : parS [4, 5] (aCons (callF [.s 0, .v] F_u_law_next (aSlot 0 (aCons (rd 1) aNil))) (aCons (op2 addD (pur (.int 1)) (callF [.s 0, .v] F_u_law_next (aSlot 0 (aCons (pur (.int 8)) aNil)))) aNil)) [some (wD l k0), some (N m), some (.lst (pl.map N)), y3, y4, y5, y6] = .nx [some (wD l (k0 + 1 + 1)), some (N m), some (.lst (pl.map N)), y3, some (N a), some (N (1 + b)), y6] := by
    simp [e1, e2]
  have ad : ∀ xs : List Nat, xs.length ≤ 8 → addD (.lst (pl.map N)) (.lst (xs.map N)) = some (.lst ((pl ++ xs).map N)) := fun xs h => by
    show (if (pl.map N).length + (xs.map N).length ≤ szL then some (Fl.D.lst (pl.map N ++ xs.map N)) else none) = _
    rw [if_pos (szL_ok (by simp; omega)), List.map_append]
  by_cases h : c = 0
  · obtain ⟨xs, k', e5, hl5, hx5⟩ := other_draw (l := l) (k0 := k0 + 1 + 1 + 1 + 1) (m := m) (c := 1 + d) hm (by omega) (some (.lst (pl.map N))) y3 (some (N a)) (some (N (1 + b))) y6
    have rg := rng1N (n := 1 + d) (by omega)
    refine ⟨k', xs, some (N a), some (N (1 + b)), ?_, by omega, hx5⟩
    have a1 := ad xs (by omega)
    have i4 : Fl.D.int 4 = N 4 := rfl
    unfold b1_u_law_places
    rw [sq_nx s1]
    simp only [i_250] at e5
    subst h
    simp [e3, i4, e4, rg, i_250, e5, a1, -List.map_append]
  · refine ⟨k0 + 1 + 1 + 1, (List.range (min m (a + (1 + b)) - a)).map fun i => a + i, some (N a), some (N (1 + b)), ?_, by simp; omega, fun x hx => ?_⟩
    · have a1 := ad ((List.range (min m (a + (1 + b)) - a)).map fun i => a + i) (by simp; omega)
      have rl := rgLN (a := a) (b := min m (a + (1 + b))) (by omega) (by omega)
      have j1 := intD_N a
      have j2 := intD_N (min m (a + (1 + b)))
      unfold b1_u_law_places
      rw [sq_nx s1]
      simp only [x_ifS]
      have t1 : tst (op2 eqD (callF [.s 0, .v] F_u_law_next (aSlot 0 (aCons (pur (.int 3)) aNil))) (pur (.int 0))) [some (wD l (k0 + 1 + 1)), some (N m), some (.lst (pl.map N)), y3, some (N a), some (N (1 + b)), y6] = .ok false [some (wD l (k0 + 1 + 1 + 1)), some (N m), some (.lst (pl.map N)), y3, some (N a), some (N (1 + b)), y6] := by
        simp [e3, h]
      have t2 : (rgM2 (rd 4) (bnd (aCons (rd 1) (aCons (op2 addD (rd 4) (rd 5)) aNil)) fun xs => lift (min2 xs))) [some (wD l (k0 + 1 + 1 + 1)), some (N m), some (.lst (pl.map N)), y3, some (N a), some (N (1 + b)), y6] = .ok (((List.range (min m (a + (1 + b)) - a)).map fun i => a + i).map N) [some (wD l (k0 + 1 + 1 + 1)), some (N m), some (.lst (pl.map N)), y3, some (N a), some (N (1 + b)), y6] := by
        simp only [x_bnd, x_rgM2, x_rd, get_s, get_0, x_lift, x_aCons, x_op2, addN, x_aNil, x_pur, min2N, j1, j2, rl]
      simp only [x_thn, t1, x_setS, x_op2, x_bnd, x_rd, get_s, get_0, x_lift, t2, a1]
      simp only [Bool.false_eq_true, if_false, x_setS, x_thn, x_op2, x_bnd, x_rd, get_s, get_0, x_lift, t2, x_pur, a1]
      rfl
    · rw [List.mem_map] at hx
      obtain ⟨i, hi, rfl⟩ := hx
      rw [List.mem_range] at hi
      omega
theorem v_places {l : List Nat} {k0 m : Nat} (hm0 : 0 < m) (hm : m < 250) : ∃ (k' : Nat) (pl : List Nat), F_u_law_places [wD l k0, N m] = .ok (.lst (pl.map N)) [some (wD l k'), none] ∧ pl.length ≤ 40 ∧ ∀ x ∈ pl, x < 250 := by
  obtain ⟨c, hc, e1⟩ := v_next l k0 6 (by omega)
  have i6 : Fl.D.int 6 = N 6 := rfl
  have rg := rng1N (n := c) (by omega)
  have post : wq (forS (it1 (callF [.s 0, .v] F_u_law_next (aSlot 0 (aCons (pur (.int 6)) aNil)))) (gNam 3) b1_u_law_places [some (wD l k0), some (N m), some (.lst (([] : List Nat).map N)), none, none, none, none]) (fun ρ => ∃ (k' : Nat) (pl : List Nat) (y3 y4 y5 y6 : Option Fl.D), ρ = [some (wD l k'), some (N m), some (.lst (pl.map N)), y3, y4, y5, y6] ∧ pl.length ≤ 8 * c ∧ ∀ x ∈ pl, x < 250) (fun _ _ => False) := by
    refine wq_for (fun i ρ => ∃ (k' : Nat) (pl : List Nat) (y3 y4 y5 y6 : Option Fl.D), ρ = [some (wD l k'), some (N m), some (.lst (pl.map N)), y3, y4, y5, y6] ∧ pl.length ≤ 8 * i ∧ ∀ x ∈ pl, x < 250) (ds := (List.range c).map N) (ρ1 := [some (wD l (k0 + 1)), some (N m), some (.lst (([] : List Nat).map N)), none, none, none, none]) (by simp [i6, e1, rg]) ⟨k0 + 1, [], none, none, none, none, rfl, by simp, fun x hx => by cases hx⟩ (fun i d ρ hi hq => ?_) (fun ρ hq => ?_)
    · obtain ⟨k', pl, y3, y4, y5, y6, e, hl, hx⟩ := hq
      subst e
      have hin : i < c := by
        have := (List.getElem?_eq_some_iff.mp hi).1
        simpa using this
      obtain ⟨k2, xs, z4, z5, es, h1, h2⟩ := pl_step (l := l) (k0 := k') (m := m) hm0 hm (pl := pl) (by omega) (some d) y4 y5 y6
      refine ⟨_, rfl, wq_ex es ⟨k2, pl ++ xs, _, _, _, _, rfl, by rw [List.length_append]; omega, fun x hxx => ?_⟩⟩
      rcases List.mem_append.mp hxx with h | h
      · exact hx x h
      · exact h2 x h
    · obtain ⟨k', pl, y3, y4, y5, y6, e, hl, hx⟩ := hq
      exact ⟨k', pl, y3, y4, y5, y6, e, by simpa using hl, hx⟩
  cases e : forS (it1 (callF [.s 0, .v] F_u_law_next (aSlot 0 (aCons (pur (.int 6)) aNil)))) (gNam 3) b1_u_law_places [some (wD l k0), some (N m), some (.lst (([] : List Nat).map N)), none, none, none, none] <;> rw [e] at post <;> try exact post.elim
  obtain ⟨k', pl, y3, y4, y5, y6, rfl, hl, hx⟩ := post
  have s1 : setS 2 (bnd aNil fun xs => lift (mkLst xs)) [some (wD l k0), some (N m), none, none, none, none, none] = .nx [some (wD l k0), some (N m), some (.lst (([] : List Nat).map N)), none, none, none, none] := by simp
  refine ⟨k', pl, runF_rt rfl rfl ((sq_nx s1).trans ((sq_nx e).trans (?_ : _ = Out.rt _ [some (wD l k'), some (N m), some (.lst (pl.map N)), y3, y4, y5, y6]))) rfl, by omega, hx⟩
  simp
end K74

set_option maxHeartbeats 4000000
/-! one turn of the law -/
namespace K74
open PySem PySem.Spec PyProof.Rows L2 Fl
section
variable (sc : Fl.D) (l : List Nat)
theorem t_1 (k0 : Nat) (q2 q3 q4 q5 q6 q7 q8 q9 q10 q11 q12 q13 q14 q15 q16 : Option Fl.D) : ∃ (k' m bg st : Nat), (asgS (bnd (aCons (op2 addD (pur (.int 1)) (callF [.s 1, .v] F_u_law_next (aSlot 1 (aCons (pur (.int 20)) aNil)))) (aCons (callF [.s 1, .v] F_u_law_next (aSlot 1 (aCons (pur (.int 251)) aNil))) (aCons (op2 addD (pur (.int 1)) (callF [.s 1, .v] F_u_law_next (aSlot 1 (aCons (pur (.int 250)) aNil)))) aNil))) fun xs => lift (mkTup xs)) (gTupD (gMore (gNam 3) (gMore (gNam 4) (gMore (gNam 5) gEnd))))) [some sc, some (wD l k0), q2, q3, q4, q5, q6, q7, q8, q9, q10, q11, q12, q13, q14, q15, q16] = .nx [some sc, some (wD l k'), q2, some (N m), some (N bg), some (N st), q6, q7, q8, q9, q10, q11, q12, q13, q14, q15, q16] ∧ 0 < m ∧ m ≤ 20 ∧ 0 < st ∧ st < 251 := by
  obtain ⟨a, ha, e1⟩ := v_next l k0 20 (by omega)
  obtain ⟨b, hb, e2⟩ := v_next l (k0 + 1) 251 (by omega)
  obtain ⟨c, hc, e3⟩ := v_next l (k0 + 1 + 1) 250 (by omega)
  refine ⟨k0 + 1 + 1 + 1, 1 + a, b, 1 + c, ?_, by omega, by omega, by omega, by omega⟩
  simp [i_20, i_251, i_250, e1, e2, e3, gTupD, gMore, gEnd]
theorem t_2 {m bg st : Nat} (k0 : Nat) (q2 q6 q7 q8 q9 q10 q11 q12 q13 q14 q15 q16 : Option Fl.D) : ∃ (k' c0 c1 c2 : Nat), (setS 6 (bnd (aCons (callF [.s 1, .v] F_u_law_next (aSlot 1 (aCons (pur (.int 12)) aNil))) (aCons (callF [.s 1, .v] F_u_law_next (aSlot 1 (aCons (pur (.int 12)) aNil))) (aCons (callF [.s 1, .v] F_u_law_next (aSlot 1 (aCons (pur (.int 4)) aNil))) aNil))) fun xs => lift (mkTup xs))) [some sc, some (wD l k0), q2, some (N m), some (N bg), some (N st), q6, q7, q8, q9, q10, q11, q12, q13, q14, q15, q16] = .nx [some sc, some (wD l k'), q2, some (N m), some (N bg), some (N st), some (csD c0 c1 c2), q7, q8, q9, q10, q11, q12, q13, q14, q15, q16] ∧ c0 < 12 ∧ c1 < 12 ∧ c2 < 4 := by
  obtain ⟨a, ha, e1⟩ := v_next l k0 12 (by omega)
  obtain ⟨b, hb, e2⟩ := v_next l (k0 + 1) 12 (by omega)
  obtain ⟨c, hc, e3⟩ := v_next l (k0 + 1 + 1) 4 (by omega)
  refine ⟨k0 + 1 + 1 + 1, a, b, c, ?_, ha, hb, hc⟩
  have i4 : Fl.D.int 4 = N 4 := rfl
  simp [i_12, i4, e1, e2, e3]
  rfl
theorem t_3 {m bg st c0 c1 c2 : Nat} (hm0 : 0 < m) (hm : m ≤ 20) (k0 : Nat) (q2 q7 q8 q9 q10 q11 q12 q13 q14 q15 q16 : Option Fl.D) : ∃ (k' : Nat) (pl : List Nat), (setS 7 (callF [.s 1, .v] F_u_law_places (aSlot 1 (aCons (rd 3) aNil)))) [some sc, some (wD l k0), q2, some (N m), some (N bg), some (N st), some (csD c0 c1 c2), q7, q8, q9, q10, q11, q12, q13, q14, q15, q16] = .nx [some sc, some (wD l k'), q2, some (N m), some (N bg), some (N st), some (csD c0 c1 c2), some (.lst (pl.map N)), q8, q9, q10, q11, q12, q13, q14, q15, q16] ∧ pl.length ≤ 40 ∧ ∀ x ∈ pl, x < 250 := by
  obtain ⟨k', pl, e, h1, h2⟩ := v_places (l := l) (k0 := k0) hm0 (show m < 250 by omega)
  exact ⟨k', pl, by simp [e], h1, h2⟩
theorem t_4 {m bg st c0 c1 c2 : Nat} {pl : List Nat} (hm : m ≤ 20) (hl : pl.length ≤ 40) (hs : st < 251) (k0 : Nat) (q2 q8 q9 q10 q11 q12 q13 q14 q15 q16 : Option Fl.D) : (parS [8, 9] (aCons (op1 tupD (lcM (it1 (rd 3)) (gNam 10) (pur true) (op2 modD (op2 addD (rd 4) (op2 mulD (rd 5) (rd 10))) (pur (.int 251))) [10])) (aCons (op1 tupD (lcM (itSeq (rd 7)) (gNam 11) (pur true) (op2 modD (op2 addD (rd 4) (op2 mulD (rd 5) (rd 11))) (pur (.int 251))) [11])) aNil))) [some sc, some (wD l k0), q2, some (N m), some (N bg), some (N st), some (csD c0 c1 c2), some (.lst (pl.map N)), q8, q9, q10, q11, q12, q13, q14, q15, q16] = .nx [some sc, some (wD l k0), q2, some (N m), some (N bg), some (N st), some (csD c0 c1 c2), some (.lst (pl.map N)), some (vD (oldL m bg st)), some (vD (newL bg st pl)), q10, q11, q12, q13, q14, q15, q16] := by
  have rm := rng1N (n := m) (by omega)
  have sq1 : seqD (.lst (pl.map N)) = some (pl.map N) := rfl
  have lc1 := lc_k (v := 10) (fe := op2 modD (op2 addD (rd 4) (op2 mulD (rd 5) (rd 10))) (pur (.int 251))) (ρ := [some sc, some (wD l k0), q2, some (N m), some (N bg), some (N st), some (csD c0 c1 c2), some (.lst (pl.map N)), q8, q9, q10, q11, q12, q13, q14, q15, q16]) (f := fun d => N (gN bg st (nat d))) (ds := (List.range m).map N) (szL_ok (by simp; omega)) (by
    intro d hd
    rw [List.mem_map] at hd
    obtain ⟨k, hk, rfl⟩ := hd
    simp [i_251, mulN (a := st) (.inl (by omega)), modN (show 0 < 251 by omega), gN])
  have lc2 := lc_k (v := 11) (fe := op2 modD (op2 addD (rd 4) (op2 mulD (rd 5) (rd 11))) (pur (.int 251))) (ρ := [some sc, some (wD l k0), q2, some (N m), some (N bg), some (N st), some (csD c0 c1 c2), some (.lst (pl.map N)), q8, q9, q10, q11, q12, q13, q14, q15, q16]) (f := fun d => N (gN bg st (nat d))) (ds := pl.map N) (szL_ok (by simp; omega)) (by
    intro d hd
    rw [List.mem_map] at hd
    obtain ⟨k, hk, rfl⟩ := hd
    simp [i_251, mulN (a := st) (.inl (by omega)), modN (show 0 < 251 by omega), gN])
  have e1 : ((List.range m).map N).map (fun d => N (gN bg st (nat d))) = (oldL m bg st).map N := by
    unfold oldL
    rw [List.map_map, List.map_map]
    apply List.map_congr_left
    intro k _
    simp
  have e2 : (pl.map N).map (fun d => N (gN bg st (nat d))) = (newL bg st pl).map N := by
    unfold newL
    rw [List.map_map, List.map_map]
    apply List.map_congr_left
    intro k _
    simp
  rw [e1] at lc1
  rw [e2] at lc2
  have t1 : tupD (.lst ((oldL m bg st).map N)) = some (vD (oldL m bg st)) := rfl
  have t2 : tupD (.lst ((newL bg st pl).map N)) = some (vD (newL bg st pl)) := rfl
  simp only [List.set_cons_succ, List.set_cons_zero, i_251] at lc1 lc2
  simp [i_251, rm, sq1, lc1, lc2, t1, t2]
theorem t_5 {m bg st c0 c1 c2 : Nat} {pl th : List Nat} (hl : pl.length ≤ 40) (hc : c2 < 4) (hth : th = (List.range (pl.length + 1)).map fun k => min (lcost c0 c1 c2 (10 ^ 9) (rruns m (pl.take k)).1).1 (lcost c0 c1 c2 (10 ^ 9) (rruns m (pl.take k)).1).2) (k0 : Nat) (q2 q10 q11 q12 q13 q14 q15 q16 : Option Fl.D) : (setS 12 (op1 tupD (lcM (it1 (op2 addD (op1 lenD (rd 7)) (pur (.int 1)))) (gNam 10) (pur true) (callF [.v, .v] F_u_law_cost (aCons (callF [.v, .v] F_u_law_runs (aCons (slM (rd 7) oNone (oSome (rd 10))) (aCons (rd 3) aNil))) (aCons (rd 6) aNil))) [10]))) [some sc, some (wD l k0), q2, some (N m), some (N bg), some (N st), some (csD c0 c1 c2), some (.lst (pl.map N)), some (vD (oldL m bg st)), some (vD (newL bg st pl)), q10, q11, q12, q13, q14, q15, q16] = .nx [some sc, some (wD l k0), q2, some (N m), some (N bg), some (N st), some (csD c0 c1 c2), some (.lst (pl.map N)), some (vD (oldL m bg st)), some (vD (newL bg st pl)), q10, q11, some (vD th), q13, q14, q15, q16] := by
  have ln : lenD (.lst (pl.map N)) = some (N pl.length) := by
    show some (Fl.D.int (pl.map N).length) = _
    rw [List.length_map]; rfl
  have rm := rng1N (n := pl.length + 1) (by omega)
  have vc := fun rs => v_lcost (c0 := c0) (c1 := c1) (c2 := c2) (by omega) rs
  revert hth vc
  generalize 10 ^ 9 = hi
  intro hth vc
  have lc := lc_k (v := 10) (fe := callF [.v, .v] F_u_law_cost (aCons (callF [.v, .v] F_u_law_runs (aCons (slM (rd 7) oNone (oSome (rd 10))) (aCons (rd 3) aNil))) (aCons (rd 6) aNil))) (ρ := [some sc, some (wD l k0), q2, some (N m), some (N bg), some (N st), some (csD c0 c1 c2), some (.lst (pl.map N)), some (vD (oldL m bg st)), some (vD (newL bg st pl)), q10, q11, q12, q13, q14, q15, q16]) (f := fun d => N (min (lcost c0 c1 c2 hi (rruns m (pl.take (nat d))).1).1 (lcost c0 c1 c2 hi (rruns m (pl.take (nat d))).1).2)) (ds := (List.range (pl.length + 1)).map N) (szL_ok (by simp; omega)) (by
    intro d hd
    rw [List.mem_map] at hd
    obtain ⟨k, hk, rfl⟩ := hd
    have sl : slD (.lst (pl.map N)) none (some (k : Int)) = some (.lst ((pl.take k).map N)) := by
      show some (Fl.D.lst (cutA _ _ _)) = _
      rw [cut_map, cut_to]
    have vr := v_lruns (m := m) (xs := pl.take k) (by rw [List.length_take]; omega)
    simp [sl, vr, vc, -List.map_take])
  have e1 : ((List.range (pl.length + 1)).map N).map (fun d => N (min (lcost c0 c1 c2 hi (rruns m (pl.take (nat d))).1).1 (lcost c0 c1 c2 hi (rruns m (pl.take (nat d))).1).2)) = th.map N := by
    rw [hth, List.map_map, List.map_map]
    apply List.map_congr_left
    intro k _
    simp
  rw [e1] at lc
  have t1 : tupD (.lst (th.map N)) = some (vD th) := rfl
  simp only [List.set_cons_succ, List.set_cons_zero] at lc
  simp [ln, rm, lc, t1]
theorem ne_bl (a b : Bool) : neD (.bl a) (.bl b) = some (.bl (!decide (a = b))) := by
  unfold neD
  rw [if_pos ⟨rfl, rfl⟩]
  cases a <;> cases b <;> rfl
theorem isB_t (b : Bool) : isB (.bl b) (.bl true) = some (.bl b) := by cases b <;> rfl
theorem isNB_t (b : Bool) : isNotB (.bl b) (.bl true) = some (.bl (!b)) := by cases b <;> rfl
theorem isNB_f (b : Bool) : isNotB (.bl b) (.bl false) = some (.bl b) := by cases b <;> rfl
theorem t_6 {m bg st c0 c1 c2 : Nat} {pl th : List Nat} {ps : List Pc} (h1 : F_least_delta [vD (oldL m bg st), vD (newL bg st pl), csD c0 c1 c2] = .ok (dD ps) [none, none, none]) (h2 : F_potentials_of [vD (oldL m bg st), vD (newL bg st pl), csD c0 c1 c2] = .ok (vD th) [none, none, none]) (k0 : Nat) (q2 q10 q11 q13 q14 q15 q16 : Option Fl.D) : (parS [13, 14] (aCons (callF [.v, .v, .v] F_least_delta (aCons (rd 8) (aCons (rd 9) (aCons (rd 6) aNil)))) (aCons (callF [.v, .v, .v] F_potentials_of (aCons (rd 8) (aCons (rd 9) (aCons (rd 6) aNil)))) aNil))) [some sc, some (wD l k0), q2, some (N m), some (N bg), some (N st), some (csD c0 c1 c2), some (.lst (pl.map N)), some (vD (oldL m bg st)), some (vD (newL bg st pl)), q10, q11, some (vD th), q13, q14, q15, q16] = .nx [some sc, some (wD l k0), q2, some (N m), some (N bg), some (N st), some (csD c0 c1 c2), some (.lst (pl.map N)), some (vD (oldL m bg st)), some (vD (newL bg st pl)), q10, q11, some (vD th), some (dD ps), some (vD th), q15, q16] := by
  simp [h1, h2]
theorem t_7 {m bg st c0 c1 c2 : Nat} {pl th : List Nat} {ps : List Pc} {x : Nat} (h1 : F_is_delta [vD (oldL m bg st), dD ps] = .ok (.bl true) [none, none]) (h2 : F_applied_delta [dD ps, vD (oldL m bg st)] = .ok (vD (newL bg st pl)) [none, none]) (h3 : F_delta_cost [dD ps, csD c0 c1 c2] = .ok (N x) [none, none]) (h4 : ixD (vD th) (.int (-1)) = some (N x)) (k0 : Nat) (q2 q10 q11 q15 q16 : Option Fl.D) : (ifS (orT (tst (op2 isNotB (callF [.v, .v] F_is_delta (aCons (rd 8) (aCons (rd 13) aNil))) (pur (.bl true)))) (orT (tst (op2 neD (callF [.v, .v] F_applied_delta (aCons (rd 13) (aCons (rd 8) aNil))) (rd 9))) (orT (tst (op2 neD (callF [.v, .v] F_delta_cost (aCons (rd 13) (aCons (rd 6) aNil))) (op2 ixD (rd 12) (op1 negD (pur (.int 1)))))) (tst (op2 neD (rd 14) (rd 12)))))) (ret (pur (.bl false))) skip) [some sc, some (wD l k0), q2, some (N m), some (N bg), some (N st), some (csD c0 c1 c2), some (.lst (pl.map N)), some (vD (oldL m bg st)), some (vD (newL bg st pl)), q10, q11, some (vD th), some (dD ps), some (vD th), q15, q16] = .nx [some sc, some (wD l k0), q2, some (N m), some (N bg), some (N st), some (csD c0 c1 c2), some (.lst (pl.map N)), some (vD (oldL m bg st)), some (vD (newL bg st pl)), q10, q11, some (vD th), some (dD ps), some (vD th), q15, q16] := by
  have ng : negD (N 1) = some (.int (-1)) := rfl
  simp [h1, h2, h3, h4, ng, isNB_t, ne_v]
theorem t_8 {m bg st c0 c1 c2 : Nat} {pl th : List Nat} {ps : List Pc} (h1 : F_is_least_delta [vD (oldL m bg st), vD (newL bg st pl), csD c0 c1 c2, dD ps, vD th] = .ok (.bl true) [none, none, none, none, none]) (h2 : F_delta_text [dD ps] = .ok (tD (txt ps)) [none]) (h3 : F_read_delta [tD (txt ps)] = .ok (dD ps) [none]) (k0 : Nat) (q2 q10 q11 q15 q16 : Option Fl.D) : (ifS (orT (tst (op2 isNotB (callF [.v, .v, .v, .v, .v] F_is_least_delta (aCons (rd 8) (aCons (rd 9) (aCons (rd 6) (aCons (rd 13) (aCons (rd 12) aNil)))))) (pur (.bl true)))) (tst (op2 neD (callF [.v] F_read_delta (aCons (callF [.v] F_delta_text (aCons (rd 13) aNil)) aNil)) (rd 13)))) (ret (pur (.bl false))) skip) [some sc, some (wD l k0), q2, some (N m), some (N bg), some (N st), some (csD c0 c1 c2), some (.lst (pl.map N)), some (vD (oldL m bg st)), some (vD (newL bg st pl)), q10, q11, some (vD th), some (dD ps), some (vD th), q15, q16] = .nx [some sc, some (wD l k0), q2, some (N m), some (N bg), some (N st), some (csD c0 c1 c2), some (.lst (pl.map N)), some (vD (oldL m bg st)), some (vD (newL bg st pl)), q10, q11, some (vD th), some (dD ps), some (vD th), q15, q16] := by
  have nd : neD (dD ps) (dD ps) = some (.bl false) := neD_self (pln_tup (plns_all fun x hx => by
    rw [List.mem_map] at hx
    obtain ⟨p, _, rfl⟩ := hx
    exact pln_pc 61 p))
  simp [h1, h2, h3, nd, isNB_t]
def whl (new : List Nat) : List Pc := if new = [] then [] else [.put new]
theorem t_9 {m bg st c0 c1 c2 : Nat} {pl th : List Nat} {ps : List Pc} {wh : List Pc} (hw : wh = whl (newL bg st pl)) (k0 : Nat) (q2 q10 q11 q15 q16 : Option Fl.D) : (setS 15 (ifM (tst (op2 neD (rd 9) (bnd aNil fun xs => lift (mkTup xs)))) (bnd (aCons (bnd (aCons (pur (.str (PySem.Str.ofString "put"))) (aCons (rd 9) aNil)) fun xs => lift (mkTup xs)) aNil) fun xs => lift (mkTup xs)) (bnd aNil fun xs => lift (mkTup xs)))) [some sc, some (wD l k0), q2, some (N m), some (N bg), some (N st), some (csD c0 c1 c2), some (.lst (pl.map N)), some (vD (oldL m bg st)), some (vD (newL bg st pl)), q10, q11, some (vD th), some (dD ps), some (vD th), q15, q16] = .nx [some sc, some (wD l k0), q2, some (N m), some (N bg), some (N st), some (csD c0 c1 c2), some (.lst (pl.map N)), some (vD (oldL m bg st)), some (vD (newL bg st pl)), q10, q11, some (vD th), some (dD ps), some (vD th), some (dD wh), q16] := by
  have nv := ne_v (a := newL bg st pl) (b := [])
  have e0 : vD [] = Fl.D.tup [] := rfl
  rw [e0] at nv
  have pd : Fl.D.tup [tD tPut, vD (newL bg st pl)] = pcD (.put (newL bg st pl)) := rfl
  have pd2 : Fl.D.tup [pcD (.put (newL bg st pl))] = dD [.put (newL bg st pl)] := rfl
  have pd3 : Fl.D.tup [] = dD [] := rfl
  subst hw
  unfold whl
  by_cases h : newL bg st pl = []
  · rw [h, pd3] at nv
    have nv2 : neD (vD []) (dD []) = some (.bl false) := by rw [nv]; simp
    simp [h, nv2, pd3]
  · simp [nv, h, lput, pd, pd2]
theorem t_10 {m bg st c0 c1 c2 : Nat} {pl th : List Nat} {ps : List Pc} {wh : List Pc} {x : Nat} {bst : Bool} (hc : c2 < 4) (hw : wh = whl (newL bg st pl)) (h4 : ixD (vD th) (.int (-1)) = some (N x)) (hb : bst = (decide (newL bg st pl = []) || decide (c1 + c2 * (newL bg st pl).length = x))) (k0 : Nat) (q2 q10 q11 q16 : Option Fl.D) : (setS 16 (orV (op2 eqD (rd 15) (bnd aNil fun xs => lift (mkTup xs))) (op2 eqD (op2 addD (op2 ixD (rd 6) (pur (.int 1))) (op2 mulD (op2 ixD (rd 6) (pur (.int 2))) (op1 lenD (rd 9)))) (op2 ixD (rd 12) (op1 negD (pur (.int 1))))))) [some sc, some (wD l k0), q2, some (N m), some (N bg), some (N st), some (csD c0 c1 c2), some (.lst (pl.map N)), some (vD (oldL m bg st)), some (vD (newL bg st pl)), q10, q11, some (vD th), some (dD ps), some (vD th), some (dD wh), q16] = .nx [some sc, some (wD l k0), q2, some (N m), some (N bg), some (N st), some (csD c0 c1 c2), some (.lst (pl.map N)), some (vD (oldL m bg st)), some (vD (newL bg st pl)), q10, q11, some (vD th), some (dD ps), some (vD th), some (dD wh), some (.bl bst)] := by
  have ng : negD (N 1) = some (.int (-1)) := rfl
  have k1 : ixD (csD c0 c1 c2) (N 1) = some (N c1) := ixTN rfl
  have k2 : ixD (csD c0 c1 c2) (N 2) = some (N c2) := ixTN rfl
  have ln := len_v (newL bg st pl)
  have pd3 : Fl.D.tup [] = dD [] := rfl
  have pw : ∀ ws : List Pc, pln 64 (dD ws) = true := fun ws => pln_tup (plns_all fun x hx => by
    rw [List.mem_map] at hx
    obtain ⟨p, _, rfl⟩ := hx
    exact pln_pc 61 p)
  subst hw hb
  unfold whl
  by_cases h : newL bg st pl = []
  · have e0 : eqD (dD []) (dD []) = some (.bl true) := eqD_self (pw [])
    simp [h, pd3, e0]
  · have e0 : eqD (dD [.put (newL bg st pl)]) (dD []) = some (.bl false) := eqD_ne (pw _) (pw _) (fun z => by unfold dD at z; injection z with z; cases z)
    simp [h, pd3, e0, ng, k1, k2, ln, mulN (a := c2) (.inl (by omega)), h4]
theorem t_11 {m bg st c0 c1 c2 : Nat} {pl th : List Nat} {ps : List Pc} {wh : List Pc} {bst : Bool} (h1 : F_is_least_delta [vD (oldL m bg st), vD (newL bg st pl), csD c0 c1 c2, dD wh, vD th] = .ok (.bl bst) [none, none, none, none, none]) (k0 : Nat) (q2 q10 q11 : Option Fl.D) : (ifS (tst (op2 neD (op2 isB (callF [.v, .v, .v, .v, .v] F_is_least_delta (aCons (rd 8) (aCons (rd 9) (aCons (rd 6) (aCons (rd 15) (aCons (rd 12) aNil)))))) (pur (.bl true))) (rd 16))) (ret (pur (.bl false))) skip) [some sc, some (wD l k0), q2, some (N m), some (N bg), some (N st), some (csD c0 c1 c2), some (.lst (pl.map N)), some (vD (oldL m bg st)), some (vD (newL bg st pl)), q10, q11, some (vD th), some (dD ps), some (vD th), some (dD wh), some (.bl bst)] = .nx [some sc, some (wD l k0), q2, some (N m), some (N bg), some (N st), some (csD c0 c1 c2), some (.lst (pl.map N)), some (vD (oldL m bg st)), some (vD (newL bg st pl)), q10, q11, some (vD th), some (dD ps), some (vD th), some (dD wh), some (.bl bst)] := by
  simp [h1, isB_t, ne_bl]
theorem t_12 {m bg st c0 c1 c2 : Nat} {pl th : List Nat} {ps : List Pc} {wh : List Pc} {bst : Bool} {x : Nat} (hl : th.length < 500) (h4 : ixD (vD th) (.int (-1)) = some (N x)) (h1 : 0 < x → F_is_least_delta [vD (oldL m bg st), vD (newL bg st pl), csD c0 c1 c2, dD ps, vD (th.dropLast ++ [x - 1])] = .ok (.bl false) [none, none, none, none, none]) (k0 : Nat) (q2 q10 q11 : Option Fl.D) : (ifS (andT (tst (op2 gtD (op2 ixD (rd 12) (op1 negD (pur (.int 1)))) (pur (.int 0)))) (tst (op2 isNotB (callF [.v, .v, .v, .v, .v] F_is_least_delta (aCons (rd 8) (aCons (rd 9) (aCons (rd 6) (aCons (rd 13) (aCons (op2 addD (slM (rd 12) oNone (oSome (op1 negD (pur (.int 1))))) (bnd (aCons (op2 subD (op2 ixD (rd 12) (op1 negD (pur (.int 1)))) (pur (.int 1))) aNil) fun xs => lift (mkTup xs))) aNil)))))) (pur (.bl false))))) (ret (pur (.bl false))) skip) [some sc, some (wD l k0), q2, some (N m), some (N bg), some (N st), some (csD c0 c1 c2), some (.lst (pl.map N)), some (vD (oldL m bg st)), some (vD (newL bg st pl)), q10, q11, some (vD th), some (dD ps), some (vD th), some (dD wh), some (.bl bst)] = .nx [some sc, some (wD l k0), q2, some (N m), some (N bg), some (N st), some (csD c0 c1 c2), some (.lst (pl.map N)), some (vD (oldL m bg st)), some (vD (newL bg st pl)), q10, q11, some (vD th), some (dD ps), some (vD th), some (dD wh), some (.bl bst)] := by
  have ng : negD (N 1) = some (.int (-1)) := rfl
  have im : Fl.intD (.int (-1)) = some (-1) := rfl
  have sl : slD (vD th) none (some (-1)) = some (vD th.dropLast) := by
    show some (Fl.D.tup (cutA _ _ _)) = _
    rw [cut_last, ← List.map_dropLast]; rfl
  have ad : ∀ y, addD (vD th.dropLast) (.tup [N y]) = some (vD (th.dropLast ++ [y])) := fun y => by
    show (if (th.dropLast.map N).length + [N y].length ≤ szL then some (Fl.D.tup (th.dropLast.map N ++ [N y])) else none) = _
    rw [if_pos (szL_ok (by simp; omega))]
    unfold vD
    rw [List.map_append]; rfl
  by_cases h : 0 < x
  · simp [ng, im, h4, h, sl, subN (show 1 ≤ x by omega), ad, h1 h, isNB_f]
  · simp [ng, im, h4, h]
theorem t_13 {m bg st c0 c1 c2 : Nat} {pl th : List Nat} {ps : List Pc} {wh : List Pc} {bst : Bool} (h2 : F_delta_text [dD ps] = .ok (tD (txt ps)) [none]) (h3 : countSD (tD (txt ps)) (tD [10]) = some (N ps.length)) (h4 : F_is_delta [vD (oldL m bg st), dD [.cpy 0 (m + 1)]] = .ok (.bl false) [none, none]) (k0 : Nat) (q2 q10 q11 : Option Fl.D) : (ifS (orT (tst (op2 neD (strM countSD (callF [.v] F_delta_text (aCons (rd 13) aNil)) (pur (.str (PySem.Str.ofString "\n")))) (op1 lenD (rd 13)))) (tst (op2 isNotB (callF [.v, .v] F_is_delta (aCons (rd 8) (aCons (bnd (aCons (bnd (aCons (pur (.str (PySem.Str.ofString "copy"))) (aCons (pur (.int 0)) (aCons (op2 addD (rd 3) (pur (.int 1))) aNil))) fun xs => lift (mkTup xs)) aNil) fun xs => lift (mkTup xs)) aNil))) (pur (.bl false))))) (ret (pur (.bl false))) skip) [some sc, some (wD l k0), q2, some (N m), some (N bg), some (N st), some (csD c0 c1 c2), some (.lst (pl.map N)), some (vD (oldL m bg st)), some (vD (newL bg st pl)), q10, q11, some (vD th), some (dD ps), some (vD th), some (dD wh), some (.bl bst)] = .nx [some sc, some (wD l k0), q2, some (N m), some (N bg), some (N st), some (csD c0 c1 c2), some (.lst (pl.map N)), some (vD (oldL m bg st)), some (vD (newL bg st pl)), q10, q11, some (vD th), some (dD ps), some (vD th), some (dD wh), some (.bl bst)] := by
  have ln : lenD (dD ps) = some (N ps.length) := by
    show some (Fl.D.int (ps.map pcD).length) = _
    rw [List.length_map]; rfl
  have pd : Fl.D.tup [tD tCpy, N 0, N (m + 1)] = pcD (.cpy 0 (m + 1)) := rfl
  have pd2 : Fl.D.tup [pcD (.cpy 0 (m + 1))] = dD [.cpy 0 (m + 1)] := rfl
  simp [h2, h3, h4, ln, l_1, lcpy, pd, pd2, isNB_f]
end
end K74

set_option maxHeartbeats 4000000
/-! the law -/
namespace K74
open PySem PySem.Spec PyProof.Rows L2 Fl
theorem gN_lt (bg st x : Nat) : gN bg st x < 256 := by unfold gN; omega
theorem bad_delta {old : List Nat} (hm : old.length < 900) : F_is_delta [vD old, dD [.cpy 0 (old.length + 1)]] = .ok (.bl false) [none, none] := by
  have vi := v_ispiece (m := old.length + 1) (by omega) (p := .cpy 0 (old.length + 1)) ⟨by omega, by omega⟩
  have ln := len_v old
  have i0 := pc0 (.cpy 0 (old.length + 1))
  have i1 : ixD (pcD (.cpy 0 (old.length + 1))) (N 1) = some (N 0) := ixTN rfl
  have i2 : ixD (pcD (.cpy 0 (old.length + 1))) (N 2) = some (N (old.length + 1)) := ixTN rfl
  have it : isiD "tuple" (dD [.cpy 0 (old.length + 1)]) = some (.bl true) := isi_tup _
  have sq : seqD (dD [.cpy 0 (old.length + 1)]) = some [pcD (.cpy 0 (old.length + 1))] := rfl
  have a1 : allD (.lst [.bl true]) = some (.bl true) := rfl
  have a2 : allD (.lst [.bl false]) = some (.bl false) := rfl
  have z1 : (1 : Nat) ≤ szL := szL_ok (by omega)
  have lc1 : lcK (gNam 2) (pur true) (callF [.v] F_is_piece (aCons (rd 2) aNil)) [2] [pcD (.cpy 0 (old.length + 1))] [some (vD old), some (dD [.cpy 0 (old.length + 1)]), none] = .ok (.lst [.bl true]) [some (vD old), some (dD [.cpy 0 (old.length + 1)]), none] := by
    unfold lcK
    simp [z1, lcGo, wipeR, unw, vi]
  have lc2 : lcK (gNam 2) (tst (op2 eqD (op2 ixD (rd 2) (pur (N 0))) (pur (tD tCpy)))) (op2 leD (op2 addD (op2 ixD (rd 2) (pur (N 1))) (op2 ixD (rd 2) (pur (N 2)))) (op1 lenD (rd 0))) [2] [pcD (.cpy 0 (old.length + 1))] [some (vD old), some (dD [.cpy 0 (old.length + 1)]), none] = .ok (.lst [.bl false]) [some (vD old), some (dD [.cpy 0 (old.length + 1)]), none] := by
    unfold lcK
    simp [z1, lcGo, wipeR, unw, i0, i1, i2, Pc.isC, e_cc, ln]
  unfold F_is_delta runF S_is_delta
  simp only [lcpy, lit0, lit1, lit2]
  simp [List.replicate, it, sq, lc1, a1, lc2, a2]
theorem v_turn (sc : Fl.D) (l : List Nat) (k0 : Nat) (q2 q3 q4 q5 q6 q7 q8 q9 q10 q11 q12 q13 q14 q15 q16 : Option Fl.D) : ∃ (k' : Nat) (r2 r3 r4 r5 r6 r7 r8 r9 r10 r11 r12 r13 r14 r15 r16 : Option Fl.D), b1_law [some sc, some (wD l k0), q2, q3, q4, q5, q6, q7, q8, q9, q10, q11, q12, q13, q14, q15, q16] = .nx [some sc, some (wD l k'), r2, r3, r4, r5, r6, r7, r8, r9, r10, r11, r12, r13, r14, r15, r16] := by
  obtain ⟨k1, m, bg, sp, e1, hm0, hm, hs0, hs⟩ := t_1 sc l k0 q2 q3 q4 q5 q6 q7 q8 q9 q10 q11 q12 q13 q14 q15 q16
  obtain ⟨k2, c0, c1, c2, e2, hc0, hc1, hc2⟩ := t_2 sc l (m := m) (bg := bg) (st := sp) k1 q2 q6 q7 q8 q9 q10 q11 q12 q13 q14 q15 q16
  obtain ⟨k3, pl, e3, hl, hp⟩ := t_3 sc l (m := m) (bg := bg) (st := sp) (c0 := c0) (c1 := c1) (c2 := c2) hm0 hm k2 q2 q7 q8 q9 q10 q11 q12 q13 q14 q15 q16
  have e4 := t_4 sc l (m := m) (bg := bg) (st := sp) (c0 := c0) (c1 := c1) (c2 := c2) (pl := pl) hm hl hs k3 q2 q8 q9 q10 q11 q12 q13 q14 q15 q16
  have ol : (oldL m bg sp).length = m := by unfold oldL; simp
  have nl : (newL bg sp pl).length = pl.length := by unfold newL; simp
  obtain ⟨rs, hv, hR⟩ := v_runs (old := oldL m bg sp) (new := newL bg sp pl) (by omega) (by omega)
  obtain ⟨fs, hch, hfl, hT⟩ := v_cheapest (old := oldL m bg sp) (new := newL bg sp pl) (c0 := c0) (c1 := c1) (c2 := c2) hv hR.1 (by omega) (by omega)
  have hpt := v_pot hch (by omega)
  obtain ⟨th, hthd⟩ : ∃ th : List Nat, th = fs.map (·.1) := ⟨_, rfl⟩
  rw [← hthd] at hpt
  have hLt : Lt (newL bg sp pl) := fun x hx => by
    unfold newL at hx
    rw [List.mem_map] at hx
    obtain ⟨y, _, rfl⟩ := hx
    exact gN_lt _ _ _
  obtain ⟨ps, hld, hD⟩ := v_least hv hch hR hT hfl (by omega) hLt
  have hp2 : ∀ x ∈ pl, x < 251 := fun x hx => by have := hp x hx; omega
  have L := lc_of (m := m) (bg := bg) (st := sp) (pl := pl) (by omega) hs0 hs hp2 hR hT (by omega)
  have hth : th = (List.range (pl.length + 1)).map fun k => min (lcost c0 c1 c2 (10 ^ 9) (rruns m (pl.take k)).1).1 (lcost c0 c1 c2 (10 ^ 9) (rruns m (pl.take k)).1).2 := by
    have h9 : c1 + c2 * pl.length ≤ 10 ^ 9 := by
      have : c2 * pl.length ≤ 4 * 40 := Nat.mul_le_mul (by omega) hl
      omega
    revert h9
    generalize 10 ^ 9 = hi
    intro h9
    refine List.ext_getElem (by rw [hthd]; simp; omega) fun k h1 h2 => ?_
    have hk : k ≤ pl.length := by simp at h2; omega
    have := law_cost (hi := hi) L h9 hk
    rw [List.getElem_map, List.getElem_range, this]
    subst hthd
    rw [List.getElem_map]
    show _ = (fs.getD k (0, 0, [])).1
    rw [List.getD_eq_getElem?_getD, List.getElem?_eq_getElem (by omega)]; rfl
  have e5 := t_5 sc l (m := m) (bg := bg) (st := sp) (c0 := c0) (c1 := c1) (c2 := c2) (pl := pl) (th := th) hl hc2 hth k3 q2 q10 q11 q12 q13 q14 q15 q16
  have hlen : th.length = (newL bg sp pl).length + 1 := by rw [hthd]; simp; omega
  have fx : (newL bg sp pl).length < fs.length := by omega
  obtain ⟨x, hx⟩ : ∃ x, x = fs[(newL bg sp pl).length].1 := ⟨_, rfl⟩
  have hxl : th[(newL bg sp pl).length]? = some x := by rw [hthd, List.getElem?_map, List.getElem?_eq_getElem fx, hx]; rfl
  have il := ix_last hlen hxl
  have e6 := t_6 sc l (m := m) (bg := bg) (st := sp) (c0 := c0) (c1 := c1) (c2 := c2) (pl := pl) (th := th) (ps := ps) hld hpt k3 q2 q10 q11 q13 q14 q15 q16
  have pll := hD.le
  have hok := hD.ok
  have v1 := v_isdelta hok (by omega) (by omega)
  have v2 := v_applied hok (by omega) (by omega)
  have apn : app (oldL m bg sp) ps = newL bg sp pl := by rw [hD.ap]; simp
  rw [apn] at v2
  have sm : (ps.map (cost c0 c1 c2)).sum = x := by
    have := hD.su
    rw [List.getD_eq_getElem?_getD, List.getD_eq_getElem?_getD, hT.z, List.getElem?_eq_getElem fx] at this
    simp at this
    rw [this, hx]
  have v3 := v_cost (c0 := c0) (c1 := c1) hok (show c2 < 100 by omega) (show ps.length < 1000 by omega)
  rw [sm] at v3
  have e7 := t_7 sc l (m := m) (bg := bg) (st := sp) (c0 := c0) (c1 := c1) (c2 := c2) (pl := pl) (th := th) (ps := ps) v1 v2 v3 il k3 q2 q10 q11 q15 q16
  have gth : ∀ p, p ≤ (newL bg sp pl).length → th.getD p 0 = (fs.getD p (0, 0, [])).1 := fun p hp => by
    rw [hthd, List.getD_eq_getElem?_getD, List.getD_eq_getElem?_getD, List.getElem?_map, List.getElem?_eq_getElem (by omega)]; rfl
  have potle : ∀ p, 0 < p → p ≤ (newL bg sp pl).length → ∀ s ∈ stepsL c0 c1 c2 rs p p, (fs.getD p (0, 0, [])).1 ≤ (fs.getD s.2.1 (0, 0, [])).1 + s.1 := fun p hp0 hpn s hs => by
    have := (hT.ok p hp0 fs[p] (List.getElem?_eq_getElem (by omega))).2 s hs
    rw [List.getD_eq_getElem?_getD, List.getElem?_eq_getElem (show p < fs.length by omega)]
    exact this
  have P : Pot c0 c1 c2 rs (newL bg sp pl).length th := ⟨hlen, by rw [hthd, List.getElem?_map, hT.z]; rfl, fun p hp0 hpn s hs => by
    rw [gth p hpn, gth s.2.1 (by have := (steps_lt hs).1; omega)]
    exact potle p hp0 hpn s hs⟩
  have j1 := v_judge hv hR.1 (by omega) (by omega) (by omega) P hok (by omega) apn hxl
  rw [sm] at j1
  have j1 : F_is_least_delta [vD (oldL m bg sp), vD (newL bg sp pl), csD c0 c1 c2, dD ps, vD th] = .ok (.bl true) [none, none, none, none, none] := by rw [j1]; simp
  have tx := v_text (m := (oldL m bg sp).length) (by omega) hok (by omega)
  have rdd := v_read (m := (oldL m bg sp).length) (by omega) hok (by omega)
  have e8 := t_8 sc l (m := m) (bg := bg) (st := sp) (c0 := c0) (c1 := c1) (c2 := c2) (pl := pl) (th := th) (ps := ps) j1 tx rdd k3 q2 q10 q11 q15 q16
  obtain ⟨wh, hw⟩ : ∃ wh, wh = whl (newL bg sp pl) := ⟨_, rfl⟩
  have e9 := t_9 sc l (m := m) (bg := bg) (st := sp) (c0 := c0) (c1 := c1) (c2 := c2) (pl := pl) (th := th) (ps := ps) (wh := wh) hw k3 q2 q10 q11 q15 q16
  obtain ⟨bst, hb⟩ : ∃ bst, bst = (decide (newL bg sp pl = []) || decide (c1 + c2 * (newL bg sp pl).length = x)) := ⟨_, rfl⟩
  have e10 := t_10 sc l (m := m) (bg := bg) (st := sp) (c0 := c0) (c1 := c1) (c2 := c2) (pl := pl) (th := th) (ps := ps) (wh := wh) (x := x) (bst := bst) hc2 hw il hb k3 q2 q10 q11 q16
  have wok : ∀ p ∈ wh, p.ok (oldL m bg sp).length := fun p hpw => by
    rw [hw] at hpw
    unfold whl at hpw
    split at hpw
    · cases hpw
    · rename_i hne
      simp at hpw
      subst hpw
      exact ⟨hne, hLt, by omega⟩
  have wap : app (oldL m bg sp) wh = newL bg sp pl := by
    rw [hw]
    unfold whl
    split
    · rename_i h; rw [h]; rfl
    · simp [app, made]
  have wl : wh.length < 500 := by
    rw [hw]
    unfold whl
    split <;> simp
  have j2 := v_judge hv hR.1 (by omega) (by omega) (by omega) P wok wl wap hxl
  have j2b : decide (x = (wh.map (cost c0 c1 c2)).sum) = bst := by
    rw [hb, hw]
    unfold whl
    by_cases h : newL bg sp pl = []
    · have hx0 : x = 0 := by
        rw [hx]
        have h0 : (newL bg sp pl).length = 0 := by rw [h]; rfl
        have := hT.z
        rw [List.getElem?_eq_getElem (by omega)] at this
        have := Option.some.inj this
        simp only [h0]
        rw [this]
      simp [h, hx0]
    · simp [h, cost]
      constructor
      · intro q; exact q.symm
      · intro q; exact q.symm
  rw [j2b] at j2
  have e11 := t_11 sc l (m := m) (bg := bg) (st := sp) (c0 := c0) (c1 := c1) (c2 := c2) (pl := pl) (th := th) (ps := ps) (wh := wh) (bst := bst) j2 k3 q2 q10 q11
  have j3 : 0 < x → F_is_least_delta [vD (oldL m bg sp), vD (newL bg sp pl), csD c0 c1 c2, dD ps, vD (th.dropLast ++ [x - 1])] = .ok (.bl false) [none, none, none, none, none] := fun hx0 => by
    have dl : th.dropLast.length = (newL bg sp pl).length := by rw [List.length_dropLast]; omega
    have hn0 : 0 < (newL bg sp pl).length := by
      rcases Nat.eq_zero_or_pos (newL bg sp pl).length with h | h
      · exfalso
        have := hT.z
        rw [List.getElem?_eq_getElem (by omega)] at this
        have := Option.some.inj this
        simp only [h] at hx
        rw [this] at hx
        simp at hx
        omega
      · exact h
    have g1 : ∀ p, p < (newL bg sp pl).length → (th.dropLast ++ [x - 1]).getD p 0 = (fs.getD p (0, 0, [])).1 := fun p hp => by
      rw [← gth p (by omega), List.getD_eq_getElem?_getD, List.getD_eq_getElem?_getD, List.getElem?_append_left (by omega), List.getElem?_dropLast, if_pos (by omega)]
    have g2 : (th.dropLast ++ [x - 1]).getD (newL bg sp pl).length 0 = x - 1 := by
      rw [List.getD_eq_getElem?_getD, List.getElem?_append_right (by omega), dl, Nat.sub_self]; rfl
    have P2 : Pot c0 c1 c2 rs (newL bg sp pl).length (th.dropLast ++ [x - 1]) := ⟨by rw [List.length_append, dl]; rfl, by
      rw [List.getElem?_append_left (by omega), List.getElem?_dropLast, if_pos (by omega), hthd, List.getElem?_map, hT.z]; rfl, fun p hp0 hpn s hs => by
      have hsb := (steps_lt hs).1
      have hpl := potle p hp0 hpn s hs
      rw [g1 s.2.1 (by omega)]
      rcases Nat.lt_or_ge p (newL bg sp pl).length with h | h
      · rw [g1 p h]; exact hpl
      · have : p = (newL bg sp pl).length := by omega
        subst this
        rw [g2]
        have hg : (fs.getD (newL bg sp pl).length (0, 0, [])).1 = x := by rw [List.getD_eq_getElem?_getD, List.getElem?_eq_getElem fx, hx]; rfl
        rw [hg] at hpl
        omega⟩
    have hxl2 : (th.dropLast ++ [x - 1])[(newL bg sp pl).length]? = some (x - 1) := by
      rw [List.getElem?_append_right (by omega), dl, Nat.sub_self]; rfl
    have j := v_judge hv hR.1 (by omega) (by omega) (by omega) P2 hok (by omega) apn hxl2
    rw [sm] at j
    rw [j]
    have : ¬ x - 1 = x := by omega
    simp [this]
  have e12 := t_12 sc l (m := m) (bg := bg) (st := sp) (c0 := c0) (c1 := c1) (c2 := c2) (pl := pl) (th := th) (ps := ps) (wh := wh) (bst := bst) (x := x) (by omega) il j3 k3 q2 q10 q11
  have bd := bad_delta (old := oldL m bg sp) (by omega)
  rw [ol] at bd
  have e13 := t_13 sc l (m := m) (bg := bg) (st := sp) (c0 := c0) (c1 := c1) (c2 := c2) (pl := pl) (th := th) (ps := ps) (wh := wh) (bst := bst) tx (v_count hok) bd k3 q2 q10 q11
  exact ⟨k3, _, _, _, _, _, _, _, _, _, _, _, _, _, _, _, (sq_nx e1).trans ((sq_nx e2).trans ((sq_nx e3).trans ((sq_nx e4).trans ((sq_nx e5).trans ((sq_nx e6).trans ((sq_nx e7).trans ((sq_nx e8).trans ((sq_nx e9).trans ((sq_nx e10).trans ((sq_nx e11).trans ((sq_nx e12).trans e13)))))))))))⟩
theorem v_law (ns : List Int) (h : ns.length ≤ 63) : ∃ outs, F_law [.scr (ns.map D.int)] = .ok (.bl true) outs := by
  obtain ⟨l, hl⟩ := v_draws ns h
  have dk : mkDic [(.str (PySem.Str.ofString "draws"), .lst (l.map N)), (.str (PySem.Str.ofString "at"), N 0)] = some (wD l 0) := by
    unfold mkDic wD
    simp [keyed, keyOf, mergeE, putE, ne1]
  have r4 := rng1N (n := 4) (by omega)
  have i4 : Fl.D.int 4 = N 4 := rfl
  have post : ∃ d outs, F_law [.scr (ns.map D.int)] = .ok d outs ∧ d = .bl true := by
    unfold F_law
    refine runF_of (post := fun d outs => d = .bl true) rfl ?_
    unfold S_law
    generalize (Fl.D.scr (ns.map D.int)) = sc at *
    simp only [List.map_cons, List.map_nil, List.replicate, List.cons_append, List.nil_append]
    have e300 : Fl.D.int 300 = N 300 := rfl
    refine wq_sqx (ρ' := [some sc, some (wD l 0), none, none, none, none, none, none, none, none, none, none, none, none, none, none, none]) (by simp [dispM, pairsM, e300, hl, dk]) ?_
    refine wq_sq ?_
    refine wq_for (fun _ ρ => ∃ (k : Nat) (q2 q3 q4 q5 q6 q7 q8 q9 q10 q11 q12 q13 q14 q15 q16 : Option Fl.D), ρ = [some sc, some (wD l k), q2, q3, q4, q5, q6, q7, q8, q9, q10, q11, q12, q13, q14, q15, q16]) (ds := (List.range 4).map N) (ρ1 := [some sc, some (wD l 0), none, none, none, none, none, none, none, none, none, none, none, none, none, none, none]) (by simp [i4, r4]) ⟨0, none, none, none, none, none, none, none, none, none, none, none, none, none, none, none, rfl⟩ (fun j d ρ hj hq => ?_) (fun ρ hq => ?_)
    · obtain ⟨k, q2, q3, q4, q5, q6, q7, q8, q9, q10, q11, q12, q13, q14, q15, q16, e⟩ := hq
      subst e
      obtain ⟨k', r2, r3, r4, r5, r6, r7, r8, r9, r10, r11, r12, r13, r14, r15, r16, e⟩ := v_turn sc l k (some d) q3 q4 q5 q6 q7 q8 q9 q10 q11 q12 q13 q14 q15 q16
      refine ⟨_, rfl, ?_⟩
      exact wq_ex e ⟨k', _, _, _, _, _, _, _, _, _, _, _, _, _, _, _, rfl⟩
    · obtain ⟨k, q2, q3, q4, q5, q6, q7, q8, q9, q10, q11, q12, q13, q14, q15, q16, e⟩ := hq
      subst e
      simp
  obtain ⟨d, outs, e, rfl⟩ := post
  exact ⟨outs, e⟩
end K74

set_option maxHeartbeats 4000000
/-! the end (printed by gen.py) -/
namespace K74
open PySem PySem.Spec PyProof.Rows L2 Fl
theorem has_mk {K : PySem.W.Frag} {h : Heap} {mg : Str → Option Value} (X : K.In h) (G : h.Ns mainGlobals mg) {x : Str} {st : Stmt} {ps : List Str} {f : Addr} {oc kV dc pm cd ct : Value} {od an : Option Addr} {sl : Array (Option Value)}
    (a : PySem.W.nsIn K mainGlobals x = some (some (.ref f))) (l : K.lookup f = some ⟨oc, od, .func (PySem.W.fnOf x x (defArgs st) (defBody st) (defScope st) .none kV dc pm an cd ct), sl⟩) (c : PySem.W.codeIn K cd x = true) (k : PySem.W.keepIn K (.ref f) = true)
    (hb : ∀ {fd : FuncData}, Fun K x x st f fd → Binds K fd ps []) : Has K mg x st ps := ⟨f, _, fun_mk l c k, PySem.W.mg_of X G a, hb (fun_mk l c k)⟩
theorem hb_is_number {K : PySem.W.Frag} {f : Addr} {fd : FuncData} (F : Fun K "is_number" "is_number" s_is_number f fd) : Binds K fd ["thing"] [] := F.binds (ps := ["thing"]) fun _ _ _ _ _ _ us hl => match us, hl with | [_], _ => rfl
theorem hb_is_number_text {K : PySem.W.Frag} {f : Addr} {fd : FuncData} (F : Fun K "is_number_text" "is_number_text" s_is_number_text f fd) : Binds K fd ["text"] [] := F.binds (ps := ["text"]) fun _ _ _ _ _ _ us hl => match us, hl with | [_], _ => rfl
theorem hb_is_numbers {K : PySem.W.Frag} {f : Addr} {fd : FuncData} (F : Fun K "is_numbers" "is_numbers" s_is_numbers f fd) : Binds K fd ["thing"] [] := F.binds (ps := ["thing"]) fun _ _ _ _ _ _ us hl => match us, hl with | [_], _ => rfl
theorem hb_hex_text {K : PySem.W.Frag} {f : Addr} {fd : FuncData} (F : Fun K "hex_text" "hex_text" s_hex_text f fd) : Binds K fd ["numbers"] [] := F.binds (ps := ["numbers"]) fun _ _ _ _ _ _ us hl => match us, hl with | [_], _ => rfl
theorem hb_read_hex {K : PySem.W.Frag} {f : Addr} {fd : FuncData} (F : Fun K "read_hex" "read_hex" s_read_hex f fd) : Binds K fd ["text"] [] := F.binds (ps := ["text"]) fun _ _ _ _ _ _ us hl => match us, hl with | [_], _ => rfl
theorem hb_is_piece {K : PySem.W.Frag} {f : Addr} {fd : FuncData} (F : Fun K "is_piece" "is_piece" s_is_piece f fd) : Binds K fd ["thing"] [] := F.binds (ps := ["thing"]) fun _ _ _ _ _ _ us hl => match us, hl with | [_], _ => rfl
theorem hb_is_delta {K : PySem.W.Frag} {f : Addr} {fd : FuncData} (F : Fun K "is_delta" "is_delta" s_is_delta f fd) : Binds K fd ["old", "thing"] [] := F.binds (ps := ["old", "thing"]) fun _ _ _ _ _ _ us hl => match us, hl with | [_, _], _ => rfl
theorem hb_made_by {K : PySem.W.Frag} {f : Addr} {fd : FuncData} (F : Fun K "made_by" "made_by" s_made_by f fd) : Binds K fd ["step", "old"] [] := F.binds (ps := ["step", "old"]) fun _ _ _ _ _ _ us hl => match us, hl with | [_, _], _ => rfl
theorem hb_applied_delta {K : PySem.W.Frag} {f : Addr} {fd : FuncData} (F : Fun K "applied_delta" "applied_delta" s_applied_delta f fd) : Binds K fd ["delta", "old"] [] := F.binds (ps := ["delta", "old"]) fun _ _ _ _ _ _ us hl => match us, hl with | [_, _], _ => rfl
theorem hb_delta_cost {K : PySem.W.Frag} {f : Addr} {fd : FuncData} (F : Fun K "delta_cost" "delta_cost" s_delta_cost f fd) : Binds K fd ["delta", "costs"] [] := F.binds (ps := ["delta", "costs"]) fun _ _ _ _ _ _ us hl => match us, hl with | [_, _], _ => rfl
theorem hb_step_row {K : PySem.W.Frag} {f : Addr} {fd : FuncData} (F : Fun K "step_row" "step_row" s_step_row f fd) : Binds K fd ["step"] [] := F.binds (ps := ["step"]) fun _ _ _ _ _ _ us hl => match us, hl with | [_], _ => rfl
theorem hb_delta_text {K : PySem.W.Frag} {f : Addr} {fd : FuncData} (F : Fun K "delta_text" "delta_text" s_delta_text f fd) : Binds K fd ["delta"] [] := F.binds (ps := ["delta"]) fun _ _ _ _ _ _ us hl => match us, hl with | [_], _ => rfl
theorem hb_read_step {K : PySem.W.Frag} {f : Addr} {fd : FuncData} (F : Fun K "read_step" "read_step" s_read_step f fd) : Binds K fd ["row"] [] := F.binds (ps := ["row"]) fun _ _ _ _ _ _ us hl => match us, hl with | [_], _ => rfl
theorem hb_read_delta {K : PySem.W.Frag} {f : Addr} {fd : FuncData} (F : Fun K "read_delta" "read_delta" s_read_delta f fd) : Binds K fd ["text"] [] := F.binds (ps := ["text"]) fun _ _ _ _ _ _ us hl => match us, hl with | [_], _ => rfl
theorem hb_longest_runs {K : PySem.W.Frag} {f : Addr} {fd : FuncData} (F : Fun K "longest_runs" "longest_runs" s_longest_runs f fd) : Binds K fd ["old", "new"] [] := F.binds (ps := ["old", "new"]) fun _ _ _ _ _ _ us hl => match us, hl with | [_, _], _ => rfl
theorem hb_steps_to {K : PySem.W.Frag} {f : Addr} {fd : FuncData} (F : Fun K "steps_to" "steps_to" s_steps_to f fd) : Binds K fd ["runs", "costs", "place"] [] := F.binds (ps := ["runs", "costs", "place"]) fun _ _ _ _ _ _ us hl => match us, hl with | [_, _, _], _ => rfl
theorem hb_cheapest {K : PySem.W.Frag} {f : Addr} {fd : FuncData} (F : Fun K "cheapest" "cheapest" s_cheapest f fd) : Binds K fd ["old", "new", "costs"] [] := F.binds (ps := ["old", "new", "costs"]) fun _ _ _ _ _ _ us hl => match us, hl with | [_, _, _], _ => rfl
theorem hb_potentials_of {K : PySem.W.Frag} {f : Addr} {fd : FuncData} (F : Fun K "potentials_of" "potentials_of" s_potentials_of f fd) : Binds K fd ["old", "new", "costs"] [] := F.binds (ps := ["old", "new", "costs"]) fun _ _ _ _ _ _ us hl => match us, hl with | [_, _, _], _ => rfl
theorem hb_least_delta {K : PySem.W.Frag} {f : Addr} {fd : FuncData} (F : Fun K "least_delta" "least_delta" s_least_delta f fd) : Binds K fd ["old", "new", "costs"] [] := F.binds (ps := ["old", "new", "costs"]) fun _ _ _ _ _ _ us hl => match us, hl with | [_, _, _], _ => rfl
theorem hb_are_potentials {K : PySem.W.Frag} {f : Addr} {fd : FuncData} (F : Fun K "are_potentials" "are_potentials" s_are_potentials f fd) : Binds K fd ["old", "new", "costs", "thing"] [] := F.binds (ps := ["old", "new", "costs", "thing"]) fun _ _ _ _ _ _ us hl => match us, hl with | [_, _, _, _], _ => rfl
theorem hb_is_least_delta {K : PySem.W.Frag} {f : Addr} {fd : FuncData} (F : Fun K "is_least_delta" "is_least_delta" s_is_least_delta f fd) : Binds K fd ["old", "new", "costs", "delta", "thing"] [] := F.binds (ps := ["old", "new", "costs", "delta", "thing"]) fun _ _ _ _ _ _ us hl => match us, hl with | [_, _, _, _, _], _ => rfl
theorem hb_u_law_draws {K : PySem.W.Frag} {f : Addr} {fd : FuncData} (F : Fun K "_law_draws" "_law_draws" s_u_law_draws f fd) : Binds K fd ["script", "many"] [] := F.binds (ps := ["script", "many"]) fun _ _ _ _ _ _ us hl => match us, hl with | [_, _], _ => rfl
theorem hb_u_law_next {K : PySem.W.Frag} {f : Addr} {fd : FuncData} (F : Fun K "_law_next" "_law_next" s_u_law_next f fd) : Binds K fd ["w", "many"] [] := F.binds (ps := ["w", "many"]) fun _ _ _ _ _ _ us hl => match us, hl with | [_, _], _ => rfl
theorem hb_u_law_runs {K : PySem.W.Frag} {f : Addr} {fd : FuncData} (F : Fun K "_law_runs" "_law_runs" s_u_law_runs f fd) : Binds K fd ["places", "many"] [] := F.binds (ps := ["places", "many"]) fun _ _ _ _ _ _ us hl => match us, hl with | [_, _], _ => rfl
theorem hb_u_law_cost {K : PySem.W.Frag} {f : Addr} {fd : FuncData} (F : Fun K "_law_cost" "_law_cost" s_u_law_cost f fd) : Binds K fd ["runs", "costs"] [] := F.binds (ps := ["runs", "costs"]) fun _ _ _ _ _ _ us hl => match us, hl with | [_, _], _ => rfl
theorem hb_u_law_places {K : PySem.W.Frag} {f : Addr} {fd : FuncData} (F : Fun K "_law_places" "_law_places" s_u_law_places f fd) : Binds K fd ["w", "many"] [] := F.binds (ps := ["w", "many"]) fun _ _ _ _ _ _ us hl => match us, hl with | [_, _], _ => rfl
theorem hb_law {K : PySem.W.Frag} {f : Addr} {fd : FuncData} (F : Fun K "law" "law" s_law f fd) : Binds K fd ["script"] [] := F.binds (ps := ["script"]) fun _ _ _ _ _ _ us hl => match us, hl with | [_], _ => rfl
theorem all_mk {l : PySem.W.OpenLaw} {w : World} {K : PySem.W.Frag} {h : Heap} {mg : Str → Option Value} {fa : Addr} (X : K.In h) (G : h.Ns mainGlobals mg) (hfa : mg "law" = some (.ref fa))
    {f1 : Addr} {od1 an1 : Option Addr} {sl1 : Array (Option Value)} {oc1 kV1 dc1 pm1 cd1 ct1 : Value}
    {f2 : Addr} {od2 an2 : Option Addr} {sl2 : Array (Option Value)} {oc2 kV2 dc2 pm2 cd2 ct2 : Value}
    {f3 : Addr} {od3 an3 : Option Addr} {sl3 : Array (Option Value)} {oc3 kV3 dc3 pm3 cd3 ct3 : Value}
    {f4 : Addr} {od4 an4 : Option Addr} {sl4 : Array (Option Value)} {oc4 kV4 dc4 pm4 cd4 ct4 : Value}
    {f5 : Addr} {od5 an5 : Option Addr} {sl5 : Array (Option Value)} {oc5 kV5 dc5 pm5 cd5 ct5 : Value}
    {f6 : Addr} {od6 an6 : Option Addr} {sl6 : Array (Option Value)} {oc6 kV6 dc6 pm6 cd6 ct6 : Value}
    {f7 : Addr} {od7 an7 : Option Addr} {sl7 : Array (Option Value)} {oc7 kV7 dc7 pm7 cd7 ct7 : Value}
    {f8 : Addr} {od8 an8 : Option Addr} {sl8 : Array (Option Value)} {oc8 kV8 dc8 pm8 cd8 ct8 : Value}
    {f9 : Addr} {od9 an9 : Option Addr} {sl9 : Array (Option Value)} {oc9 kV9 dc9 pm9 cd9 ct9 : Value}
    {f10 : Addr} {od10 an10 : Option Addr} {sl10 : Array (Option Value)} {oc10 kV10 dc10 pm10 cd10 ct10 : Value}
    {f11 : Addr} {od11 an11 : Option Addr} {sl11 : Array (Option Value)} {oc11 kV11 dc11 pm11 cd11 ct11 : Value}
    {f12 : Addr} {od12 an12 : Option Addr} {sl12 : Array (Option Value)} {oc12 kV12 dc12 pm12 cd12 ct12 : Value}
    {f13 : Addr} {od13 an13 : Option Addr} {sl13 : Array (Option Value)} {oc13 kV13 dc13 pm13 cd13 ct13 : Value}
    {f14 : Addr} {od14 an14 : Option Addr} {sl14 : Array (Option Value)} {oc14 kV14 dc14 pm14 cd14 ct14 : Value}
    {f15 : Addr} {od15 an15 : Option Addr} {sl15 : Array (Option Value)} {oc15 kV15 dc15 pm15 cd15 ct15 : Value}
    {f16 : Addr} {od16 an16 : Option Addr} {sl16 : Array (Option Value)} {oc16 kV16 dc16 pm16 cd16 ct16 : Value}
    {f17 : Addr} {od17 an17 : Option Addr} {sl17 : Array (Option Value)} {oc17 kV17 dc17 pm17 cd17 ct17 : Value}
    {f18 : Addr} {od18 an18 : Option Addr} {sl18 : Array (Option Value)} {oc18 kV18 dc18 pm18 cd18 ct18 : Value}
    {f19 : Addr} {od19 an19 : Option Addr} {sl19 : Array (Option Value)} {oc19 kV19 dc19 pm19 cd19 ct19 : Value}
    {f20 : Addr} {od20 an20 : Option Addr} {sl20 : Array (Option Value)} {oc20 kV20 dc20 pm20 cd20 ct20 : Value}
    {f21 : Addr} {od21 an21 : Option Addr} {sl21 : Array (Option Value)} {oc21 kV21 dc21 pm21 cd21 ct21 : Value}
    {f22 : Addr} {od22 an22 : Option Addr} {sl22 : Array (Option Value)} {oc22 kV22 dc22 pm22 cd22 ct22 : Value}
    {f23 : Addr} {od23 an23 : Option Addr} {sl23 : Array (Option Value)} {oc23 kV23 dc23 pm23 cd23 ct23 : Value}
    {f24 : Addr} {od24 an24 : Option Addr} {sl24 : Array (Option Value)} {oc24 kV24 dc24 pm24 cd24 ct24 : Value}
    {f25 : Addr} {od25 an25 : Option Addr} {sl25 : Array (Option Value)} {oc25 kV25 dc25 pm25 cd25 ct25 : Value}
    {f26 : Addr} {od26 an26 : Option Addr} {sl26 : Array (Option Value)} {oc26 kV26 dc26 pm26 cd26 ct26 : Value}
    {f27 : Addr} {od27 an27 : Option Addr} {sl27 : Array (Option Value)} {oc27 kV27 dc27 pm27 cd27 ct27 : Value}
    {tk_DIGITS : Tok}
    (a1 : PySem.W.nsIn K mainGlobals "is_number" = some (some (.ref f1))) (l1 : K.lookup f1 = some ⟨oc1, od1, .func (PySem.W.fnOf "is_number" "is_number" (defArgs s_is_number) (defBody s_is_number) (defScope s_is_number) .none kV1 dc1 pm1 an1 cd1 ct1), sl1⟩) (c1 : PySem.W.codeIn K cd1 "is_number" = true) (k1 : PySem.W.keepIn K (.ref f1) = true)
    (a2 : PySem.W.nsIn K mainGlobals "is_number_text" = some (some (.ref f2))) (l2 : K.lookup f2 = some ⟨oc2, od2, .func (PySem.W.fnOf "is_number_text" "is_number_text" (defArgs s_is_number_text) (defBody s_is_number_text) (defScope s_is_number_text) .none kV2 dc2 pm2 an2 cd2 ct2), sl2⟩) (c2 : PySem.W.codeIn K cd2 "is_number_text" = true) (k2 : PySem.W.keepIn K (.ref f2) = true)
    (a3 : PySem.W.nsIn K mainGlobals "is_numbers" = some (some (.ref f3))) (l3 : K.lookup f3 = some ⟨oc3, od3, .func (PySem.W.fnOf "is_numbers" "is_numbers" (defArgs s_is_numbers) (defBody s_is_numbers) (defScope s_is_numbers) .none kV3 dc3 pm3 an3 cd3 ct3), sl3⟩) (c3 : PySem.W.codeIn K cd3 "is_numbers" = true) (k3 : PySem.W.keepIn K (.ref f3) = true)
    (a4 : PySem.W.nsIn K mainGlobals "hex_text" = some (some (.ref f4))) (l4 : K.lookup f4 = some ⟨oc4, od4, .func (PySem.W.fnOf "hex_text" "hex_text" (defArgs s_hex_text) (defBody s_hex_text) (defScope s_hex_text) .none kV4 dc4 pm4 an4 cd4 ct4), sl4⟩) (c4 : PySem.W.codeIn K cd4 "hex_text" = true) (k4 : PySem.W.keepIn K (.ref f4) = true)
    (a5 : PySem.W.nsIn K mainGlobals "read_hex" = some (some (.ref f5))) (l5 : K.lookup f5 = some ⟨oc5, od5, .func (PySem.W.fnOf "read_hex" "read_hex" (defArgs s_read_hex) (defBody s_read_hex) (defScope s_read_hex) .none kV5 dc5 pm5 an5 cd5 ct5), sl5⟩) (c5 : PySem.W.codeIn K cd5 "read_hex" = true) (k5 : PySem.W.keepIn K (.ref f5) = true)
    (a6 : PySem.W.nsIn K mainGlobals "is_piece" = some (some (.ref f6))) (l6 : K.lookup f6 = some ⟨oc6, od6, .func (PySem.W.fnOf "is_piece" "is_piece" (defArgs s_is_piece) (defBody s_is_piece) (defScope s_is_piece) .none kV6 dc6 pm6 an6 cd6 ct6), sl6⟩) (c6 : PySem.W.codeIn K cd6 "is_piece" = true) (k6 : PySem.W.keepIn K (.ref f6) = true)
    (a7 : PySem.W.nsIn K mainGlobals "is_delta" = some (some (.ref f7))) (l7 : K.lookup f7 = some ⟨oc7, od7, .func (PySem.W.fnOf "is_delta" "is_delta" (defArgs s_is_delta) (defBody s_is_delta) (defScope s_is_delta) .none kV7 dc7 pm7 an7 cd7 ct7), sl7⟩) (c7 : PySem.W.codeIn K cd7 "is_delta" = true) (k7 : PySem.W.keepIn K (.ref f7) = true)
    (a8 : PySem.W.nsIn K mainGlobals "made_by" = some (some (.ref f8))) (l8 : K.lookup f8 = some ⟨oc8, od8, .func (PySem.W.fnOf "made_by" "made_by" (defArgs s_made_by) (defBody s_made_by) (defScope s_made_by) .none kV8 dc8 pm8 an8 cd8 ct8), sl8⟩) (c8 : PySem.W.codeIn K cd8 "made_by" = true) (k8 : PySem.W.keepIn K (.ref f8) = true)
    (a9 : PySem.W.nsIn K mainGlobals "applied_delta" = some (some (.ref f9))) (l9 : K.lookup f9 = some ⟨oc9, od9, .func (PySem.W.fnOf "applied_delta" "applied_delta" (defArgs s_applied_delta) (defBody s_applied_delta) (defScope s_applied_delta) .none kV9 dc9 pm9 an9 cd9 ct9), sl9⟩) (c9 : PySem.W.codeIn K cd9 "applied_delta" = true) (k9 : PySem.W.keepIn K (.ref f9) = true)
    (a10 : PySem.W.nsIn K mainGlobals "delta_cost" = some (some (.ref f10))) (l10 : K.lookup f10 = some ⟨oc10, od10, .func (PySem.W.fnOf "delta_cost" "delta_cost" (defArgs s_delta_cost) (defBody s_delta_cost) (defScope s_delta_cost) .none kV10 dc10 pm10 an10 cd10 ct10), sl10⟩) (c10 : PySem.W.codeIn K cd10 "delta_cost" = true) (k10 : PySem.W.keepIn K (.ref f10) = true)
    (a11 : PySem.W.nsIn K mainGlobals "step_row" = some (some (.ref f11))) (l11 : K.lookup f11 = some ⟨oc11, od11, .func (PySem.W.fnOf "step_row" "step_row" (defArgs s_step_row) (defBody s_step_row) (defScope s_step_row) .none kV11 dc11 pm11 an11 cd11 ct11), sl11⟩) (c11 : PySem.W.codeIn K cd11 "step_row" = true) (k11 : PySem.W.keepIn K (.ref f11) = true)
    (a12 : PySem.W.nsIn K mainGlobals "delta_text" = some (some (.ref f12))) (l12 : K.lookup f12 = some ⟨oc12, od12, .func (PySem.W.fnOf "delta_text" "delta_text" (defArgs s_delta_text) (defBody s_delta_text) (defScope s_delta_text) .none kV12 dc12 pm12 an12 cd12 ct12), sl12⟩) (c12 : PySem.W.codeIn K cd12 "delta_text" = true) (k12 : PySem.W.keepIn K (.ref f12) = true)
    (a13 : PySem.W.nsIn K mainGlobals "read_step" = some (some (.ref f13))) (l13 : K.lookup f13 = some ⟨oc13, od13, .func (PySem.W.fnOf "read_step" "read_step" (defArgs s_read_step) (defBody s_read_step) (defScope s_read_step) .none kV13 dc13 pm13 an13 cd13 ct13), sl13⟩) (c13 : PySem.W.codeIn K cd13 "read_step" = true) (k13 : PySem.W.keepIn K (.ref f13) = true)
    (a14 : PySem.W.nsIn K mainGlobals "read_delta" = some (some (.ref f14))) (l14 : K.lookup f14 = some ⟨oc14, od14, .func (PySem.W.fnOf "read_delta" "read_delta" (defArgs s_read_delta) (defBody s_read_delta) (defScope s_read_delta) .none kV14 dc14 pm14 an14 cd14 ct14), sl14⟩) (c14 : PySem.W.codeIn K cd14 "read_delta" = true) (k14 : PySem.W.keepIn K (.ref f14) = true)
    (a15 : PySem.W.nsIn K mainGlobals "longest_runs" = some (some (.ref f15))) (l15 : K.lookup f15 = some ⟨oc15, od15, .func (PySem.W.fnOf "longest_runs" "longest_runs" (defArgs s_longest_runs) (defBody s_longest_runs) (defScope s_longest_runs) .none kV15 dc15 pm15 an15 cd15 ct15), sl15⟩) (c15 : PySem.W.codeIn K cd15 "longest_runs" = true) (k15 : PySem.W.keepIn K (.ref f15) = true)
    (a16 : PySem.W.nsIn K mainGlobals "steps_to" = some (some (.ref f16))) (l16 : K.lookup f16 = some ⟨oc16, od16, .func (PySem.W.fnOf "steps_to" "steps_to" (defArgs s_steps_to) (defBody s_steps_to) (defScope s_steps_to) .none kV16 dc16 pm16 an16 cd16 ct16), sl16⟩) (c16 : PySem.W.codeIn K cd16 "steps_to" = true) (k16 : PySem.W.keepIn K (.ref f16) = true)
    (a17 : PySem.W.nsIn K mainGlobals "cheapest" = some (some (.ref f17))) (l17 : K.lookup f17 = some ⟨oc17, od17, .func (PySem.W.fnOf "cheapest" "cheapest" (defArgs s_cheapest) (defBody s_cheapest) (defScope s_cheapest) .none kV17 dc17 pm17 an17 cd17 ct17), sl17⟩) (c17 : PySem.W.codeIn K cd17 "cheapest" = true) (k17 : PySem.W.keepIn K (.ref f17) = true)
    (a18 : PySem.W.nsIn K mainGlobals "potentials_of" = some (some (.ref f18))) (l18 : K.lookup f18 = some ⟨oc18, od18, .func (PySem.W.fnOf "potentials_of" "potentials_of" (defArgs s_potentials_of) (defBody s_potentials_of) (defScope s_potentials_of) .none kV18 dc18 pm18 an18 cd18 ct18), sl18⟩) (c18 : PySem.W.codeIn K cd18 "potentials_of" = true) (k18 : PySem.W.keepIn K (.ref f18) = true)
    (a19 : PySem.W.nsIn K mainGlobals "least_delta" = some (some (.ref f19))) (l19 : K.lookup f19 = some ⟨oc19, od19, .func (PySem.W.fnOf "least_delta" "least_delta" (defArgs s_least_delta) (defBody s_least_delta) (defScope s_least_delta) .none kV19 dc19 pm19 an19 cd19 ct19), sl19⟩) (c19 : PySem.W.codeIn K cd19 "least_delta" = true) (k19 : PySem.W.keepIn K (.ref f19) = true)
    (a20 : PySem.W.nsIn K mainGlobals "are_potentials" = some (some (.ref f20))) (l20 : K.lookup f20 = some ⟨oc20, od20, .func (PySem.W.fnOf "are_potentials" "are_potentials" (defArgs s_are_potentials) (defBody s_are_potentials) (defScope s_are_potentials) .none kV20 dc20 pm20 an20 cd20 ct20), sl20⟩) (c20 : PySem.W.codeIn K cd20 "are_potentials" = true) (k20 : PySem.W.keepIn K (.ref f20) = true)
    (a21 : PySem.W.nsIn K mainGlobals "is_least_delta" = some (some (.ref f21))) (l21 : K.lookup f21 = some ⟨oc21, od21, .func (PySem.W.fnOf "is_least_delta" "is_least_delta" (defArgs s_is_least_delta) (defBody s_is_least_delta) (defScope s_is_least_delta) .none kV21 dc21 pm21 an21 cd21 ct21), sl21⟩) (c21 : PySem.W.codeIn K cd21 "is_least_delta" = true) (k21 : PySem.W.keepIn K (.ref f21) = true)
    (a22 : PySem.W.nsIn K mainGlobals "_law_draws" = some (some (.ref f22))) (l22 : K.lookup f22 = some ⟨oc22, od22, .func (PySem.W.fnOf "_law_draws" "_law_draws" (defArgs s_u_law_draws) (defBody s_u_law_draws) (defScope s_u_law_draws) .none kV22 dc22 pm22 an22 cd22 ct22), sl22⟩) (c22 : PySem.W.codeIn K cd22 "_law_draws" = true) (k22 : PySem.W.keepIn K (.ref f22) = true)
    (a23 : PySem.W.nsIn K mainGlobals "_law_next" = some (some (.ref f23))) (l23 : K.lookup f23 = some ⟨oc23, od23, .func (PySem.W.fnOf "_law_next" "_law_next" (defArgs s_u_law_next) (defBody s_u_law_next) (defScope s_u_law_next) .none kV23 dc23 pm23 an23 cd23 ct23), sl23⟩) (c23 : PySem.W.codeIn K cd23 "_law_next" = true) (k23 : PySem.W.keepIn K (.ref f23) = true)
    (a24 : PySem.W.nsIn K mainGlobals "_law_runs" = some (some (.ref f24))) (l24 : K.lookup f24 = some ⟨oc24, od24, .func (PySem.W.fnOf "_law_runs" "_law_runs" (defArgs s_u_law_runs) (defBody s_u_law_runs) (defScope s_u_law_runs) .none kV24 dc24 pm24 an24 cd24 ct24), sl24⟩) (c24 : PySem.W.codeIn K cd24 "_law_runs" = true) (k24 : PySem.W.keepIn K (.ref f24) = true)
    (a25 : PySem.W.nsIn K mainGlobals "_law_cost" = some (some (.ref f25))) (l25 : K.lookup f25 = some ⟨oc25, od25, .func (PySem.W.fnOf "_law_cost" "_law_cost" (defArgs s_u_law_cost) (defBody s_u_law_cost) (defScope s_u_law_cost) .none kV25 dc25 pm25 an25 cd25 ct25), sl25⟩) (c25 : PySem.W.codeIn K cd25 "_law_cost" = true) (k25 : PySem.W.keepIn K (.ref f25) = true)
    (a26 : PySem.W.nsIn K mainGlobals "_law_places" = some (some (.ref f26))) (l26 : K.lookup f26 = some ⟨oc26, od26, .func (PySem.W.fnOf "_law_places" "_law_places" (defArgs s_u_law_places) (defBody s_u_law_places) (defScope s_u_law_places) .none kV26 dc26 pm26 an26 cd26 ct26), sl26⟩) (c26 : PySem.W.codeIn K cd26 "_law_places" = true) (k26 : PySem.W.keepIn K (.ref f26) = true)
    (a27 : PySem.W.nsIn K mainGlobals "law" = some (some (.ref f27))) (l27 : K.lookup f27 = some ⟨oc27, od27, .func (PySem.W.fnOf "law" "law" (defArgs s_law) (defBody s_law) (defScope s_law) .none kV27 dc27 pm27 an27 cd27 ct27), sl27⟩) (c27 : PySem.W.codeIn K cd27 "law" = true) (k27 : PySem.W.keepIn K (.ref f27) = true)
    (gc_DIGITS : PySem.W.nsIn K mainGlobals "DIGITS" = some (some (.str (PySem.Str.ofString "0123456789abcdef") tk_DIGITS)))
    (z_abs : PySem.W.nsIn K mainGlobals "abs" = some none)
    (z_all : PySem.W.nsIn K mainGlobals "all" = some none)
    (z_bool : PySem.W.nsIn K mainGlobals "bool" = some none)
    (z_int : PySem.W.nsIn K mainGlobals "int" = some none)
    (z_isinstance : PySem.W.nsIn K mainGlobals "isinstance" = some none)
    (z_len : PySem.W.nsIn K mainGlobals "len" = some none)
    (z_list : PySem.W.nsIn K mainGlobals "list" = some none)
    (z_max : PySem.W.nsIn K mainGlobals "max" = some none)
    (z_min : PySem.W.nsIn K mainGlobals "min" = some none)
    (z_range : PySem.W.nsIn K mainGlobals "range" = some none)
    (z_str : PySem.W.nsIn K mainGlobals "str" = some none)
    (z_sum : PySem.W.nsIn K mainGlobals "sum" = some none)
    (z_tuple : PySem.W.nsIn K mainGlobals "tuple" = some none) :
    ∃ fd : FuncData, (∀ (s : Shared) (v : Value), BindsTo s fd ⟨[v], []⟩ [("script", v)]) ∧ ∀ base : Heap, K.In base → base.Ns mainGlobals mg → FnOk l.prog w K mg base (L2.CX l.prog w) 8 fa fd ["script"] (spF K (ownM [.v]) (lk []) false (fun _ _ _ _ _ => False) 1 F_law) := by
  have e := hfa.symm.trans (PySem.W.mg_of X G a27)
  cases e
  have T : Tx l.prog K mg := { d_is_number := has_mk X G a1 l1 c1 k1 hb_is_number, d_is_number_text := has_mk X G a2 l2 c2 k2 hb_is_number_text, d_is_numbers := has_mk X G a3 l3 c3 k3 hb_is_numbers, d_hex_text := has_mk X G a4 l4 c4 k4 hb_hex_text, d_read_hex := has_mk X G a5 l5 c5 k5 hb_read_hex, d_is_piece := has_mk X G a6 l6 c6 k6 hb_is_piece, d_is_delta := has_mk X G a7 l7 c7 k7 hb_is_delta, d_made_by := has_mk X G a8 l8 c8 k8 hb_made_by, d_applied_delta := has_mk X G a9 l9 c9 k9 hb_applied_delta, d_delta_cost := has_mk X G a10 l10 c10 k10 hb_delta_cost, d_step_row := has_mk X G a11 l11 c11 k11 hb_step_row, d_delta_text := has_mk X G a12 l12 c12 k12 hb_delta_text, d_read_step := has_mk X G a13 l13 c13 k13 hb_read_step, d_read_delta := has_mk X G a14 l14 c14 k14 hb_read_delta, d_longest_runs := has_mk X G a15 l15 c15 k15 hb_longest_runs, d_steps_to := has_mk X G a16 l16 c16 k16 hb_steps_to, d_cheapest := has_mk X G a17 l17 c17 k17 hb_cheapest, d_potentials_of := has_mk X G a18 l18 c18 k18 hb_potentials_of, d_least_delta := has_mk X G a19 l19 c19 k19 hb_least_delta, d_are_potentials := has_mk X G a20 l20 c20 k20 hb_are_potentials, d_is_least_delta := has_mk X G a21 l21 c21 k21 hb_is_least_delta, d_u_law_draws := has_mk X G a22 l22 c22 k22 hb_u_law_draws, d_u_law_next := has_mk X G a23 l23 c23 k23 hb_u_law_next, d_u_law_runs := has_mk X G a24 l24 c24 k24 hb_u_law_runs, d_u_law_cost := has_mk X G a25 l25 c25 k25 hb_u_law_cost, d_u_law_places := has_mk X G a26 l26 c26 k26 hb_u_law_places, d_law := has_mk X G a27 l27 c27 k27 hb_law, g_DIGITS := ⟨.str (PySem.Str.ofString "0123456789abcdef"), _, PySem.W.mg_of X G gc_DIGITS, ⟨_, rfl⟩, fun B => .str _⟩, z_abs := PySem.W.mg_none_of X G z_abs, z_all := PySem.W.mg_none_of X G z_all, z_bool := PySem.W.mg_none_of X G z_bool, z_int := PySem.W.mg_none_of X G z_int, z_isinstance := PySem.W.mg_none_of X G z_isinstance, z_len := PySem.W.mg_none_of X G z_len, z_list := PySem.W.mg_none_of X G z_list, z_max := PySem.W.mg_none_of X G z_max, z_min := PySem.W.mg_none_of X G z_min, z_range := PySem.W.mg_none_of X G z_range, z_str := PySem.W.mg_none_of X G z_str, z_sum := PySem.W.mg_none_of X G z_sum, z_tuple := PySem.W.mg_none_of X G z_tuple }
  exact ⟨PySem.W.fnOf "law" "law" (defArgs s_law) (defBody s_law) (defScope s_law) .none kV27 dc27 pm27 an27 cd27 ct27, fun s v => .of_eq rfl, fun base _ _ => (fn_law T (fun_mk l27 c27 k27)).imp (spF_xr fun _ _ _ _ _ h => h)⟩
end K74
open PySem PySem.W PyProof.Rows
set_option maxHeartbeats 0 in
theorem PySem.Challenge.cw_servedasmade_k74_whole_deltas_by_runs_holds : PySem.Challenge.rw_servedasmade_k74_whole_deltas_by_runs.Holds := by
  w_on; o_law; k_head; (case hw => w_witness2)
  k_fill
  refine L2.walk_of (l := PySem.Challenge.rw_servedasmade_k74_whole_deltas_by_runs) (n := 63) (k := 8) (x := "script") (CX := fun w => L2.CX PySem.Challenge.rw_servedasmade_k74_whole_deltas_by_runs.prog w) (sp := fun w => Fl.spF _ (Fl.ownM [.v]) (Fl.lk []) false (fun _ _ _ _ _ => False) 1 K74.F_law) rfl (by decide) rfl ⟨rfl, by decide, by decide⟩ (fun w h Y => PySem.W.kIn_of Y) ?F (fun w H a ns hl _ hS => Fl.law_sp K74.v_law H a ns hl hS) (fun w H s e s' h => Fl.hcx H s e s' h)
  case F =>
    intro w mg fa h KX G hmg
    refine' K74.all_mk KX G hmg ?a1 ?l1 ?c1 ?k1 ?a2 ?l2 ?c2 ?k2 ?a3 ?l3 ?c3 ?k3 ?a4 ?l4 ?c4 ?k4 ?a5 ?l5 ?c5 ?k5 ?a6 ?l6 ?c6 ?k6 ?a7 ?l7 ?c7 ?k7 ?a8 ?l8 ?c8 ?k8 ?a9 ?l9 ?c9 ?k9 ?a10 ?l10 ?c10 ?k10 ?a11 ?l11 ?c11 ?k11 ?a12 ?l12 ?c12 ?k12 ?a13 ?l13 ?c13 ?k13 ?a14 ?l14 ?c14 ?k14 ?a15 ?l15 ?c15 ?k15 ?a16 ?l16 ?c16 ?k16 ?a17 ?l17 ?c17 ?k17 ?a18 ?l18 ?c18 ?k18 ?a19 ?l19 ?c19 ?k19 ?a20 ?l20 ?c20 ?k20 ?a21 ?l21 ?c21 ?k21 ?a22 ?l22 ?c22 ?k22 ?a23 ?l23 ?c23 ?k23 ?a24 ?l24 ?c24 ?k24 ?a25 ?l25 ?c25 ?k25 ?a26 ?l26 ?c26 ?k26 ?a27 ?l27 ?c27 ?k27 ?gc_DIGITS ?z_abs ?z_all ?z_bool ?z_int ?z_isinstance ?z_len ?z_list ?z_max ?z_min ?z_range ?z_str ?z_sum ?z_tuple
    (case a1 => k_is); (case l1 => k_is); (case c1 => k_is); (case k1 => k_is); (case a2 => k_is); (case l2 => k_is); (case c2 => k_is); (case k2 => k_is); (case a3 => k_is); (case l3 => k_is); (case c3 => k_is); (case k3 => k_is); (case a4 => k_is); (case l4 => k_is); (case c4 => k_is); (case k4 => k_is); (case a5 => k_is); (case l5 => k_is); (case c5 => k_is); (case k5 => k_is); (case a6 => k_is); (case l6 => k_is); (case c6 => k_is); (case k6 => k_is); (case a7 => k_is); (case l7 => k_is); (case c7 => k_is); (case k7 => k_is); (case a8 => k_is); (case l8 => k_is); (case c8 => k_is); (case k8 => k_is); (case a9 => k_is); (case l9 => k_is); (case c9 => k_is); (case k9 => k_is); (case a10 => k_is); (case l10 => k_is); (case c10 => k_is); (case k10 => k_is); (case a11 => k_is); (case l11 => k_is); (case c11 => k_is); (case k11 => k_is); (case a12 => k_is); (case l12 => k_is); (case c12 => k_is); (case k12 => k_is); (case a13 => k_is); (case l13 => k_is); (case c13 => k_is); (case k13 => k_is); (case a14 => k_is); (case l14 => k_is); (case c14 => k_is); (case k14 => k_is); (case a15 => k_is); (case l15 => k_is); (case c15 => k_is); (case k15 => k_is); (case a16 => k_is); (case l16 => k_is); (case c16 => k_is); (case k16 => k_is); (case a17 => k_is); (case l17 => k_is); (case c17 => k_is); (case k17 => k_is); (case a18 => k_is); (case l18 => k_is); (case c18 => k_is); (case k18 => k_is); (case a19 => k_is); (case l19 => k_is); (case c19 => k_is); (case k19 => k_is); (case a20 => k_is); (case l20 => k_is); (case c20 => k_is); (case k20 => k_is); (case a21 => k_is); (case l21 => k_is); (case c21 => k_is); (case k21 => k_is); (case a22 => k_is); (case l22 => k_is); (case c22 => k_is); (case k22 => k_is); (case a23 => k_is); (case l23 => k_is); (case c23 => k_is); (case k23 => k_is); (case a24 => k_is); (case l24 => k_is); (case c24 => k_is); (case k24 => k_is); (case a25 => k_is); (case l25 => k_is); (case c25 => k_is); (case k25 => k_is); (case a26 => k_is); (case l26 => k_is); (case c26 => k_is); (case k26 => k_is); (case a27 => k_is); (case l27 => k_is); (case c27 => k_is); (case k27 => k_is); (case gc_DIGITS => k_is); (case z_abs => k_is); (case z_all => k_is); (case z_bool => k_is); (case z_int => k_is); (case z_isinstance => k_is); (case z_len => k_is); (case z_list => k_is); (case z_max => k_is); (case z_min => k_is); (case z_range => k_is); (case z_str => k_is); (case z_sum => k_is); (case z_tuple => k_is)

