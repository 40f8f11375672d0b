import PyProof.Rows.All
import Wide.All
import OpenK.AllK
import Wide.FinOn
import HandS.ForMost
import HandS.ForExc
import HandS.CallSlots
import HandS.Wide
import HandS.TupAny
import HandS.TupMul
import HandS.TupLe
import PyProof.AutoSeq1
import HandS.IsInst
import HandS.Conv
import HandS.Style
import HandS.Deep
import PySem.Challenge.RW_servedasmade_k70_whole_checks_known_by_n
set_option Elab.async false
set_option linter.all false
set_option maxRecDepth 100000
set_option autoImplicit false
set_option Elab.async false
set_option maxHeartbeats 1000000
/-! Fl: values as plain data, states as lists of them; each construct of Python as a function upon these. -/
namespace Fl
open PySem PySem.Spec PyProof.Rows L2

inductive D where
  | non | bl (b : Bool) | int (i : Int) | str (s : Str) | tup (xs : List D) | lst (xs : List D) | scr (xs : List D)
  | dic (es : List (Key × D)) | dit (es : List (List Key × D))

abbrev Rho := List (Option D)
abbrev Fp := Nat → Addr → Prop

def Ex (H H' : Hp) : Prop := ∀ a o, H a = some o → H' a = some o
theorem Ex.refl (H : Hp) : Ex H H := fun _ _ h => h
theorem Ex.trans {H H1 H2 : Hp} (a : Ex H H1) (b : Ex H1 H2) : Ex H H2 := fun x o h => b x o (a x o h)
theorem Ex.new {H : Hp} {p : Addr} {o : HO} (h : H p = none) : Ex H (upd H p o) := fun a u e => by
  rw [upd_ne (ne_of_none e h)]
  exact e
theorem Ex.rd {H H' : Hp} {a : Addr} {u : HO} (e : Ex H H') (h : Rd H a u) : Rd H' a u := by
  rcases h with h | ⟨o, h⟩
  · exact Or.inl (e a _ h)
  · exact Or.inr ⟨o, e a _ h⟩
theorem Ex.l {K : PySem.W.Frag} {H H' : Hp} {a : Addr} {xs : List V} (e : Ex H H') (h : SqL K H a xs) : SqL K H' a xs := h.elim (fun h => .inl (e.rd h)) .inr
theorem Ex.t {K : PySem.W.Frag} {H H' : Hp} {a : Addr} {xs : List V} (e : Ex H H') (h : SqT K H a xs) : SqT K H' a xs := h.elim (fun h => .inl (e.rd h)) .inr
theorem Ex.free {H H' : Hp} {p : Addr} (e : Ex H H') (h : H' p = none) : H p = none := by
  cases h1 : H p with
  | none => rfl
  | some o => rw [e p o h1] at h; cases h

/-! ### what a value stands for -/
mutual
inductive Rep (K : PySem.W.Frag) (B : Hp) : V → D → Prop
  | non : Rep K B .non .non
  | bl (b : Bool) : Rep K B (.bl b) (.bl b)
  | int (i : Int) : Rep K B (.int i) (.int i)
  | str (x : Str) : Rep K B (.str x) (.str x)
  | tup {a : Addr} {xs : List V} {ds : List D} : B a = some (.tup xs) → RepL K B xs ds → Rep K B (.ref a) (.tup ds)
  | lst {a : Addr} {xs : List V} {ds : List D} : B a = some (.lst xs) → RepL K B xs ds → Rep K B (.ref a) (.lst ds)
  | scr {a : Addr} {xs : List V} {ds : List D} : SqL K B a xs → RepL K B xs ds → Rep K B (.ref a) (.scr ds)
  | dic {a : Addr} {xs : List (Key × V)} {es : List (Key × D)} : B a = some (.dK xs) → RepK K B xs es → Rep K B (.ref a) (.dic es)
  | dit {a : Addr} {xs : List (List Key × V)} {es : List (List Key × D)} : B a = some (.dT xs) → RepT K B xs es → Rep K B (.ref a) (.dit es)
inductive RepL (K : PySem.W.Frag) (B : Hp) : List V → List D → Prop
  | nil : RepL K B [] []
  | cons {x : V} {xs : List V} {d : D} {ds : List D} : Rep K B x d → RepL K B xs ds → RepL K B (x :: xs) (d :: ds)
inductive RepK (K : PySem.W.Frag) (B : Hp) : List (Key × V) → List (Key × D) → Prop
  | nil : RepK K B [] []
  | cons {k : Key} {x : V} {xs : List (Key × V)} {d : D} {es : List (Key × D)} : Rep K B x d → RepK K B xs es → RepK K B ((k, x) :: xs) ((k, d) :: es)
inductive RepT (K : PySem.W.Frag) (B : Hp) : List (List Key × V) → List (List Key × D) → Prop
  | nil : RepT K B [] []
  | cons {k : List Key} {x : V} {xs : List (List Key × V)} {d : D} {es : List (List Key × D)} : Rep K B x d → RepT K B xs es → RepT K B ((k, x) :: xs) ((k, d) :: es)
end

section
variable {K : PySem.W.Frag} {B B' : Hp}
theorem Rep.mono (e : Ex B B') {v : V} {d : D} (h : Rep K B v d) : Rep K B' v d :=
  Rep.rec (motive_1 := fun v d _ => Rep K B' v d) (motive_2 := fun v d _ => RepL K B' v d) (motive_3 := fun v d _ => RepK K B' v d) (motive_4 := fun v d _ => RepT K B' v d)
    .non .bl .int .str (fun h _ i => .tup (e _ _ h) i) (fun h _ i => .lst (e _ _ h) i) (fun h _ i => .scr (e.l h) i) (fun h _ i => .dic (e _ _ h) i) (fun h _ i => .dit (e _ _ h) i)
    .nil (fun _ _ a b => .cons a b) .nil (fun _ _ a b => .cons a b) .nil (fun _ _ a b => .cons a b) h
theorem RepL.mono (e : Ex B B') : ∀ {v : List V} {d : List D}, RepL K B v d → RepL K B' v d
  | _, _, .nil => .nil
  | _, _, .cons a b => .cons (a.mono e) (RepL.mono e b)
theorem RepK.mono (e : Ex B B') : ∀ {v : List (Key × V)} {d : List (Key × D)}, RepK K B v d → RepK K B' v d
  | _, _, .nil => .nil
  | _, _, .cons a b => .cons (a.mono e) (RepK.mono e b)
theorem RepT.mono (e : Ex B B') : ∀ {v : List (List Key × V)} {d : List (List Key × D)}, RepT K B v d → RepT K B' v d
  | _, _, .nil => .nil
  | _, _, .cons a b => .cons (a.mono e) (RepT.mono e b)
theorem RepL.length : ∀ {xs : List V} {ds : List D}, RepL K B xs ds → xs.length = ds.length
  | _, _, .nil => rfl
  | _, _, .cons _ t => congrArg (· + 1) t.length
theorem RepL.get : ∀ {xs : List V} {ds : List D} {i : Nat} {d : D}, RepL K B xs ds → ds[i]? = some d → ∃ v, xs[i]? = some v ∧ Rep K B v d
  | _, _, _, _, .nil, h => by simp at h
  | _, _, 0, _, .cons a _, h => by simp at h; subst h; exact ⟨_, rfl, a⟩
  | _, _, i + 1, _, .cons _ t, h => by
    obtain ⟨v, h1, h2⟩ := RepL.get (i := i) t (by simpa using h)
    exact ⟨v, by simpa using h1, h2⟩
theorem RepL.getV : ∀ {xs : List V} {ds : List D} {i : Nat} {v : V}, RepL K B xs ds → xs[i]? = some v → ∃ d, ds[i]? = some d ∧ Rep K B v d
  | _, _, _, _, .nil, h => by simp at h
  | _, _, 0, _, .cons a _, h => by simp at h; subst h; exact ⟨_, rfl, a⟩
  | _, _, i + 1, _, .cons _ t, h => by
    obtain ⟨v, h1, h2⟩ := RepL.getV (i := i) t (by simpa using h)
    exact ⟨v, by simpa using h1, h2⟩
theorem RepL.app : ∀ {xs ys : List V} {ds es : List D}, RepL K B xs ds → RepL K B ys es → RepL K B (xs ++ ys) (ds ++ es)
  | _, _, _, _, .nil, h => h
  | _, _, _, _, .cons a t, h => .cons a (t.app h)
theorem RepL.take : ∀ (n : Nat) {xs : List V} {ds : List D}, RepL K B xs ds → RepL K B (xs.take n) (ds.take n)
  | 0, _, _, _ => .nil
  | _ + 1, _, _, .nil => .nil
  | n + 1, _, _, .cons a t => .cons a (t.take n)
theorem RepL.drop : ∀ (n : Nat) {xs : List V} {ds : List D}, RepL K B xs ds → RepL K B (xs.drop n) (ds.drop n)
  | 0, _, _, h => h
  | _ + 1, _, _, .nil => .nil
  | n + 1, _, _, .cons _ t => t.drop n
theorem RepL.set {x : V} {d : D} (h : Rep K B x d) : ∀ (i : Nat) {xs : List V} {ds : List D}, RepL K B xs ds → RepL K B (xs.set i x) (ds.set i d)
  | _, _, _, .nil => .nil
  | 0, _, _, .cons _ t => .cons h t
  | i + 1, _, _, .cons a t => .cons a (RepL.set h i t)
theorem RepL.one {x : V} {d : D} (h : Rep K B x d) : RepL K B [x] [d] := .cons h .nil
theorem RepL.rev : ∀ {xs : List V} {ds : List D}, RepL K B xs ds → RepL K B xs.reverse ds.reverse
  | _, _, .nil => .nil
  | _, _, .cons a t => by rw [List.reverse_cons, List.reverse_cons]; exact t.rev.app (.one a)
theorem RepL.erase : ∀ (i : Nat) {xs : List V} {ds : List D}, RepL K B xs ds → RepL K B (xs.eraseIdx i) (ds.eraseIdx i)
  | _, _, _, .nil => .nil
  | 0, _, _, .cons _ t => t
  | i + 1, _, _, .cons a t => .cons a (t.erase i)
theorem RepL.ints : ∀ {xs : List V} {ns : List Int}, RepL K B xs (ns.map D.int) → xs = ns.map V.int
  | _, [], .nil => rfl
  | _, _ :: _, .cons (.int _) t => congrArg _ (RepL.ints t)
theorem RepL.ofInts : ∀ (ns : List Int), RepL K B (ns.map V.int) (ns.map D.int)
  | [] => .nil
  | n :: ns => .cons (.int n) (RepL.ofInts ns)
end

/-! ### things of the frame's own: nobody else holds them -/
inductive Own (K : PySem.W.Frag) (B H : Hp) (P : Addr → Prop) : V → D → Prop
  | lst {a : Addr} {xs : List V} {ds : List D} : P a → H a = some (.lst xs) → RepL K B xs ds → Own K B H P (.ref a) (.lst ds)
  | dic {a : Addr} {xs : List (Key × V)} {es : List (Key × D)} : P a → H a = some (.dK xs) → RepK K B xs es → Own K B H P (.ref a) (.dic es)
  | dit {a : Addr} {xs : List (List Key × V)} {es : List (List Key × D)} : P a → H a = some (.dT xs) → RepT K B xs es → Own K B H P (.ref a) (.dit es)
theorem Own.mono {K : PySem.W.Frag} {B B' H H' : Hp} {P : Addr → Prop} {v : V} {d : D} (e : Ex B B') (k : ∀ a o, P a → H a = some o → H' a = some o) (h : Own K B H P v d) : Own K B' H' P v d := by
  cases h with
  | lst p q r => exact .lst p (k _ _ p q) (r.mono e)
  | dic p q r => exact .dic p (k _ _ p q) (r.mono e)
  | dit p q r => exact .dit p (k _ _ p q) (r.mono e)
theorem Own.reg {K : PySem.W.Frag} {B H : Hp} {P P' : Addr → Prop} {v : V} {d : D} (k : ∀ a, P a → P' a) (h : Own K B H P v d) : Own K B H P' v d := by
  cases h with
  | lst p q r => exact .lst (k _ p) q r
  | dic p q r => exact .dic (k _ p) q r
  | dit p q r => exact .dit (k _ p) q r
/-- frozen -/
noncomputable def frz (B H : Hp) (P : Addr → Prop) : Hp := fun a => open Classical in if P a then H a else B a
theorem Own.froze {K : PySem.W.Frag} {B H B' : Hp} {P : Addr → Prop} {v : V} {d : D} (h : Own K B H P v d) (e : Ex B B') (k : ∀ a o, P a → H a = some o → B' a = some o) : Rep K B' v d := by
  cases h with
  | lst p q r => exact .lst (k _ _ p q) (r.mono e)
  | dic p q r => exact .dic (k _ _ p q) (r.mono e)
  | dit p q r => exact .dit (k _ _ p q) (r.mono e)

/-! ### the state -/
structure SR (K : PySem.W.Frag) (ow : Nat → Bool) (B H : Hp) (σ : L2.St) (ρ : Rho) (fp : Fp) : Prop where
  ln : σ.length = ρ.length
  ex : Ex B H
  sl : ∀ i d, ρ[i]? = some (some d) → ∃ v, σ[i]? = some (some v) ∧ if ow i = true then Own K B H (fp i) v d else Rep K B v d
  dj : ∀ i j a, fp i a → fp j a → i = j
  ub : ∀ i a, fp i a → B a = none
  al : ∀ i a, fp i a → ∃ o, H a = some o
structure Go (K : PySem.W.Frag) (ow : Nat → Bool) (fp : Fp) (B H : Hp) (σ : L2.St) (ρ : Rho) (fp' : Fp) (B' H' : Hp) : Prop where
  sr : SR K ow B' H' σ ρ fp'
  b : Ex B B'
  h : ∀ a o, H a = some o → (¬ ∃ i, fp i a) → H' a = some o
  t : ∀ a o, H a = some o → ∃ o', H' a = some o'
  f : ∀ a o, H a = some o → B a = none → (¬ ∃ i, fp i a) → B' a = none
  s : ∀ i a, fp' i a → fp i a ∨ H a = none
section
variable {K : PySem.W.Frag} {ow : Nat → Bool} {B H B1 H1 B2 H2 : Hp} {σ σ1 σ2 : L2.St} {ρ ρ1 ρ2 : Rho} {fp fp1 fp2 : Fp}
theorem SR.val (S : SR K ow B H σ ρ fp) {i : Nat} {d : D} (ho : ow i = false) (h : ρ[i]? = some (some d)) : ∃ v, σ[i]? = some (some v) ∧ Rep K B v d := by
  obtain ⟨v, h1, h2⟩ := S.sl i d h
  rw [ho] at h2
  exact ⟨v, h1, by simpa using h2⟩
theorem SR.own (S : SR K ow B H σ ρ fp) {i : Nat} {d : D} (ho : ow i = true) (h : ρ[i]? = some (some d)) : ∃ v, σ[i]? = some (some v) ∧ Own K B H (fp i) v d := by
  obtain ⟨v, h1, h2⟩ := S.sl i d h
  rw [ho] at h2
  exact ⟨v, h1, by simpa using h2⟩
theorem Go.non (g : Go K ow fp B H σ1 ρ1 fp1 B1 H1) {a : Addr} (h : H1 a = none) : H a = none := by
  cases e : H a with
  | none => rfl
  | some o => obtain ⟨o', q⟩ := g.t a o e; rw [q] at h; cases h
theorem Go.refl (S : SR K ow B H σ ρ fp) : Go K ow fp B H σ ρ fp B H := ⟨S, Ex.refl _, fun _ _ h _ => h, fun _ o h => ⟨o, h⟩, fun _ _ _ h _ => h, fun _ _ h => .inl h⟩
theorem Go.nreg (g : Go K ow fp B H σ1 ρ1 fp1 B1 H1) {a : Addr} {o : HO} (h : H a = some o) (n : ¬ ∃ i, fp i a) : ¬ ∃ i, fp1 i a := fun ⟨i, q⟩ => by
  rcases g.s i a q with z | z
  · exact n ⟨i, z⟩
  · rw [h] at z; cases z
theorem Go.trans (g : Go K ow fp B H σ1 ρ1 fp1 B1 H1) (k : Go K ow fp1 B1 H1 σ2 ρ2 fp2 B2 H2) : Go K ow fp B H σ2 ρ2 fp2 B2 H2 where
  sr := k.sr
  b := g.b.trans k.b
  h := fun a o q n => k.h a o (g.h a o q n) (g.nreg q n)
  t := fun a o q => let ⟨o1, q1⟩ := g.t a o q; k.t a o1 q1
  f := fun a o q z n => k.f a o (g.h a o q n) (g.f a o q z n) (g.nreg q n)
  s := fun i a q => (k.s i a q).elim (g.s i a) fun z => .inr (g.non z)
/-- a new thing is laid and frozen -/
theorem SR.laid (S : SR K ow B H σ ρ fp) {p : Addr} (o : HO) (hp : H p = none) : Go K ow fp B H σ ρ fp (upd B p o) (upd H p o) := by
  have hb : B p = none := S.ex.free hp
  have hn : ∀ i a, fp i a → a ≠ p := fun i a q z => by obtain ⟨o', e⟩ := S.al i a q; rw [z, hp] at e; cases e
  refine ⟨⟨S.ln, fun a u e => ?_, fun i d e => ?_, S.dj, fun i a q => ?_, fun i a q => ?_⟩, Ex.new hb, fun a u e _ => Ex.new hp a u e, fun a u e => ⟨u, Ex.new hp a u e⟩, fun a u e z _ => ?_, fun _ _ q => .inl q⟩
  · by_cases ha : a = p
    · subst ha; rw [upd_same] at e ⊢; exact e
    · rw [upd_ne ha] at e ⊢; exact S.ex a u e
  · obtain ⟨v, h1, h2⟩ := S.sl i d e
    refine ⟨v, h1, ?_⟩
    split
    · rename_i ho; rw [if_pos ho] at h2
      exact h2.mono (Ex.new hb) fun a u _ e => Ex.new hp a u e
    · rename_i ho; rw [if_neg ho] at h2
      exact h2.mono (Ex.new hb)
  · rw [upd_ne (hn i a q)]; exact S.ub i a q
  · obtain ⟨u, e⟩ := S.al i a q; exact ⟨u, Ex.new hp a u e⟩
  · rw [upd_ne (ne_of_none e hp)]; exact z
/-- a new thing is laid, nobody's yet -/
theorem SR.fresh (S : SR K ow B H σ ρ fp) {p : Addr} (o : HO) (hp : H p = none) : Go K ow fp B H σ ρ fp B (upd H p o) := by
  refine ⟨⟨S.ln, S.ex.trans (Ex.new hp), fun i d e => ?_, S.dj, S.ub, fun i a q => ?_⟩, Ex.refl _, fun a u e _ => Ex.new hp a u e, fun a u e => ⟨u, Ex.new hp a u e⟩, fun a u e z _ => z, fun _ _ q => .inl q⟩
  · obtain ⟨v, h1, h2⟩ := S.sl i d e
    refine ⟨v, h1, ?_⟩
    split
    · rename_i ho; rw [if_pos ho] at h2
      exact h2.mono (Ex.refl _) fun a u _ e => Ex.new hp a u e
    · rename_i ho; rw [if_neg ho] at h2
      exact h2
  · obtain ⟨u, e⟩ := S.al i a q; exact ⟨u, Ex.new hp a u e⟩
theorem getE_set {α : Type} {l : List α} {i j : Nat} {x y : α} (h : (l.set i x)[j]? = some y) : (j = i ∧ y = x ∧ i < l.length) ∨ (j ≠ i ∧ l[j]? = some y) := by
  by_cases e : i = j
  · subst e
    by_cases hl : i < l.length
    · rw [List.getElem?_set_self hl] at h; exact .inl ⟨rfl, (Option.some.inj h).symm, hl⟩
    · rw [List.getElem?_eq_none (by simpa using hl)] at h; cases h
  · rw [List.getElem?_set_ne e] at h; exact .inr ⟨fun z => e z.symm, h⟩
/-- a value into a slot -/
theorem SR.setV (S : SR K ow B H σ ρ fp) {i : Nat} {v : V} {d : D} (ho : ow i = false) (r : Rep K B v d) : SR K ow B H (σ.set i (some v)) (ρ.set i (some d)) fp := by
  refine ⟨by simpa using S.ln, S.ex, fun j e h => ?_, S.dj, S.ub, S.al⟩
  rcases getE_set h with ⟨rfl, e2, hi⟩ | ⟨hj, e2⟩
  · cases e2
    exact ⟨v, List.getElem?_set_self (S.ln ▸ hi), by rw [if_neg (by rw [ho]; decide)]; exact r⟩
  · obtain ⟨u, h1, h2⟩ := S.sl j e e2
    exact ⟨u, by rw [List.getElem?_set_ne (Ne.symm hj)]; exact h1, h2⟩
/-- a thing of one's own into a slot: P is nobody's -/
theorem SR.setO (S : SR K ow B H σ ρ fp) {i : Nat} {v : V} {d : D} {P : Addr → Prop} (ho : ow i = true) (r : Own K B H P v d) (hn : ∀ a, P a → ∀ j, ¬ fp j a) (hu : ∀ a, P a → B a = none) (ha : ∀ a, P a → ∃ o, H a = some o) :
    SR K ow B H (σ.set i (some v)) (ρ.set i (some d)) (fun j => if j = i then P else fp j) := by
  refine ⟨by simpa using S.ln, S.ex, fun j e h => ?_, fun j k a h1 h2 => ?_, fun j a h => ?_, fun j a h => ?_⟩
  · rcases getE_set h with ⟨rfl, e2, hi⟩ | ⟨hj, e2⟩
    · cases e2
      exact ⟨v, List.getElem?_set_self (S.ln ▸ hi), by rw [if_pos ho, if_pos rfl]; exact r⟩
    · obtain ⟨u, h1, h2⟩ := S.sl j e e2
      exact ⟨u, by rw [List.getElem?_set_ne (Ne.symm hj)]; exact h1, by rw [if_neg hj]; exact h2⟩
  · by_cases hj : j = i
    · by_cases hk : k = i
      · rw [hj, hk]
      · simp only [if_pos hj, if_neg hk] at h1 h2; exact (hn a h1 k h2).elim
    · by_cases hk : k = i
      · simp only [if_neg hj, if_pos hk] at h1 h2; exact (hn a h2 j h1).elim
      · simp only [if_neg hj, if_neg hk] at h1 h2; exact S.dj j k a h1 h2
  · by_cases hj : j = i
    · simp only [if_pos hj] at h; exact hu a h
    · simp only [if_neg hj] at h; exact S.ub j a h
  · by_cases hj : j = i
    · simp only [if_pos hj] at h; exact ha a h
    · simp only [if_neg hj] at h; exact S.al j a h
/-- the thing at a slot of one's own is written -/
theorem SR.write (S : SR K ow B H σ ρ fp) {i : Nat} {a : Addr} {o : HO} {d : D} (ho : ow i = true) (hi : i < ρ.length) (hs : σ[i]? = some (some (.ref a))) (hp : fp i a) (r : Own K B (upd H a o) (fp i) (.ref a) d) :
    Go K ow fp B H σ (ρ.set i (some d)) fp B (upd H a o) := by
  have hb : B a = none := S.ub i a hp
  have up : ∀ b u, H b = some u → ∃ u', upd H a o b = some u' := fun b u e => by
    by_cases z : b = a
    · exact ⟨o, by rw [z, upd_same]⟩
    · exact ⟨u, by rw [upd_ne z]; exact e⟩
  have ne : ∀ {b : Addr}, (¬ fp i b) → b ≠ a := fun n z => n (z ▸ hp)
  refine ⟨⟨by simpa using S.ln, fun b u e => ?_, fun j e h => ?_, S.dj, S.ub, fun j b h => let ⟨u, e⟩ := S.al j b h; up b u e⟩, Ex.refl _, fun b u e n => ?_, up, fun _ _ _ z _ => z, fun _ _ q => .inl q⟩
  · rw [upd_ne (ne_of_none e hb)]; exact S.ex b u e
  · rcases getE_set h with ⟨rfl, e2, _⟩ | ⟨hj, e2⟩
    · cases e2
      exact ⟨_, hs, by rw [if_pos ho]; exact r⟩
    · obtain ⟨u, h1, h2⟩ := S.sl j e e2
      refine ⟨u, h1, ?_⟩
      split
      · rename_i ho2; rw [if_pos ho2] at h2
        exact h2.mono (Ex.refl _) fun b w p e3 => by rw [upd_ne (ne fun z => hj (S.dj j i b p z))]; exact e3
      · rename_i ho2; rw [if_neg ho2] at h2; exact h2
  · rw [upd_ne (ne fun z => n ⟨i, z⟩)]; exact e
end
end Fl

set_option maxHeartbeats 1000000
namespace Fl
open PySem PySem.Spec PyProof.Rows L2

inductive R (α : Type) where
  | ok (a : α) (ρ : Rho) | ex (x : Str) (d : D) (ρ : Rho) | no
abbrev M (α : Type) := Rho → R α
def pur {α : Type} (a : α) : M α := fun ρ => .ok a ρ
def lift {α : Type} (o : Option α) : M α := fun ρ => match o with
  | some a => .ok a ρ
  | none => .no
def bnd {α β : Type} (f : M α) (g : α → M β) : M β := fun ρ => match f ρ with
  | .ok a ρ' => g a ρ'
  | .ex x d ρ' => .ex x d ρ'
  | .no => .no
def get (ρ : Rho) (i : Nat) : Option D := match ρ[i]? with
  | some o => o
  | none => none
def rd (i : Nat) : M D := fun ρ => lift (get ρ i) ρ
theorem get_some {ρ : Rho} {i : Nat} {d : D} (h : get ρ i = some d) : ρ[i]? = some (some d) := by
  unfold get at h
  cases e : ρ[i]? with
  | none => rw [e] at h; cases h
  | some o => rw [e] at h; simp only at h; rw [h]

/-- what stands around a def's text: its written part, which slots are its own, which are handed back, whether it hands back a thing of its own, the wish of exceptions -/
structure Cn where
  K : PySem.W.Frag
  ow : Nat → Bool
  kp : Nat → Bool
  rm : Bool
  W : WX
  xr : Str → D → Value → Option Addr → Hp → Prop
  fp0 : Fp
  H0 : Hp

abbrev Rel (β α : Type) := L2.St → Fp → Hp → Fp → Hp → Hp → β → α → Prop
def relV (c : Cn) : Rel V D := fun _ _ _ _ B' _ v d => Rep c.K B' v d
inductive Md where
  | v | n | s (j : Nat)
def Md.own : Md → Bool
  | .v => false
  | _ => true
def ownM (ms : List Md) (i : Nat) : Bool := match ms[i]? with
  | some m => m.own
  | none => false
/-- arguments: values, new things (n), things of a slot (s) -/
def relA (c : Cn) (ms : List Md) : Rel (List V) (List D) := fun σ fp H fp' B' H' vs ds => ds.length = ms.length ∧ ∃ fa : Fp, SR c.K (ownM ms) B' H' (vs.map some) (ds.map some) fa ∧
  (∀ (i : Nat) (a : Addr), fa i a → (ms[i]? = some Md.n ∧ H a = none ∧ ∀ j, ¬ fp' j a) ∨ ∃ j, ms[i]? = some (Md.s j) ∧ fp' j a) ∧ ∀ (i j : Nat), ms[i]? = some (Md.s j) → c.ow j = true ∧ ∃ v, vs[i]? = some v ∧ σ[j]? = some (some v)
def relE (c : Cn) {α : Type} : Rel α α := fun _ _ _ _ _ _ b a => b = a
def relN (c : Cn) : Rel V D := fun _ _ H fp' B' H' v d => ∃ P : Addr → Prop, Own c.K B' H' P v d ∧ ∀ a, P a → H a = none ∧ B' a = none ∧ (∃ o, H' a = some o) ∧ ∀ i, ¬ fp' i a
def relB (c : Cn) : Rel V D := fun _ _ _ _ B' H' v d => Rep c.K B' v d ∨ ∃ P, Own c.K B' H' P v d
class Bk (c : Cn) {β α : Type} (rel : Rel β α) : Prop where
  bk : ∀ {fp B H σ ρ fp1 B1 H1 fp2 B2 H2 b a}, Go c.K c.ow fp B H σ ρ fp1 B1 H1 → rel σ fp1 H1 fp2 B2 H2 b a → rel σ fp H fp2 B2 H2 b a
instance (c : Cn) : Bk c (relV c) := ⟨fun _ h => h⟩
instance (c : Cn) (ms : List Md) : Bk c (relA c ms) := ⟨fun g ⟨l, fa, S, k, z⟩ => ⟨l, fa, S, fun i a h => (k i a h).elim (fun ⟨x, y, z⟩ => .inl ⟨x, g.non y, z⟩) .inr, z⟩⟩
instance (c : Cn) : Bk c (relB c) := ⟨fun _ h => h⟩
instance (c : Cn) {α : Type} : Bk c (relE c (α := α)) := ⟨fun _ h => h⟩
instance (c : Cn) : Bk c (relN c) := ⟨fun g ⟨P, o, k⟩ => ⟨P, o, fun a p => let ⟨x, r⟩ := k a p; ⟨g.non x, r⟩⟩⟩

def Cn.at (c : Cn) {β α : Type} (fp0 : Fp) (H0 B : Hp) (ρ : Rho) (fp : Fp) (f : M α) (rel : Rel β α) (σ : L2.St) (H : Hp) (Q : β → Hp → Prop) : Prop :=
  match f ρ with
  | .ok a ρ' => ∀ b fp' B' H', Go c.K c.ow fp B H σ ρ' fp' B' H' → rel σ fp0 H0 fp' B' H' b a → Q b H'
  | .ex x d ρ' => ∀ cl dd fp' B' H', Go c.K c.ow fp B H σ ρ' fp' B' H' → c.xr x d cl dd H' → c.W cl dd σ H'
  | .no => False
def can (c : Cn) {β α : Type} (f : M α) (rel : Rel β α) (σ : L2.St) (H : Hp) (Q : β → Hp → Prop) : Prop := ∃ B ρ fp, SR c.K c.ow B H σ ρ fp ∧ c.at fp H B ρ fp f rel σ H Q

section
variable {c : Cn} {B B1 H H1 H0 : Hp} {σ : L2.St} {ρ ρ1 : Rho} {fp fp1 fp0 : Fp} {α β γ δ : Type}
theorem at_bnd {f : M α} {g : α → M γ} {relf : Rel β α} {rel : Rel δ γ} {Q : δ → Hp → Prop} {Q1 : β → Hp → Prop} (h : c.at fp0 H0 B ρ fp (bnd f g) rel σ H Q)
    (k : ∀ b a ρ1 fp1 B1 H1, Go c.K c.ow fp B H σ ρ1 fp1 B1 H1 → relf σ fp H fp1 B1 H1 b a → c.at fp0 H0 B1 ρ1 fp1 (g a) rel σ H1 Q → Q1 b H1) : c.at fp H B ρ fp f relf σ H Q1 := by
  unfold Cn.at bnd at h
  unfold Cn.at
  cases e : f ρ with
  | no => rw [e] at h; exact h
  | ex x d ρ' => rw [e] at h; exact h
  | ok a ρ' =>
    rw [e] at h
    intro b fp1 B1 H1 go r
    refine k b a ρ' fp1 B1 H1 go r ?_
    unfold Cn.at
    simp only at h
    cases e2 : g a ρ' with
    | no => rw [e2] at h; exact h
    | ex x d ρ2 => rw [e2] at h; exact fun cl dd fp2 B2 H2 go2 q => h cl dd fp2 B2 H2 (go.trans go2) q
    | ok a2 ρ2 => rw [e2] at h; exact fun b2 fp2 B2 H2 go2 q => h b2 fp2 B2 H2 (go.trans go2) q
theorem at_bndG {f : M α} {g : α → M γ} {relf : Rel β α} {rel : Rel δ γ} {Q : δ → Hp → Prop} {Q1 : β → Hp → Prop} (h : c.at fp0 H0 B ρ fp (bnd f g) rel σ H Q)
    (k : ∀ b a ρ1 fp1 B1 H1, Go c.K c.ow fp B H σ ρ1 fp1 B1 H1 → relf σ fp H fp1 B1 H1 b a → c.at fp0 H0 B ρ1 fp (g a) rel σ H Q → Q1 b H1) : c.at fp H B ρ fp f relf σ H Q1 := by
  unfold Cn.at bnd at h
  unfold Cn.at
  cases e : f ρ with
  | no => rw [e] at h; exact h
  | ex x d ρ' => rw [e] at h; exact h
  | ok a ρ' => rw [e] at h; exact fun b fp1 B1 H1 go r => k b a ρ' fp1 B1 H1 go r h
theorem at_re {f : M α} {rel : Rel β α} {Q : β → Hp → Prop} [Bk c rel] {B0 : Hp} {ρ0 : Rho} (h : c.at fp0 H0 B ρ fp f rel σ H Q) (g : Go c.K c.ow fp0 B0 H0 σ ρ0 fp B H) : c.at fp H B ρ fp f rel σ H Q := by
  unfold Cn.at at h ⊢
  cases e : f ρ with
  | no => rw [e] at h; exact h
  | ex x d ρ' => rw [e] at h; exact h
  | ok a ρ' => rw [e] at h; exact fun b fp' B' H' go r => h b fp' B' H' go (Bk.bk g r)
theorem at_lift {o : Option α} {rel : Rel β α} {Q : β → Hp → Prop} (h : c.at fp0 H0 B ρ fp (lift o) rel σ H Q) : ∃ a, o = some a ∧ ∀ b fp' B' H', Go c.K c.ow fp B H σ ρ fp' B' H' → rel σ fp0 H0 fp' B' H' b a → Q b H' := by
  cases o with
  | none => exact h.elim
  | some a => exact ⟨a, rfl, h⟩
theorem at_pur {a : α} {rel : Rel β α} {Q : β → Hp → Prop} (h : c.at fp0 H0 B ρ fp (pur a) rel σ H Q) : ∀ b fp' B' H', Go c.K c.ow fp B H σ ρ fp' B' H' → rel σ fp0 H0 fp' B' H' b a → Q b H' := h
theorem at_bl {o : Option α} {g : α → M γ} {rel : Rel δ γ} {Q : δ → Hp → Prop} (h : c.at fp0 H0 B ρ fp (bnd (lift o) g) rel σ H Q) : ∃ a, o = some a ∧ c.at fp0 H0 B ρ fp (g a) rel σ H Q := by
  cases o with
  | none => exact h.elim
  | some a => exact ⟨a, rfl, h⟩
theorem at_rd {i : Nat} {g : D → M γ} {rel : Rel δ γ} {Q : δ → Hp → Prop} (h : c.at fp0 H0 B ρ fp (bnd (rd i) g) rel σ H Q) : ∃ d, get ρ i = some d ∧ c.at fp0 H0 B ρ fp (g d) rel σ H Q := by
  unfold Cn.at bnd rd lift at h
  cases e : get ρ i with
  | none => rw [e] at h; exact h.elim
  | some d => rw [e] at h; exact ⟨d, rfl, h⟩
/-- the end of an expression: a thing of the frozen part -/
theorem fin_new {p : Addr} {o : HO} {rel : Rel V D} {Q : V → Hp → Prop} {d : D} (S : SR c.K c.ow B H σ ρ fp) (h : ∀ b fp' B' H', Go c.K c.ow fp B H σ ρ fp' B' H' → relV c σ fp0 H0 fp' B' H' b d → Q b H') (hp : H p = none)
    (r : Rep c.K (upd B p o) (.ref p) d) : Q (.ref p) (upd H p o) := h _ _ _ _ (S.laid o hp) r
theorem fin_own {p : Addr} {o : HO} {Q : V → Hp → Prop} {d : D} (S : SR c.K c.ow B H σ ρ fp) (h : ∀ b fp' B' H', Go c.K c.ow fp B H σ ρ fp' B' H' → relN c σ fp0 H0 fp' B' H' b d → Q b H') (hp : H p = none) (h0 : H0 p = none)
    (r : Own c.K B (upd H p o) (fun a => a = p) (.ref p) d) : Q (.ref p) (upd H p o) :=
  h _ fp B _ (S.fresh o hp) ⟨_, r, fun a e => by
    subst e
    exact ⟨h0, S.ex.free hp, ⟨o, upd_same⟩, fun i q => by obtain ⟨u, z⟩ := S.al i a q; rw [hp] at z; cases z⟩⟩
theorem Go.froze {K : PySem.W.Frag} {ow : Nat → Bool} {P : Addr → Prop} {fp' : Fp} {B' H' : Hp} (g : Go K ow fp B H σ ρ fp' B' H') (k : ∀ a, P a → ((∃ i, fp i a) ∨ H a = none) ∧ B' a = none ∧ (∃ o, H' a = some o) ∧ ∀ i, ¬ fp' i a) :
    Go K ow fp B H σ ρ fp' (frz B' H' P) H' ∧ Ex B' (frz B' H' P) := by
  have e0 : Ex B' (frz B' H' P) := fun a o e => by
    unfold frz
    rw [if_neg fun z => by rw [(k a z).2.1] at e; cases e]
    exact e
  refine ⟨⟨⟨g.sr.ln, fun a o e => ?_, fun i d e => ?_, g.sr.dj, fun i a q => ?_, g.sr.al⟩, g.b.trans e0, g.h, g.t, fun a o e z n => ?_, g.s⟩, e0⟩
  · unfold frz at e
    by_cases z : P a
    · rw [if_pos z] at e; exact e
    · rw [if_neg z] at e; exact g.sr.ex a o e
  · obtain ⟨v, h1, h2⟩ := g.sr.sl i d e
    refine ⟨v, h1, ?_⟩
    split
    · rename_i ho; rw [if_pos ho] at h2; exact h2.mono e0 fun _ _ _ q => q
    · rename_i ho; rw [if_neg ho] at h2; exact h2.mono e0
  · unfold frz
    rw [if_neg fun z => (k a z).2.2.2 i q]
    exact g.sr.ub i a q
  · unfold frz
    rw [if_neg fun p => (k a p).1.elim n fun q => by rw [e] at q; cases q]
    exact g.f a o e z n
end

/-! ### judgements -/
section
variable (c : Cn) (X : Cx)
def EV (e : Expr) (f : M D) : Prop := PE X e (can c f (relV c))
def EN (e : Expr) (f : M D) : Prop := PE X e (can c f (relN c))
def EB (e : Expr) (f : M D) : Prop := PE X e (can c f (relB c))
def ET (e : Expr) (f : M Bool) : Prop := PT X e (can c f (relE c))
def EW (e : Expr) (f : M Bool) : Prop := PW X e (can c f (relE c))
def EA (ms : List Md) (es : List Expr) (f : M (List D)) : Prop := PA X es (can c f (relA c ms))
end
theorem peOf {X : Cx} {e : Expr} {t t' : TE} (h : PE X e t) (k : ∀ σ H Q, t' σ H Q → t σ H Q) : PE X e t' := ⟨fun pins s σ H Q I w => h.run pins s σ H Q I (k σ H Q w)⟩
theorem ptOf {X : Cx} {e : Expr} {t t' : TT} (h : PT X e t) (k : ∀ σ H Q, t' σ H Q → t σ H Q) : PT X e t' := ⟨fun pins s σ H Q I w => h.run pins s σ H Q I (k σ H Q w)⟩
theorem pwOf {X : Cx} {e : Expr} {t t' : TT} (h : PW X e t) (k : ∀ σ H Q, t' σ H Q → t σ H Q) : PW X e t' := ⟨fun wh pins s σ H Q I w => h.run wh pins s σ H Q I (k σ H Q w)⟩
theorem paOf {X : Cx} {e : List Expr} {t t' : TA} (h : PA X e t) (k : ∀ σ H Q, t' σ H Q → t σ H Q) : PA X e t' := ⟨fun pos pins s σ H Q I w => h.run pos pins s σ H Q I (k σ H Q w)⟩

def op2 (g : D → D → Option D) (fa fb : M D) : M D := bnd fa fun x => bnd fb fun y => lift (g x y)
def op1 (g : D → Option D) (fa : M D) : M D := bnd fa fun x => lift (g x)
def OpG (c : Cn) (r : R2) (g : D → D → Option D) (rel : Rel V D) : Prop := ∀ {fp0 H0 B ρ fp σ H x y dx dy Q}, SR c.K c.ow B H σ ρ fp → (∀ a, H a = none → H0 a = none) → Rep c.K B x dx → Rep c.K B y dy → c.at fp0 H0 B ρ fp (lift (g dx dy)) rel σ H Q → r x y H Q

section
variable {c : Cn} {X : Cx} {e a b : Expr} {fa fb : M D} {ta tb : M Bool} {pos : Pos}
theorem EV_var {i : Nat} (h : PE X e (tVar i)) (ho : c.ow i = false := by rfl) : EV c X e (rd i) := peOf h fun σ H Q ⟨B, ρ, fp, S, q⟩ => by
  obtain ⟨d, hd, k⟩ := at_lift (show c.at fp H B ρ fp (lift (get ρ i)) (relV c) σ H Q from q)
  obtain ⟨v, h1, h2⟩ := S.val ho (get_some hd)
  exact ⟨v, h1, k v fp B H (.refl S) h2⟩
theorem EB_own {i : Nat} (h : PE X e (tVar i)) (ho : c.ow i = true := by rfl) : EB c X e (rd i) := peOf h fun σ H Q ⟨B, ρ, fp, S, q⟩ => by
  obtain ⟨d, hd, k⟩ := at_lift (show c.at fp H B ρ fp (lift (get ρ i)) (relB c) σ H Q from q)
  obtain ⟨v, h1, h2⟩ := S.own ho (get_some hd)
  exact ⟨v, h1, k v fp B H (.refl S) (.inr ⟨_, h2⟩)⟩
theorem EV_c {v : V} {d : D} (h : PE X e (tC v)) (r : ∀ B, Rep c.K B v d) : EV c X e (pur d) := peOf h fun σ H Q ⟨B, ρ, fp, S, q⟩ => q v fp B H (.refl S) (r B)
theorem EV_int {i j pos} : EV c X (.Constant (.int i) j pos) (pur (.int i)) := EV_c pe_int fun _ => .int i
theorem EV_bl {i j pos} : EV c X (.Constant (.bool i) j pos) (pur (.bl i)) := EV_c pe_bl fun _ => .bl i
theorem EV_str {i j pos} : EV c X (.Constant (.str i) j pos) (pur (.str i)) := EV_c pe_str fun _ => .str i
theorem EV_non {j pos} : EV c X (.Constant .none j pos) (pur .non) := EV_c pe_non fun _ => .non
theorem EB_of (h : EV c X e fa) : EB c X e fa := peOf h fun σ H Q ⟨B, ρ, fp, S, q⟩ => ⟨B, ρ, fp, S, by
  unfold Cn.at at q ⊢
  cases e : fa ρ with
  | no => rw [e] at q; exact q
  | ex x d ρ' => rw [e] at q; exact q
  | ok d ρ' => rw [e] at q; exact fun v fp' B' H' g r => q v fp' B' H' g (.inl r)⟩
theorem EV_of (h : EN c X e fa) : EV c X e fa := peOf h fun σ H Q ⟨B, ρ, fp, S, q⟩ => ⟨B, ρ, fp, S, by
  unfold Cn.at at q ⊢
  cases e : fa ρ with
  | no => rw [e] at q; exact q
  | ex x d ρ' => rw [e] at q; exact q
  | ok d ρ' =>
    rw [e] at q
    intro v fp' B' H' g ⟨P, o, k⟩
    obtain ⟨g2, e0⟩ := g.froze fun a p => ⟨.inr (k a p).1, (k a p).2⟩
    exact q v fp' _ H' g2 (o.froze e0 fun a u p z => by unfold frz; rw [if_pos p]; exact z)⟩
theorem E_op {op : Operator} {r : R2} {g : D → D → Option D} {rel : Rel V D} (ho : OpR X (binaryOp op) r) (hg : OpG c r g rel) (ha : EV c X a fa) (hb : EV c X b fb) : PE X (.BinOp a op b pos) (can c (op2 g fa fb) rel) :=
  peOf (pe_op ho ha hb) fun σ H Q ⟨B, ρ, fp, S, q⟩ => ⟨B, ρ, fp, S, at_bnd q fun x dx ρ1 fp1 B1 H1 g1 r1 q1 => ⟨B1, ρ1, fp1, g1.sr, at_bnd q1 fun y dy ρ2 fp2 B2 H2 g2 r2 q2 => hg g2.sr (fun _ z => g1.non (g2.non z)) (r1.mono g2.b) r2 q2⟩⟩
theorem E_cmp {op : CmpOp} {r : R2} {g : D → D → Option D} {rel : Rel V D} (ho : OpR X (compareOp op) r) (hg : OpG c r g rel) (ha : EV c X a fa) (hb : EV c X b fb) (hm : behindInMarks op b = false := by first | exact nomark _ | rfl) : PE X (.Compare a [op] [b] pos) (can c (op2 g fa fb) rel) :=
  peOf (pe_cmpR ho ha hb hm) fun σ H Q ⟨B, ρ, fp, S, q⟩ => ⟨B, ρ, fp, S, at_bnd q fun x dx ρ1 fp1 B1 H1 g1 r1 q1 => ⟨B1, ρ1, fp1, g1.sr, at_bnd q1 fun y dy ρ2 fp2 B2 H2 g2 r2 q2 => hg g2.sr (fun _ z => g1.non (g2.non z)) (r1.mono g2.b) r2 q2⟩⟩
def tru : D → Option Bool
  | .bl b => some b
  | _ => none
def tst (f : M D) : M Bool := bnd f fun d => lift (tru d)
theorem at_tst {B H : Hp} {ρ : Rho} {fp : Fp} {σ : L2.St} {f : M D} {Q : Bool → Hp → Prop} (q : c.at fp H B ρ fp (tst f) (relE c) σ H Q) : c.at fp H B ρ fp f (relV c) σ H fun x H' => ∃ k, x = .bl k ∧ Q k H' :=
  at_bnd q fun x dx ρ1 fp1 B1 H1 g1 r1 q1 => by
    obtain ⟨k, hk, z⟩ := at_lift q1
    cases dx <;> try cases hk
    cases r1
    exact ⟨_, rfl, z _ _ _ _ (.refl g1.sr) rfl⟩
theorem ET_cmp {op : CmpOp} {r : R2} {g : D → D → Option D} (ho : OpR X (compareOp op) r) (hg : OpG c r g (relV c)) (ha : EV c X a fa) (hb : EV c X b fb) (hm : behindInMarks op b = false := by first | exact nomark _ | rfl) : ET c X (.Compare a [op] [b] pos) (tst (op2 g fa fb)) :=
  ptOf (pt_cmpR ho ha hb hm) fun σ H Q ⟨B, ρ, fp, S, q⟩ => ⟨B, ρ, fp, S, at_bnd (at_tst q) fun x dx ρ1 fp1 B1 H1 g1 r1 q1 => ⟨B1, ρ1, fp1, g1.sr, at_bnd q1 fun y dy ρ2 fp2 B2 H2 g2 r2 q2 => hg g2.sr (fun _ z => g1.non (g2.non z)) (r1.mono g2.b) r2 q2⟩⟩
theorem ET_val (h : EV c X e fa) (he : ∀ whole, isTrue e X.env whole = (do let v ← whole; standAt e.pos; holding [v] (truthy v)) := by intro _; rfl) : ET c X e (tst fa) :=
  ptOf (pt_val h he) fun σ H Q ⟨B, ρ, fp, S, q⟩ => ⟨B, ρ, fp, S, at_tst q⟩
def andT (ta tb : M Bool) : M Bool := bnd ta fun x => if x = true then tb else pur false
def orT (ta tb : M Bool) : M Bool := bnd ta fun x => if x = true then pur true else tb
def notT (ta : M Bool) : M Bool := bnd ta fun x => pur (!x)
theorem EW_and1 (h : ET c X a ta) : EW c X (.BoolOp .And [a] pos) ta := pw_and1 h
theorem EW_or1 (h : ET c X a ta) : EW c X (.BoolOp .Or [a] pos) ta := pw_or1 h
theorem EW_and {rest : List Expr} (ha : ET c X a ta) (hb : EW c X (.BoolOp .And (b :: rest) pos) tb) : EW c X (.BoolOp .And (a :: b :: rest) pos) (andT ta tb) :=
  pwOf (pw_and ha hb) fun σ H Q ⟨B, ρ, fp, S, q⟩ => ⟨B, ρ, fp, S, at_bnd q fun x dx ρ1 fp1 B1 H1 g1 r1 q1 => by
    cases r1
    split
    · rename_i h; rw [if_pos h] at q1; exact ⟨B1, ρ1, fp1, g1.sr, at_re q1 g1⟩
    · rename_i h; rw [if_neg h] at q1; exact at_pur q1 _ _ _ _ (.refl g1.sr) rfl⟩
theorem EW_or {rest : List Expr} (ha : ET c X a ta) (hb : EW c X (.BoolOp .Or (b :: rest) pos) tb) : EW c X (.BoolOp .Or (a :: b :: rest) pos) (orT ta tb) :=
  pwOf (pw_or ha hb) fun σ H Q ⟨B, ρ, fp, S, q⟩ => ⟨B, ρ, fp, S, at_bnd q fun x dx ρ1 fp1 B1 H1 g1 r1 q1 => by
    cases r1
    split
    · rename_i h; rw [if_pos h] at q1; exact at_pur q1 _ _ _ _ (.refl g1.sr) rfl
    · rename_i h; rw [if_neg h] at q1; exact ⟨B1, ρ1, fp1, g1.sr, at_re q1 g1⟩⟩
theorem ET_w (h : EW c X e ta) : ET c X e ta := h.pt
theorem ET_not (h : ET c X a ta) : ET c X (.UnaryOp .Not a pos) (notT ta) :=
  ptOf (pt_not h) fun σ H Q ⟨B, ρ, fp, S, q⟩ => ⟨B, ρ, fp, S, at_bnd q fun x dx ρ1 fp1 B1 H1 g1 r1 q1 => by cases r1; exact at_pur q1 _ _ _ _ (.refl g1.sr) rfl⟩
/-- and, or, not as values of truths -/
def andV (fa fb : M D) : M D := bnd fa fun x => bnd (lift (tru x)) fun k => if k = true then fb else pur (.bl false)
def orV (fa fb : M D) : M D := bnd fa fun x => bnd (lift (tru x)) fun k => if k = true then pur (.bl true) else fb
def notV (fa : M D) : M D := bnd fa fun x => bnd (lift (tru x)) fun k => pur (.bl (!k))
theorem at_tru {B H H0 : Hp} {ρ : Rho} {fp fp0 : Fp} {σ : L2.St} {x : V} {d : D} {g : Bool → M D} {Q : V → Hp → Prop} (S : SR c.K c.ow B H σ ρ fp) (r : Rep c.K B x d) (q : c.at fp0 H0 B ρ fp (bnd (lift (tru d)) g) (relV c) σ H Q) : ∃ k, x = .bl k ∧ c.at fp0 H0 B ρ fp (g k) (relV c) σ H Q := by
  cases d <;> try exact q.elim
  cases r
  exact ⟨_, rfl, q⟩
theorem EV_one {op} (h : EV c X a fa) : EV c X (.BoolOp op [a] pos) fa := pe_one h
theorem EV_and {rest : List Expr} (ha : EV c X a fa) (hb : EV c X (.BoolOp .And (b :: rest) pos) fb) : EV c X (.BoolOp .And (a :: b :: rest) pos) (andV fa fb) :=
  peOf (pe_and ha hb) fun σ H Q ⟨B, ρ, fp, S, q⟩ => ⟨B, ρ, fp, S, at_bnd q fun x dx ρ1 fp1 B1 H1 g1 r1 q1 => by
    obtain ⟨k, rfl, q2⟩ := at_tru g1.sr r1 q1
    refine ⟨k, rfl, ?_⟩
    split
    · rename_i h; rw [if_pos h] at q2; exact ⟨B1, ρ1, fp1, g1.sr, at_re q2 g1⟩
    · rename_i h; rw [if_neg h] at q2; exact at_pur q2 _ _ _ _ (.refl g1.sr) (.bl false)⟩
theorem EV_or {rest : List Expr} (ha : EV c X a fa) (hb : EV c X (.BoolOp .Or (b :: rest) pos) fb) : EV c X (.BoolOp .Or (a :: b :: rest) pos) (orV fa fb) :=
  peOf (pe_or ha hb) fun σ H Q ⟨B, ρ, fp, S, q⟩ => ⟨B, ρ, fp, S, at_bnd q fun x dx ρ1 fp1 B1 H1 g1 r1 q1 => by
    obtain ⟨k, rfl, q2⟩ := at_tru g1.sr r1 q1
    refine ⟨k, rfl, ?_⟩
    split
    · rename_i h; rw [if_pos h] at q2; exact at_pur q2 _ _ _ _ (.refl g1.sr) (.bl true)
    · rename_i h; rw [if_neg h] at q2; exact ⟨B1, ρ1, fp1, g1.sr, at_re q2 g1⟩⟩
theorem EV_not (h : EV c X a fa) : EV c X (.UnaryOp .Not a pos) (notV fa) :=
  peOf (pe_not h) fun σ H Q ⟨B, ρ, fp, S, q⟩ => ⟨B, ρ, fp, S, at_bnd q fun x dx ρ1 fp1 B1 H1 g1 r1 q1 => by
    obtain ⟨k, rfl, q2⟩ := at_tru g1.sr r1 q1
    exact ⟨k, rfl, at_pur q2 _ _ _ _ (.refl g1.sr) (.bl _)⟩⟩
def ifM {α : Type} (t : M Bool) (fa fb : M α) : M α := bnd t fun x => if x = true then fa else fb
theorem E_if {rel : Rel V D} [Bk c rel] {t : Expr} (ht : ET c X t ta) (ha : PE X a (can c fa rel)) (hb : PE X b (can c fb rel)) : PE X (.IfExp t a b pos) (can c (ifM ta fa fb) rel) :=
  peOf (pe_ifExp ht ha hb) fun σ H Q ⟨B, ρ, fp, S, q⟩ => ⟨B, ρ, fp, S, at_bnd q fun x dx ρ1 fp1 B1 H1 g1 r1 q1 => by
    cases r1
    split
    · rename_i h; rw [if_pos h] at q1; exact ⟨B1, ρ1, fp1, g1.sr, at_re q1 g1⟩
    · rename_i h; rw [if_neg h] at q1; exact ⟨B1, ρ1, fp1, g1.sr, at_re q1 g1⟩⟩
/-- a < b < d -/
def chn (g g' : D → D → Option D) (fa fb fd : M D) : M D := bnd fa fun x => bnd fb fun y => bnd (lift (g x y)) fun z => bnd (lift (tru z)) fun k => if k = true then bnd fd fun u => lift (g' y u) else pur (.bl false)
/-! arguments -/
def aNil : M (List D) := pur []
def aCons (fa : M D) (fr : M (List D)) : M (List D) := bnd fa fun x => bnd fr fun xs => pur (x :: xs)
/-- the thing of a slot: its data is read behind all others -/
def aSlot (j : Nat) (fr : M (List D)) : M (List D) := bnd (rd j) fun _ => bnd fr fun xs => bnd (rd j) fun x => pur (x :: xs)
theorem ownM_zero {m : Md} {ms : List Md} : ownM (m :: ms) 0 = m.own := rfl
theorem ownM_succ {m : Md} {ms : List Md} {i : Nat} : ownM (m :: ms) (i + 1) = ownM ms i := rfl
theorem SR.cons {K : PySem.W.Frag} {B H : Hp} {vs : List V} {ds : List D} {ms : List Md} {fa : Fp} {m : Md} {P : Addr → Prop} {v : V} {d : D} (S : SR K (ownM ms) B H (vs.map some) (ds.map some) fa)
    (r : if m.own = true then Own K B H P v d else Rep K B v d) (hu : ∀ a, P a → B a = none) (ha : ∀ a, P a → ∃ o, H a = some o) (hd : ∀ i a, fa i a → ¬ P a) :
    SR K (ownM (m :: ms)) B H ((v :: vs).map some) ((d :: ds).map some) (fun i a => match i with | 0 => P a | i + 1 => fa i a) := by
  refine ⟨by simpa using S.ln, S.ex, fun i e h => ?_, fun i j a h1 h2 => ?_, fun i a h => ?_, fun i a h => ?_⟩
  · cases i with
    | zero => simp only [List.map_cons, List.getElem?_cons_zero, Option.some.injEq] at h; subst h; exact ⟨v, rfl, r⟩
    | succ i => exact S.sl i e (by simpa using h)
  · cases i with
    | zero => cases j with
      | zero => rfl
      | succ j => exact (hd j a h2 h1).elim
    | succ i => cases j with
      | zero => exact (hd i a h1 h2).elim
      | succ j => exact congrArg (· + 1) (S.dj i j a h1 h2)
  · cases i with
    | zero => exact hu a h
    | succ i => exact S.ub i a h
  · cases i with
    | zero => exact ha a h
    | succ i => exact S.al i a h
theorem SR.nil {K : PySem.W.Frag} {ow : Nat → Bool} {B H : Hp} (h : Ex B H) : SR K ow B H [] [] (fun _ _ => False) := ⟨rfl, h, fun i d e => by simp at e, fun _ _ _ h => h.elim, fun _ _ h => h.elim, fun _ _ h => h.elim⟩
theorem EA_nil : EA c X [] [] aNil := paOf pa_nil fun σ H Q ⟨B, ρ, fp, S, q⟩ => at_pur q _ _ _ _ (.refl S) ⟨rfl, _, .nil S.ex, fun _ _ h => h.elim, fun i j h => by simp at h⟩
theorem EA_cons {ms : List Md} {es : List Expr} {fr : M (List D)} (ha : EV c X a fa) (hr : EA c X ms es fr) (hs : starEach (a :: es) X.env = (false, eval a X.env) :: starEach es X.env := by rfl) : EA c X (.v :: ms) (a :: es) (aCons fa fr) :=
  paOf (pa_cons ha hr hs) fun σ H Q ⟨B, ρ, fp, S, q⟩ => ⟨B, ρ, fp, S, at_bnd q fun x dx ρ1 fp1 B1 H1 g1 r1 q1 => ⟨B1, ρ1, fp1, g1.sr, at_bnd q1 fun y dy ρ2 fp2 B2 H2 g2 ⟨hl, fa, SA, k, z⟩ q2 =>
    at_pur q2 _ _ _ _ (.refl g2.sr) ⟨by simpa using hl, _, SA.cons (m := .v) (P := fun _ => False) (r1.mono g2.b) (fun _ h => h.elim) (fun _ h => h.elim) (fun _ _ _ h => h), fun i a h => by
      cases i with
      | zero => exact h.elim
      | succ i => exact (k i a h).elim (fun ⟨x, y, z⟩ => .inl ⟨x, g1.non y, z⟩) .inr, fun i j h => by
      cases i with
      | zero => cases h
      | succ i => exact z i j h⟩⟩⟩
theorem EA_consN {ms : List Md} {es : List Expr} {fr : M (List D)} (ha : EN c X a fa) (hr : EA c X ms es fr) (hs : starEach (a :: es) X.env = (false, eval a X.env) :: starEach es X.env := by rfl) : EA c X (.n :: ms) (a :: es) (aCons fa fr) :=
  paOf (pa_cons ha hr hs) fun σ H Q ⟨B, ρ, fp, S, q⟩ => ⟨B, ρ, fp, S, at_bnd q fun x dx ρ1 fp1 B1 H1 g1 ⟨P, o, kp⟩ q1 => ⟨B1, ρ1, fp1, g1.sr, at_bnd q1 fun y dy ρ2 fp2 B2 H2 g2 ⟨hl, fa, SA, k, z⟩ q2 => by
    have nr : ∀ a, P a → ¬ ∃ i, fp1 i a := fun a p ⟨i, h⟩ => (kp a p).2.2.2 i h
    have n2 : ∀ a, P a → ∀ j, ¬ fp2 j a := fun a p j h => (g2.s j a h).elim (fun h => (kp a p).2.2.2 j h) fun h => by obtain ⟨o, e⟩ := (kp a p).2.2.1; rw [e] at h; cases h
    refine at_pur q2 _ _ _ _ (.refl g2.sr) ⟨by simpa using hl, _, SA.cons (m := .n) (P := P) (o.mono g2.b fun a u p e => g2.h a u e (nr a p)) (fun a p => let ⟨o, e⟩ := (kp a p).2.2.1; g2.f a o e (kp a p).2.1 (nr a p)) (fun a p => let ⟨o, e⟩ := (kp a p).2.2.1; g2.t a o e) (fun i a h p => ?_), fun i a h => ?_, fun i j h => ?_⟩
    · rcases k i a h with ⟨_, y, _⟩ | ⟨j, _, y⟩
      · obtain ⟨o, e⟩ := (kp a p).2.2.1; rw [e] at y; cases y
      · exact n2 a p j y
    · cases i with
      | zero => exact .inl ⟨rfl, (kp a h).1, n2 a h⟩
      | succ i => exact (k i a h).elim (fun ⟨x, y, z⟩ => .inl ⟨x, g1.non y, z⟩) .inr
    · cases i with
      | zero => cases h
      | succ i => exact z i j h⟩⟩
theorem EA_consS {j : Nat} {ms : List Md} {es : List Expr} {fr : M (List D)} (ha : PE X a (tVar j)) (hr : EA c X ms es fr) (ho : c.ow j = true := by rfl) (hj : (ms.any fun m => match m with | .s i => i == j | _ => false) = false := by rfl)
    (hs : starEach (a :: es) X.env = (false, eval a X.env) :: starEach es X.env := by rfl) : EA c X (.s j :: ms) (a :: es) (aSlot j fr) :=
  paOf (pa_cons ha hr hs) fun σ H Q ⟨B, ρ, fp, S, q⟩ => by
    obtain ⟨d0, hd0, q0⟩ := at_rd q
    obtain ⟨v, hv, o0⟩ := S.own ho (get_some hd0)
    refine ⟨v, hv, ⟨B, ρ, fp, S, at_bnd q0 fun y dy ρ2 fp2 B2 H2 g2 ⟨hl, fa, SA, k, z⟩ q2 => ?_⟩⟩
    obtain ⟨d, hd, q3⟩ := at_rd q2
    obtain ⟨v2, hv2, o2⟩ := g2.sr.own ho (get_some hd)
    rw [hv] at hv2
    cases hv2
    have nj : ∀ i : Nat, ms[i]? ≠ some (Md.s j) := fun i h => by
      have e := List.any_eq_false.mp hj _ (List.mem_of_getElem? h)
      simp at e
    refine at_pur q3 _ _ _ _ (.refl g2.sr) ⟨by simpa using hl, _, SA.cons (m := .s j) (P := fp2 j) o2 (g2.sr.ub j) (g2.sr.al j) (fun i a h p => ?_), fun i a h => ?_, fun i j' h => ?_⟩
    · rcases k i a h with ⟨_, _, y⟩ | ⟨j', y0, y⟩
      · exact y j p
      · rw [g2.sr.dj j' j a y p] at y0; exact nj i y0
    · cases i with
      | zero => exact .inr ⟨j, rfl, h⟩
      | succ i => exact k i a h
    · cases i with
      | zero => cases h; exact ⟨ho, v, rfl, hv⟩
      | succ i => exact z i j' h
/-- values alone -/
theorem relA_v {n : Nat} {B H B' H' : Hp} {σ : L2.St} {fp fp' : Fp} {vs : List V} {ds : List D} (h : relA c (List.replicate n .v) σ fp H fp' B' H' vs ds) : RepL c.K B' vs ds := by
  obtain ⟨hl, fa, S, k, z⟩ := h
  have e : vs.length = ds.length := by simpa using S.ln
  have key : ∀ i d, ds[i]? = some d → ∃ v, vs[i]? = some v ∧ Rep c.K B' v d := fun i d h => by
    obtain ⟨v, h1, h2⟩ := S.val (i := i) (d := d) (by
      unfold ownM
      by_cases q : i < n
      · rw [List.getElem?_replicate, if_pos q]; rfl
      · rw [List.getElem?_replicate, if_neg q]) (by rw [List.getElem?_map, h]; rfl)
    rw [List.getElem?_map] at h1
    cases e1 : vs[i]? with
    | none => rw [e1] at h1; cases h1
    | some u => rw [e1] at h1; cases h1; exact ⟨_, e1, h2⟩
  clear hl S k z
  induction ds generalizing vs with
  | nil => cases vs with
    | nil => exact .nil
    | cons _ _ => cases e
  | cons d ds ih => cases vs with
    | nil => cases e
    | cons v vs =>
      obtain ⟨u, h1, h2⟩ := key 0 d rfl
      cases h1
      exact .cons h2 (ih (by simpa using e) fun i d h => by simpa using key (i + 1) d (by simpa using h))
def szL : Nat := 16777216
theorem szL_eq : szL = sizeLine := sizeLine_eq.symm
def mkTup (xs : List D) : Option D := if xs.length ≤ szL then some (.tup xs) else none
def mkLst (xs : List D) : Option D := if xs.length ≤ szL then some (.lst xs) else none
theorem EV_tup {x1} {n : Nat} {es : List Expr} {f : M (List D)} (h : EA c X (List.replicate n .v) es f) : EV c X (.Tuple es x1 pos) (bnd f fun xs => lift (mkTup xs)) :=
  peOf (pe_tup h) fun σ H Q ⟨B, ρ, fp, S, q⟩ => ⟨B, ρ, fp, S, at_bnd q fun x dx ρ1 fp1 B1 H1 g1 r1 q1 => by
    obtain ⟨d, hd, k⟩ := at_lift q1
    unfold mkTup at hd
    split at hd <;> cases hd
    rename_i hl
    have r1 := relA_v (B := B) (H := H) r1
    refine ⟨by rw [RepL.length r1, ← szL_eq]; exact hl, fun p hp => fin_new (rel := relV c) g1.sr k hp ?_⟩
    exact .tup upd_same (RepL.mono (Ex.new (g1.sr.ex.free hp)) r1)⟩
theorem EN_lst {n : Nat} {es : List Expr} {f : M (List D)} (h : EA c X (List.replicate n .v) es f) : EN c X (.List es pos) (bnd f fun xs => lift (mkLst xs)) :=
  peOf (pe_lst h) fun σ H Q ⟨B, ρ, fp, S, q⟩ => ⟨B, ρ, fp, S, at_bnd q fun x dx ρ1 fp1 B1 H1 g1 r1 q1 => by
    obtain ⟨d, hd, k⟩ := at_lift q1
    unfold mkLst at hd
    split at hd <;> cases hd
    rename_i hl
    have r1 := relA_v (B := B) (H := H) r1
    refine ⟨by rw [RepL.length r1, ← szL_eq]; exact hl, fun p hp => fin_own g1.sr k hp (g1.non hp) ?_⟩
    exact .lst rfl upd_same r1⟩
end
end Fl

set_option maxHeartbeats 1000000
namespace Fl
open PySem PySem.Spec PyProof.Rows L2

inductive Out where
  | nx (ρ : Rho) | bk (ρ : Rho) | ct (ρ : Rho) | rt (d : D) (ρ : Rho) | ex (x : Str) (d : D) (ρ : Rho) | no
abbrev S := Rho → Out
def mask (kp : Nat → Bool) : Nat → Rho → Rho
  | _, [] => []
  | i, o :: r => (if kp i = true then o else none) :: mask kp (i + 1) r
theorem mask_len {kp : Nat → Bool} : ∀ {n : Nat} {ρ : Rho}, (mask kp n ρ).length = ρ.length
  | _, [] => rfl
  | n, _ :: r => congrArg (· + 1) (mask_len (n := n + 1) (ρ := r))
theorem mask_get {kp : Nat → Bool} {d : D} : ∀ {n i : Nat} {ρ : Rho}, (mask kp n ρ)[i]? = some (some d) → kp (n + i) = true ∧ ρ[i]? = some (some d)
  | _, _, [], h => by simp [mask] at h
  | n, 0, o :: r, h => by
    simp only [mask, List.getElem?_cons_zero, Option.some.injEq] at h
    by_cases k : kp n = true
    · rw [if_pos k] at h; exact ⟨k, by simp [h]⟩
    · rw [if_neg k] at h; cases h
  | n, i + 1, o :: r, h => by
    have q := mask_get (n := n + 1) (i := i) (ρ := r) (by simpa [mask] using h)
    exact ⟨by rw [show n + (i + 1) = n + 1 + i by omega]; exact q.1, by simpa using q.2⟩
def Kp (c : Cn) (σ σ' : L2.St) : Prop := σ'.length = σ.length ∧ ∀ i, c.kp i = true → σ'[i]? = σ[i]?
theorem Kp.refl {c : Cn} (σ : L2.St) : Kp c σ σ := ⟨rfl, fun _ _ => rfl⟩
theorem Kp.trans {c : Cn} {σ σ1 σ2 : L2.St} (a : Kp c σ σ1) (b : Kp c σ1 σ2) : Kp c σ σ2 := ⟨b.1.trans a.1, fun i h => (b.2 i h).trans (a.2 i h)⟩
def relR (c : Cn) (fp' : Fp) (B' H' : Hp) (v : V) (d : D) : Prop := ∃ P : Addr → Prop, Own c.K B' H' P v d ∧ ∀ a, P a → ((∃ i, c.kp i = false ∧ c.fp0 i a) ∨ c.H0 a = none) ∧ B' a = none ∧ (∃ o, H' a = some o) ∧ ∀ i, ¬ fp' i a
def relRt (c : Cn) (fp' : Fp) (B' H' : Hp) (v : V) (d : D) : Prop := if c.rm = true then relR c fp' B' H' v d else Rep c.K B' v d
/-- within the def's entry -/
structure In (c : Cn) (fp : Fp) (H : Hp) : Prop where
  t : ∀ a, H a = none → c.H0 a = none
  s : ∀ i a, fp i a → c.fp0 i a ∨ c.H0 a = none
theorem In.go {c : Cn} {fp fp' : Fp} {B H B' H' : Hp} {σ : L2.St} {ρ : Rho} (i : In c fp H) (g : Go c.K c.ow fp B H σ ρ fp' B' H') : In c fp' H' := ⟨fun a h => i.t a (g.non h), fun k a h => (g.s k a h).elim (i.s k a) fun z => .inr (i.t a z)⟩
def Cn.atO (c : Cn) (B : Hp) (fp : Fp) (o : Out) (D : Ends) (σ : L2.St) (H : Hp) : Prop := match o with
  | .nx ρ' => ∀ σ' fp' B' H', Go c.K c.ow fp B H σ' ρ' fp' B' H' → Kp c σ σ' → D.nx σ' H'
  | .bk ρ' => ∀ σ' fp' B' H', Go c.K c.ow fp B H σ' ρ' fp' B' H' → Kp c σ σ' → D.bk σ' H'
  | .ct ρ' => ∀ σ' fp' B' H', Go c.K c.ow fp B H σ' ρ' fp' B' H' → Kp c σ σ' → D.ct σ' H'
  | .rt d ρ' => ∀ v σ' fp' B' H', Go c.K c.ow fp B H σ' (mask c.kp 0 ρ') fp' B' H' → Kp c σ σ' → relRt c fp' B' H' v d → D.rt v H'
  | .ex x d ρ' => ∀ cl dd σ' fp' B' H', Go c.K c.ow fp B H σ' ρ' fp' B' H' → Kp c σ σ' → c.xr x d cl dd H' → c.W cl dd σ' H'
  | .no => False
def canS (c : Cn) (g : S) : TS := fun D σ H => ∃ B ρ fp, SR c.K c.ow B H σ ρ fp ∧ In c fp H ∧ c.atO B fp (g ρ) D σ H
def thn {α : Type} (f : M α) (k : α → S) : S := fun ρ => match f ρ with
  | .ok a ρ' => k a ρ'
  | .ex x d ρ' => .ex x d ρ'
  | .no => .no
def sq (s t : S) : S := fun ρ => match s ρ with
  | .nx ρ' => t ρ'
  | o => o
def skip : S := .nx
def ret (f : M D) : S := thn f fun d ρ => .rt d ρ
def ifS (t : M Bool) (a b : S) : S := thn t fun k => if k = true then a else b
def setS (i : Nat) (f : M D) : S := thn f fun d ρ => .nx (ρ.set i (some d))
section
variable (c : Cn) (X : Cx)
def ES (st : Stmt) (g : S) : Prop := PS X st (canS c g)
def ESs (st : List Stmt) (g : S) : Prop := PSs X st (canS c g)
end
theorem psOf {X : Cx} {e : Stmt} {t t' : TS} (h : PS X e t) (k : ∀ D σ H, t' D σ H → t D σ H) : PS X e t' := ⟨fun pins s σ H Q I w => h.run pins s σ H Q I (k Q σ H w)⟩
theorem pssOf {X : Cx} {e : List Stmt} {t t' : TS} (h : PSs X e t) (k : ∀ D σ H, t' D σ H → t D σ H) : PSs X e t' := ⟨fun pins s σ H Q I w => h.run pins s σ H Q I (k Q σ H w)⟩

section
variable {c : Cn} {B B1 H H1 : Hp} {σ σ1 : L2.St} {ρ ρ1 : Rho} {fp fp1 : Fp} {α β : Type} {D : Ends}
theorem atO_go {o : Out} (h : c.atO B fp o D σ H) (g : Go c.K c.ow fp B H σ1 ρ1 fp1 B1 H1) (k : Kp c σ σ1) : c.atO B1 fp1 o D σ1 H1 := by
  cases o with
  | nx ρ' => exact fun σ' fp' B' H' go kk => h σ' fp' B' H' (g.trans go) (k.trans kk)
  | bk ρ' => exact fun σ' fp' B' H' go kk => h σ' fp' B' H' (g.trans go) (k.trans kk)
  | ct ρ' => exact fun σ' fp' B' H' go kk => h σ' fp' B' H' (g.trans go) (k.trans kk)
  | rt d ρ' => exact fun v σ' fp' B' H' go kk r => h v σ' fp' B' H' (g.trans go) (k.trans kk) r
  | ex x d ρ' => exact fun cl dd σ' fp' B' H' go kk r => h cl dd σ' fp' B' H' (g.trans go) (k.trans kk) r
  | no => exact h
theorem at_thn {f : M α} {k : α → S} {rel : Rel β α} {Q1 : β → Hp → Prop} (h : c.atO B fp (thn f k ρ) D σ H)
    (kk : ∀ b a ρ1 fp1 B1 H1, Go c.K c.ow fp B H σ ρ1 fp1 B1 H1 → rel σ fp H fp1 B1 H1 b a → c.atO B1 fp1 (k a ρ1) D σ H1 → Q1 b H1) : c.at fp H B ρ fp f rel σ H Q1 := by
  unfold thn at h
  unfold Cn.at
  cases e : f ρ with
  | no => rw [e] at h; exact h
  | ex x d ρ' => rw [e] at h; exact fun cl dd fp' B' H' go r => h cl dd σ fp' B' H' go (.refl σ) r
  | ok a ρ' => rw [e] at h; exact fun b fp' B' H' go r => kk b a ρ' fp' B' H' go r (atO_go h go (.refl σ))
/-- a def's own things but those handed back are let go -/
theorem Go.masked (g : Go c.K c.ow fp B H σ1 ρ1 fp1 B1 H1) : Go c.K c.ow fp B H σ1 (mask c.kp 0 ρ1) (fun i a => c.kp i = true ∧ fp1 i a) B1 H1 := by
  refine ⟨⟨by rw [mask_len]; exact g.sr.ln, g.sr.ex, fun i d h => ?_, fun i j a h1 h2 => g.sr.dj i j a h1.2 h2.2, fun i a h => g.sr.ub i a h.2, fun i a h => g.sr.al i a h.2⟩, g.b, g.h, g.t, g.f, fun i a h => g.s i a h.2⟩
  obtain ⟨k, e⟩ := mask_get h
  rw [Nat.zero_add] at k
  obtain ⟨v, h1, h2⟩ := g.sr.sl i d e
  refine ⟨v, h1, ?_⟩
  split
  · rename_i ho; rw [if_pos ho] at h2; exact h2.reg fun a p => ⟨k, p⟩
  · rename_i ho; rw [if_neg ho] at h2; exact h2
end
section
variable {c : Cn} {X : Cx} {e a b : Expr} {st : Stmt} {sts rest : List Stmt} {f fa fb : M D} {t : M Bool} {s u : S} {pos : Pos}
theorem ESs_nil : ESs c X [] skip := pssOf pss_nil fun D σ H ⟨B, ρ, fp, S, i, q⟩ => q σ fp B H (.refl S) (.refl σ)
theorem ESs_one (h : ES c X st s) : ESs c X [st] s := pss_one h
theorem ESs_cons (h1 : ES c X st s) (h2 : ESs c X rest u) : ESs c X (st :: rest) (sq s u) := pssOf (pss_cons h1 h2) fun D σ H ⟨B, ρ, fp, S, i, q⟩ => by
  refine ⟨B, ρ, fp, S, i, ?_⟩
  unfold sq at q
  cases e : s ρ with
  | nx ρ' =>
    rw [e] at q
    exact fun σ' fp' B' H' go k => ⟨B', ρ', fp', go.sr, i.go go, atO_go q go k⟩
  | bk ρ' => rw [e] at q; exact q
  | ct ρ' => rw [e] at q; exact q
  | rt d ρ' => rw [e] at q; exact q
  | ex x d ρ' => rw [e] at q; exact q
  | no => rw [e] at q; exact q
theorem ES_pass : ES c X (.Pass pos) skip := psOf ps_pass fun D σ H ⟨B, ρ, fp, S, i, q⟩ => q σ fp B H (.refl S) (.refl σ)
theorem ES_break : ES c X (.Break pos) .bk := psOf ps_break fun D σ H ⟨B, ρ, fp, S, i, q⟩ => q σ fp B H (.refl S) (.refl σ)
theorem ES_continue : ES c X (.Continue pos) .ct := psOf ps_continue fun D σ H ⟨B, ρ, fp, S, i, q⟩ => q σ fp B H (.refl S) (.refl σ)
theorem ES_expr {rel : Rel V D} (h : PE X e (can c f rel)) (hs : swapsWith e none pos.line X.env = pure false := by rfl) : ES c X (.Expr e pos) (thn f fun _ => skip) :=
  psOf (ps_expr h hs) fun D σ H ⟨B, ρ, fp, S, i, q⟩ => ⟨B, ρ, fp, S, at_thn q fun b a ρ1 fp1 B1 H1 g _ q1 => q1 σ fp1 B1 H1 (.refl g.sr) (.refl σ)⟩
theorem ES_ret (h : EV c X e f) (hr : c.rm = false := by rfl) : ES c X (.Return (some e) pos) (ret f) :=
  psOf (ps_ret h) fun D σ H ⟨B, ρ, fp, S, i, q⟩ => ⟨B, ρ, fp, S, at_thn q fun b a ρ1 fp1 B1 H1 g r q1 => q1 b σ _ B1 H1 (Go.refl g.sr).masked (.refl σ) (by unfold relRt; rw [hr, if_neg (by decide)]; exact r)⟩
theorem ES_retN (hr : c.rm = false := by rfl) : ES c X (.Return none pos) (.rt .non) :=
  psOf ps_retN fun D σ H ⟨B, ρ, fp, S, i, q⟩ => q .non σ _ B H (Go.refl S).masked (.refl σ) (by unfold relRt; rw [hr, if_neg (by decide)]; exact .non)
/-- a new thing handed back as one's own -/
theorem ES_retM (h : EN c X e f) (hr : c.rm = true := by rfl) : ES c X (.Return (some e) pos) (ret f) :=
  psOf (ps_ret h) fun D σ H ⟨B, ρ, fp, S, i, q⟩ => ⟨B, ρ, fp, S, at_thn q fun b a ρ1 fp1 B1 H1 g ⟨P, o, k⟩ q1 => q1 b σ _ B1 H1 (Go.refl g.sr).masked (.refl σ) (by
    unfold relRt; rw [if_pos hr]
    exact ⟨P, o, fun a p => ⟨.inr (i.t a (k a p).1), (k a p).2.1, (k a p).2.2.1, fun j h => (k a p).2.2.2 j h.2⟩⟩)⟩
/-- the thing of a slot of one's own is handed back -/
theorem ES_retS {j : Nat} (h : PE X e (tVar j)) (ho : c.ow j = true := by rfl) (hk : c.kp j = false := by rfl) (hr : c.rm = true := by rfl) : ES c X (.Return (some e) pos) (ret (rd j)) :=
  psOf (ps_ret h) fun D σ H ⟨B, ρ, fp, S, i, q⟩ => by
    obtain ⟨d, hd, q1⟩ : ∃ d, get ρ j = some d ∧ c.atO B fp (.rt d ρ) D σ H := by
      unfold ret thn rd lift at q
      cases e : get ρ j with
      | none => rw [e] at q; exact q.elim
      | some d => rw [e] at q; exact ⟨d, rfl, q⟩
    obtain ⟨v, hv, o⟩ := S.own ho (get_some hd)
    refine ⟨v, hv, q1 v σ _ B H (Go.refl S).masked (.refl σ) ?_⟩
    unfold relRt; rw [if_pos hr]
    exact ⟨fp j, o, fun a p => ⟨(i.s j a p).imp_left fun z => ⟨j, hk, z⟩, S.ub j a p, S.al j a p, fun l h => by rw [S.dj l j a h.2 p, hk] at h; cases h.1⟩⟩
theorem ES_retF {j : Nat} (h : PE X e (tVar j)) (ho : c.ow j = true := by rfl) (hk : c.kp j = false := by rfl) (hr : c.rm = false := by rfl) : ES c X (.Return (some e) pos) (ret (rd j)) :=
  psOf (ps_ret h) fun D σ H ⟨B, ρ, fp, S, i, q⟩ => by
    obtain ⟨d, hd, q1⟩ : ∃ d, get ρ j = some d ∧ c.atO B fp (.rt d ρ) D σ H := by
      unfold ret thn rd lift at q
      cases e : get ρ j with
      | none => rw [e] at q; exact q.elim
      | some d => rw [e] at q; exact ⟨d, rfl, q⟩
    obtain ⟨v, hv, o⟩ := S.own ho (get_some hd)
    obtain ⟨g, e0⟩ := (Go.refl S).masked.froze (P := fp j) fun a p => ⟨.inl ⟨j, p⟩, S.ub j a p, S.al j a p, fun l h => by rw [S.dj l j a h.2 p, hk] at h; cases h.1⟩
    refine ⟨v, hv, q1 v σ _ _ H g (.refl σ) ?_⟩
    unfold relRt; rw [hr, if_neg (by decide)]
    exact o.froze e0 fun a u p z => by unfold frz; rw [if_pos p]; exact z
theorem ES_if {te : Expr} (ht : ET c X te t) (ha : ESs c X sts s) (hb : ESs c X rest u) : ES c X (.If te sts rest pos) (ifS t s u) :=
  psOf (ps_if ht ha hb) fun D σ H ⟨B, ρ, fp, S, i, q⟩ => ⟨B, ρ, fp, S, at_thn q fun b a ρ1 fp1 B1 H1 g r q1 => by
    cases r
    split
    · rename_i h; rw [if_pos h] at q1; exact ⟨B1, ρ1, fp1, g.sr, i.go g, q1⟩
    · rename_i h; rw [if_neg h] at q1; exact ⟨B1, ρ1, fp1, g.sr, i.go g, q1⟩⟩
theorem Kp.set {i : Nat} {σ : L2.St} {v : Option V} (hk : c.kp i = false) : Kp c σ (σ.set i v) := ⟨by simp, fun j h => by
  rw [List.getElem?_set_ne]
  intro e; rw [e, h] at hk; cases hk⟩
theorem Go.setV {ow : Nat → Bool} {K : PySem.W.Frag} {B H : Hp} {σ : L2.St} {ρ : Rho} {fp : Fp} (S : SR K ow B H σ ρ fp) {i : Nat} {v : V} {d : D} (ho : ow i = false) (r : Rep K B v d) : Go K ow fp B H (σ.set i (some v)) (ρ.set i (some d)) fp B H :=
  ⟨S.setV ho r, Ex.refl _, fun _ _ h _ => h, fun _ o h => ⟨o, h⟩, fun _ _ _ h _ => h, fun _ _ h => .inl h⟩
theorem Go.setO {ow : Nat → Bool} {K : PySem.W.Frag} {B H H' : Hp} {σ : L2.St} {ρ : Rho} {fp : Fp} (S : SR K ow B H σ ρ fp) {i : Nat} {v : V} {d : D} {P : Addr → Prop} (ho : ow i = true) (r : Own K B H P v d) (k : ∀ a, P a → B a = none ∧ (∃ o, H a = some o) ∧ ∀ i, ¬ fp i a) :
    SR K ow B H (σ.set i (some v)) (ρ.set i (some d)) (fun j => if j = i then P else fp j) := S.setO ho r (fun a p j => (k a p).2.2 j) (fun a p => (k a p).1) (fun a p => (k a p).2.1)
/-- x = e: a value | a thing of one's own -/
theorem ES_set {i : Nat} {x : Str} {pos' : Pos} (hN : X.N.Nodup) (hi : X.N[i]? = some x) (hx : Loc X.env.scope x) (h : EV c X e f) (ho : c.ow i = false := by rfl) (hk : c.kp i = false := by rfl)
    (hs : swapsWith e (some (.Name x pos')) pos.line X.env = pure false := by rfl) (hf : X.fn x = true ∨ X.env.scope.names.lookup x = some .local := by first | exact .inl rfl | exact .inr rfl) : ES c X (.Assign [.Name x pos'] e pos) (setS i f) :=
  psOf (ps_set hN hi hx h hs hf) fun D σ H ⟨B, ρ, fp, S, i, q⟩ => ⟨B, ρ, fp, S, at_thn q fun b a ρ1 fp1 B1 H1 g r q1 => q1 _ fp1 B1 H1 (.setV g.sr ho r) (.set hk)⟩
theorem own_nx {i : Nat} {D : Ends} {B H B1 H1 : Hp} {σ : L2.St} {ρ ρ1 : Rho} {fp fp1 : Fp} {b : V} {a : Fl.D} (ho : c.ow i = true) (hk : c.kp i = false) (S : SR c.K c.ow B H σ ρ fp) (inn : In c fp H) (g : Go c.K c.ow fp B H σ ρ1 fp1 B1 H1) (r : relN c σ fp H fp1 B1 H1 b a)
    (q : c.atO B fp (.nx (ρ1.set i (some a))) D σ H) : D.nx (σ.set i (some b)) H1 := by
  obtain ⟨P, o, k⟩ := r
  have S2 := Go.setO (H' := H1) g.sr (i := i) ho o fun a p => (k a p).2
  exact q _ _ B1 H1 ⟨S2, g.b, g.h, g.t, g.f, fun j a h => by
    by_cases z : j = i
    · simp only [if_pos z] at h; exact .inr (k a h).1
    · simp only [if_neg z] at h; exact g.s j a h⟩ (.set hk)
theorem at_thnG {α β : Type} {fm : M α} {k : α → S} {rel : Rel β α} {Q1 : β → Hp → Prop} {B H : Hp} {σ : L2.St} {ρ : Rho} {fp : Fp} {D : Ends} (h : c.atO B fp (thn fm k ρ) D σ H)
    (kk : ∀ b a ρ1 fp1 B1 H1, Go c.K c.ow fp B H σ ρ1 fp1 B1 H1 → rel σ fp H fp1 B1 H1 b a → c.atO B fp (k a ρ1) D σ H → Q1 b H1) : c.at fp H B ρ fp fm rel σ H Q1 := by
  unfold thn at h
  unfold Cn.at
  cases e : fm ρ with
  | no => rw [e] at h; exact h
  | ex x d ρ' => rw [e] at h; exact fun cl dd fp' B' H' go r => h cl dd σ fp' B' H' go (.refl σ) r
  | ok a ρ' => rw [e] at h; exact fun b fp' B' H' go r => kk b a ρ' fp' B' H' go r h
theorem ES_setN {i : Nat} {x : Str} {pos' : Pos} (hN : X.N.Nodup) (hi : X.N[i]? = some x) (hx : Loc X.env.scope x) (h : EN c X e f) (ho : c.ow i = true := by rfl) (hk : c.kp i = false := by rfl)
    (hs : swapsWith e (some (.Name x pos')) pos.line X.env = pure false := by rfl) (hf : X.fn x = true ∨ X.env.scope.names.lookup x = some .local := by first | exact .inl rfl | exact .inr rfl) : ES c X (.Assign [.Name x pos'] e pos) (setS i f) :=
  psOf (ps_set hN hi hx h hs hf) fun D σ H ⟨B, ρ, fp, S, i, q⟩ => ⟨B, ρ, fp, S, at_thnG q fun b a ρ1 fp1 B1 H1 g r q1 => own_nx ho hk S i g r q1⟩
end
end Fl

set_option maxHeartbeats 1000000
namespace Fl
open PySem PySem.Spec PyProof.Rows L2

/-! ### targets -/
abbrev G := D → Rho → Option Rho
abbrev Gs := List D → Rho → Option Rho
/-- outside the slots tl all is as it was -/
def Sl (tl : List Nat) (σ σ' : L2.St) : Prop := σ'.length = σ.length ∧ ∀ i, i ∉ tl → σ'[i]? = σ[i]?
theorem Sl.refl (σ : L2.St) : Sl [] σ σ := ⟨rfl, fun _ _ => rfl⟩
theorem Sl.trans {a b : List Nat} {σ σ1 σ2 : L2.St} (h : Sl a σ σ1) (k : Sl b σ1 σ2) : Sl (a ++ b) σ σ2 := ⟨k.1.trans h.1, fun i n => by
  rw [List.mem_append, not_or] at n
  exact (k.2 i n.2).trans (h.2 i n.1)⟩
theorem Sl.kp {c : Cn} {tl : List Nat} {σ σ' : L2.St} (h : Sl tl σ σ') (k : (tl.all fun i => !c.kp i) = true) : Kp c σ σ' := ⟨h.1, fun i q => h.2 i fun m => by
  have z := List.all_eq_true.mp k i m
  rw [q] at z; cases z⟩
def canG (c : Cn) (tl : List Nat) (g : G) : TG := fun v σ H Q => ∃ B ρ fp d, SR c.K c.ow B H σ ρ fp ∧ Rep c.K B v d ∧ match g d ρ with
  | some ρ' => ∀ σ' fp' B' H', Go c.K c.ow fp B H σ' ρ' fp' B' H' → Sl tl σ σ' → Q σ' H'
  | none => False
def canGs (c : Cn) (tl : List Nat) (g : Gs) : TGs := fun v σ H Q => ∃ B ρ fp d, SR c.K c.ow B H σ ρ fp ∧ RepL c.K B v d ∧ match g d ρ with
  | some ρ' => ∀ σ' fp' B' H', Go c.K c.ow fp B H σ' ρ' fp' B' H' → Sl tl σ σ' → Q σ' H'
  | none => False
def EG (c : Cn) (X : Cx) (tg : Expr) (tl : List Nat) (g : G) : Prop := PG X tg (canG c tl g)
def EGs (c : Cn) (X : Cx) (tg : List Expr) (tl : List Nat) (g : Gs) : Prop := PGs X tg (canGs c tl g)
theorem pgOf {X : Cx} {e : Expr} {t t' : TG} (h : PG X e t) (k : ∀ v σ H Q, t' v σ H Q → t v σ H Q) : PG X e t' := ⟨fun pins s σ H x u Q I r w => h.run pins s σ H x u Q I r (k _ σ H Q w)⟩
theorem pgsOf {X : Cx} {e : List Expr} {t t' : TGs} (h : PGs X e t) (k : ∀ v σ H Q, t' v σ H Q → t v σ H Q) : PGs X e t' := ⟨fun pins s σ H x u Q I r w => h.run pins s σ H x u Q I r (k _ σ H Q w)⟩
def gNam (i : Nat) : G := fun d ρ => some (ρ.set i (some d))
def gEnd : Gs := fun ds ρ => match ds with
  | [] => some ρ
  | _ => none
def gMore (g : G) (r : Gs) : Gs := fun ds ρ => match ds with
  | d :: ds => match g d ρ with
    | some ρ' => r ds ρ'
    | none => none
  | [] => none
def gTupD (r : Gs) : G := fun d ρ => match d with
  | .tup ds => r ds ρ
  | _ => none
section
variable {c : Cn} {X : Cx} {e : Expr} {es : List Expr} {g : G} {gs : Gs} {tl tls : List Nat} {pos : Pos}
theorem EG_name {i : Nat} {x : Str} (hN : X.N.Nodup) (hi : X.N[i]? = some x) (hx : Loc X.env.scope x) (ho : c.ow i = false := by rfl) (hf : X.fn x = true ∨ X.env.scope.names.lookup x = some .local := by first | exact .inl rfl | exact .inr rfl) : EG c X (.Name x pos) [i] (gNam i) :=
  pgOf (pg_name hN hi hx hf) fun v σ H Q ⟨B, ρ, fp, d, S, r, q⟩ => q _ fp B H (.setV S ho r) ⟨by simp, fun j n => by
    rw [List.getElem?_set_ne]
    intro z; exact n (by simp [z])⟩
theorem EGs_nil : EGs c X [] [] gEnd := pgsOf pgs_nil fun v σ H Q ⟨B, ρ, fp, d, S, r, q⟩ => by
  cases r with
  | nil => exact ⟨rfl, q σ fp B H (.refl S) (.refl σ)⟩
  | cons _ _ => exact q.elim
theorem EGs_cons (h1 : EG c X e tl g) (h2 : EGs c X es tls gs) (hs : (assignEach (e :: es) X.env).map (·.2) = assign e X.env :: (assignEach es X.env).map (·.2) := by rfl) : EGs c X (e :: es) (tl ++ tls) (gMore g gs) :=
  pgsOf (pgs_cons h1 h2 hs) fun v σ H Q ⟨B, ρ, fp, d, S, r, q⟩ => by
    cases r with
    | nil => exact q.elim
    | @cons x xs d ds a t =>
      refine ⟨x, xs, rfl, B, ρ, fp, d, S, a, ?_⟩
      unfold gMore at q
      simp only at q
      cases z : g d ρ with
      | none => rw [z] at q; exact q
      | some ρ1 =>
        rw [z] at q
        intro σ1 fp1 B1 H1 g1 s1
        refine ⟨B1, ρ1, fp1, ds, g1.sr, t.mono g1.b, ?_⟩
        simp only at q
        cases z2 : gs ds ρ1 with
        | none => rw [z2] at q; exact q
        | some ρ2 => rw [z2] at q; exact fun σ2 fp2 B2 H2 g2 s2 => q σ2 fp2 B2 H2 (g1.trans g2) (s1.trans s2)
theorem EG_tup {k : Nat} (hc : X.calm = true) (h : EGs c X es tl gs) (hK : c.K = X.K := by rfl) (hn : (assignEach es X.env).length = es.length := by rfl) (hst : (assignEach es X.env).findIdx? (·.1) = none := by rfl)
    (hl : ∀ ds ρ, gs ds ρ ≠ none → ds.length = es.length) : EG c X (.Tuple es k pos) tl (gTupD gs) :=
  pgOf (pg_tup hc h hn hst) fun v σ H Q ⟨B, ρ, fp, d, S, r, q⟩ => by
    cases r with
    | @tup a xs ds hs b =>
      refine ⟨a, xs, rfl, SqT.of (S.ex _ _ hs), ?_, B, ρ, fp, ds, S, b, q⟩
      rw [b.length]
      refine hl ds ρ fun z => ?_
      unfold gTupD at q
      simp only [z] at q
    | _ => exact q.elim
theorem gEnd_len : ∀ ds ρ, gEnd ds ρ ≠ none → ds.length = ([] : List Expr).length := fun ds ρ h => by
  cases ds with
  | nil => rfl
  | cons _ _ => exact (h rfl).elim
theorem gMore_len (h : ∀ ds ρ, gs ds ρ ≠ none → ds.length = es.length) : ∀ ds ρ, gMore g gs ds ρ ≠ none → ds.length = (e :: es).length := fun ds ρ q => by
  cases ds with
  | nil => exact (q rfl).elim
  | cons d ds =>
    unfold gMore at q
    simp only at q
    cases z : g d ρ with
    | none => rw [z] at q; exact (q rfl).elim
    | some ρ1 => rw [z] at q; exact congrArg (· + 1) (h ds ρ1 q)
end

/-! ### what is walked -/
def YG (B H B' H' : Hp) : Prop := (B' = B ∧ H' = H) ∨ ∃ p o, H p = none ∧ B' = upd B p o ∧ H' = upd H p o
theorem YG.go {K : PySem.W.Frag} {ow : Nat → Bool} {fp : Fp} {B H B' H' : Hp} {σ : L2.St} {ρ : Rho} (y : YG B H B' H') (S : SR K ow B H σ ρ fp) : Go K ow fp B H σ ρ fp B' H' := by
  rcases y with ⟨rfl, rfl⟩ | ⟨p, o, hp, rfl, rfl⟩
  · exact .refl S
  · exact S.laid o hp
def Yl (K : PySem.W.Frag) (J : It) (B : Hp) (ds : List D) : Prop := ∀ B2 H2, Ex B B2 → Ex B2 H2 → ∀ i,
  (∀ d, ds[i]? = some d → J.go i H2 ∧ ∀ x H3, J.yld i H2 x H3 → ∃ B3, YG B2 H2 B3 H3 ∧ Rep K B3 x d) ∧ (ds.length ≤ i → J.stop i H2)
def relI (c : Cn) : Rel It (List D) := fun _ _ _ _ B' _ J ds => Yl c.K J B' ds
def EI (c : Cn) (X : Cx) (tg it : Expr) (f : M (List D)) : Prop := PI X tg it (can c f (relI c))
theorem piOf {X : Cx} {tg e : Expr} {t t' : TI} (h : PI X tg e t) (k : ∀ σ H R, t' σ H R → t σ H R) : PI X tg e t' := ⟨fun pins s σ H R I w => h.run pins s σ H R I (k σ H R w)⟩
def seqD : D → Option (List D)
  | .tup xs => some xs
  | .lst xs => some xs
  | .scr xs => some xs
  | _ => none
def itSeq (f : M D) : M (List D) := bnd f fun d => lift (seqD d)
theorem piOr {X : Cx} {tg e : Expr} {t t' : TI} (h : PI X tg e t) (h' : PI X tg e t') : PI X tg e (fun σ H R => t σ H R ∨ t' σ H R) := ⟨fun pins s σ H R I w => w.elim (h.run pins s σ H R I) (h'.run pins s σ H R I)⟩
theorem Yl_list {K : PySem.W.Frag} {B : Hp} {a : Addr} {xs : List V} {ds : List D} (h : SqL K B a xs) (r : RepL K B xs ds) : Yl K (Itl K a) B ds := fun B2 H2 e1 e2 i => by
  have h2 := e2.l (e1.l h)
  refine ⟨fun d hd => ?_, fun hl => ⟨xs, h2, by rw [r.length]; exact hl⟩⟩
  obtain ⟨v, hv, rv⟩ := r.get hd
  refine ⟨⟨xs, v, h2, hv⟩, fun x H3 ⟨eH, hx⟩ => ⟨B2, .inl ⟨rfl, eH⟩, ?_⟩⟩
  have z := hx xs h2
  rw [hv] at z; cases z
  exact rv.mono e1
theorem Yl_tup {K : PySem.W.Frag} {B : Hp} {a : Addr} {xs : List V} {ds : List D} (h : SqT K B a xs) (r : RepL K B xs ds) : Yl K (Itt K a) B ds := fun B2 H2 e1 e2 i => by
  have h2 := e2.t (e1.t h)
  refine ⟨fun d hd => ?_, fun hl => ⟨xs, h2, by rw [r.length]; exact hl⟩⟩
  obtain ⟨v, hv, rv⟩ := r.get hd
  refine ⟨⟨xs, v, h2, hv⟩, fun x H3 ⟨eH, hx⟩ => ⟨B2, .inl ⟨rfl, eH⟩, ?_⟩⟩
  have z := hx xs h2
  rw [hv] at z; cases z
  exact rv.mono e1
def countD (lo c : Int) (n : Nat) : List D := (List.range n).map fun i => .int (lo + (i : Nat) * c)
theorem Yl_rng {K : PySem.W.Frag} {B : Hp} {lo : Int} {n : Nat} : Yl K (Itr lo n) B (countD lo 1 n) := fun B2 H2 e1 e2 i => by
  unfold countD
  refine ⟨fun d hd => ?_, fun hl => by
    show n ≤ i
    simpa using hl⟩
  rw [List.getElem?_map] at hd
  by_cases hi : i < n
  · rw [List.getElem?_range hi] at hd
    cases hd
    refine ⟨hi, fun x H3 ⟨eH, ex⟩ => ⟨B2, .inl ⟨rfl, eH⟩, ?_⟩⟩
    subst ex
    show Rep K B2 (V.int (lo + (i : Int))) (D.int (lo + (i : Int) * 1))
    rw [Int.mul_one]
    exact .int _
  · rw [List.getElem?_eq_none (by simpa using hi)] at hd; cases hd
theorem Yl_rngc {K : PySem.W.Frag} {B : Hp} {lo c : Int} {n : Nat} : Yl K (Itc lo c n) B (countD lo c n) := fun B2 H2 e1 e2 i => by
  unfold countD
  refine ⟨fun d hd => ?_, fun hl => by
    show n ≤ i
    simpa using hl⟩
  rw [List.getElem?_map] at hd
  by_cases hi : i < n
  · rw [List.getElem?_range hi] at hd
    cases hd
    exact ⟨hi, fun x H3 ⟨eH, ex⟩ => ⟨B2, .inl ⟨rfl, eH⟩, by subst ex; exact .int _⟩⟩
  · rw [List.getElem?_eq_none (by simpa using hi)] at hd; cases hd
def okR : Int → Bool
  | .ofNat n => Nat.blt n (2 ^ 62)
  | .negSucc n => Nat.blt n (2 ^ 62)
theorem okR_iff {i : Int} : okR i = true ↔ -(2 ^ 62) ≤ i ∧ i < 2 ^ 62 := by
  cases i with
  | ofNat n => show Nat.blt n (2 ^ 62) = true ↔ _; rw [Nat.blt_eq]; constructor <;> intro h <;> simp at * <;> omega
  | negSucc n => show Nat.blt n (2 ^ 62) = true ↔ _; rw [Nat.blt_eq]; constructor <;> intro h <;> simp at * <;> omega
def rng1 : List D → Option (List D)
  | [.int j] => if okR j = true then some (countD 0 1 j.toNat) else none
  | _ => none
def rng2 : List D → Option (List D)
  | [.int i, .int j] => if okR i = true ∧ okR j = true then some (countD i 1 (j - i).toNat) else none
  | _ => none
/-- a step of -1 -/
def rng3 : List D → Option (List D)
  | [.int i, .int j, .int c] => if okR i = true ∧ okR j = true ∧ c = -1 then some (countD i (-1) (i - j).toNat) else none
  | _ => none
theorem rng1_inv {xs ys : List D} (h : rng1 xs = some ys) : ∃ j, xs = [.int j] ∧ okR j = true ∧ ys = countD 0 1 j.toNat := by
  unfold rng1 at h
  split at h
  · split at h <;> cases h
    exact ⟨_, rfl, by assumption, rfl⟩
  · cases h
theorem rng2_inv {xs ys : List D} (h : rng2 xs = some ys) : ∃ i j, xs = [.int i, .int j] ∧ (okR i = true ∧ okR j = true) ∧ ys = countD i 1 (j - i).toNat := by
  unfold rng2 at h
  split at h
  · split at h <;> cases h
    exact ⟨_, _, rfl, by assumption, rfl⟩
  · cases h
theorem rng3_inv {xs ys : List D} (h : rng3 xs = some ys) : ∃ i j, xs = [.int i, .int j, .int (-1)] ∧ (okR i = true ∧ okR j = true) ∧ ys = countD i (-1) (i - j).toNat := by
  unfold rng3 at h
  split at h
  · rename_i i j cc
    by_cases q : okR i = true ∧ okR j = true ∧ cc = -1
    · rw [if_pos q] at h
      obtain ⟨q1, q2, rfl⟩ := q
      exact ⟨i, j, rfl, ⟨q1, q2⟩, (Option.some.inj h).symm⟩
    · rw [if_neg q] at h; cases h
  · cases h
section
variable {c : Cn} {X : Cx} {tg a b e : Expr} {p pos : Pos} {f : M D}
theorem EI_seq (h : EV c X e f) (hK : c.K = X.K := by rfl) : EI c X tg e (itSeq f) :=
  piOf (piOr (pi_list h) (pi_tup h)) fun σ H R ⟨B, ρ, fp, S, q⟩ => by
    rw [← hK]
    unfold itSeq Cn.at bnd at q
    cases e : f ρ with
    | no => rw [e] at q; exact q.elim
    | ex x d ρ' => rw [e] at q; exact .inl ⟨B, ρ, fp, S, by unfold Cn.at; rw [e]; exact q⟩
    | ok d ρ' =>
      rw [e] at q
      cases d with
      | lst ds =>
        refine .inl ⟨B, ρ, fp, S, ?_⟩
        unfold Cn.at
        rw [e]
        intro v fp' B' H' g r
        cases r with
        | @lst a xs _ hs b => exact ⟨a, rfl, ⟨xs, SqL.of (g.sr.ex _ _ hs)⟩, q _ fp' B' H' g (Yl_list (SqL.of hs) b)⟩
      | scr ds =>
        refine .inl ⟨B, ρ, fp, S, ?_⟩
        unfold Cn.at
        rw [e]
        intro v fp' B' H' g r
        cases r with
        | @scr a xs _ hs b => exact ⟨a, rfl, ⟨xs, g.sr.ex.l hs⟩, q _ fp' B' H' g (Yl_list hs b)⟩
      | tup ds =>
        refine .inr ⟨B, ρ, fp, S, ?_⟩
        unfold Cn.at
        rw [e]
        intro v fp' B' H' g r
        cases r with
        | @tup a xs _ hs b => exact ⟨a, rfl, ⟨xs, SqT.of (g.sr.ex _ _ hs)⟩, q _ fp' B' H' g (Yl_tup (SqT.of hs) b)⟩
      | _ => exact q.elim
def it1 (fa : M D) : M (List D) := bnd (aCons fa aNil) fun xs => lift (rng1 xs)
def it2 (fa fb : M D) : M (List D) := bnd (aCons fa (aCons fb aNil)) fun xs => lift (rng2 xs)
def it3 (fa fb fc : M D) : M (List D) := bnd (aCons fa (aCons fb (aCons fc aNil))) fun xs => lift (rng3 xs)
theorem EI_r1 {fa : M D} (ha : EV c X a fa) (hm : X.mg "range" = none) (hg : Gl X "range" := by rfl) (hs : starEach [a] X.env = [(false, eval a X.env)] := by rfl) : EI c X tg (.Call (.Name "range" p) [a] [] pos) (it1 fa) :=
  piOf (pi_range1 hg hm (EA_cons ha EA_nil hs) hs) fun σ H R ⟨B, ρ, fp, S, q⟩ => ⟨B, ρ, fp, S, at_bnd q fun vs ds ρ1 fp1 B1 H1 g r q1 => by
    obtain ⟨ys, hy, k⟩ := at_lift q1
    have r := relA_v (n := 1) (B := B) (H := H) r
    obtain ⟨j, rfl, hj, rfl⟩ := rng1_inv hy
    obtain ⟨h1, h2⟩ := okR_iff.mp hj
    exact ⟨j, RepL.ints (ns := [j]) r, h1, h2, k _ fp1 B1 H1 (.refl g.sr) Yl_rng⟩⟩
theorem EI_r2 {fa fb : M D} (ha : EV c X a fa) (hb : EV c X b fb) (hm : X.mg "range" = none) (hg : Gl X "range" := by rfl) (hs : starEach [a, b] X.env = [(false, eval a X.env), (false, eval b X.env)] := by rfl) (hs2 : starEach [b] X.env = [(false, eval b X.env)] := by rfl) :
    EI c X tg (.Call (.Name "range" p) [a, b] [] pos) (it2 fa fb) :=
  piOf (pi_range2 hg hm (EA_cons ha (EA_cons hb EA_nil hs2) (by rw [hs, hs2])) hs hs2) fun σ H R ⟨B, ρ, fp, S, q⟩ => ⟨B, ρ, fp, S, at_bnd q fun vs ds ρ1 fp1 B1 H1 g r q1 => by
    obtain ⟨ys, hy, k⟩ := at_lift q1
    have r := relA_v (n := 2) (B := B) (H := H) r
    obtain ⟨i, j, rfl, hj, rfl⟩ := rng2_inv hy
    obtain ⟨h1, h2⟩ := okR_iff.mp hj.1
    obtain ⟨h3, h4⟩ := okR_iff.mp hj.2
    exact ⟨i, j, RepL.ints (ns := [i, j]) r, ⟨h1, h2, h3, h4⟩, k _ fp1 B1 H1 (.refl g.sr) Yl_rng⟩⟩
theorem EI_r3 {fa fb fd : M D} {d : Expr} (ha : EV c X a fa) (hb : EV c X b fb) (hd : EV c X d fd) (hm : X.mg "range" = none) (hg : Gl X "range" := by rfl)
    (hs : starEach [a, b, d] X.env = (false, eval a X.env) :: starEach [b, d] X.env := by rfl) (hs2 : starEach [b, d] X.env = (false, eval b X.env) :: starEach [d] X.env := by rfl) (hs3 : starEach [d] X.env = (false, eval d X.env) :: starEach [] X.env := by rfl)
    (hpl : (backTo pos (starEach [b, d] X.env)).any (·.1) = false := by rfl) :
    EI c X tg (.Call (.Name "range" p) [a, b, d] [] pos) (it3 fa fb fd) :=
  piOf (pi_range3 hg hm (EA_cons ha (EA_cons hb (EA_cons hd EA_nil hs3) hs2) hs) hs hpl) fun σ H R ⟨B, ρ, fp, S, q⟩ => ⟨B, ρ, fp, S, at_bnd q fun vs ds ρ1 fp1 B1 H1 g r q1 => by
    obtain ⟨ys, hy, k⟩ := at_lift q1
    have r := relA_v (n := 3) (B := B) (H := H) r
    obtain ⟨i, j, rfl, hj, rfl⟩ := rng3_inv hy
    obtain ⟨h1, h2⟩ := okR_iff.mp hj.1
    obtain ⟨h3, h4⟩ := okR_iff.mp hj.2
    exact ⟨i, j, -1, _, RepL.ints (ns := [i, j, -1]) r, .neg h1 h2 h3 h4, k _ fp1 B1 H1 (.refl g.sr) Yl_rngc⟩⟩
end

/-! ### loops -/
def forGo (g : G) (s : S) : List D → S
  | [], ρ => .nx ρ
  | d :: ds, ρ => match g d ρ with
    | none => .no
    | some ρ1 => match s ρ1 with
      | .nx ρ2 => forGo g s ds ρ2
      | .ct ρ2 => forGo g s ds ρ2
      | .bk ρ2 => .nx ρ2
      | .rt d ρ2 => .rt d ρ2
      | .ex x d ρ2 => .ex x d ρ2
      | .no => .no
def forS (it : M (List D)) (g : G) (s : S) : S := thn it fun ds => forGo g s ds
def whGo (t : M Bool) (s : S) : Nat → S
  | 0, _ => .no
  | n + 1, ρ => match t ρ with
    | .ok true ρ1 => match s ρ1 with
      | .nx ρ2 => whGo t s n ρ2
      | .ct ρ2 => whGo t s n ρ2
      | .bk ρ2 => .nx ρ2
      | .rt d ρ2 => .rt d ρ2
      | .ex x d ρ2 => .ex x d ρ2
      | .no => .no
    | .ok false ρ1 => .nx ρ1
    | .ex x d ρ1 => .ex x d ρ1
    | .no => .no
section
variable {c : Cn} {X : Cx} {tg it te : Expr} {sts : List Stmt} {f : M (List D)} {g : G} {tl : List Nat} {t : M Bool} {s : S} {pos : Pos}
theorem ES_for (hp : PassesOwn (model X.prog X.w) X.A X.env X.xe) (hc : X.calm = true) (hi : EI c X tg it f) (hg : EG c X tg tl g) (hb : ESs c X sts s) (hk : (tl.all fun i => !c.kp i) = true := by rfl) (hs : ∀ x, foldedSetIterable it X.env x = pure x := by intro _; rfl) : ES c X (.For tg it sts [] pos) (forS f g s) :=
  psOf (ps_for hp hc hi hg hb hs) fun D σ H ⟨B, ρ, fp, S, i0, q⟩ => ⟨B, ρ, fp, S, at_thn q fun J ds ρ1 fp1 B1 H1 g1 y q1 => by
    refine ⟨fun i m σ' H' => m = ds.length - i ∧ i ≤ ds.length ∧ ∃ ρ' fp' B', SR c.K c.ow B' H' σ' ρ' fp' ∧ In c fp' H' ∧ Ex B1 B' ∧ c.atO B' fp' (forGo g s (ds.drop i) ρ') D σ' H',
      ⟨_, rfl, Nat.zero_le _, ρ1, fp1, B1, g1.sr, i0.go g1, .refl _, q1⟩, ?_⟩
    rintro i m σ' H' ⟨rfl, hi, ρ', fp', B', S', in', e', q'⟩
    obtain ⟨yes, no⟩ := y B' H' e' S'.ex i
    by_cases hl : i < ds.length
    · have hd : ds[i]? = some ds[i] := List.getElem?_eq_getElem hl
      obtain ⟨go, yl⟩ := yes _ hd
      rw [List.drop_eq_getElem_cons hl] at q'
      unfold forGo at q'
      cases z : g ds[i] ρ' with
      | none => rw [z] at q'; exact q'.elim
      | some ρa =>
        rw [z] at q'
        simp only at q'
        refine .inr ⟨go, fun σ'' H'' => ∃ ρ'' fp'' B'', SR c.K c.ow B'' H'' σ'' ρ'' fp'' ∧ In c fp'' H'' ∧ Ex B1 B'' ∧ c.atO B'' fp'' (forGo g s (ds.drop (i + 1)) ρ'') D σ'' H'', fun σ'' H'' ⟨ρ'', fp'', B'', S'', in'', e'', q''⟩ => ⟨ds.length - (i + 1), by omega, rfl, hl, ρ'', fp'', B'', S'', in'', e'', q''⟩, fun x H3 yx => ?_⟩
        obtain ⟨B3, yg, rx⟩ := yl x H3 yx
        have g3 := yg.go S'
        refine ⟨B3, ρ', fp', _, g3.sr, rx, ?_⟩
        rw [z]
        intro σ2 fp2 B2 H2 g2 s2
        have k2 : Kp c σ' σ2 := s2.kp hk
        have g4 := g3.trans g2
        refine ⟨B2, ρa, fp2, g2.sr, in'.go g4, ?_⟩
        cases w : s ρa with
        | no => rw [w] at q'; exact q'.elim
        | nx ρb => rw [w] at q'; exact fun σ5 fp5 B5 H5 g5 k5 => ⟨ρb, fp5, B5, g5.sr, in'.go (g4.trans g5), e'.trans (g4.trans g5).b, atO_go q' (g4.trans g5) (k2.trans k5)⟩
        | ct ρb => rw [w] at q'; exact fun σ5 fp5 B5 H5 g5 k5 => ⟨ρb, fp5, B5, g5.sr, in'.go (g4.trans g5), e'.trans (g4.trans g5).b, atO_go q' (g4.trans g5) (k2.trans k5)⟩
        | bk ρb => rw [w] at q'; exact fun σ5 fp5 B5 H5 g5 k5 => q' σ5 fp5 B5 H5 (g4.trans g5) (k2.trans k5)
        | rt d ρb => rw [w] at q'; exact atO_go q' g4 k2
        | ex x d ρb => rw [w] at q'; exact atO_go q' g4 k2
    · have hd : ds.drop i = [] := List.drop_eq_nil_iff.mpr (by omega)
      rw [hd] at q'
      exact .inl ⟨no (by omega), q' σ' fp' B' H' (.refl S') (.refl σ')⟩⟩
theorem ES_while (n : Nat) (hp : PassesOwn (model X.prog X.w) X.A X.env X.xe) (ht : ET c X te t) (hb : ESs c X sts s) : ES c X (.While te sts [] pos) (whGo t s n) :=
  psOf (ps_while hp ht hb) fun D σ H ⟨B, ρ, fp, S, i0, q⟩ => by
    refine ⟨fun m σ' H' => ∃ ρ' fp' B', SR c.K c.ow B' H' σ' ρ' fp' ∧ In c fp' H' ∧ c.atO B' fp' (whGo t s m ρ') D σ' H', ⟨n, ρ, fp, B, S, i0, q⟩, ?_⟩
    rintro m σ' H' ⟨ρ', fp', B', S', in', q'⟩
    cases m with
    | zero => exact q'.elim
    | succ m =>
      refine ⟨B', ρ', fp', S', ?_⟩
      unfold whGo at q'
      unfold Cn.at
      cases z : t ρ' with
      | no => rw [z] at q'; exact q'
      | ex x d ρa => rw [z] at q'; exact fun cl dd f5 B5 H5 g5 r => q' cl dd σ' f5 B5 H5 g5 (.refl σ') r
      | ok b ρa =>
        rw [z] at q'
        intro b' f2 B2 H2 g2 e2
        cases e2
        cases b with
        | false => exact q' σ' f2 B2 H2 g2 (.refl σ')
        | true =>
          simp only at q'
          refine ⟨fun σ'' H'' => ∃ ρ'' fp'' B'', SR c.K c.ow B'' H'' σ'' ρ'' fp'' ∧ In c fp'' H'' ∧ c.atO B'' fp'' (whGo t s m ρ'') D σ'' H'', fun σ'' H'' h => ⟨m, Nat.lt_succ_self m, h⟩, B2, ρa, f2, g2.sr, in'.go g2, ?_⟩
          cases w : s ρa with
          | no => rw [w] at q'; exact q'.elim
          | nx ρb => rw [w] at q'; exact fun σ5 fp5 B5 H5 g5 k5 => ⟨ρb, fp5, B5, g5.sr, in'.go (g2.trans g5), atO_go q' (g2.trans g5) k5⟩
          | ct ρb => rw [w] at q'; exact fun σ5 fp5 B5 H5 g5 k5 => ⟨ρb, fp5, B5, g5.sr, in'.go (g2.trans g5), atO_go q' (g2.trans g5) k5⟩
          | bk ρb => rw [w] at q'; exact fun σ5 fp5 B5 H5 g5 k5 => q' σ5 fp5 B5 H5 (g2.trans g5) k5
          | rt d ρb => rw [w] at q'; exact atO_go q' g2 (.refl σ')
          | ex x d ρb => rw [w] at q'; exact atO_go q' g2 (.refl σ')
end
end Fl

set_option maxHeartbeats 1000000
namespace Fl
open PySem PySem.Spec PyProof.Rows L2

/-! ### comprehensions -/
def wipeR (ρ : Rho) : List Nat → Rho
  | [] => ρ
  | v :: vs => (wipeR ρ vs).set v none
def unw (ρ ρe : Rho) : List Nat → Rho
  | [] => ρe
  | v :: vs => (unw ρ ρe vs).set v (get ρ v)
def lcGo (g : G) (t : M Bool) (fe : M D) (vs : List Nat) : List D → Rho → Option (List D × Rho)
  | [], ρ => some ([], ρ)
  | d :: ds, ρ => match g d ρ with
    | none => none
    | some ρ1 => match t ρ1 with
      | .ok false ρ2 => lcGo g t fe vs ds (wipeR ρ2 vs)
      | .ok true ρ2 => match fe ρ2 with
        | .ok y ρ3 => match lcGo g t fe vs ds (wipeR ρ3 vs) with
          | some (ys, ρ4) => some (y :: ys, ρ4)
          | none => none
        | _ => none
      | _ => none
def lcK (g : G) (t : M Bool) (fe : M D) (vs : List Nat) (ds : List D) : M D := fun ρ =>
  if ds.length ≤ szL then match lcGo g t fe vs ds (wipeR ρ vs) with
    | some (ys, ρe) => .ok (.lst ys) (unw ρ ρe vs)
    | none => .no
  else .no
def lcM (it : M (List D)) (g : G) (t : M Bool) (fe : M D) (vs : List Nat) : M D := bnd it (lcK g t fe vs)
theorem wipeR_len (ρ : Rho) : ∀ vs : List Nat, (wipeR ρ vs).length = ρ.length
  | [] => rfl
  | v :: vs => by unfold wipeR; rw [List.length_set, wipeR_len ρ vs]
theorem wipeR_some {ρ : Rho} {i : Nat} {x : D} : ∀ {vs : List Nat}, (wipeR ρ vs)[i]? = some (some x) → ρ[i]? = some (some x) ∧ i ∉ vs
  | [], h => ⟨h, by simp⟩
  | v :: vs, h => by
    unfold wipeR at h
    rcases getE_set h with ⟨_, e, _⟩ | ⟨hj, e⟩
    · cases e
    · obtain ⟨h1, h2⟩ := wipeR_some e
      exact ⟨h1, by simp only [List.mem_cons, not_or]; exact ⟨hj, h2⟩⟩
theorem unw_len (ρ ρe : Rho) : ∀ vs : List Nat, (unw ρ ρe vs).length = ρe.length
  | [] => rfl
  | v :: vs => by unfold unw; rw [List.length_set, unw_len ρ ρe vs]
theorem unw_some {ρ ρe : Rho} {i : Nat} {x : D} : ∀ {vs : List Nat}, (unw ρ ρe vs)[i]? = some (some x) → (i ∈ vs ∧ ρ[i]? = some (some x)) ∨ (i ∉ vs ∧ ρe[i]? = some (some x))
  | [], h => .inr ⟨by simp, h⟩
  | v :: vs, h => by
    unfold unw at h
    rcases getE_set h with ⟨e0, e, _⟩ | ⟨hj, e⟩
    · exact .inl ⟨by rw [e0]; exact List.mem_cons_self, by rw [e0]; exact get_some e.symm⟩
    · rcases unw_some e with ⟨h1, h2⟩ | ⟨h1, h2⟩
      · exact .inl ⟨List.mem_cons_of_mem _ h1, h2⟩
      · exact .inr ⟨by simp only [List.mem_cons, not_or]; exact ⟨hj, h1⟩, h2⟩
theorem wipe_out' {σ : L2.St} {i : Nat} : ∀ {vs : List Nat}, i ∉ vs → (wipe σ vs)[i]? = σ[i]?
  | [], _ => rfl
  | v :: vs, h => by
    simp only [List.mem_cons, not_or] at h
    unfold wipe
    rw [List.getElem?_set_ne (Ne.symm h.1), wipe_out' h.2]
theorem wipe_in {σ : L2.St} {i : Nat} : ∀ {vs : List Nat}, i ∈ vs → (wipe σ vs)[i]? = if i < σ.length then some none else none
  | [], h => by cases h
  | v :: vs, h => by
    unfold wipe
    by_cases e : v = i
    · subst e
      by_cases hl : v < σ.length
      · rw [List.getElem?_set_self (by rw [wipe_length]; exact hl), if_pos hl]
      · rw [if_neg hl, List.getElem?_eq_none (by rw [List.length_set, wipe_length]; omega)]
    · rw [List.getElem?_set_ne e]
      rcases List.mem_cons.mp h with z | z
      · exact (e z.symm).elim
      · exact wipe_in z
theorem wipe_sl {σ σ' : L2.St} {vs tl : List Nat} (h : Sl tl (wipe σ vs) σ') (k : ∀ i ∈ tl, i ∈ vs) : wipe σ' vs = wipe σ vs := by
  have hl : σ'.length = σ.length := by rw [h.1, wipe_length]
  refine List.ext_getElem? fun i => ?_
  by_cases hi : i ∈ vs
  · rw [wipe_in hi, wipe_in hi, hl]
  · rw [wipe_out' hi, h.2 i fun z => hi (k i z)]
section
variable {K : PySem.W.Frag} {ow : Nat → Bool} {B H B1 H1 : Hp} {σ : L2.St} {ρ ρ1 : Rho} {fp fp1 : Fp} {vs : List Nat}
theorem SR.wipe (S : SR K ow B H σ ρ fp) : SR K ow B H (L2.wipe σ vs) (wipeR ρ vs) fp := by
  refine ⟨by rw [wipe_length, wipeR_len]; exact S.ln, S.ex, fun i d h => ?_, S.dj, S.ub, S.al⟩
  obtain ⟨h1, h2⟩ := wipeR_some h
  obtain ⟨v, e1, e2⟩ := S.sl i d h1
  exact ⟨v, by rw [wipe_out' h2]; exact e1, e2⟩
theorem Go.wipe (g : Go K ow fp B H σ ρ fp1 B1 H1) : Go K ow fp B H (L2.wipe σ vs) (wipeR ρ vs) fp1 B1 H1 := ⟨g.sr.wipe, g.b, g.h, g.t, g.f, g.s⟩
theorem Go.unwipe {σe : L2.St} {ρe : Rho} (S : SR K ow B H σ ρ fp) (g : Go K ow fp B H σe ρe fp1 B1 H1) (hv : ∀ i ∈ vs, ow i = false) (he : ∀ i, i ∉ vs → σe[i]? = σ[i]?) (hl : ρe.length = ρ.length) : Go K ow fp B H σ (unw ρ ρe vs) fp1 B1 H1 := by
  refine ⟨⟨by rw [unw_len, hl]; exact S.ln, g.sr.ex, fun i d h => ?_, g.sr.dj, g.sr.ub, g.sr.al⟩, g.b, g.h, g.t, g.f, g.s⟩
  rcases unw_some h with ⟨h1, h2⟩ | ⟨h1, h2⟩
  · obtain ⟨v, e1, e2⟩ := S.val (hv i h1) h2
    exact ⟨v, e1, by rw [if_neg (by rw [hv i h1]; decide)]; exact e2.mono g.b⟩
  · obtain ⟨v, e1, e2⟩ := g.sr.sl i d h2
    exact ⟨v, by rw [← he i h1]; exact e1, e2⟩
end
/-- the block's context: nothing is raised out of it -/
abbrev Cn.blk (c : Cn) : Cn := { c with W := fun _ _ _ _ => False }
def ETs (c : Cn) (X : Cx) (ifs : List Expr) (t : M Bool) : Prop := PTs X ifs (can c t (relE c))
theorem ETs_nil {c : Cn} {X : Cx} : ETs c X [] (pur true) := ⟨fun pins s σ H Q I ⟨B, ρ, fp, S, q⟩ => pts_nil.run pins s σ H Q I (q true fp B H (.refl S) rfl)⟩
theorem ETs_one {c : Cn} {X : Cx} {e : Expr} {t : M Bool} (h : ET c X e t) : ETs c X [e] t := pts_one h
section
variable {c : Cn} {X : Cx} {elt tg iter : Expr} {ifs : List Expr} {scope : Scope} {own : List (Str × Nat)} {pos spos : Pos} {it : M (List D)} {g : G} {t : M Bool} {fe : M D} {tl : List Nat}
/-- what the turns make -/
theorem lc_turns {σ : L2.St} {B H : Hp} {ρ : Rho} {fp : Fp} {vs : List Nat} {J : It} {ds : List D} {Q : V → Hp → Prop} (S0 : SR c.K c.ow B H σ ρ fp) (y : Yl c.K J B ds) (hz : ds.length ≤ szL) (htl : ∀ i ∈ tl, i ∈ vs)
    (h : match lcGo g t fe vs ds (wipeR ρ vs) with
      | some (ys, ρe) => ∀ v fp' B' H' σe, Go c.K c.ow fp B H σe ρe fp' B' H' → σe = wipe σ vs → ρe.length = ρ.length → (∃ P : Addr → Prop, Own c.K B' H' P v (.lst ys) ∧ ∀ a, P a → H a = none ∧ B' a = none ∧ (∃ o, H' a = some o) ∧ ∀ i, ¬ fp' i a) → Q v H'
      | none => False) (L : Addr) (hL : H L = none) :
    ∃ W : Nat → Nat → Hp → Prop, (∃ m, W 0 m (upd H L (.lst []))) ∧ ∀ i m H, W i m H → (J.stop i H ∧ Q (.ref L) H) ∨ (J.go i H ∧ ∃ Nx : Hp → Prop, (∀ H', Nx H' → ∃ m', m' < m ∧ W (i + 1) m' H') ∧ ∀ x H', J.yld i H x H' → canG c.blk tl g x (wipe σ vs) H' fun σ2 H2 => wipe σ2 vs = wipe σ vs ∧ can c.blk t (relE c.blk) σ2 H2 fun b H3 =>
      if b = true then can c.blk fe (relV c.blk) σ2 H3 fun y H4 => ∃ acc, H4 L = some (.lst acc) ∧ acc.length < sizeLine ∧ Nx (upd H4 L (.lst (acc ++ [y]))) else Nx H3) := by
  have nfL : ∀ i, ¬ fp i L := fun i z => by
    obtain ⟨o, e⟩ := S0.al i L z
    rw [hL] at e; cases e
  refine ⟨fun i m H' => m = ds.length - i ∧ i ≤ ds.length ∧ ∃ acc ac ρ' fp' B', Go c.K c.ow fp B H (wipe σ vs) ρ' fp' B' H' ∧ ρ'.length = ρ.length ∧ H' L = some (.lst acc) ∧ B' L = none ∧ (∀ i, ¬ fp' i L) ∧ RepL c.K B' acc ac ∧ acc.length ≤ i ∧
      match lcGo g t fe vs (ds.drop i) ρ' with
      | some (ys, ρe) => ∀ v fp' B' H' σe, Go c.K c.ow fp B H σe ρe fp' B' H' → σe = wipe σ vs → ρe.length = ρ.length → (∃ P : Addr → Prop, Own c.K B' H' P v (.lst (ac ++ ys)) ∧ ∀ a, P a → H a = none ∧ B' a = none ∧ (∃ o, H' a = some o) ∧ ∀ i, ¬ fp' i a) → Q v H'
      | none => False,
    ⟨_, rfl, Nat.zero_le _, [], [], wipeR ρ vs, fp, B, ?_, wipeR_len _ _, upd_same, S0.ex.free hL, nfL, .nil, Nat.zero_le _, by simpa using h⟩, ?_⟩
  · exact (S0.wipe.fresh _ hL)
  · rintro i m H' ⟨rfl, hi, acc, ac, ρ', fp', B', go, hlen, hacc, hBL, hfL, hrep, hal, h'⟩
    obtain ⟨yes, no⟩ := y B' H' go.b go.sr.ex i
    by_cases hl : i < ds.length
    · have hd : ds[i]? = some ds[i] := List.getElem?_eq_getElem hl
      obtain ⟨jg, yl⟩ := yes _ hd
      rw [List.drop_eq_getElem_cons hl] at h'
      unfold lcGo at h'
      cases z : g ds[i] ρ' with
      | none => rw [z] at h'; exact h'.elim
      | some ρa =>
        rw [z] at h'
        simp only at h'
        -- keeping the list at L through a step
        have keep : ∀ {σ2 : L2.St} {ρ2 : Rho} {fp2 : Fp} {B2 H2 : Hp}, Go c.K c.ow fp' B' H' σ2 ρ2 fp2 B2 H2 → H2 L = some (.lst acc) ∧ B2 L = none ∧ ∀ i, ¬ fp2 i L := fun {σ2 ρ2 fp2 B2 H2} q =>
          ⟨q.h L _ hacc fun ⟨i, z⟩ => hfL i z, q.f L _ hacc hBL fun ⟨i, z⟩ => hfL i z, fun i z => (q.s i L z).elim (hfL i) fun e => by rw [hacc] at e; cases e⟩
        refine .inr ⟨jg, fun H'' => ∃ acc ac ρ'' fp'' B'', Go c.K c.ow fp B H (wipe σ vs) ρ'' fp'' B'' H'' ∧ ρ''.length = ρ.length ∧ H'' L = some (.lst acc) ∧ B'' L = none ∧ (∀ i, ¬ fp'' i L) ∧ RepL c.K B'' acc ac ∧ acc.length ≤ i + 1 ∧
          match lcGo g t fe vs (ds.drop (i + 1)) ρ'' with
          | some (ys, ρe) => ∀ v fp' B' H' σe, Go c.K c.ow fp B H σe ρe fp' B' H' → σe = wipe σ vs → ρe.length = ρ.length → (∃ P : Addr → Prop, Own c.K B' H' P v (.lst (ac ++ ys)) ∧ ∀ a, P a → H a = none ∧ B' a = none ∧ (∃ o, H' a = some o) ∧ ∀ i, ¬ fp' i a) → Q v H'
          | none => False, fun H'' ⟨a1, a2, a3, a4, a5, r⟩ => ⟨ds.length - (i + 1), by omega, rfl, hl, a1, a2, a3, a4, a5, r⟩, fun x H3 yx => ?_⟩
        obtain ⟨B3, yg, rx⟩ := yl x H3 yx
        have g3 := yg.go (K := c.K) (ow := c.ow) go.sr
        refine ⟨B3, ρ', fp', _, g3.sr, rx, ?_⟩
        rw [z]
        intro σ2 fp2 B2 H2 g2 s2
        have g4 := g3.trans g2
        refine ⟨wipe_sl s2 htl, B2, ρa, fp2, g2.sr, ?_⟩
        unfold Cn.at
        have lenA : ρa.length = ρ.length := by rw [← g2.sr.ln, s2.1, wipe_length]; exact S0.ln
        cases w : t ρa with
        | no => rw [w] at h'; exact h'.elim
        | ex x d ρb => rw [w] at h'; exact h'.elim
        | ok b ρb =>
          rw [w] at h'
          intro b' f5 B5 H5 g5 e5
          cases e5
          have g6 := g4.trans g5
          have lenB : ρb.length = ρ.length := by rw [← g5.sr.ln, s2.1, wipe_length]; exact S0.ln
          have back : ∀ {ρx : Rho} {fx : Fp} {Bx Hx : Hp}, Go c.K c.ow fp' B' H' σ2 ρx fx Bx Hx → Go c.K c.ow fp B H (wipe σ vs) (wipeR ρx vs) fx Bx Hx := fun {ρx fx Bx Hx} q => by
            have q2 := (go.trans q).wipe (vs := vs)
            rw [wipe_sl s2 htl] at q2
            exact q2
          cases b with
          | false =>
            rw [if_neg (by decide)]
            obtain ⟨k1, k2, k3⟩ := keep g6
            exact ⟨acc, ac, _, f5, B5, back g6, by rw [wipeR_len]; exact lenB, k1, k2, k3, hrep.mono g6.b, Nat.le_succ_of_le hal, h'⟩
          | true =>
            rw [if_pos rfl]
            simp only at h'
            refine ⟨B5, ρb, f5, g5.sr, ?_⟩
            unfold Cn.at
            cases u : fe ρb with
            | no => rw [u] at h'; exact h'.elim
            | ex x d ρx => rw [u] at h'; exact h'.elim
            | ok yv ρx =>
              rw [u] at h'
              simp only at h'
              intro v f7 B7 H7 g7 r7
              have g8 := g6.trans g7
              obtain ⟨k1, k2, k3⟩ := keep g8
              refine ⟨acc, k1, by rw [← szL_eq]; omega, acc ++ [v], ac ++ [yv], wipeR ρx vs, f7, B7, ?_, ?_, upd_same, k2, k3, (hrep.mono g8.b).app (.one r7), by simpa using hal, ?_⟩
              · have q := back g8
                have up : ∀ b u, H7 b = some u → ∃ u', upd H7 L (.lst (acc ++ [v])) b = some u' := fun b u e => by
                  by_cases z : b = L
                  · exact ⟨_, by rw [z, upd_same]⟩
                  · exact ⟨u, by rw [upd_ne z]; exact e⟩
                refine ⟨⟨q.sr.ln, fun b u e => ?_, fun i d e => ?_, q.sr.dj, q.sr.ub, fun i b e => let ⟨u, z⟩ := q.sr.al i b e; up b u z⟩, q.b, fun b u e n => ?_, fun b u e => let ⟨u2, z⟩ := q.t b u e; up b u2 z, q.f, q.s⟩
                · rw [upd_ne (ne_of_none e k2)]; exact q.sr.ex b u e
                · obtain ⟨v1, e1, e2⟩ := q.sr.sl i d e
                  refine ⟨v1, e1, ?_⟩
                  split
                  · rename_i ho; rw [if_pos ho] at e2
                    refine e2.mono (.refl _) fun b u p z => ?_
                    rw [upd_ne (show b ≠ L from fun e => k3 i (by rw [← e]; exact p))]; exact z
                  · rename_i ho; rw [if_neg ho] at e2; exact e2
                · rw [upd_ne (ne_of_none e hL)]; exact q.h b u e n
              · rw [wipeR_len, ← g7.sr.ln, s2.1, wipe_length]; exact S0.ln
              · cases ww : lcGo g t fe vs (ds.drop (i + 1)) (wipeR ρx vs) with
                | none => rw [ww] at h'; exact h'.elim
                | some p =>
                  obtain ⟨ys, ρe⟩ := p
                  rw [ww] at h'
                  intro v2 f9 B9 H9 σe ge se le oo
                  rw [List.append_assoc] at oo
                  exact h' v2 f9 B9 H9 σe ge se le oo
    · have hd : ds.drop i = [] := List.drop_eq_nil_iff.mpr (by omega)
      rw [hd] at h'
      unfold lcGo at h'
      refine .inl ⟨no (by omega), h' _ fp' B' H' _ go rfl hlen ⟨fun a => a = L, .lst rfl hacc (by simpa using hrep), fun a e => ?_⟩⟩
      subst e
      exact ⟨hL, hBL, ⟨_, hacc⟩, hfL⟩
theorem EN_lc {vs : List Nat} (hc : X.calm = true) (hN : X.N.Nodup) (hi : EI c X tg iter it) (ok : BlkOk X.N X.env.scope scope own)
    (hg : ∀ (s : Shared) (H : Hp) (C : Addr) (cl : List (Str × Addr)) (fp : List Addr), EG c.blk (X.blk s H scope (compEnvC scope cl C X.env) fp) tg tl g) (ht : ∀ (s : Shared) (H : Hp) (C : Addr) (cl : List (Str × Addr)) (fp : List Addr), ETs c.blk (X.blk s H scope (compEnvC scope cl C X.env) fp) ifs t)
    (he : ∀ (s : Shared) (H : Hp) (C : Addr) (cl : List (Str × Addr)) (fp : List Addr), EV c.blk (X.blk s H scope (compEnvC scope cl C X.env) fp) elt fe)
    (hvs : own.map (·.2) = vs := by rfl) (htl : (tl.all fun i => vs.contains i) = true := by rfl) (hov : (vs.all fun i => !c.ow i) = true := by rfl) (hs : ∀ x, foldedSetIterable iter X.env x = pure x := by intro _; rfl) :
    EN c X (.ListComp elt [⟨tg, iter, ifs, 0⟩] scope pos) (lcM it g t fe vs) := by
  subst hvs
  exact peOf (pe_lc hc hN hi ok hg ht he hs) fun σ H Q ⟨B, ρ, fp, S, q⟩ => ⟨B, ρ, fp, S, at_bnd q fun J ds ρ1 fp1 B1 H1 g1 y q1 => fun L hL => by
    unfold Cn.at lcK at q1
    by_cases hz : ds.length ≤ szL
    · simp only [if_pos hz] at q1
      refine lc_turns g1.sr y hz (fun i m => List.contains_iff_mem.mp (List.all_eq_true.mp htl i m)) ?_ L hL
      cases e : lcGo g t fe (own.map (·.2)) ds (wipeR ρ1 (own.map (·.2))) with
      | none => rw [e] at q1; exact q1.elim
      | some p =>
        obtain ⟨ys, ρe⟩ := p
        rw [e] at q1
        intro v f2 B2 H2 σe g2 eσ el ⟨P, o, k⟩
        refine q1 v f2 B2 H2 (Go.unwipe g1.sr g2 (fun i m => ?_) (fun i n => by rw [eσ, wipe_out' n]) el) ⟨P, o, fun a p => ⟨g1.non (k a p).1, (k a p).2⟩⟩
        have z := List.all_eq_true.mp hov i m
        simpa using z
    · simp only [if_neg hz] at q1⟩
theorem setS_bnd {α : Type} {i : Nat} (it : M α) (k : α → M D) (ρ : Rho) : setS i (bnd it k) ρ = thn it (fun a => setS i (k a)) ρ := by
  unfold setS thn bnd
  cases it ρ <;> rfl
/-- x = [..]: a thing of one's own | a value -/
theorem ES_setLc {vs : List Nat} {i : Nat} {y : Str} {py : Pos} (hc : X.calm = true) (hN : X.N.Nodup) (hy : X.N[i]? = some y) (hyl : X.env.scope.names.lookup y = some .local)
    (hsw : swapsWith (.ListComp elt [⟨tg, iter, ifs, 0⟩] scope pos) (some (.Name y py)) spos.line X.env = pure true) (hi : EI c X tg iter it) (ok : BlkOk X.N X.env.scope scope own)
    (hg : ∀ (s : Shared) (H : Hp) (C : Addr) (cl : List (Str × Addr)) (fp : List Addr), EG c.blk (X.blk s H scope (compEnvC scope cl C X.env) fp) tg tl g) (ht : ∀ (s : Shared) (H : Hp) (C : Addr) (cl : List (Str × Addr)) (fp : List Addr), ETs c.blk (X.blk s H scope (compEnvC scope cl C X.env) fp) ifs t)
    (he : ∀ (s : Shared) (H : Hp) (C : Addr) (cl : List (Str × Addr)) (fp : List Addr), EV c.blk (X.blk s H scope (compEnvC scope cl C X.env) fp) elt fe)
    (hk : c.kp i = false := by rfl) (hvs : own.map (·.2) = vs := by rfl) (htl : (tl.all fun i => vs.contains i) = true := by rfl) (hov : (vs.all fun i => !c.ow i) = true := by rfl) (hs : ∀ x, foldedSetIterable iter X.env x = pure x := by intro _; rfl) :
    ES c X (.Assign [.Name y py] (.ListComp elt [⟨tg, iter, ifs, 0⟩] scope pos) spos) (setS i (lcM it g t fe vs)) := by
  subst hvs
  exact psOf (ps_setLc hc hN hy hyl hsw hi ok hg ht he hs) fun D σ H ⟨B, ρ, fp, S, i0, q⟩ => by
    refine ⟨B, ρ, fp, S, ?_⟩
    have q2 : c.atO B fp (thn it (fun ds => setS i (lcK g t fe (own.map fun p => p.2) ds)) ρ) D σ H := by
      rw [← setS_bnd]; exact q
    refine at_thnG q2 fun J ds ρ1 fp1 B1 H1 g1 y q1 L hL => ?_
    unfold setS thn lcK at q1
    by_cases hz : ds.length ≤ szL
    · simp only [if_pos hz] at q1
      refine lc_turns (Q := fun x H1 => gName i x σ H1 D.nx) g1.sr y hz (fun i m => List.contains_iff_mem.mp (List.all_eq_true.mp htl i m)) ?_ L hL
      cases e : lcGo g t fe (own.map (·.2)) ds (wipeR ρ1 (own.map (·.2))) with
      | none => rw [e] at q1; exact q1.elim
      | some p =>
        obtain ⟨ys, ρe⟩ := p
        rw [e] at q1
        intro v f2 B2 H2 σe g2 eσ el ⟨P, o, k⟩
        have g3 := Go.unwipe (vs := own.map (·.2)) g1.sr g2 (fun i m => by have z := List.all_eq_true.mp hov i m; simpa using z) (fun i n => by rw [eσ, wipe_out' n]) el
        have g4 := g1.trans g3
        by_cases ho : c.ow i = true
        · exact own_nx ho hk S i0 g4 ⟨P, o, fun a p => ⟨g1.non (k a p).1, (k a p).2⟩⟩ q1
        · obtain ⟨g5, e0⟩ := g4.froze (P := P) fun a p => ⟨.inr (g1.non (k a p).1), (k a p).2⟩
          have r5 : Rep c.K (frz B2 H2 P) v (Fl.D.lst ys) := o.froze e0 fun a u p z => by unfold frz; rw [if_pos p]; exact z
          exact q1 _ _ _ H2 (g5.trans (.setV g5.sr (by simpa using ho) r5)) (.set hk)
    · simp only [if_neg hz] at q1; exact q1.elim
end

/-! ### defs -/
def upds : List Md → Rho → Rho → Rho
  | [], _, ρ => ρ
  | .s j :: ms, o :: os, ρ => upds ms os (ρ.set j o)
  | .s j :: ms, [], ρ => upds ms [] (ρ.set j none)
  | _ :: ms, _ :: os, ρ => upds ms os ρ
  | _ :: ms, [], ρ => upds ms [] ρ
def callF (ms : List Md) (F : List D → R D) (fa : M (List D)) : M D := bnd fa fun ds ρ => match F ds with
  | .ok d outs => .ok d (upds ms outs ρ)
  | .ex x d outs => .ex x d (upds ms outs ρ)
  | .no => .no
/-- what a def keeps: F of the arguments' data -/
def relP (K : PySem.W.Frag) (kp : Nat → Bool) (rm : Bool) (fp : Fp) (H : Hp) (fp' : Fp) (B' H' : Hp) (v : V) (d : D) : Prop :=
  if rm = true then ∃ P : Addr → Prop, Own K B' H' P v d ∧ ∀ a, P a → ((∃ i, kp i = false ∧ fp i a) ∨ H a = none) ∧ B' a = none ∧ (∃ o, H' a = some o) ∧ ∀ i, ¬ fp' i a else Rep K B' v d
def spF (K : PySem.W.Frag) (pow kp : Nat → Bool) (rm : Bool) (xr : Str → D → Value → Option Addr → Hp → Prop) (n : Nat) (F : List D → R D) : Sp := fun vs H Q E => vs.length = n ∧ ∃ B ds fp, SR K pow B H (vs.map some) (ds.map some) fp ∧ match F ds with
  | .ok d outs => ∀ v fp' B' H', Go K pow fp B H (vs.map some) outs fp' B' H' → relP K kp rm fp H fp' B' H' v d → Q v H'
  | .ex x d outs => ∀ cl dd fp' B' H', Go K pow fp B H (vs.map some) outs fp' B' H' → xr x d cl dd H' → E cl dd H'
  | .no => False
/-- a body as a function upon data: n parameters, N names -/
def runF (n N : Nat) (kp : Nat → Bool) (rm : Bool) (g : S) : List D → R D := fun ds => if ds.length = n then match g (ds.map some ++ List.replicate (N - n) none) with
  | .rt d ρ => .ok d ((mask kp 0 ρ).take n)
  | .nx ρ => if rm = true then .no else .ok .non ((mask kp 0 ρ).take n)
  | .ex x d ρ => .ex x d ((mask kp 0 ρ).take n)
  | _ => .no
  else .no
theorem ownM_own {ms ms' : List Md} (h : ms.map Md.own = ms'.map Md.own) : ownM ms = ownM ms' := by
  funext i
  have e : (ms.map Md.own)[i]? = (ms'.map Md.own)[i]? := by rw [h]
  rw [List.getElem?_map, List.getElem?_map] at e
  unfold ownM
  cases h1 : ms[i]? <;> cases h2 : ms'[i]? <;> rw [h1, h2] at e <;> simp_all
theorem upds_some {d : D} {k : Nat} : ∀ {ms : List Md} {outs ρ : Rho}, (upds ms outs ρ)[k]? = some (some d) → (∃ i : Nat, ms[i]? = some (Md.s k) ∧ outs[i]? = some (some d)) ∨ ((∀ i : Nat, ms[i]? ≠ some (Md.s k)) ∧ ρ[k]? = some (some d))
  | [], _, ρ, h => .inr ⟨fun i => by simp, h⟩
  | .s j :: ms, o :: os, ρ, h => by
    have h : (upds ms os (ρ.set j o))[k]? = some (some d) := h
    rcases upds_some h with ⟨i, a, b⟩ | ⟨a, b⟩
    · exact .inl ⟨i + 1, a, b⟩
    · rcases getE_set b with ⟨rfl, e, _⟩ | ⟨n, e⟩
      · exact .inl ⟨0, rfl, congrArg some e.symm⟩
      · refine .inr ⟨fun i z => ?_, e⟩
        cases i with
        | zero => cases z; exact n rfl
        | succ i => exact a i z
  | .s j :: ms, [], ρ, h => by
    have h : (upds ms [] (ρ.set j none))[k]? = some (some d) := h
    rcases upds_some h with ⟨i, a, b⟩ | ⟨a, b⟩
    · simp at b
    · rcases getE_set b with ⟨rfl, e, _⟩ | ⟨n, e⟩
      · cases e
      · refine .inr ⟨fun i z => ?_, e⟩
        cases i with
        | zero => cases z; exact n rfl
        | succ i => exact a i z
  | .v :: ms, o :: os, ρ, h => by
    rcases upds_some (ms := ms) (outs := os) (ρ := ρ) h with ⟨i, a, b⟩ | ⟨a, b⟩
    · exact .inl ⟨i + 1, a, b⟩
    · exact .inr ⟨fun i z => by cases i with
        | zero => cases z
        | succ i => exact a i z, b⟩
  | .v :: ms, [], ρ, h => by
    rcases upds_some (ms := ms) (outs := []) (ρ := ρ) h with ⟨i, a, b⟩ | ⟨a, b⟩
    · simp at b
    · exact .inr ⟨fun i z => by cases i with
        | zero => cases z
        | succ i => exact a i z, b⟩
  | .n :: ms, o :: os, ρ, h => by
    rcases upds_some (ms := ms) (outs := os) (ρ := ρ) h with ⟨i, a, b⟩ | ⟨a, b⟩
    · exact .inl ⟨i + 1, a, b⟩
    · exact .inr ⟨fun i z => by cases i with
        | zero => cases z
        | succ i => exact a i z, b⟩
  | .n :: ms, [], ρ, h => by
    rcases upds_some (ms := ms) (outs := []) (ρ := ρ) h with ⟨i, a, b⟩ | ⟨a, b⟩
    · simp at b
    · exact .inr ⟨fun i z => by cases i with
        | zero => cases z
        | succ i => exact a i z, b⟩
theorem upds_len : ∀ (ms : List Md) (outs ρ : Rho), (upds ms outs ρ).length = ρ.length
  | [], _, _ => rfl
  | .s j :: ms, o :: os, ρ => (upds_len ms os _).trans (by simp)
  | .s j :: ms, [], ρ => (upds_len ms [] _).trans (by simp)
  | .v :: ms, _ :: os, ρ => upds_len ms os ρ
  | .v :: ms, [], ρ => upds_len ms [] ρ
  | .n :: ms, _ :: os, ρ => upds_len ms os ρ
  | .n :: ms, [], ρ => upds_len ms [] ρ
section
variable {c : Cn} {X : Cx} {k : Nat} {f : Addr} {fd : FuncData} {ps : List Str} {pow kp : Nat → Bool} {rm : Bool} {n : Nat} {F : List D → R D} {x : Str} {p pos : Pos} {e : Expr} {es : List Expr} {ms : List Md} {fa : M (List D)}
/-- behind a call: the things of slots that were handed over are as the def says -/
theorem call_go {σ : L2.St} {B0 H0 B H B' H' : Hp} {ρ outs : Rho} {fp0 fp fc fc' : Fp} {vs : List V} {ds : List D} (g0 : Go c.K c.ow fp0 B0 H0 σ ρ fp B H) (g : Go c.K (ownM ms) fc B H (vs.map some) outs fc' B' H')
    (k : ∀ (i : Nat) (a : Addr), fc i a → (ms[i]? = some Md.n ∧ H0 a = none ∧ ∀ j, ¬ fp j a) ∨ ∃ j, ms[i]? = some (Md.s j) ∧ fp j a) (z : ∀ (i j : Nat), ms[i]? = some (Md.s j) → c.ow j = true ∧ ∃ v, vs[i]? = some v ∧ σ[j]? = some (some v)) :
    ∃ fp', Go c.K c.ow fp0 B0 H0 σ (upds ms outs ρ) fp' B' H' ∧ ∀ (a : Addr), (∃ j, fp' j a) → (∃ i, fc' i a) ∨ ((∃ j, fp j a) ∧ ¬ ∃ i, fc i a) := by
  have S := g0.sr
  have there : ∀ j a, fp j a → H a ≠ none := fun j a h q => by obtain ⟨o, e⟩ := S.al j a h; rw [q] at e; cases e
  have reg : ∀ (i : Nat) (j : Nat) (a : Addr), ms[i]? = some (Md.s j) → fc' i a → H a ≠ none → fp j a := fun i j a e h nn => by
    rcases g.s i a h with q | q
    · rcases k i a q with ⟨e', _⟩ | ⟨j', e', h1⟩
      · rw [e] at e'; cases e'
      · rw [e] at e'; cases e'; exact h1
    · exact (nn q).elim
  have out : ∀ (j : Nat) (a : Addr), (∀ i : Nat, ms[i]? ≠ some (Md.s j)) → fp j a → ¬ ∃ i, fc i a := fun j a h1 y ⟨i, u⟩ => by
    rcases k i a u with ⟨_, _, w⟩ | ⟨j', w, w2⟩
    · exact w j y
    · rw [S.dj j' j a w2 y] at w; exact h1 i w
  have outR : ∀ (a : Addr) (o : HO), H0 a = some o → (¬ ∃ i, fp0 i a) → ¬ ∃ i, fc i a := fun a o e q ⟨i, u⟩ => by
    rcases k i a u with ⟨_, w, _⟩ | ⟨j', _, w2⟩
    · rw [e] at w; cases w
    · exact g0.nreg e q ⟨j', w2⟩
  refine ⟨fun j a => (∃ i, ms[i]? = some (Md.s j) ∧ fc' i a) ∨ ((∀ i : Nat, ms[i]? ≠ some (Md.s j)) ∧ fp j a), ⟨⟨by rw [upds_len]; exact S.ln, g.sr.ex, fun j d h => ?_, fun i j a h1 h2 => ?_, fun j a h => ?_, fun j a h => ?_⟩, g0.b.trans g.b, fun a o e q => g.h a o (g0.h a o e q) (outR a o e q), fun a o e => let ⟨o1, e1⟩ := g0.t a o e; g.t a o1 e1,
    fun a o e b q => g.f a o (g0.h a o e q) (g0.f a o e b q) (outR a o e q), fun j a h => ?_⟩, fun a ⟨j, h⟩ => ?_⟩
  · rcases upds_some h with ⟨i, h1, h2⟩ | ⟨h1, h2⟩
    · obtain ⟨ho, v, e1, e2⟩ := z i j h1
      obtain ⟨v2, q1, q2⟩ := g.sr.own (by unfold ownM; rw [h1]; rfl) h2
      rw [List.getElem?_map, e1] at q1
      cases q1
      exact ⟨v, e2, by rw [if_pos ho]; exact q2.reg fun a y => .inl ⟨i, h1, y⟩⟩
    · obtain ⟨v, e1, e2⟩ := S.sl j d h2
      refine ⟨v, e1, ?_⟩
      split
      · rename_i ho; rw [if_pos ho] at e2
        exact (e2.mono g.b fun a o y q => g.h a o q (out j a h1 y)).reg fun a y => .inr ⟨h1, y⟩
      · rename_i ho; rw [if_neg ho] at e2; exact e2.mono g.b
  · rcases h1 with ⟨i1, a1, b1⟩ | ⟨a1, b1⟩ <;> rcases h2 with ⟨i2, a2, b2⟩ | ⟨a2, b2⟩
    · have := g.sr.dj i1 i2 a b1 b2
      subst this
      rw [a1] at a2; cases a2; rfl
    · exact S.dj i j a (reg i1 i a a1 b1 (there j a b2)) b2
    · exact S.dj i j a b1 (reg i2 j a a2 b2 (there i a b1))
    · exact S.dj i j a b1 b2
  · rcases h with ⟨i, _, y⟩ | ⟨h1, y⟩
    · exact g.sr.ub i a y
    · obtain ⟨o, e⟩ := S.al j a y
      exact g.f a o e (S.ub j a y) (out j a h1 y)
  · rcases h with ⟨i, _, y⟩ | ⟨h1, y⟩
    · exact g.sr.al i a y
    · obtain ⟨o, e⟩ := S.al j a y; exact g.t a o e
  · rcases h with ⟨i, e, y⟩ | ⟨h1, y⟩
    · by_cases q : H a = none
      · exact .inr (g0.non q)
      · exact g0.s j a (reg i j a e y q)
    · exact g0.s j a y
  · rcases h with ⟨i, _, y⟩ | ⟨h1, y⟩
    · exact .inl ⟨i, y⟩
    · exact .inr ⟨⟨j, y⟩, out j a h1 y⟩
def ksOk (kp : Nat → Bool) : Nat → List Md → Bool
  | _, [] => true
  | i, .s _ :: ms => kp i && ksOk kp (i + 1) ms
  | i, _ :: ms => ksOk kp (i + 1) ms
theorem ksOk_get {kp : Nat → Bool} : ∀ {n : Nat} {ms : List Md}, ksOk kp n ms = true → ∀ (i j : Nat), ms[i]? = some (Md.s j) → kp (n + i) = true
  | _, [], _, i, j, h => by simp at h
  | n, m :: ms, q, i, j, h => by
    cases i with
    | zero =>
      simp only [List.getElem?_cons_zero, Option.some.injEq] at h
      subst h
      unfold ksOk at q
      rw [Bool.and_eq_true] at q
      exact q.1
    | succ i =>
      have q2 : ksOk kp (n + 1) ms = true := by
        cases m with
        | v => exact q
        | n => exact q
        | s _ => unfold ksOk at q; rw [Bool.and_eq_true] at q; exact q.2
      rw [show n + (i + 1) = n + 1 + i by omega]
      exact ksOk_get q2 i j (by simpa using h)
theorem ksOk_all {kp : Nat → Bool} {ms : List Md} (h : ksOk kp 0 ms = true) : ∀ (i j : Nat), ms[i]? = some (Md.s j) → kp i = true := fun i j q => by
  have := ksOk_get h i j q
  rwa [Nat.zero_add] at this
/-- a call -/
theorem call_core {rel : Rel V D} (hpow : pow = ownM ms) (hks : ∀ (i j : Nat), ms[i]? = some (Md.s j) → kp i = true)
    (hrel : ∀ {σ : L2.St} {fp fp' fc fc' : Fp} {H H1 B' H' : Hp} {v : V} {d : D}, (∀ a, H1 a = none → H a = none) → (∀ (i : Nat) (a : Addr), fc i a → (ms[i]? = some Md.n ∧ H a = none) ∨ ∃ j, ms[i]? = some (Md.s j)) → (∀ a, (∃ j, fp' j a) → (∃ i, fc' i a) ∨ (H1 a ≠ none ∧ ¬ ∃ i, fc i a)) → relP c.K kp rm fc H1 fc' B' H' v d → rel σ fp H fp' B' H' v d)
    {σ : L2.St} {H : Hp} {Q : VK} {B : Hp} {ρ : Rho} {fp : Fp} (hl : ms.length = n) (q : c.at fp H B ρ fp (callF ms F fa) rel σ H Q) :
    c.at fp H B ρ fp fa (relA c ms) σ H fun vs H1 => spF c.K pow kp rm c.xr n F (vs ++ []) H1 Q (WE c.W σ) :=
  at_bndG q fun vs ds ρ1 fp1 B1 H1 g1 ⟨hl1, fc, SA, k, z⟩ q1 => by
    rw [List.append_nil]
    have hl2 : vs.length = ds.length := by simpa using SA.ln
    refine ⟨by omega, B1, ds, fc, by rw [hpow]; exact SA, ?_⟩
    unfold Cn.at at q1
    cases e : F ds with
    | no => rw [e] at q1; exact q1
    | ex x d outs =>
      rw [e] at q1
      intro cl dd fc' B' H' g2 hx
      rw [hpow] at g2
      obtain ⟨fp', g3, _⟩ := call_go (ds := ds) g1 g2 k z
      exact q1 cl dd fp' B' H' g3 hx
    | ok d outs =>
      rw [e] at q1
      intro v fc' B' H' g2 hr
      rw [hpow] at g2
      obtain ⟨fp', g3, hf⟩ := call_go (ds := ds) g1 g2 k z
      refine q1 v fp' B' H' g3 (hrel (fun _ h => g1.non h) (fun i a h => (k i a h).imp (fun y => ⟨y.1, y.2.1⟩) fun ⟨j, y⟩ => ⟨j, y.1⟩) (fun a h => (hf a h).imp_right fun y => ⟨fun w => ?_, y.2⟩) hr)
      obtain ⟨⟨j, y⟩, _⟩ := y
      obtain ⟨o, u⟩ := g1.sr.al j a y
      rw [w] at u; cases u
theorem relP_V {σ : L2.St} {fp fp' fc fc' : Fp} {H H1 B' H' : Hp} {v : V} {d : D} {kp : Nat → Bool} (h : relP c.K kp false fc H1 fc' B' H' v d) : relV c σ fp H fp' B' H' v d := by
  unfold relP at h
  rw [if_neg (by decide)] at h
  exact h
theorem relP_N (hks : ∀ (i j : Nat), ms[i]? = some (Md.s j) → kp i = true) {σ : L2.St} {fp fp' fc fc' : Fp} {H H1 B' H' : Hp} {v : V} {d : D} (h0 : ∀ a, H1 a = none → H a = none) (h1 : ∀ (i : Nat) (a : Addr), fc i a → (ms[i]? = some Md.n ∧ H a = none) ∨ ∃ j, ms[i]? = some (Md.s j))
    (h2 : ∀ a, (∃ j, fp' j a) → (∃ i, fc' i a) ∨ (H1 a ≠ none ∧ ¬ ∃ i, fc i a)) (h : relP c.K kp true fc H1 fc' B' H' v d) : relN c σ fp H fp' B' H' v d := by
  unfold relP at h
  rw [if_pos rfl] at h
  obtain ⟨P, o, k⟩ := h
  refine ⟨P, o, fun a p => ⟨?_, (k a p).2.1, (k a p).2.2.1, fun j y => ?_⟩⟩
  · rcases (k a p).1 with ⟨i, e, z⟩ | z
    · rcases h1 i a z with ⟨_, w⟩ | ⟨j, w⟩
      · exact w
      · rw [hks i j w] at e; cases e
    · exact h0 a z
  · rcases h2 a ⟨j, y⟩ with ⟨i, z⟩ | ⟨z, w⟩
    · exact (k a p).2.2.2 i z
    · rcases (k a p).1 with ⟨i, _, u⟩ | u
      · exact w ⟨i, u⟩
      · exact z u
theorem EV_call (G : FnOk X.prog X.w X.K X.mg X.base (L2.CX X.prog X.w) k f fd ps (spF c.K pow kp false c.xr n F)) (hr : Room k X.A) (hm : X.mg x = some (.ref f)) (hk : PySem.W.keepIn X.K (.ref f) = true) (hb : Binds X.K fd ps []) (tk : Takes X c.W) (ha : EA c X ms (e :: es) fa)
    (hpow : pow = ownM ms := by rfl) (hl : ms.length = n := by rfl) (hg : Gl X x := by rfl) (hdb : (x == ("__debug__" : Str)) = false := by decide) (he : starEach (e :: es) X.env = (false, eval e X.env) :: starEach es X.env := by rfl) (hpl : (backTo pos (starEach es X.env)).any (·.1) = false := by rfl)
    (hks : ksOk kp 0 ms = true := by rfl) : EV c X (.Call (.Name x p) (e :: es) [] pos) (callF ms F fa) :=
  peOf (pe_callSD G hr hg hm hk hb .nil (fun σ => passAt tk σ) ha hdb he hpl) fun σ H Q ⟨B, ρ, fp, S, q⟩ => ⟨B, ρ, fp, S, call_core hpow (ksOk_all hks) (fun _ _ _ h => relP_V h) hl q⟩
theorem EN_call (G : FnOk X.prog X.w X.K X.mg X.base (L2.CX X.prog X.w) k f fd ps (spF c.K pow kp true c.xr n F)) (hr : Room k X.A) (hm : X.mg x = some (.ref f)) (hk : PySem.W.keepIn X.K (.ref f) = true) (hb : Binds X.K fd ps []) (tk : Takes X c.W) (ha : EA c X ms (e :: es) fa)
    (hpow : pow = ownM ms := by rfl) (hl : ms.length = n := by rfl) (hg : Gl X x := by rfl) (hdb : (x == ("__debug__" : Str)) = false := by decide) (he : starEach (e :: es) X.env = (false, eval e X.env) :: starEach es X.env := by rfl) (hpl : (backTo pos (starEach es X.env)).any (·.1) = false := by rfl)
    (hks : ksOk kp 0 ms = true := by rfl) : EN c X (.Call (.Name x p) (e :: es) [] pos) (callF ms F fa) :=
  peOf (pe_callSD G hr hg hm hk hb .nil (fun σ => passAt tk σ) ha hdb he hpl) fun σ H Q ⟨B, ρ, fp, S, q⟩ => ⟨B, ρ, fp, S, call_core hpow (ksOk_all hks) (fun a b d h => relP_N (ksOk_all hks) a b d h) hl q⟩
end
/-! ### a def by its body -/
abbrev xOf (P : Program) (w : World) (K : PySem.W.Frag) (mg : Str → Option Value) (base : Heap) (N : List Str) (qual : Str) (st : Stmt) (f : Addr) (cdv : Value) (A : Around) (outer : List Env) (s : Shared) (H : Hp) (E : XK) : Cx :=
  cxOf (L2.CX P w) P w K mg base N qual (defScope st) f cdv A outer s H E
abbrev cOf (K : PySem.W.Frag) (ow kp : Nat → Bool) (rm : Bool) (xr : Str → D → Value → Option Addr → Hp → Prop) (E : XK) (fp : Fp) (H : Hp) : Cn := ⟨K, ow, kp, rm, fun cl d _ H => E cl d H, xr, fp, H⟩
theorem fn_F {P : Program} {w : World} {K : PySem.W.Frag} {mg : Str → Option Value} {base : Heap} {x qual : Str} {st : Stmt} {f : Addr} {fd : FuncData} {N ps : List Str} {k n M : Nat} {pow ow kp : Nat → Bool} {rm : Bool}
    {xr : Str → D → Value → Option Addr → Hp → Prop} {g : S} (F0 : Fun K x qual st f fd) (Sc : FnScope N ps (defScope st)) (hn : ps.length = n) (hM : N.length = M) (hop : (List.range n).all (fun i => ow i == pow i) = true) (hkp : (List.range n).all (fun i => !kp i || ow i) = true)
    (hbody : ∀ (cdv : Value) (A : Around) (outer : List Env) (s : Shared) (H : Hp) (E : XK) (fp : Fp), Room k (A.deeper (envOfC qual (defScope st) s.heap.objs.size f cdv)) →
      ESs (cOf K ow kp rm xr E fp H) (xOf P w K mg base N qual st f cdv A outer s H E) (defBody st) g) :
    FnOk P w K mg base (L2.CX P w) (k + 1) f fd ps (spF K pow kp rm xr n (runF n M kp rm g)) := by
  refine F0.okX Sc (fun vs H Q E h => by rw [hn]; exact h.1) (fun cdv A outer s H vs Q E hr h => ?_)
  obtain ⟨hl, B, ds, fp, SA, q⟩ := h
  refine ⟨_, hbody cdv A outer s H E (fun i a => i < n ∧ fp i a) hr, ?_⟩
  have hld : ds.length = n := by have := SA.ln; simpa [hl] using this.symm
  have opw : ∀ i, i < n → ow i = pow i := fun i hi => by
    have := List.all_eq_true.mp hop i (List.mem_range.mpr hi)
    simpa using this
  unfold runF at q
  rw [if_pos hld] at q
  have start_get : ∀ i, i < n → (start N vs)[i]? = (vs.map some)[i]? := fun i hi => by
    unfold L2.start
    rw [List.getElem?_append_left (by simpa [hl] using hi)]
  have S0 : SR K ow B H (start N vs) (ds.map some ++ List.replicate (M - n) none) (fun i a => i < n ∧ fp i a) := by
    refine ⟨by unfold L2.start; simp [hl, hld, hM], SA.ex, fun i d h => ?_, fun i j a h1 h2 => SA.dj i j a h1.2 h2.2, fun i a h => SA.ub i a h.2, fun i a h => SA.al i a h.2⟩
    have hi : i < n := by
      by_cases z : i < n
      · exact z
      · rw [List.getElem?_append_right (by simpa [hld] using z), List.getElem?_replicate] at h
        split at h <;> cases h
    rw [List.getElem?_append_left (by simpa [hld] using hi)] at h
    obtain ⟨v, h1, h2⟩ := SA.sl i d h
    refine ⟨v, by rw [start_get i hi]; exact h1, ?_⟩
    rw [opw i hi]
    split
    · rename_i ho; rw [if_pos ho] at h2; exact h2.reg fun a p => ⟨hi, p⟩
    · rename_i ho; rw [if_neg ho] at h2; exact h2
  have fin : ∀ {σ' : L2.St} {ρ : Rho} {fp1 : Fp} {B1 H1 : Hp}, Go K ow (fun i a => i < n ∧ fp i a) B H σ' (mask kp 0 ρ) fp1 B1 H1 → Kp (cOf K ow kp rm xr E (fun i a => i < n ∧ fp i a) H) (start N vs) σ' →
      Go K pow fp B H (vs.map some) ((mask kp 0 ρ).take n) (fun i a => i < n ∧ fp1 i a) B1 H1 := fun {σ' ρ fp1 B1 H1} go kk => by
    have ln : (mask kp 0 ρ).length = N.length ∨ n ≤ (mask kp 0 ρ).length := by
      right
      rw [← go.sr.ln, kk.1]
      unfold L2.start
      simp [hl]
    have ln2 : n ≤ (mask kp 0 ρ).length := by
      rw [← go.sr.ln, kk.1]
      unfold L2.start
      simp [hl]
    refine ⟨⟨by rw [List.length_map, List.length_take, hl]; omega, go.sr.ex, fun i d h => ?_, fun i j a h1 h2 => go.sr.dj i j a h1.2 h2.2, fun i a h => go.sr.ub i a h.2, fun i a h => go.sr.al i a h.2⟩, go.b, fun a o e z => go.h a o e fun ⟨i, y⟩ => z ⟨i, y.2⟩, go.t, fun a o e b z => go.f a o e b fun ⟨i, y⟩ => z ⟨i, y.2⟩, fun i a h => (go.s i a h.2).imp_left And.right⟩
    have hi : i < n := by
      by_cases z : i < n
      · exact z
      · rw [List.getElem?_take, if_neg z] at h; cases h
    rw [List.getElem?_take_of_lt hi] at h
    obtain ⟨v, h1, h2⟩ := go.sr.sl i d h
    have kpi := (mask_get h).1
    rw [Nat.zero_add] at kpi
    refine ⟨v, by rw [← start_get i hi, ← kk.2 i kpi]; exact h1, ?_⟩
    rw [← opw i hi]
    split
    · rename_i ho; rw [if_pos ho] at h2; exact h2.reg fun a p => ⟨hi, p⟩
    · rename_i ho; rw [if_neg ho] at h2; exact h2
  refine ⟨B, _, _, S0, ⟨fun _ h => h, fun _ _ h => .inl h⟩, ?_⟩
  unfold Cn.atO
  cases e : g (ds.map some ++ List.replicate (M - n) none) with
  | no => rw [e] at q; exact q
  | bk ρ => rw [e] at q; exact q.elim
  | ct ρ => rw [e] at q; exact q.elim
  | nx ρ =>
    rw [e] at q
    intro σ' fp1 B1 H1 go kk
    by_cases hm : rm = true
    · simp only [if_pos hm] at q
    · simp only [if_neg hm] at q
      refine q .non _ B1 H1 (fin (go.masked (c := cOf K ow kp rm xr E (fun i a => i < n ∧ fp i a) H)) kk) ?_
      unfold relP
      rw [if_neg hm]
      exact .non
  | rt d ρ =>
    rw [e] at q
    intro v σ' fp1 B1 H1 go kk r
    refine q v _ B1 H1 (fin go kk) ?_
    unfold relRt relR at r
    unfold relP
    split
    · rename_i hm
      rw [if_pos hm] at r
      obtain ⟨P, o, z⟩ := r
      exact ⟨P, o, fun a p => ⟨(z a p).1.imp_left fun ⟨i, y⟩ => ⟨i, y.1, y.2.2⟩, (z a p).2.1, (z a p).2.2.1, fun i y => (z a p).2.2.2 i y.2⟩⟩
    · rename_i hm
      rw [if_neg hm] at r
      exact r
  | ex x d ρ =>
    rw [e] at q
    intro cl dd σ' fp1 B1 H1 go kk r
    exact q cl dd _ B1 H1 (fin (go.masked (c := cOf K ow kp rm xr E (fun i a => i < n ∧ fp i a) H)) kk) r
end Fl

set_option maxHeartbeats 4000000
/-! Fl: rules that the layer lacks: list.extend(tuple); tuple * n for n below 2. -/
namespace PySem
open Sem (wp)
namespace AutoSeq1
theorem fl_extend_tuple (l : Addr) (items : Array Value) (n : Nat) (b : Addr) (items2 : Array Value) (n2 : Nat) (dd : Option Addr) (sl : Array (Option Value)) (hs0 : ¬(!items.isEmpty && Builtin.List.listTooLong (items.size + items2.size)) = true) (hs1 : items.size ≤ sizeLine) (hs2 : items.size + items2.size ≤ sizeLine + 1) :
    Meets (Builtin.«list.extend» ⟨[.ref l, .ref b], []⟩) (fun _ R s => s.heap.get? l = some { cls := .type "list", dict := none, data := .seq items n, slots := #[] } ∧ s.heap.get? b = some { cls := .type "tuple", dict := dd, data := .seq items2 n2, slots := sl } ∧ R (.ok (.ret Value.none)) { s with heap := s.heap.update l (Obj.mapSeq fun x => x ++ items2), toks := s.toks }) :=
  .of_wp fun prog w A R s h => by
    obtain ⟨hp, g, d, tk, os⟩ := s; obtain ⟨hl, hb, h⟩ := h; have f1 := idx_int; have f2 := sub_tuple_tuple; have f3 := sub_list_list; have f4 := sub_tuple_list; have f5 := sub_list_tuple;
    have hz' : (items ++ items2).size ≤ sizeLine + 1 := by rw [Array.size_append]; exact hs2
    wp_walk using (wpAny_updateSeq hl rfl (hz := hs1) (_hz' := hz')), wpAny_loadPart' hl, wpAny_loadPart' hb; exact ⟨_, rfl, h⟩
end AutoSeq1
end PySem
namespace L2
open PySem PySem.Spec PyProof.Rows
section
variable {X : Cx}
def rExtT (K : PySem.W.Frag) : V → List V → Hp → VK → Prop := fun x vs H Q => ∃ l b xs zs, x = .ref l ∧ vs = [.ref b] ∧ H l = some (.lst xs) ∧ SqT K H b zs ∧ xs.length + zs.length ≤ sizeLine ∧ Q .non (upd H l (.lst (xs ++ zs)))
theorem mt_extendT : MtM X "list.extend" (rExtT X.K) := by
  intro pins s σ H x vs v us Q I rx rv h
  obtain ⟨l, b, xs, zs, rfl, rfl, hH, hB, hz, q⟩ := h
  cases rx
  obtain ⟨u, rfl, ru⟩ := rv.one
  cases ru
  obtain ⟨z, its, n, r, hl, e⟩ := I.lstM hH
  obtain ⟨its2, r2, ⟨⟨cls, dd, data, sl⟩, e2, hc, n2, hd⟩, hz2⟩ := I.tuple hB
  simp only at hc hd
  subst hc hd
  have hl2 := r2.length
  have hsz : its.toArray.size + its2.toArray.size ≤ sizeLine := by rw [List.size_toArray, List.size_toArray]; omega
  have hlong : ¬ (!its.toArray.isEmpty && Builtin.List.listTooLong (its.toArray.size + its2.toArray.size)) = true := by
    rw [notLongL hsz, Bool.and_false]
    exact Bool.false_ne_true
  refine call_meets F.slot_list_extend ⟨_, e, rfl⟩ F.entry_list_extend (F.args_list_extend_2 _ _)
    (AutoSeq1.fl_extend_tuple l its.toArray n b its2.toArray n2 dd sl hlong (by rw [List.size_toArray]; omega) (by omega)) ⟨e, e2, ?_⟩
  refine ⟨.non, _, I.lset (its' := its ++ its2) hH e (by simp) (r.append r2) ?_, rfl, q⟩
  rw [List.length_append]
  omega
end
end L2
namespace PySem
open Sem (wp)
theorem fl_mul_same (l : Addr) (items : Array Value) (n : Nat) (dd : Option Addr) (sl : Array (Option Value)) (x : Int) (u : Tok) (c0 : (decide (x < -(2 ^ 63)) || decide (x ≥ 2 ^ 63)) = false) (c1 : (items.isEmpty || x == 1) = true) :
    Meets (Builtin.«tuple.__mul__» ⟨[.ref l, .int x u], []⟩) (fun _ R s => s.heap.get? l = some { cls := .type "tuple", dict := dd, data := .seq items n, slots := sl } ∧ R (.ok (.ret (Value.ref l))) s) :=
  .of_wp fun prog w A R s h => by
    obtain ⟨hp, g, d, tk, os⟩ := s
    obtain ⟨hl, h⟩ := h
    have f1 := AutoSeq1.idx_int
    wp_walk using wpAny_loadPart' hl
    repeat (first
      | (refine wpAny_ite_false (decide_eq_false (by rw [c0]; exact Bool.false_ne_true)) ?_; wp_walk using wpAny_loadPart' hl)
      | (refine wpAny_ite_true (decide_eq_true c1) ?_; wp_walk using wpAny_loadPart' hl))
    exact ⟨_, rfl, h⟩
theorem fl_mul_none (l : Addr) (items : Array Value) (n : Nat) (dd : Option Addr) (sl : Array (Option Value)) (x : Int) (u : Tok) (c0 : (decide (x < -(2 ^ 63)) || decide (x ≥ 2 ^ 63)) = false) (c1 : (items.isEmpty || x == 1) = false) (c2 : (decide (x ≤ 0) || items.isEmpty) = true) :
    Meets (Builtin.«tuple.__mul__» ⟨[.ref l, .int x u], []⟩) (fun _ R s => s.heap.get? l = some { cls := .type "tuple", dict := dd, data := .seq items n, slots := sl } ∧
      R (.ok (.ret (Value.ref s.heap.objs.size))) { s with heap := s.heap.push { cls := Value.type "tuple", data := Data.seq #[] }, toks := s.toks }) :=
  .of_wp fun prog w A R s h => by
    obtain ⟨hp, g, d, tk, os⟩ := s
    obtain ⟨hl, h⟩ := h
    have f1 := AutoSeq1.idx_int
    wp_walk using wpAny_loadPart' hl
    repeat (first
      | (refine wpAny_ite_false (decide_eq_false (by rw [c0]; exact Bool.false_ne_true)) ?_; wp_walk using wpAny_loadPart' hl)
      | (refine wpAny_ite_false (decide_eq_false (by rw [c1]; exact Bool.false_ne_true)) ?_; wp_walk using wpAny_loadPart' hl)
      | (refine wpAny_ite_true (decide_eq_true c2) ?_; wp_walk using wpAny_loadPart' hl))
    exact ⟨_, rfl, h⟩
end PySem
namespace L2
open PySem PySem.Spec PyProof.Rows
section
variable {X : Cx}
/-- t * k, k at most 1000, whatever else it is -/
def rRepA (K : PySem.W.Frag) : R2 := fun x y H Q => ∃ l k xs, x = .ref l ∧ y = .int k ∧ SqT K H l xs ∧ -1000 ≤ k ∧ k ≤ 1000 ∧ xs.length ≤ 1000 ∧ (xs = [] ∨ k = 1 → Q (.ref l) H) ∧ (xs ≠ [] → k ≠ 1 → ∀ p, H p = none → Q (.ref p) (upd H p (.tup (List.replicate k.toNat xs).flatten)))
theorem op_repA : OpR X (binaryOp .Mult) (rRepA X.K) := by
  intro pins s σ H x y v u Q I rx ry h
  obtain ⟨l, k, xs, rfl, rfl, hT, h0, h2, hz, q1, q2⟩ := h
  by_cases hbig : xs ≠ [] ∧ 2 ≤ k
  · exact op_repT pins s σ H _ _ v u Q I rx ry ⟨l, k, xs, rfl, rfl, hT, hbig.1, hbig.2, h2, hz, q2 hbig.1 (by omega)⟩
  · cases rx
    obtain ⟨t, rfl⟩ := ry
    obtain ⟨its, r, ⟨⟨cls, dd, data, sl⟩, ho, hc, n, hd⟩, hs⟩ := I.tuple hT
    simp only at hc hd
    subst hc hd
    have c0 : (decide (k < -(2 ^ 63)) || decide (k ≥ 2 ^ 63)) = false := by
      rw [decide_eq_false (by omega), decide_eq_false (by omega)] <;> rfl
    have hem : its.toArray.isEmpty = decide (xs = []) := by
      cases its with
      | nil => cases r; rfl
      | cons a b => cases r; rfl
    by_cases hsame : xs = [] ∨ k = 1
    · have c1 : (its.toArray.isEmpty || k == 1) = true := by
        rw [hem]
        rcases hsame with e | e
        · rw [decide_eq_true e]; rfl
        · subst e; simp
      refine wpAny_binaryOp_repeat_ref (T := "tuple") (U := "int") (by decide) ⟨_, ho, rfl⟩ (fun s' => typeIs_int s' k t) noFill_tuple_mul F.fills_int_mul F.slot_int_rmul repeat_tuple F.slot_int_index.lookup
        (call_meets F.slot_int_rmul (typeIs_int s k t) F.entry_int_rmul (F.args_int_rmul_2 _ _) (int_rmul_tuple k t l its.toArray n dd sl)
          ⟨ho, rfl, ⟨_, ho, rfl⟩, call_meets F.slot_tuple_mul ⟨_, ho, rfl⟩ F.entry_tuple_mul (F.args_tuple_mul_2 _ _) (fl_mul_same l its.toArray n dd sl k t c0 c1) ⟨ho, ?_⟩⟩)
      exact ⟨.ref l, H, I, rfl, q1 hsame⟩
    · have hx : xs ≠ [] := fun e => hsame (.inl e)
      have hk : k ≠ 1 := fun e => hsame (.inr e)
      have hk0 : k ≤ 0 := by
        have : ¬ 2 ≤ k := fun e => hbig ⟨hx, e⟩
        omega
      have c1 : (its.toArray.isEmpty || k == 1) = false := by
        rw [hem, decide_eq_false hx, Bool.false_or]
        exact beq_eq_false_iff_ne.mpr hk
      have c2 : (decide (k ≤ 0) || its.toArray.isEmpty) = true := by rw [decide_eq_true hk0]; rfl
      refine wpAny_binaryOp_repeat_ref (T := "tuple") (U := "int") (by decide) ⟨_, ho, rfl⟩ (fun s' => typeIs_int s' k t) noFill_tuple_mul F.fills_int_mul F.slot_int_rmul repeat_tuple F.slot_int_index.lookup
        (call_meets F.slot_int_rmul (typeIs_int s k t) F.entry_int_rmul (F.args_int_rmul_2 _ _) (int_rmul_tuple k t l its.toArray n dd sl)
          ⟨ho, rfl, ⟨_, ho, rfl⟩, call_meets F.slot_tuple_mul ⟨_, ho, rfl⟩ F.entry_tuple_mul (F.args_tuple_mul_2 _ _) (fl_mul_none l its.toArray n dd sl k t c0 c1 c2) ⟨ho, ?_⟩⟩)
      have ek : k.toNat = 0 := by omega
      have q := q2 hx hk _ (I.hok.fresh (Nat.le_refl _))
      rw [ek] at q
      exact ⟨.ref s.heap.objs.size, _, I.laid (t' := s.toks) (o := .tup []) (fun b ob q => Heap.get?_push_of_some _ q) (Nat.le_refl _) ⟨Nat.zero_le _, [], .nil, IsTup.new _ _⟩, rfl, q⟩
end
end L2

set_option maxHeartbeats 1000000
namespace Fl
open PySem PySem.Spec PyProof.Rows L2

/-! ### operators upon data -/
theorem ite_some {α : Type} {C : Prop} [Decidable C] {a d : α} (h : (if C then some a else none) = some d) : C ∧ a = d := by
  by_cases e : C
  · rw [if_pos e] at h; exact ⟨e, Option.some.inj h⟩
  · rw [if_neg e] at h; cases h
def gI (C : Int → Int → Bool) (f : Int → Int → Int) : D → D → Option D
  | .int i, .int j => if C i j = true then some (.int (f i j)) else none
  | _, _ => none
def gB (p : Int → Int → Bool) : D → D → Option D
  | .int i, .int j => some (.bl (p i j))
  | _, _ => none
section
variable {c : Cn} {X : Cx}
theorem og_I {C : Int → Int → Bool} {Cp : Int → Int → Prop} {f : Int → Int → Int} (h : ∀ i j, C i j = true → Cp i j) : OpG c (rI Cp fun i j => .int (f i j)) (gI C f) (relV c) := fun {fp0 H0 B ρ fp σ H x y dx dy Q} S _ rx ry q => by
  obtain ⟨d, hd, k⟩ := at_lift q
  cases rx <;> cases ry <;> try cases hd
  rename_i i j
  obtain ⟨hc, rfl⟩ := ite_some hd
  exact ⟨i, j, rfl, rfl, h i j hc, k _ fp B H (.refl S) (.int _)⟩
theorem og_I0 {f : Int → Int → Int} : OpG c (rI0 fun i j => .int (f i j)) (gI (fun _ _ => true) f) (relV c) := fun {fp0 H0 B ρ fp σ H x y dx dy Q} S _ rx ry q => by
  obtain ⟨d, hd, k⟩ := at_lift q
  cases rx <;> cases ry <;> try cases hd
  exact ⟨_, _, rfl, rfl, k _ fp B H (.refl S) (.int _)⟩
theorem og_B {p : Int → Int → Bool} : OpG c (rI0 fun i j => .bl (p i j)) (gB p) (relV c) := fun {fp0 H0 B ρ fp σ H x y dx dy Q} S _ rx ry q => by
  obtain ⟨d, hd, k⟩ := at_lift q
  cases rx <;> cases ry <;> try cases hd
  exact ⟨_, _, rfl, rfl, k _ fp B H (.refl S) (.bl _)⟩
end
def cSh (i : Int) : Int → Bool
  | .ofNat j => Nat.ble j 1000000 && Nat.blt i.natAbs (2 ^ 64)
  | .negSucc _ => false
def cShr (_ : Int) : Int → Bool
  | .ofNat _ => true
  | .negSucc _ => false
def cMod (_ : Int) : Int → Bool
  | .ofNat j => Nat.blt 0 j
  | .negSucc _ => false
def cDiv (_ : Int) : Int → Bool
  | .ofNat j => Nat.blt 0 j && Nat.blt j (2 ^ 64)
  | .negSucc _ => false
def cMl (i j : Int) : Bool := Nat.blt i.natAbs (2 ^ 64) || Nat.blt j.natAbs (2 ^ 64)
theorem cSh_iff {i j : Int} : cSh i j = true ↔ 0 ≤ j ∧ j ≤ 1000000 ∧ i.natAbs < 2 ^ 64 := by
  cases j with
  | ofNat j => show (Nat.ble j 1000000 && Nat.blt i.natAbs (2 ^ 64)) = true ↔ _; rw [Bool.and_eq_true, Nat.ble_eq, Nat.blt_eq]; simp; omega
  | negSucc j => simp [cSh]
theorem cShr_iff {i j : Int} : cShr i j = true ↔ 0 ≤ j := by
  cases j with
  | ofNat j => simp [cShr]
  | negSucc j => simp [cShr]
theorem cMod_iff {i j : Int} : cMod i j = true ↔ 0 < j := by
  cases j with
  | ofNat j => show Nat.blt 0 j = true ↔ _; rw [Nat.blt_eq]; simp
  | negSucc j => simp [cMod]
theorem cDiv_iff {i j : Int} : cDiv i j = true ↔ 0 < j ∧ j < 2 ^ 64 := by
  cases j with
  | ofNat j => show (Nat.blt 0 j && Nat.blt j (2 ^ 64)) = true ↔ _; rw [Bool.and_eq_true, Nat.blt_eq, Nat.blt_eq]; simp; omega
  | negSucc j => simp [cDiv]
theorem cMl_iff {i j : Int} : cMl i j = true ↔ i.natAbs < 2 ^ 64 ∨ j.natAbs < 2 ^ 64 := by unfold cMl; rw [Bool.or_eq_true, Nat.blt_eq, Nat.blt_eq]
def subD : D → D → Option D := gI (fun _ _ => true) (· - ·)
def shlD : D → D → Option D := gI cSh fun i j => i * 2 ^ j.toNat
def shrD : D → D → Option D := gI cShr fun i j => i / 2 ^ j.toNat
def powD : D → D → Option D := gI cSh fun i j => i ^ j.toNat
def modD : D → D → Option D := gI cMod (· % ·)
def divD : D → D → Option D := gI cDiv (· / ·)
def andD : D → D → Option D := gI (fun _ _ => true) Builtin.bitAnd
def orD : D → D → Option D := gI (fun _ _ => true) Builtin.bitOr
def xorD : D → D → Option D := gI (fun _ _ => true) Builtin.bitXor
def ltD : D → D → Option D := gB fun i j => decide (i < j)
def leD : D → D → Option D := gB fun i j => decide (i ≤ j)
def gtD : D → D → Option D := gB fun i j => decide (j < i)
def geD : D → D → Option D := gB fun i j => decide (j ≤ i)
theorem cSh_ok (i j : Int) (h : cSh i j = true) : CPow i j := cSh_iff.mp h
theorem cDiv_ok (i j : Int) (h : cDiv i j = true) : CDivW i j := by
  obtain ⟨h1, h2⟩ := cDiv_iff.mp h
  exact wide_div (b := 64) h1 (by omega) (by decide) (by decide)
theorem cMl_ok (i j : Int) (h : cMl i j = true) : CMul i j := by
  rcases cMl_iff.mp h with h | h
  · exact .inl (by omega)
  · exact .inr (by omega)
/-- + -/
def addD : D → D → Option D
  | .int i, .int j => some (.int (i + j))
  | .str i, .str j => if i.length + j.length ≤ szL then some (.str (i ++ j)) else none
  | .tup xs, .tup ys => if xs.length + ys.length ≤ szL then some (.tup (xs ++ ys)) else none
  | .lst xs, .lst ys => if xs.length + ys.length ≤ szL then some (.lst (xs ++ ys)) else none
  | _, _ => none
def rAddV (K : PySem.W.Frag) : R2 := fun x y H Q => (rI0 (fun i j => .int (i + j)) x y H Q ∨ (∃ i j, x = .str i ∧ y = .str j ∧ i.length + j.length ≤ sizeLine ∧ Q (.str (i ++ j)) H)) ∨ (rCatA K x y H Q ∨ rCat x y H Q)
theorem op_addV {X : Cx} : OpR X (binaryOp .Add) (rAddV X.K) := (op_add.or op_add_str).or (op_catA.or op_cat)
theorem og_add {c : Cn} : OpG c (rAddV c.K) addD (relV c) := fun {fp0 H0 B ρ fp σ H x y dx dy Q} S hz rx ry q => by
  obtain ⟨d, hd, k⟩ := at_lift q
  have fr : ∀ {p : Addr}, H p = none → B p = none := fun h => S.ex.free h
  cases rx <;> cases ry <;> try cases hd
  case int.int => exact .inl (.inl ⟨_, _, rfl, rfl, k _ fp B H (.refl S) (.int _)⟩)
  case str.str =>
    obtain ⟨hl, rfl⟩ := ite_some hd
    exact .inl (.inr ⟨_, _, rfl, rfl, by rw [← szL_eq]; exact hl, k _ fp B H (.refl S) (.str _)⟩)
  case tup.tup a xs ds ha hr b ys es hb hs =>
    obtain ⟨hl, rfl⟩ := ite_some hd
    have e1 := hr.length
    have e2 := hs.length
    refine .inr (.inl ⟨a, b, xs, ys, rfl, rfl, SqT.of (S.ex _ _ ha), SqT.of (S.ex _ _ hb), by rw [← szL_eq]; omega, fun e => ?_, fun n e => ?_, fun n m p hp => ?_⟩)
    · subst e
      cases hr
      exact k _ fp B H (.refl S) (.tup hb hs)
    · subst e
      cases hs
      rw [List.append_nil] at k
      exact k _ fp B H (.refl S) (.tup ha hr)
    · exact k _ _ _ _ (S.laid _ hp) (.tup upd_same ((hr.app hs).mono (Ex.new (fr hp))))
  case lst.lst a xs ds ha hr b ys es hb hs =>
    obtain ⟨hl, rfl⟩ := ite_some hd
    have e1 := hr.length
    have e2 := hs.length
    exact .inr (.inr ⟨a, b, xs, ys, rfl, rfl, S.ex _ _ ha, S.ex _ _ hb, by rw [← szL_eq]; omega, fun p hp => k _ _ _ _ (S.laid _ hp) (.lst upd_same ((hr.app hs).mono (Ex.new (fr hp))))⟩)
/-- * -/
def mulD : D → D → Option D
  | .int i, .int j => if cMl i j = true then some (.int (i * j)) else none
  | .tup xs, .int k => if -1000 ≤ k ∧ k ≤ 1000 ∧ xs.length ≤ 1000 then some (.tup (List.replicate k.toNat xs).flatten) else none
  | _, _ => none
theorem rep_rep {K : PySem.W.Frag} {B : Hp} {xs : List V} {ds : List D} (h : RepL K B xs ds) : ∀ n, RepL K B (List.replicate n xs).flatten (List.replicate n ds).flatten
  | 0 => .nil
  | n + 1 => by rw [List.replicate_succ, List.replicate_succ, List.flatten_cons, List.flatten_cons]; exact h.app (rep_rep h n)
theorem op_mulV {X : Cx} : OpR X (binaryOp .Mult) (fun x y H Q => rI CMul (fun i j => .int (i * j)) x y H Q ∨ rRepA X.K x y H Q) := op_mul.or op_repA
theorem og_mul {c : Cn} : OpG c (fun x y H Q => rI CMul (fun i j => .int (i * j)) x y H Q ∨ rRepA c.K x y H Q) mulD (relV c) := fun {fp0 H0 B ρ fp σ H x y dx dy Q} S hz rx ry q => by
  obtain ⟨d, hd, k⟩ := at_lift q
  cases rx <;> cases ry <;> try cases hd
  case int.int =>
    obtain ⟨hl, rfl⟩ := ite_some hd
    exact .inl ⟨_, _, rfl, rfl, cMl_ok _ _ hl, k _ fp B H (.refl S) (.int _)⟩
  case tup.int a xs ds ha hr n =>
    obtain ⟨hl, rfl⟩ := ite_some hd
    have e1 := hr.length
    refine .inr ⟨a, n, xs, rfl, rfl, SqT.of (S.ex _ _ ha), hl.1, hl.2.1, by omega, fun e => ?_, fun n1 n2 p hp => ?_⟩
    · refine k _ fp B H (.refl S) (.tup ha ?_)
      rcases e with e | e
      · subst e
        cases hr
        have : (List.replicate n.toNat ([] : List D)).flatten = [] := by simp
        rw [this]; exact .nil
      · subst e
        show RepL c.K B xs ([ds].flatten)
        rw [List.flatten_cons, List.flatten_nil, List.append_nil]; exact hr
    · exact k _ _ _ _ (S.laid _ hp) (.tup upd_same ((rep_rep hr _).mono (Ex.new (S.ex.free hp))))
/-! ==, != -/
mutual
def toP : D → PyData
  | .non => .none
  | .bl b => .bool b
  | .int i => .int i
  | .str x => .str x
  | .tup xs => .tuple (toPs xs)
  | .lst xs => .list (toPs xs)
  | .scr xs => .list (toPs xs)
  | .dic _ => .dict []
  | .dit _ => .dict []
def toPs : List D → List PyData
  | [] => []
  | x :: xs => toP x :: toPs xs
end
theorem dp_of {K : PySem.W.Frag} {B : Hp} : ∀ {v : V} {d : D}, Rep K B v d → (toP d).canLay0 = true → Dp K B v (toP d) := fun {v d} h =>
  Rep.rec (motive_1 := fun v d _ => (toP d).canLay0 = true → Dp K B v (toP d)) (motive_2 := fun v d _ => PyData.canLayAll0 (toPs d) = true → DpAll K B v (toPs d)) (motive_3 := fun _ _ _ => True) (motive_4 := fun _ _ _ => True)
    (fun _ => by unfold toP; exact .non) (fun b _ => by unfold toP; exact .bl b) (fun b _ => by unfold toP; exact .int b) (fun b _ => by unfold toP; exact .str b)
    (fun h _ i q => by unfold toP at q ⊢; exact .tup (SqT.of h) (i (by simpa [PyData.canLay0] using q))) (fun h _ i q => by unfold toP at q ⊢; exact .lst (SqL.of h) (i (by simpa [PyData.canLay0] using q))) (fun h _ i q => by unfold toP at q ⊢; exact .lst h (i (by simpa [PyData.canLay0] using q)))
    (fun _ _ _ q => by simp [toP, PyData.canLay0] at q) (fun _ _ _ q => by simp [toP, PyData.canLay0] at q)
    (fun _ => by unfold toPs; exact .nil) (fun _ _ a b q => by
      unfold toPs at q ⊢
      have q2 := by simpa [PyData.canLayAll0] using q
      exact .cons (a q2.1) (b q2.2)) trivial (fun _ _ _ _ => trivial) trivial (fun _ _ _ _ => trivial) h
def eqD (x y : D) : Option D := if SeqAt.shaped (toP x) = true ∧ SeqAt.shaped (toP y) = true then some (.bl (PyData.eqv (toP x) (toP y))) else none
def neD (x y : D) : Option D := if SeqAt.shaped (toP x) = true ∧ SeqAt.shaped (toP y) = true then some (.bl (!PyData.eqv (toP x) (toP y))) else none
section
variable {c : Cn} {X : Cx}
theorem og_eq : OpG c (rEqD c.K) eqD (relV c) := fun {fp0 H0 B ρ fp σ H x y dx dy Q} S hz rx ry q => by
  obtain ⟨d, hd, k⟩ := at_lift q
  obtain ⟨h, rfl⟩ := ite_some hd
  exact ⟨_, _, dp_of (rx.mono S.ex) (SeqAt.canLay_of_shaped h.1), dp_of (ry.mono S.ex) (SeqAt.canLay_of_shaped h.2), h.1, h.2, k _ fp B H (.refl S) (.bl _)⟩
theorem og_ne : OpG c (rNeD c.K) neD (relV c) := fun {fp0 H0 B ρ fp σ H x y dx dy Q} S hz rx ry q => by
  obtain ⟨d, hd, k⟩ := at_lift q
  obtain ⟨h, rfl⟩ := ite_some hd
  exact ⟨_, _, dp_of (rx.mono S.ex) (SeqAt.canLay_of_shaped h.1), dp_of (ry.mono S.ex) (SeqAt.canLay_of_shaped h.2), h.1, h.2, k _ fp B H (.refl S) (.bl _)⟩
def isB : D → D → Option D
  | .bl a, .bl b => some (.bl (decide (a = b)))
  | _, _ => none
def isNotB : D → D → Option D
  | .bl a, .bl b => some (.bl (!decide (a = b)))
  | _, _ => none
theorem og_isB : OpG c rIsB isB (relV c) := fun {fp0 H0 B ρ fp σ H x y dx dy Q} S hz rx ry q => by
  obtain ⟨d, hd, k⟩ := at_lift q
  cases rx <;> cases ry <;> try cases hd
  exact ⟨_, _, rfl, rfl, k _ fp B H (.refl S) (.bl _)⟩
theorem og_isNotB : OpG c rNotB isNotB (relV c) := fun {fp0 H0 B ρ fp σ H x y dx dy Q} S hz rx ry q => by
  obtain ⟨d, hd, k⟩ := at_lift q
  cases rx <;> cases ry <;> try cases hd
  exact ⟨_, _, rfl, rfl, k _ fp B H (.refl S) (.bl _)⟩
def isNon : D → Bool
  | .non => true
  | _ => false
def isN : D → D → Option D
  | x, .non => some (.bl (isNon x))
  | _, _ => none
def isNotN : D → D → Option D
  | x, .non => some (.bl (!isNon x))
  | _, _ => none
theorem isNon_rep {K : PySem.W.Frag} {B : Hp} {v : V} {d : D} (h : Rep K B v d) : decide (v = .non) = isNon d := by
  cases h <;> first | rfl | exact decide_eq_false (fun e => by cases e)
theorem og_isN : OpG c (fun x y H Q => y = .non ∧ Q (.bl (decide (x = .non))) H) isN (relV c) := fun {fp0 H0 B ρ fp σ H x y dx dy Q} S hz rx ry q => by
  obtain ⟨d, hd, k⟩ := at_lift q
  cases ry <;> try cases hd
  refine ⟨rfl, ?_⟩
  rw [isNon_rep rx]
  exact k _ fp B H (.refl S) (.bl _)
theorem og_isNotN : OpG c (fun x y H Q => y = .non ∧ Q (.bl (!decide (x = .non))) H) isNotN (relV c) := fun {fp0 H0 B ρ fp σ H x y dx dy Q} S hz rx ry q => by
  obtain ⟨d, hd, k⟩ := at_lift q
  cases ry <;> try cases hd
  refine ⟨rfl, ?_⟩
  rw [isNon_rep rx]
  exact k _ fp B H (.refl S) (.bl _)
end
section
variable {c : Cn} {X : Cx} {a b d e : Expr} {fa fb fd : M D} {pos : Pos}
theorem EV_add (ha : EV c X a fa) (hb : EV c X b fb) (hK : c.K = X.K := by rfl) : EV c X (.BinOp a .Add b pos) (op2 addD fa fb) := E_op op_addV (by rw [← hK]; exact og_add) ha hb
theorem EV_sub (ha : EV c X a fa) (hb : EV c X b fb) : EV c X (.BinOp a .Sub b pos) (op2 subD fa fb) := E_op op_sub og_I0 ha hb
theorem EV_mul (ha : EV c X a fa) (hb : EV c X b fb) (hK : c.K = X.K := by rfl) : EV c X (.BinOp a .Mult b pos) (op2 mulD fa fb) := E_op op_mulV (by rw [← hK]; exact og_mul) ha hb
theorem EV_fdiv (ha : EV c X a fa) (hb : EV c X b fb) : EV c X (.BinOp a .FloorDiv b pos) (op2 divD fa fb) := E_op op_fdivW (og_I cDiv_ok) ha hb
theorem EV_mod (ha : EV c X a fa) (hb : EV c X b fb) : EV c X (.BinOp a .Mod b pos) (op2 modD fa fb) := E_op op_mod (og_I fun _ _ h => cMod_iff.mp h) ha hb
theorem EV_pow (ha : EV c X a fa) (hb : EV c X b fb) : EV c X (.BinOp a .Pow b pos) (op2 powD fa fb) := E_op op_pow (og_I cSh_ok) ha hb
theorem EV_shl (ha : EV c X a fa) (hb : EV c X b fb) : EV c X (.BinOp a .LShift b pos) (op2 shlD fa fb) := E_op op_shl (og_I cSh_ok) ha hb
theorem EV_shr (ha : EV c X a fa) (hb : EV c X b fb) : EV c X (.BinOp a .RShift b pos) (op2 shrD fa fb) := E_op op_shr (og_I fun _ _ h => cShr_iff.mp h) ha hb
theorem EV_band (ha : EV c X a fa) (hb : EV c X b fb) : EV c X (.BinOp a .BitAnd b pos) (op2 andD fa fb) := E_op op_and og_I0 ha hb
theorem EV_bor (ha : EV c X a fa) (hb : EV c X b fb) : EV c X (.BinOp a .BitOr b pos) (op2 orD fa fb) := E_op op_or og_I0 ha hb
theorem EV_xor (ha : EV c X a fa) (hb : EV c X b fb) : EV c X (.BinOp a .BitXor b pos) (op2 xorD fa fb) := E_op op_xor og_I0 ha hb
/-- the comparisons of two: op's rule and what it is upon data -/
structure CmpK (c : Cn) (X : Cx) (op : CmpOp) (g : D → D → Option D) : Prop where
  ex : ∃ r, OpR X (compareOp op) r ∧ OpG c r g (relV c)
theorem ck_lt : CmpK c X .Lt ltD := ⟨_, op_lt, og_B⟩
theorem ck_le : CmpK c X .LtE leD := ⟨_, op_le, og_B⟩
theorem ck_gt : CmpK c X .Gt gtD := ⟨_, op_gt, og_B⟩
theorem ck_ge : CmpK c X .GtE geD := ⟨_, op_ge, og_B⟩
theorem ck_eq {k : Nat} (hr : Room k X.A) (hK : c.K = X.K := by rfl) : CmpK c X .Eq eqD := ⟨_, op_eqD hr.units, by rw [← hK]; exact og_eq⟩
theorem ck_ne {k : Nat} (hr : Room k X.A) (hK : c.K = X.K := by rfl) : CmpK c X .NotEq neD := ⟨_, op_neD hr.units, by rw [← hK]; exact og_ne⟩
theorem ck_isB : CmpK c X .Is isB := ⟨_, op_isBl, og_isB⟩
theorem ck_isNotB : CmpK c X .IsNot isNotB := ⟨_, op_notBl, og_isNotB⟩
theorem ck_isN : CmpK c X .Is isN := ⟨_, op_isN, og_isN⟩
theorem ck_isNotN : CmpK c X .IsNot isNotN := ⟨_, op_notN, og_isNotN⟩
theorem EV_cmp {op : CmpOp} {g : D → D → Option D} (h : CmpK c X op g) (ha : EV c X a fa) (hb : EV c X b fb) (hm : behindInMarks op b = false := by first | exact nomark _ | rfl) : EV c X (.Compare a [op] [b] pos) (op2 g fa fb) :=
  let ⟨_, h1, h2⟩ := h.ex; E_cmp h1 h2 ha hb hm
theorem ET_cm {op : CmpOp} {g : D → D → Option D} (h : CmpK c X op g) (ha : EV c X a fa) (hb : EV c X b fb) (hm : behindInMarks op b = false := by first | exact nomark _ | rfl) : ET c X (.Compare a [op] [b] pos) (tst (op2 g fa fb)) :=
  let ⟨_, h1, h2⟩ := h.ex; ET_cmp h1 h2 ha hb hm
end
end Fl

set_option maxHeartbeats 1000000
namespace Fl
open PySem PySem.Spec PyProof.Rows L2

theorem peOr {X : Cx} {e : Expr} {t t' : TE} (h : PE X e t) (h' : PE X e t') : PE X e (fun σ H Q => t σ H Q ∨ t' σ H Q) := ⟨fun pins s σ H Q I w => w.elim (h.run pins s σ H Q I) (h'.run pins s σ H Q I)⟩
section
variable {c : Cn} {X : Cx} {a b d e : Expr} {fa fb fd : M D} {pos : Pos}
/-- a < b < d -/
theorem EV_chn {op op' : CmpOp} {g g' : D → D → Option D} (h : CmpK c X op g) (h' : CmpK c X op' g') (ha : EV c X a fa) (hb : EV c X b fb) (hd : EV c X d fd) (hm : lastMarks [op, op'] [b, d] = false := by with_unfolding_all rfl) :
    EV c X (.Compare a [op, op'] [b, d] pos) (chn g g' fa fb fd) := by
  obtain ⟨r, h1, h2⟩ := h.ex
  obtain ⟨r', h3, h4⟩ := h'.ex
  exact peOf (pe_chain h1 h3 ha hb hd hm) fun σ H Q ⟨B, ρ, fp, S, q⟩ => ⟨B, ρ, fp, S, at_bnd q fun x dx ρ1 fp1 B1 H1 g1 r1 q1 => ⟨B1, ρ1, fp1, g1.sr, at_bnd q1 fun y dy ρ2 fp2 B2 H2 g2 r2 q2 =>
    h2 g2.sr (fun _ z => z) (r1.mono g2.b) r2 (at_bnd q2 fun z dz ρ3 fp3 B3 H3 g3 r3 q3 => by
      obtain ⟨k, rfl, q4⟩ := at_tru g3.sr r3 q3
      refine ⟨k, rfl, ?_⟩
      split
      · rename_i hk; rw [if_pos hk] at q4
        exact ⟨B3, ρ3, fp3, g3.sr, at_bnd q4 fun u du ρ4 fp4 B4 H4 g4 r4 q5 => h4 g4.sr (fun _ z => g1.non (g2.non (g3.non (g4.non z)))) (r2.mono (g3.b.trans g4.b)) r4 q5⟩
      · rename_i hk; rw [if_neg hk] at q4
        exact at_pur q4 _ _ _ _ (.refl g3.sr) (.bl false))⟩⟩
theorem ET_chn {op op' : CmpOp} {g g' : D → D → Option D} (h : CmpK c X op g) (h' : CmpK c X op' g') (ha : EV c X a fa) (hb : EV c X b fb) (hd : EV c X d fd) (hm : lastMarks [op, op'] [b, d] = false := by with_unfolding_all rfl) :
    ET c X (.Compare a [op, op'] [b, d] pos) (tst (chn g g' fa fb fd)) := by
  obtain ⟨r, h1, h2⟩ := h.ex
  obtain ⟨r', h3, h4⟩ := h'.ex
  exact ptOf (pt_chain h1 h3 ha hb hd hm) fun σ H Q ⟨B, ρ, fp, S, q⟩ => ⟨B, ρ, fp, S, at_bnd (at_tst q) fun x dx ρ1 fp1 B1 H1 g1 r1 q1 => ⟨B1, ρ1, fp1, g1.sr, at_bnd q1 fun y dy ρ2 fp2 B2 H2 g2 r2 q2 =>
    h2 g2.sr (fun _ z => z) (r1.mono g2.b) r2 (at_bnd q2 fun z dz ρ3 fp3 B3 H3 g3 r3 q3 => by
      obtain ⟨k, rfl, q4⟩ := at_tru g3.sr r3 q3
      refine ⟨k, rfl, ?_⟩
      split
      · rename_i hk; rw [if_pos hk] at q4
        exact ⟨B3, ρ3, fp3, g3.sr, at_bnd q4 fun u du ρ4 fp4 B4 H4 g4 r4 q5 => h4 g4.sr (fun _ z => g1.non (g2.non (g3.non (g4.non z)))) (r2.mono (g3.b.trans g4.b)) r4 q5⟩
      · rename_i hk; rw [if_neg hk] at q4
        exact at_pur q4 _ _ _ _ (.refl g3.sr) (.bl false))⟩⟩
end

/-! ### dicts as lists of pairs -/
section
variable {κ : Type} [DecidableEq κ]
def getE (es : List (κ × D)) (k : κ) : Option D := (es.find? fun e => decide (e.1 = k)).map (·.2)
def putE (es : List (κ × D)) (k : κ) (d : D) : List (κ × D) := if (es.any fun e => decide (e.1 = k)) = true then es.map (fun e => if e.1 = k then (e.1, d) else e) else es ++ [(k, d)]
def dropE (es : List (κ × D)) (k : κ) : List (κ × D) := es.filter fun e => decide (e.1 ≠ k)
def RepP (K : PySem.W.Frag) (B : Hp) : List (κ × V) → List (κ × D) → Prop := Paired fun p q => p.1 = q.1 ∧ Rep K B p.2 q.2
theorem RepP.get {K : PySem.W.Frag} {B : Hp} (k : κ) : ∀ {xs : List (κ × V)} {es : List (κ × D)}, RepP K B xs es → (∀ d, getE es k = some d → ∃ v, valV xs k = some v ∧ Rep K B v d) ∧ (getE es k = none → valV xs k = none)
  | _, _, .nil => ⟨fun d h => by simp [getE] at h, fun _ => rfl⟩
  | p :: xs, q :: es, .cons ⟨h1, h2⟩ t => by
    obtain ⟨i1, i2⟩ := RepP.get k t
    by_cases e : q.1 = k
    · have e' : p.1 = k := h1.trans e
      rw [valV_pos e']
      have g : getE (q :: es) k = some q.2 := by simp [getE, List.find?_cons, e]
      rw [g]
      exact ⟨fun d hd => ⟨_, rfl, by cases hd; exact h2⟩, fun h => by cases h⟩
    · have e' : ¬ p.1 = k := fun z => e (h1.symm.trans z)
      rw [valV_neg e']
      have g : getE (q :: es) k = getE es k := by simp [getE, List.find?_cons, e]
      rw [g]
      exact ⟨i1, i2⟩
theorem RepP.any {K : PySem.W.Frag} {B : Hp} (k : κ) : ∀ {xs : List (κ × V)} {es : List (κ × D)}, RepP K B xs es → (xs.any fun e => decide (e.1 = k)) = es.any fun e => decide (e.1 = k)
  | _, _, .nil => rfl
  | p :: xs, q :: es, .cons ⟨h1, _⟩ t => by rw [List.any_cons, List.any_cons, RepP.any k t, h1]
theorem RepP.app {K : PySem.W.Frag} {B : Hp} : ∀ {xs ys : List (κ × V)} {es fs : List (κ × D)}, RepP K B xs es → RepP K B ys fs → RepP K B (xs ++ ys) (es ++ fs)
  | _, _, _, _, .nil, h => h
  | _, _, _, _, .cons a t, h => .cons a (RepP.app t h)
theorem RepP.repl {K : PySem.W.Frag} {B : Hp} (k : κ) {v : V} {d : D} (r : Rep K B v d) : ∀ {xs : List (κ × V)} {es : List (κ × D)}, RepP K B xs es → RepP K B (xs.map fun kv => if kv.1 = k then (kv.1, v) else kv) (es.map fun e => if e.1 = k then (e.1, d) else e)
  | _, _, .nil => .nil
  | p :: xs, q :: es, .cons ⟨h1, h2⟩ t => by
    rw [List.map_cons, List.map_cons]
    refine .cons ?_ (RepP.repl k r t)
    by_cases e : q.1 = k
    · rw [if_pos e, if_pos (h1.trans e)]; exact ⟨h1, r⟩
    · rw [if_neg e, if_neg fun z => e (h1.symm.trans z)]; exact ⟨h1, h2⟩
theorem RepP.put {K : PySem.W.Frag} {B : Hp} (k : κ) {v : V} {d : D} (r : Rep K B v d) {xs : List (κ × V)} {es : List (κ × D)} (h : RepP K B xs es) : RepP K B (putK xs k v) (putE es k d) := by
  unfold putK putE
  rw [h.any k]
  split
  · exact h.repl k r
  · exact h.app (.cons ⟨rfl, r⟩ .nil)
theorem RepP.drop {K : PySem.W.Frag} {B : Hp} (k : κ) : ∀ {xs : List (κ × V)} {es : List (κ × D)}, RepP K B xs es → RepP K B (dropK xs k) (dropE es k)
  | _, _, .nil => .nil
  | p :: xs, q :: es, .cons ⟨h1, h2⟩ t => by
    have ih := RepP.drop k t
    unfold dropK dropE at ih ⊢
    rw [List.filter_cons, List.filter_cons, h1]
    split
    · exact .cons ⟨h1, h2⟩ ih
    · exact ih
theorem RepP.length {K : PySem.W.Frag} {B : Hp} {xs : List (κ × V)} {es : List (κ × D)} (h : RepP K B xs es) : xs.length = es.length := Paired.length h
end
theorem RepK.p {K : PySem.W.Frag} {B : Hp} : ∀ {xs : List (Key × V)} {es : List (Key × D)}, RepK K B xs es → RepP K B xs es
  | _, _, .nil => .nil
  | _, _, .cons a t => .cons ⟨rfl, a⟩ t.p
theorem RepP.k {K : PySem.W.Frag} {B : Hp} : ∀ {xs : List (Key × V)} {es : List (Key × D)}, RepP K B xs es → RepK K B xs es
  | _, _, .nil => .nil
  | (_, _) :: _, (_, _) :: _, .cons ⟨h, a⟩ t => by cases h; exact .cons a (RepP.k t)
theorem RepT.p {K : PySem.W.Frag} {B : Hp} : ∀ {xs : List (List Key × V)} {es : List (List Key × D)}, RepT K B xs es → RepP K B xs es
  | _, _, .nil => .nil
  | _, _, .cons a t => .cons ⟨rfl, a⟩ t.p
theorem RepP.t {K : PySem.W.Frag} {B : Hp} : ∀ {xs : List (List Key × V)} {es : List (List Key × D)}, RepP K B xs es → RepT K B xs es
  | _, _, .nil => .nil
  | (_, _) :: _, (_, _) :: _, .cons ⟨h, a⟩ t => by cases h; exact .cons a (RepP.t t)
def keyOf : D → Option Key
  | .int i => some (.inl i)
  | .str s => some (.inr s)
  | _ => none
def keysOf : List D → Option (List Key)
  | [] => some []
  | d :: ds => match keyOf d, keysOf ds with
    | some k, some ks => some (k :: ks)
    | _, _ => none
def keyT : D → Option (List Key)
  | .tup ds => keysOf ds
  | _ => none
theorem keyOf_v {K : PySem.W.Frag} {B : Hp} {v : V} {d : D} {k : Key} (r : Rep K B v d) (h : keyOf d = some k) : v = kV k := by
  cases r <;> cases h <;> rfl
theorem keysOf_v {K : PySem.W.Frag} {B : Hp} : ∀ {vs : List V} {ds : List D} {ks : List Key}, RepL K B vs ds → keysOf ds = some ks → vs = ks.map kV
  | _, _, ks, .nil, h => by cases h; rfl
  | v :: vs, d :: ds, ks, .cons a t, h => by
    unfold keysOf at h
    cases h1 : keyOf d with
    | none => rw [h1] at h; cases h
    | some k =>
      cases h2 : keysOf ds with
      | none => rw [h1, h2] at h; cases h
      | some ks' =>
        rw [h1, h2] at h
        cases h
        rw [List.map_cons, keyOf_v a h1, keysOf_v t h2]
/-- what a dict holds at a key: none of no dict, no key -/
def lookD : D → D → Option (Option D)
  | .dic es, k => (keyOf k).map (getE es)
  | .dit es, k => (keyT k).map (getE es)
  | _, _ => none
def putD : D → D → D → Option D
  | .dic es, k, d => match keyOf k with
    | some k => if es.length < szL then some (.dic (putE es k d)) else none
    | none => none
  | .dit es, k, d => match keyT k with
    | some k => if es.length < szL then some (.dit (putE es k d)) else none
    | none => none
  | _, _, _ => none
/-- one that reads: frozen or one's own -/
def Bor (K : PySem.W.Frag) (B H : Hp) (v : V) (d : D) : Prop := Rep K B v d ∨ ∃ P, Own K B H P v d
theorem keyT_v {K : PySem.W.Frag} {B : Hp} {v : V} {d : D} {k : List Key} (r : Rep K B v d) (h : keyT d = some k) : ∃ b, v = .ref b ∧ B b = some (.tup (k.map kV)) := by
  cases r <;> try cases h
  rename_i a xs ds e rl
  have z := keysOf_v rl (show keysOf ds = some k from h)
  subst z
  exact ⟨_, rfl, e⟩
theorem look_get {K : PySem.W.Frag} {B H : Hp} {x y : V} {dx dy : D} {o : Option D} (ex : Ex B H) (hx : Bor K B H x dx) (hy : Rep K B y dy) (h : lookD dx dy = some o) :
    ∃ a r, x = .ref a ∧ DGet H a y r ∧ IsD H a ∧ (∀ d, o = some d → ∃ v, r = some v ∧ Rep K B v d) ∧ (o = none → r = none) := by
  have kk : ∀ {a : Addr} {xs : List (Key × V)} {es : List (Key × D)}, H a = some (.dK xs) → RepP K B xs es → (keyOf dy).map (getE es) = some o → ∃ r, DGet H a y r ∧ IsD H a ∧ (∀ d, o = some d → ∃ v, r = some v ∧ Rep K B v d) ∧ (o = none → r = none) := fun {a xs es} ha hp h => by
    cases hk : keyOf dy with
    | none => rw [hk] at h; cases h
    | some k =>
      rw [hk] at h
      have ho : getE es k = o := Option.some.inj h
      have ey := keyOf_v hy hk
      refine ⟨valV xs k, by rw [ey]; exact DGet.k ha, .inl ⟨xs, .inl ha⟩, ?_⟩
      rw [← ho]
      exact hp.get k
  have tt : ∀ {a : Addr} {xs : List (List Key × V)} {es : List (List Key × D)}, H a = some (.dT xs) → RepP K B xs es → (keyT dy).map (getE es) = some o → ∃ r, DGet H a y r ∧ IsD H a ∧ (∀ d, o = some d → ∃ v, r = some v ∧ Rep K B v d) ∧ (o = none → r = none) := fun {a xs es} ha hp h => by
    cases hk : keyT dy with
    | none => rw [hk] at h; cases h
    | some k =>
      rw [hk] at h
      have ho : getE es k = o := Option.some.inj h
      obtain ⟨b, ey, eb⟩ := keyT_v hy hk
      refine ⟨valV xs k, by rw [ey]; exact DGet.t ha (ex _ _ eb), .inr ⟨xs, .inl ha⟩, ?_⟩
      rw [← ho]
      exact hp.get k
  rcases hx with hx | ⟨P, hx⟩
  · cases hx <;> try cases h
    case dic a xs es e r => obtain ⟨r', h1, h2⟩ := kk (ex _ _ e) r.p h; exact ⟨_, r', rfl, h1, h2⟩
    case dit a xs es e r => obtain ⟨r', h1, h2⟩ := tt (ex _ _ e) r.p h; exact ⟨_, r', rfl, h1, h2⟩
  · cases hx <;> try cases h
    case dic a xs es p e r => obtain ⟨r', h1, h2⟩ := kk e r.p h; exact ⟨_, r', rfl, h1, h2⟩
    case dit a xs es p e r => obtain ⟨r', h1, h2⟩ := tt e r.p h; exact ⟨_, r', rfl, h1, h2⟩
/-- an own dict is stored into -/
theorem put_own {K : PySem.W.Frag} {B H : Hp} {P : Addr → Prop} {x y v : V} {dx dy d dx' : D} (ex : Ex B H) (hub : ∀ a, P a → B a = none) (hx : Own K B H P x dx) (hy : Rep K B y dy) (hv : Rep K B v d) (h : putD dx dy d = some dx') :
    ∃ a o, x = .ref a ∧ P a ∧ DPut H a y v (upd H a o) ∧ Own K B (upd H a o) P x dx' := by
  cases hx <;> try cases h
  case dic a xs es p e r =>
    cases hk : keyOf dy with
    | none => unfold putD at h; simp only [hk] at h; cases h
    | some k =>
      unfold putD at h; simp only [hk] at h
      obtain ⟨hl, rfl⟩ := ite_some h
      have ey := keyOf_v hy hk
      exact ⟨a, _, rfl, p, by rw [ey]; exact DPut.k e (by rw [r.p.length, ← szL_eq]; exact hl), .dic p upd_same (r.p.put k hv).k⟩
  case dit a xs es p e r =>
    cases hk : keyT dy with
    | none => unfold putD at h; simp only [hk] at h; cases h
    | some k =>
      unfold putD at h; simp only [hk] at h
      obtain ⟨hl, rfl⟩ := ite_some h
      obtain ⟨b, ey, eb⟩ := keyT_v hy hk
      exact ⟨a, _, rfl, p, by rw [ey]; exact DPut.t e (ex _ _ eb) (by rw [r.p.length, ← szL_eq]; exact hl), .dit p upd_same (r.p.put k hv).t⟩

/-! ### x[i] -/
def ixD : D → D → Option D
  | .tup xs, .int i => atI xs i
  | .lst xs, .int i => atI xs i
  | .scr xs, .int i => atI xs i
  | .str z, .int i => if z.length ≤ szL then (atI z.cps.toList i).map fun n => .str ⟨#[n]⟩ else none
  | .dic es, k => match lookD (.dic es) k with
    | some (some d) => some d
    | _ => none
  | .dit es, k => match lookD (.dit es) k with
    | some (some d) => some d
    | _ => none
  | _, _ => none
theorem atI_rep {K : PySem.W.Frag} {B : Hp} {xs : List V} {ds : List D} {i : Int} {d : D} (r : RepL K B xs ds) (h : atI ds i = some d) : ∃ v, atI xs i = some v ∧ Rep K B v d := by
  unfold atI at h ⊢
  rw [r.length]
  cases e : ixN ds.length i with
  | none => rw [e] at h; cases h
  | some j => rw [e] at h; exact r.get h
def isDic : D → Bool
  | .dic _ => true
  | .dit _ => true
  | _ => false
theorem ix_val {K : PySem.W.Frag} {B H : Hp} {x y : V} {dx dy d : D} (ex : Ex B H) (hx : Bor K B H x dx) (hy : Rep K B y dy) (h : ixD dx dy = some d) {Q : VK} (q : ∀ v, Rep K B v d → Q v H) :
    if isDic dx = true then ∃ a v, x = .ref a ∧ DGet H a y (some v) ∧ Q v H else rIx K x y H Q := by
  have sq : ∀ {a : Addr} {xs : List V} {ds : List D} {i : Int}, H a = some (.lst xs) → RepL K B xs ds → atI ds i = some d → rIx K (.ref a) (.int i) H Q := fun {a xs ds i} e r h => by
    obtain ⟨v, h1, h2⟩ := atI_rep r h
    exact .inl ⟨a, xs, i, v, rfl, rfl, SqL.of e, h1, q v h2⟩
  have dc : ∀ {dx : D}, Bor K B H x dx → (match lookD dx dy with | some (some d) => some d | _ => none) = some d → ∃ a v, x = .ref a ∧ DGet H a y (some v) ∧ Q v H := fun {dx} hx h => by
    cases e : lookD dx dy with
    | none => rw [e] at h; cases h
    | some o =>
      cases o with
      | none => rw [e] at h; cases h
      | some d2 =>
        rw [e] at h
        cases h
        obtain ⟨a, r, h1, h2, _, h3, _⟩ := look_get ex hx hy e
        obtain ⟨v, rfl, h4⟩ := h3 _ rfl
        exact ⟨a, v, h1, h2, q v h4⟩
  cases dx with
  | tup ds =>
    show rIx K x y H Q
    cases hy <;> try cases h
    rename_i i
    rcases hx with hx | ⟨P, hx⟩
    · cases hx with
      | @tup a xs _ e r =>
        obtain ⟨v, h1, h2⟩ := atI_rep r h
        exact .inr (.inl ⟨a, xs, i, v, rfl, rfl, SqT.of (ex _ _ e), h1, q v h2⟩)
    · cases hx
  | lst ds =>
    show rIx K x y H Q
    cases hy <;> try cases h
    rename_i i
    rcases hx with hx | ⟨P, hx⟩
    · cases hx with
      | lst e r => exact sq (ex _ _ e) r h
    · cases hx with
      | lst p e r => exact sq e r h
  | scr ds =>
    show rIx K x y H Q
    cases hy <;> try cases h
    rename_i i
    rcases hx with hx | ⟨P, hx⟩
    · cases hx with
      | @scr a xs _ e r =>
        obtain ⟨v, h1, h2⟩ := atI_rep r h
        exact .inl ⟨a, xs, i, v, rfl, rfl, ex.l e, h1, q v h2⟩
    · cases hx
  | str z =>
    show rIx K x y H Q
    cases hy <;> try cases h
    rename_i i
    have h' : (if z.length ≤ szL then (atI z.cps.toList i).map fun n => D.str ⟨#[n]⟩ else none) = some d := h
    by_cases hl : z.length ≤ szL
    · rw [if_pos hl] at h'
      cases e : atI z.cps.toList i with
      | none => rw [e] at h'; cases h'
      | some n =>
        rw [e] at h'
        cases h'
        rcases hx with hx | ⟨P, hx⟩
        · cases hx
          exact .inr (.inr ⟨z, i, n, rfl, rfl, by rw [← szL_eq]; exact hl, e, q _ (.str _)⟩)
        · cases hx
    · rw [if_neg hl] at h'; cases h'
  | dic es => exact dc hx h
  | dit es => exact dc hx h
  | _ => cases h
section
variable {X : Cx}
theorem ix_dict (hu : X.A.units + 1 < cLine) : IxR X (fun x y H Q => ∃ a v, x = .ref a ∧ DGet H a y (some v) ∧ Q v H) := by
  intro value slice pins s σ H x y v u Q I rx ry h hs
  obtain ⟨a, w, rfl, g, q⟩ := h
  obtain rfl : v = Value.ref a := rx
  have hT := dict_typeIs I g
  unfold subscriptTail
  refine wpAny_bind ?_
  rw [getitemInPython_of_ne hT.not_modules]
  refine wpAny_bind (wpAny_specialOf hT PySem.F.slot_dict_getitem.lookup ?_)
  have fin : wpAny (model X.prog X.w) X.A (subscripted slice false (.ref a) u) (fun r s₃ => wpAny (model X.prog X.w) X.A (letTemporaryGo value (.ref a) r >>= fun _ => pure r) (EP X pins σ Q) X.xe s₃) X.xe s := by
    rw [hs]
    exact wpAny_operating (d_getItem hu I g ry fun w' s3 I3 rw' => wpAny_bind (wpAny_letTemporaryGo (wpAny_pure ⟨w, H, I3, rw', q⟩)))
  first
    | exact wpAny_pure (wpAny_bind fin)
    | exact wpAny_bind (wpAny_pure (wpAny_bind fin))
    | exact wpAny_bind fin
theorem set_dict (hu : X.A.units + 1 < cLine) : PSet X (fun o i v H Q => ∃ a H', o = .ref a ∧ DPut H a i v H' ∧ Q H') := by
  intro pins s σ H o i v ov iv u Q I ro ri rv h
  obtain ⟨a, H', rfl, g, q⟩ := h
  obtain rfl : ov = Value.ref a := ro
  exact d_setItem hu I g ri rv fun s4 I4 => ⟨H', I4, q⟩
theorem PSet.or {t t' : TSet} (h : PSet X t) (h' : PSet X t') : PSet X (fun o i v H Q => t o i v H Q ∨ t' o i v H Q) := by
  intro pins s σ H o i v ov iv u Q I ro ri rv q
  rcases q with q | q
  · exact h pins s σ H o i v ov iv u Q I ro ri rv q
  · exact h' pins s σ H o i v ov iv u Q I ro ri rv q
end
def rIxA (K : PySem.W.Frag) : R2 := fun x y H Q => (∃ a v, x = .ref a ∧ DGet H a y (some v) ∧ Q v H) ∨ rIx K x y H Q
theorem ix_any {K : PySem.W.Frag} {B H : Hp} {x y : V} {dx dy d : D} (ex : Ex B H) (hx : Bor K B H x dx) (hy : Rep K B y dy) (h : ixD dx dy = some d) {Q : VK} (q : ∀ v, Rep K B v d → Q v H) : rIxA K x y H Q := by
  have z := ix_val ex hx hy h q
  by_cases hc : isDic dx = true
  · rw [if_pos hc] at z; exact .inl z
  · rw [if_neg hc] at z; exact .inr z
section
variable {c : Cn} {X : Cx} {a b e : Expr} {fa fb : M D} {pos : Pos}
theorem EV_ix {k : Nat} (hr : Room k X.A) (ha : EV c X a fa) (hb : EV c X b fb) (hK : c.K = X.K := by rfl) (hs : PlainIx b := by exact fun _ _ => rfl) : EV c X (.Subscript a b pos) (op2 ixD fa fb) :=
  peOf (pe_ix ((ix_dict (hu_of hr)).or ix_seq) ha hb hs) fun σ H Q ⟨B, ρ, fp, S, q⟩ => ⟨B, ρ, fp, S, at_bnd q fun x dx ρ1 fp1 B1 H1 g1 r1 q1 => ⟨B1, ρ1, fp1, g1.sr, at_bnd q1 fun y dy ρ2 fp2 B2 H2 g2 r2 q2 => by
    obtain ⟨d, hd, k⟩ := at_lift q2
    rw [← hK]
    exact ix_any g2.sr.ex (.inl (r1.mono g2.b)) r2 hd fun v w => k v fp2 B2 H2 (.refl g2.sr) w⟩⟩
/-- an item of the thing of a slot -/
def ixS (j : Nat) (fb : M D) : M D := bnd (rd j) fun _ => bnd fb fun k => bnd (rd j) fun x => lift (ixD x k)
theorem EV_ixS {k j : Nat} (hr : Room k X.A) (ha : PE X a (tVar j)) (hb : EV c X b fb) (ho : c.ow j = true := by rfl) (hK : c.K = X.K := by rfl) (hs : PlainIx b := by exact fun _ _ => rfl) : EV c X (.Subscript a b pos) (ixS j fb) :=
  peOf (pe_ix ((ix_dict (hu_of hr)).or ix_seq) ha hb hs) fun σ H Q ⟨B, ρ, fp, S, q⟩ => by
    obtain ⟨d0, hd0, q0⟩ := at_rd q
    obtain ⟨v, hv, _⟩ := S.own ho (get_some hd0)
    refine ⟨v, hv, B, ρ, fp, S, at_bnd q0 fun y dy ρ2 fp2 B2 H2 g2 r2 q2 => ?_⟩
    obtain ⟨dx, hdx, q3⟩ := at_rd q2
    obtain ⟨v2, hv2, o2⟩ := g2.sr.own ho (get_some hdx)
    rw [hv] at hv2; cases hv2
    obtain ⟨d, hd, k⟩ := at_lift q3
    rw [← hK]
    exact ix_any g2.sr.ex (.inr ⟨_, o2⟩) r2 hd fun v w => k v fp2 B2 H2 (.refl g2.sr) w
end
end Fl

set_option maxHeartbeats 1000000
namespace Fl
open PySem PySem.Spec PyProof.Rows L2

/-! ### slices -/
def EO (c : Cn) (X : Cx) (e : Option Expr) (f : M (Option Int)) : Prop := PO X e (can c f (relE c))
def oNone : M (Option Int) := pur none
def intD : D → Option Int
  | .int i => some i
  | _ => none
def oSome (f : M D) : M (Option Int) := bnd f fun d => bnd (lift (intD d)) fun i => pur (some i)
def cutA {α : Type} (xs : List α) (lo hi : Option Int) : List α := (xs.drop (HT.sIx xs.length 0 lo)).take (HT.sIx xs.length xs.length hi - HT.sIx xs.length 0 lo)
theorem cut_rep {K : PySem.W.Frag} {B : Hp} {xs : List V} {ds : List D} (r : RepL K B xs ds) (lo hi : Option Int) : RepL K B (cutV xs lo hi) (cutA ds lo hi) := by
  unfold cutV cutA
  rw [r.length]
  exact (r.drop _).take _
def slD (d : D) (lo hi : Option Int) : Option D := match d with
  | .tup xs => some (.tup (cutA xs lo hi))
  | .lst xs => some (.lst (cutA xs lo hi))
  | .str z => if z.length ≤ szL then some (.str (cutS z lo hi)) else none
  | _ => none
def slM (fa : M D) (fl fh : M (Option Int)) : M D := bnd fa fun x => bnd fl fun l => bnd fh fun h => lift (slD x l h)
theorem poOf {X : Cx} {e : Option Expr} {t t' : TO} (h : PO X e t) (k : ∀ σ H Q, t' σ H Q → t σ H Q) : PO X e t' := ⟨fun pins s σ H Q I w => h.run pins s σ H Q I (k σ H Q w)⟩
section
variable {c : Cn} {X : Cx} {a b e : Expr} {fa fb : M D} {lo hi : Option Expr} {fl fh : M (Option Int)} {pos p2 : Pos}
theorem EO_none : EO c X none oNone := poOf po_none fun σ H Q ⟨B, ρ, fp, S, q⟩ => at_pur q _ _ _ _ (.refl S) rfl
theorem EO_some (h : EV c X e fa) : EO c X (some e) (oSome fa) := poOf (po_some h) fun σ H Q ⟨B, ρ, fp, S, q⟩ => ⟨B, ρ, fp, S, at_bnd q fun x dx ρ1 fp1 B1 H1 g1 r1 q1 => by
  obtain ⟨i, hi, q2⟩ := at_bl q1
  cases dx <;> try cases hi
  cases r1
  exact ⟨_, rfl, at_pur q2 _ _ _ _ (.refl g1.sr) rfl⟩⟩
/-- a value's slice, frozen -/
theorem EV_sl (ha : EV c X a fa) (hl : EO c X lo fl) (hh : EO c X hi fh) (hK : c.K = X.K := by rfl) : EV c X (.Subscript a (.Slice lo hi none p2) pos) (slM fa fl fh) :=
  peOf (pe_slice (sl_tupA.or (sl_list.or sl_str)) ha hl hh) fun σ H Q ⟨B, ρ, fp, S, q⟩ => ⟨B, ρ, fp, S, at_bnd q fun x dx ρ1 fp1 B1 H1 g1 r1 q1 => ⟨B1, ρ1, fp1, g1.sr, at_bnd q1 fun l l' ρ2 fp2 B2 H2 g2 r2 q2 => ⟨B2, ρ2, fp2, g2.sr, at_bnd q2 fun h h' ρ3 fp3 B3 H3 g3 r3 q3 => by
    cases r2
    cases r3
    rw [← hK]
    obtain ⟨d, hd, k⟩ := at_lift q3
    have r := r1.mono (g2.b.trans g3.b)
    cases r with
    | @tup _ _ ds e rl =>
      cases hd
      refine .inl ⟨_, _, rfl, SqT.of (g3.sr.ex _ _ e), fun hw => ?_, fun hw p hp => ?_⟩
      · refine k _ fp3 B3 H3 (.refl g3.sr) (.tup e ?_)
        have : cutA ds l h = ds := by
          unfold cutA
          rw [← rl.length, hw.1, hw.2]
          simp [rl.length]
        rw [this]; exact rl
      · exact k _ _ _ _ (g3.sr.laid _ hp) (.tup upd_same ((cut_rep rl l h).mono (Ex.new (g3.sr.ex.free hp))))
    | lst e rl =>
      cases hd
      exact .inr (.inl ⟨_, _, rfl, SqL.of (g3.sr.ex _ _ e), fun p hp => k _ _ _ _ (g3.sr.laid _ hp) (.lst upd_same ((cut_rep rl l h).mono (Ex.new (g3.sr.ex.free hp))))⟩)
    | str z =>
      obtain ⟨hz, rfl⟩ := ite_some hd
      exact .inr (.inr ⟨_, rfl, by rw [← szL_eq]; exact hz, k _ fp3 B3 H3 (.refl g3.sr) (.str _)⟩)
    | _ => cases hd⟩⟩⟩
/-- of the thing of a slot (a list): a new one -/
def slS (j : Nat) (fl fh : M (Option Int)) : M D := bnd (rd j) fun _ => bnd fl fun l => bnd fh fun h => bnd (rd j) fun x => lift (slD x l h)
theorem EN_slS {j : Nat} (ha : PE X a (tVar j)) (hl : EO c X lo fl) (hh : EO c X hi fh) (ho : c.ow j = true := by rfl) : EN c X (.Subscript a (.Slice lo hi none p2) pos) (slS j fl fh) :=
  peOf (pe_slice sl_list ha hl hh) fun σ H Q ⟨B, ρ, fp, S, q⟩ => by
    obtain ⟨d0, hd0, q0⟩ := at_rd q
    obtain ⟨v, hv, _⟩ := S.own ho (get_some hd0)
    refine ⟨v, hv, B, ρ, fp, S, at_bnd q0 fun l l' ρ2 fp2 B2 H2 g2 r2 q2 => ⟨B2, ρ2, fp2, g2.sr, at_bnd q2 fun h h' ρ3 fp3 B3 H3 g3 r3 q3 => ?_⟩⟩
    cases r2
    cases r3
    obtain ⟨dx, hdx, q4⟩ := at_rd q3
    obtain ⟨v2, hv2, o2⟩ := g3.sr.own ho (get_some hdx)
    rw [hv] at hv2; cases hv2
    obtain ⟨d, hd, k⟩ := at_lift q4
    cases o2 with
    | lst p e rl => cases hd; exact ⟨_, _, rfl, SqL.of e, fun p' hp => fin_own g3.sr k hp (g2.non (g3.non hp)) (.lst rfl upd_same (cut_rep rl l h))⟩
    | _ => cases hd
/-- xs[::-1] -/
def revD : D → Option D
  | .lst xs => some (.lst xs.reverse)
  | _ => none
theorem EN_rev {k : Nat} {p1 p2 p3 pos : Pos} (ha : EB c X a fa) (hK : c.K = X.K := by rfl) : EN c X (.Subscript a (.Slice none none (some (.UnaryOp .USub (.Constant (.int 1) k p1) p2)) p3) pos) (op1 revD fa) :=
  peOf (pe_revL ha) fun σ H Q ⟨B, ρ, fp, S, q⟩ => ⟨B, ρ, fp, S, at_bnd q fun x dx ρ1 fp1 B1 H1 g1 r1 q1 => by
    obtain ⟨d, hd, k⟩ := at_lift q1
    rw [← hK]
    cases dx <;> try cases hd
    rcases r1 with r | ⟨P, r⟩
    · cases r with
      | lst e rl => exact ⟨_, _, rfl, SqL.of (g1.sr.ex _ _ e), fun p hp => fin_own g1.sr k hp (g1.non hp) (.lst rfl upd_same rl.rev)⟩
    · cases r with
      | lst p e rl => exact ⟨_, _, rfl, SqL.of e, fun p hp => fin_own g1.sr k hp (g1.non hp) (.lst rfl upd_same rl.rev)⟩⟩
end

/-! ### built-ins of one argument -/
def Cg1 (c : Cn) (r : List V → Hp → VK → Prop) (g : D → Option D) (rel : Rel V D) : Prop := ∀ {fp0 H0 B ρ fp σ H x dx Q}, SR c.K c.ow B H σ ρ fp → (∀ a, H a = none → H0 a = none) → Bor c.K B H x dx → c.at fp0 H0 B ρ fp (lift (g dx)) rel σ H Q → r [x] H Q
section
variable {c : Cn} {X : Cx} {a b e : Expr} {fa fb : M D} {x : Str} {p pos : Pos} {id T : String}
theorem E_b1 {r : List V → Hp → VK → Prop} {g : D → Option D} {rel : Rel V D} (hc : CallR X (.builtin id) r) (hg : Cg1 c r g rel) (hm : X.mg x = none) (ha : EB c X a fa) (hx : Gl X x := by rfl) (hv : bootBuiltins x = some (.builtin id) := by decide +kernel)
    (hn : x ≠ "__name__" := by decide) (hdb : (x == ("__debug__" : Str)) = false := by decide) (hs : starEach [a] X.env = (false, eval a X.env) :: starEach [] X.env := by rfl) (hpl : (backTo pos (starEach [] X.env)).any (·.1) = false := by rfl) :
    PE X (.Call (.Name x p) [a] [] pos) (can c (op1 g fa) rel) :=
  peOf (pe_callB hc hx hm hv (pa_cons ha pa_nil hs) hn hdb hs hpl) fun σ H Q ⟨B, ρ, fp, S, q⟩ => ⟨B, ρ, fp, S, at_bnd q fun x dx ρ1 fp1 B1 H1 g1 r1 q1 => hg g1.sr (fun _ z => g1.non z) r1 q1⟩
theorem E_t1 {r : List V → Hp → VK → Prop} {g : D → Option D} {rel : Rel V D} (hc : CallR X (.type T) r) (hg : Cg1 c r g rel) (hm : X.mg x = none) (ha : EB c X a fa) (hx : Gl X x := by rfl) (hv : bootBuiltins x = some (.type T) := by decide +kernel)
    (hn : x ≠ "__name__" := by decide) (hdb : (x == ("__debug__" : Str)) = false := by decide) (hs : starEach [a] X.env = (false, eval a X.env) :: starEach [] X.env := by rfl) (hpl : (backTo pos (starEach [] X.env)).any (·.1) = false := by rfl) :
    PE X (.Call (.Name x p) [a] [] pos) (can c (op1 g fa) rel) :=
  peOf (pe_callTy hc hx hm hv (pa_cons ha pa_nil hs) hn hdb hs hpl) fun σ H Q ⟨B, ρ, fp, S, q⟩ => ⟨B, ρ, fp, S, at_bnd q fun x dx ρ1 fp1 B1 H1 g1 r1 q1 => hg g1.sr (fun _ z => g1.non z) r1 q1⟩
theorem EB_ofN (h : EN c X e fa) : EB c X e fa := peOf h fun σ H Q ⟨B, ρ, fp, S, q⟩ => ⟨B, ρ, fp, S, by
  unfold Cn.at at q ⊢
  cases e : fa ρ with
  | no => rw [e] at q; exact q
  | ex x d ρ' => rw [e] at q; exact q
  | ok d ρ' => rw [e] at q; exact fun v fp' B' H' g ⟨P, o, k⟩ => q v fp' B' H' g (.inr ⟨P, o⟩)⟩
end
def lenD : D → Option D
  | .tup xs => some (.int xs.length)
  | .lst xs => some (.int xs.length)
  | .scr xs => some (.int xs.length)
  | .str z => if z.length ≤ szL then some (.int z.length) else none
  | .dic es => some (.int es.length)
  | _ => none
def tupD : D → Option D
  | .tup xs => some (.tup xs)
  | .lst xs => some (.tup xs)
  | .scr xs => some (.tup xs)
  | _ => none
def lstD : D → Option D
  | .tup xs => some (.lst xs)
  | .lst xs => some (.lst xs)
  | .scr xs => some (.lst xs)
  | _ => none
def absD : D → Option D
  | .int i => some (.int (if i < 0 then -i else i))
  | _ => none
def intF : D → Option D
  | .int i => some (.int i)
  | .bl b => some (.int (if b then 1 else 0))
  | _ => none
def intsD : List D → Option (List Int)
  | [] => some []
  | .int i :: ds => (intsD ds).map (i :: ·)
  | _ => none
def blsD : List D → Option (List Bool)
  | [] => some []
  | .bl i :: ds => (blsD ds).map (i :: ·)
  | _ => none
def seqB : D → Option (List D)
  | .lst xs => some xs
  | .scr xs => some xs
  | _ => none
def sumD (d : D) : Option D := ((seqB d).bind intsD).map fun ns => .int ns.sum
def anyD (d : D) : Option D := ((seqB d).bind blsD).map fun bs => .bl (bs.any id)
def allD (d : D) : Option D := ((seqB d).bind blsD).map fun bs => .bl (bs.all id)
def maxI : List Int → Option Int
  | [] => none
  | x :: xs => some (xs.foldl max x)
def minI : List Int → Option Int
  | [] => none
  | x :: xs => some (xs.foldl min x)
def maxD (d : D) : Option D := (((seqB d).bind intsD).bind maxI).map .int
def minD (d : D) : Option D := (((seqB d).bind intsD).bind minI).map .int
theorem intsD_v : ∀ {ds : List D} {ns : List Int}, intsD ds = some ns → ds = ns.map D.int
  | [], ns, h => by cases h; rfl
  | .int i :: ds, ns, h => by
    unfold intsD at h
    cases e : intsD ds with
    | none => rw [e] at h; cases h
    | some ms => rw [e] at h; cases h; rw [List.map_cons, intsD_v e]
  | .non :: _, _, h => by cases h
  | .bl _ :: _, _, h => by cases h
  | .str _ :: _, _, h => by cases h
  | .tup _ :: _, _, h => by cases h
  | .lst _ :: _, _, h => by cases h
  | .scr _ :: _, _, h => by cases h
  | .dic _ :: _, _, h => by cases h
  | .dit _ :: _, _, h => by cases h
theorem intsD_map : ∀ (ns : List Int), intsD (ns.map D.int) = some ns
  | [] => rfl
  | n :: ns => by rw [List.map_cons]; unfold intsD; rw [intsD_map ns]; rfl
theorem blsD_v : ∀ {ds : List D} {ns : List Bool}, blsD ds = some ns → ds = ns.map D.bl
  | [], ns, h => by cases h; rfl
  | .bl i :: ds, ns, h => by
    unfold blsD at h
    cases e : blsD ds with
    | none => rw [e] at h; cases h
    | some ms => rw [e] at h; cases h; rw [List.map_cons, blsD_v e]
  | .non :: _, _, h => by cases h
  | .int _ :: _, _, h => by cases h
  | .str _ :: _, _, h => by cases h
  | .tup _ :: _, _, h => by cases h
  | .lst _ :: _, _, h => by cases h
  | .scr _ :: _, _, h => by cases h
  | .dic _ :: _, _, h => by cases h
  | .dit _ :: _, _, h => by cases h
theorem blsD_map : ∀ (ns : List Bool), blsD (ns.map D.bl) = some ns
  | [] => rfl
  | n :: ns => by rw [List.map_cons]; unfold blsD; rw [blsD_map ns]; rfl
theorem RepL.bls {K : PySem.W.Frag} {B : Hp} : ∀ {xs : List V} {ns : List Bool}, RepL K B xs (ns.map D.bl) → xs = ns.map V.bl
  | _, [], .nil => rfl
  | _, _ :: _, .cons (.bl _) t => congrArg _ (RepL.bls t)
theorem seqB_bor {K : PySem.W.Frag} {B H : Hp} {x : V} {d : D} {ds : List D} (ex : Ex B H) (h : Bor K B H x d) (e : seqB d = some ds) : ∃ a xs, x = .ref a ∧ SqL K H a xs ∧ RepL K B xs ds := by
  cases d <;> try cases e
  · rcases h with h | ⟨P, h⟩
    · cases h with
      | lst e r => exact ⟨_, _, rfl, SqL.of (ex _ _ e), r⟩
    · cases h with
      | lst p e r => exact ⟨_, _, rfl, SqL.of e, r⟩
  · rcases h with h | ⟨P, h⟩
    · cases h with
      | scr e r => exact ⟨_, _, rfl, ex.l e, r⟩
    · cases h
theorem foldl_max : ∀ (xs : List Int) (x : Int), xs.foldl max x ∈ x :: xs ∧ ∀ y ∈ x :: xs, y ≤ xs.foldl max x
  | [], x => ⟨by simp, fun y h => by simp at h; exact Int.le_of_eq h⟩
  | z :: xs, x => by
    obtain ⟨h1, h2⟩ := foldl_max xs (max x z)
    rw [List.foldl_cons]
    refine ⟨?_, fun y h => ?_⟩
    · rcases List.mem_cons.mp h1 with e | e
      · rw [e]
        rcases Int.le_total x z with q | q
        · rw [Int.max_eq_right q]; simp
        · rw [Int.max_eq_left q]; simp
      · exact List.mem_cons_of_mem _ (List.mem_cons_of_mem _ e)
    · have m := h2 (max x z) List.mem_cons_self
      rcases List.mem_cons.mp h with e | e
      · omega
      · rcases List.mem_cons.mp e with e | e
        · omega
        · exact h2 y (List.mem_cons_of_mem _ e)
theorem foldl_min : ∀ (xs : List Int) (x : Int), xs.foldl min x ∈ x :: xs ∧ ∀ y ∈ x :: xs, xs.foldl min x ≤ y
  | [], x => ⟨by simp, fun y h => by simp at h; exact Int.le_of_eq h.symm⟩
  | z :: xs, x => by
    obtain ⟨h1, h2⟩ := foldl_min xs (min x z)
    rw [List.foldl_cons]
    refine ⟨?_, fun y h => ?_⟩
    · rcases List.mem_cons.mp h1 with e | e
      · rw [e]
        rcases Int.le_total x z with q | q
        · rw [Int.min_eq_left q]; simp
        · rw [Int.min_eq_right q]; simp
      · exact List.mem_cons_of_mem _ (List.mem_cons_of_mem _ e)
    · have m := h2 (min x z) List.mem_cons_self
      rcases List.mem_cons.mp h with e | e
      · omega
      · rcases List.mem_cons.mp e with e | e
        · omega
        · exact h2 y (List.mem_cons_of_mem _ e)
section
variable {c : Cn} {X : Cx} {a b e : Expr} {fa fb : M D} {p pos : Pos}
def rLenA (K : PySem.W.Frag) : List V → Hp → VK → Prop := fun xs H Q => (∃ p ys, xs = [.ref p] ∧ (SqL K H p ys ∨ SqT K H p ys) ∧ Q (.int ys.length) H) ∨ (∃ z, xs = [.str z] ∧ z.length ≤ sizeLine ∧ Q (.int z.length) H) ∨ (∃ a kvs, xs = [V.ref a] ∧ H a = some (.dK kvs) ∧ Q (.int kvs.length) H)
theorem cg_len : Cg1 c (rLenA c.K) lenD (relV c) := fun {fp0 H0 B ρ fp σ H x dx Q} S hz hx q => by
  obtain ⟨d, hd, k⟩ := at_lift q
  have kk : ∀ {n m : Nat}, n = m → D.int m = d → Q (.int n) H := fun e e2 => by subst e; subst e2; exact k _ fp B H (.refl S) (.int _)
  rcases hx with h | ⟨P, h⟩
  · cases h with
    | tup e r => cases hd; exact .inl ⟨_, _, rfl, .inr (SqT.of (S.ex _ _ e)), kk r.length rfl⟩
    | lst e r => cases hd; exact .inl ⟨_, _, rfl, .inl (SqL.of (S.ex _ _ e)), kk r.length rfl⟩
    | scr e r => cases hd; exact .inl ⟨_, _, rfl, .inl (S.ex.l e), kk r.length rfl⟩
    | dic e r => cases hd; exact .inr (.inr ⟨_, _, rfl, S.ex _ _ e, kk r.p.length rfl⟩)
    | str z =>
      obtain ⟨hl, rfl⟩ := ite_some hd
      exact .inr (.inl ⟨_, rfl, by rw [← szL_eq]; exact hl, kk rfl rfl⟩)
    | _ => cases hd
  · cases h with
    | lst p e r => cases hd; exact .inl ⟨_, _, rfl, .inl (SqL.of e), kk r.length rfl⟩
    | dic p e r => cases hd; exact .inr (.inr ⟨_, _, rfl, e, kk r.p.length rfl⟩)
    | _ => cases hd
theorem EV_len (hm : X.mg "len" = none) (ha : EB c X a fa) (hK : c.K = X.K := by rfl) (hx : Gl X "len" := by rfl) (hs : starEach [a] X.env = (false, eval a X.env) :: starEach [] X.env := by rfl) (hpl : (backTo pos (starEach [] X.env)).any (·.1) = false := by rfl) :
    EV c X (.Call (.Name "len" p) [a] [] pos) (op1 lenD fa) := E_b1 (call_len_seq.or (call_len_str.or call_lenD)) (by rw [← hK]; exact cg_len) hm ha hx (by decide +kernel) (by decide) (by decide) hs hpl
theorem cg_tup : Cg1 c (fun xs H Q => ∃ p ys, xs = [.ref p] ∧ ((SqL c.K H p ys ∧ ∀ l, H l = none → Q (.ref l) (upd H l (.tup ys))) ∨ (SqT c.K H p ys ∧ Q (.ref p) H))) tupD (relV c) := fun {fp0 H0 B ρ fp σ H x dx Q} S hz hx q => by
  obtain ⟨d, hd, k⟩ := at_lift q
  rcases hx with h | ⟨P, h⟩
  · cases h with
    | tup e r => cases hd; exact ⟨_, _, rfl, .inr ⟨SqT.of (S.ex _ _ e), k _ fp B H (.refl S) (.tup e r)⟩⟩
    | lst e r => cases hd; exact ⟨_, _, rfl, .inl ⟨SqL.of (S.ex _ _ e), fun l hl => k _ _ _ _ (S.laid _ hl) (.tup upd_same (r.mono (Ex.new (S.ex.free hl))))⟩⟩
    | scr e r => cases hd; exact ⟨_, _, rfl, .inl ⟨S.ex.l e, fun l hl => k _ _ _ _ (S.laid _ hl) (.tup upd_same (r.mono (Ex.new (S.ex.free hl))))⟩⟩
    | _ => cases hd
  · cases h with
    | lst p e r => cases hd; exact ⟨_, _, rfl, .inl ⟨SqL.of e, fun l hl => k _ _ _ _ (S.laid _ hl) (.tup upd_same (r.mono (Ex.new (S.ex.free hl))))⟩⟩
    | _ => cases hd
theorem EV_tupO (hm : X.mg "tuple" = none) (ha : EB c X a fa) (hK : c.K = X.K := by rfl) (hx : Gl X "tuple" := by rfl) (hs : starEach [a] X.env = (false, eval a X.env) :: starEach [] X.env := by rfl) (hpl : (backTo pos (starEach [] X.env)).any (·.1) = false := by rfl) :
    EV c X (.Call (.Name "tuple" p) [a] [] pos) (op1 tupD fa) := E_t1 call_tuple_of (by rw [← hK]; exact cg_tup) hm ha hx (by decide +kernel) (by decide) (by decide) hs hpl
theorem cg_lst : Cg1 c (fun xs H Q => ∃ p ys, xs = [.ref p] ∧ (SqL c.K H p ys ∨ SqT c.K H p ys) ∧ ∀ l, H l = none → Q (.ref l) (upd H l (.lst ys))) lstD (relN c) := fun {fp0 H0 B ρ fp σ H x dx Q} S hz hx q => by
  obtain ⟨d, hd, k⟩ := at_lift q
  rcases hx with h | ⟨P, h⟩
  · cases h with
    | tup e r => cases hd; exact ⟨_, _, rfl, .inr (SqT.of (S.ex _ _ e)), fun l hl => fin_own S k hl (hz _ hl) (.lst rfl upd_same r)⟩
    | lst e r => cases hd; exact ⟨_, _, rfl, .inl (SqL.of (S.ex _ _ e)), fun l hl => fin_own S k hl (hz _ hl) (.lst rfl upd_same r)⟩
    | scr e r => cases hd; exact ⟨_, _, rfl, .inl (S.ex.l e), fun l hl => fin_own S k hl (hz _ hl) (.lst rfl upd_same r)⟩
    | _ => cases hd
  · cases h with
    | lst p e r => cases hd; exact ⟨_, _, rfl, .inl (SqL.of e), fun l hl => fin_own S k hl (hz _ hl) (.lst rfl upd_same r)⟩
    | _ => cases hd
theorem EN_lstO (hm : X.mg "list" = none) (ha : EB c X a fa) (hK : c.K = X.K := by rfl) (hx : Gl X "list" := by rfl) (hs : starEach [a] X.env = (false, eval a X.env) :: starEach [] X.env := by rfl) (hpl : (backTo pos (starEach [] X.env)).any (·.1) = false := by rfl) :
    EN c X (.Call (.Name "list" p) [a] [] pos) (op1 lstD fa) := E_t1 call_list_of (by rw [← hK]; exact cg_lst) hm ha hx (by decide +kernel) (by decide) (by decide) hs hpl
theorem cg_abs : Cg1 c (fun xs H Q => ∃ i, xs = [.int i] ∧ Q (.int (if i < 0 then -i else i)) H) absD (relV c) := fun {fp0 H0 B ρ fp σ H x dx Q} S hz hx q => by
  obtain ⟨d, hd, k⟩ := at_lift q
  rcases hx with h | ⟨P, h⟩
  · cases h <;> try cases hd
    exact ⟨_, rfl, k _ fp B H (.refl S) (.int _)⟩
  · cases h <;> cases hd
theorem EV_abs (hm : X.mg "abs" = none) (ha : EB c X a fa) (hx : Gl X "abs" := by rfl) (hs : starEach [a] X.env = (false, eval a X.env) :: starEach [] X.env := by rfl) (hpl : (backTo pos (starEach [] X.env)).any (·.1) = false := by rfl) :
    EV c X (.Call (.Name "abs" p) [a] [] pos) (op1 absD fa) := E_b1 call_abs cg_abs hm ha hx (by decide +kernel) (by decide) (by decide) hs hpl
theorem cg_int : Cg1 c (fun xs H Q => (∃ i, xs = [.int i] ∧ Q (.int i) H) ∨ ∃ k, xs = [.bl k] ∧ Q (.int (if k then 1 else 0)) H) intF (relV c) := fun {fp0 H0 B ρ fp σ H x dx Q} S hz hx q => by
  obtain ⟨d, hd, k⟩ := at_lift q
  rcases hx with h | ⟨P, h⟩
  · cases h <;> try cases hd
    · exact .inr ⟨_, rfl, k _ fp B H (.refl S) (.int _)⟩
    · exact .inl ⟨_, rfl, k _ fp B H (.refl S) (.int _)⟩
  · cases h <;> cases hd
theorem EV_int' (hm : X.mg "int" = none) (ha : EB c X a fa) (hx : Gl X "int" := by rfl) (hs : starEach [a] X.env = (false, eval a X.env) :: starEach [] X.env := by rfl) (hpl : (backTo pos (starEach [] X.env)).any (·.1) = false := by rfl) :
    EV c X (.Call (.Name "int" p) [a] [] pos) (op1 intF fa) := E_t1 call_int1 cg_int hm ha hx (by decide +kernel) (by decide) (by decide) hs hpl
theorem cg_sum : Cg1 c (rSum c.K) sumD (relV c) := fun {fp0 H0 B ρ fp σ H x dx Q} S hz hx q => by
  obtain ⟨d, hd, k⟩ := at_lift q
  unfold sumD at hd
  cases e : seqB dx with
  | none => rw [e] at hd; cases hd
  | some ds =>
    cases e2 : intsD ds with
    | none => rw [e] at hd; simp only [Option.bind_some, e2] at hd; cases hd
    | some ns =>
      rw [e] at hd; simp only [Option.bind_some, e2] at hd; cases hd
      obtain ⟨a, xs, rfl, hs, r⟩ := seqB_bor S.ex hx e
      rw [intsD_v e2] at r
      exact ⟨a, ns, rfl, by rw [← r.ints]; exact hs, k _ fp B H (.refl S) (.int _)⟩
theorem EV_sum (hm : X.mg "sum" = none) (hc : X.calm = true) (ha : EB c X a fa) (hK : c.K = X.K := by rfl) (hx : Gl X "sum" := by rfl) (hs : starEach [a] X.env = (false, eval a X.env) :: starEach [] X.env := by rfl) (hpl : (backTo pos (starEach [] X.env)).any (·.1) = false := by rfl) :
    EV c X (.Call (.Name "sum" p) [a] [] pos) (op1 sumD fa) := E_b1 (cr_sum hc) (by rw [← hK]; exact cg_sum) hm ha hx (by decide +kernel) (by decide) (by decide) hs hpl
theorem cg_any : Cg1 c (rAny c.K) anyD (relV c) := fun {fp0 H0 B ρ fp σ H x dx Q} S hz hx q => by
  obtain ⟨d, hd, k⟩ := at_lift q
  unfold anyD at hd
  cases e : seqB dx with
  | none => rw [e] at hd; cases hd
  | some ds =>
    cases e2 : blsD ds with
    | none => rw [e] at hd; simp only [Option.bind_some, e2] at hd; cases hd
    | some ns =>
      rw [e] at hd; simp only [Option.bind_some, e2] at hd; cases hd
      obtain ⟨a, xs, rfl, hs, r⟩ := seqB_bor S.ex hx e
      rw [blsD_v e2] at r
      exact ⟨a, ns, rfl, by rw [← r.bls]; exact hs, k _ fp B H (.refl S) (.bl _)⟩
theorem EV_any (hm : X.mg "any" = none) (hc : X.calm = true) (ha : EB c X a fa) (hK : c.K = X.K := by rfl) (hx : Gl X "any" := by rfl) (hs : starEach [a] X.env = (false, eval a X.env) :: starEach [] X.env := by rfl) (hpl : (backTo pos (starEach [] X.env)).any (·.1) = false := by rfl) :
    EV c X (.Call (.Name "any" p) [a] [] pos) (op1 anyD fa) := E_b1 (cr_any hc) (by rw [← hK]; exact cg_any) hm ha hx (by decide +kernel) (by decide) (by decide) hs hpl
theorem cg_all : Cg1 c (rAll c.K) allD (relV c) := fun {fp0 H0 B ρ fp σ H x dx Q} S hz hx q => by
  obtain ⟨d, hd, k⟩ := at_lift q
  unfold allD at hd
  cases e : seqB dx with
  | none => rw [e] at hd; cases hd
  | some ds =>
    cases e2 : blsD ds with
    | none => rw [e] at hd; simp only [Option.bind_some, e2] at hd; cases hd
    | some ns =>
      rw [e] at hd; simp only [Option.bind_some, e2] at hd; cases hd
      obtain ⟨a, xs, rfl, hs, r⟩ := seqB_bor S.ex hx e
      rw [blsD_v e2] at r
      exact ⟨a, ns, rfl, by rw [← r.bls]; exact hs, k _ fp B H (.refl S) (.bl _)⟩
theorem EV_all (hm : X.mg "all" = none) (hc : X.calm = true) (ha : EB c X a fa) (hK : c.K = X.K := by rfl) (hx : Gl X "all" := by rfl) (hs : starEach [a] X.env = (false, eval a X.env) :: starEach [] X.env := by rfl) (hpl : (backTo pos (starEach [] X.env)).any (·.1) = false := by rfl) :
    EV c X (.Call (.Name "all" p) [a] [] pos) (op1 allD fa) := E_b1 (cr_all hc) (by rw [← hK]; exact cg_all) hm ha hx (by decide +kernel) (by decide) (by decide) hs hpl
theorem cg_max : Cg1 c (rMax c.K) maxD (relV c) := fun {fp0 H0 B ρ fp σ H x dx Q} S hz hx q => by
  obtain ⟨d, hd, k⟩ := at_lift q
  unfold maxD at hd
  cases e : seqB dx with
  | none => rw [e] at hd; cases hd
  | some ds =>
    cases e2 : intsD ds with
    | none => rw [e] at hd; simp only [Option.bind_some, e2] at hd; cases hd
    | some ns =>
      rw [e] at hd; simp only [Option.bind_some, e2] at hd
      cases ns with
      | nil => cases hd
      | cons n ns =>
        cases hd
        obtain ⟨a, xs, rfl, hs, r⟩ := seqB_bor S.ex hx e
        rw [intsD_v e2] at r
        obtain ⟨m1, m2⟩ := foldl_max ns n
        refine ⟨a, n :: ns, rfl, by rw [← r.ints]; exact hs, by simp, fun m h1 h2 => ?_⟩
        have : m = ns.foldl max n := by
          have a1 := h2 _ m1
          have a2 := m2 _ h1
          omega
        rw [this]
        exact k _ fp B H (.refl S) (.int _)
theorem EV_max (hm : X.mg "max" = none) (hc : X.calm = true) (ha : EB c X a fa) (hK : c.K = X.K := by rfl) (hx : Gl X "max" := by rfl) (hs : starEach [a] X.env = (false, eval a X.env) :: starEach [] X.env := by rfl) (hpl : (backTo pos (starEach [] X.env)).any (·.1) = false := by rfl) :
    EV c X (.Call (.Name "max" p) [a] [] pos) (op1 maxD fa) := E_b1 (cr_max hc) (by rw [← hK]; exact cg_max) hm ha hx (by decide +kernel) (by decide) (by decide) hs hpl
theorem cg_min : Cg1 c (rMin c.K) minD (relV c) := fun {fp0 H0 B ρ fp σ H x dx Q} S hz hx q => by
  obtain ⟨d, hd, k⟩ := at_lift q
  unfold minD at hd
  cases e : seqB dx with
  | none => rw [e] at hd; cases hd
  | some ds =>
    cases e2 : intsD ds with
    | none => rw [e] at hd; simp only [Option.bind_some, e2] at hd; cases hd
    | some ns =>
      rw [e] at hd; simp only [Option.bind_some, e2] at hd
      cases ns with
      | nil => cases hd
      | cons n ns =>
        cases hd
        obtain ⟨a, xs, rfl, hs, r⟩ := seqB_bor S.ex hx e
        rw [intsD_v e2] at r
        obtain ⟨m1, m2⟩ := foldl_min ns n
        refine ⟨a, n :: ns, rfl, by rw [← r.ints]; exact hs, by simp, fun m h1 h2 => ?_⟩
        have : m = ns.foldl min n := by
          have a1 := h2 _ m1
          have a2 := m2 _ h1
          omega
        rw [this]
        exact k _ fp B H (.refl S) (.int _)
theorem EV_min (hm : X.mg "min" = none) (hc : X.calm = true) (ha : EB c X a fa) (hK : c.K = X.K := by rfl) (hx : Gl X "min" := by rfl) (hs : starEach [a] X.env = (false, eval a X.env) :: starEach [] X.env := by rfl) (hpl : (backTo pos (starEach [] X.env)).any (·.1) = false := by rfl) :
    EV c X (.Call (.Name "min" p) [a] [] pos) (op1 minD fa) := E_b1 (cr_min hc) (by rw [← hK]; exact cg_min) hm ha hx (by decide +kernel) (by decide) (by decide) hs hpl
/-! max, min of two; isinstance -/
def max2 : List D → Option D
  | [.int i, .int j] => some (.int (if j > i then j else i))
  | _ => none
def min2 : List D → Option D
  | [.int i, .int j] => some (.int (if j < i then j else i))
  | _ => none
theorem two_ints {K : PySem.W.Frag} {B : Hp} {vs : List V} {i j : Int} (h : RepL K B vs [.int i, .int j]) : vs = [.int i, .int j] := RepL.ints (ns := [i, j]) h
theorem EV_max2 (hm : X.mg "max" = none) (hc : X.calm = true) (ha : EV c X a fa) (hb : EV c X b fb) (hx : Gl X "max" := by rfl) (hs : starEach [a, b] X.env = (false, eval a X.env) :: starEach [b] X.env := by rfl) (hs2 : starEach [b] X.env = (false, eval b X.env) :: starEach [] X.env := by rfl) (hpl : (backTo pos (starEach [b] X.env)).any (·.1) = false := by rfl) :
    EV c X (.Call (.Name "max" p) [a, b] [] pos) (bnd (aCons fa (aCons fb aNil)) fun xs => lift (max2 xs)) :=
  peOf (pe_callB (call_max2 hc) hx hm (by decide +kernel) (EA_cons ha (EA_cons hb EA_nil hs2) hs) (by decide) (by decide) hs hpl) fun σ H Q ⟨B, ρ, fp, S, q⟩ => ⟨B, ρ, fp, S, at_bnd q fun vs ds ρ1 fp1 B1 H1 g r q1 => by
    obtain ⟨d, hd, k⟩ := at_lift q1
    have r := relA_v (n := 2) (B := B) (H := H) r
    unfold max2 at hd
    split at hd <;> cases hd
    exact ⟨_, _, two_ints r, k _ fp1 B1 H1 (.refl g.sr) (.int _)⟩⟩
theorem EV_min2 (hm : X.mg "min" = none) (hc : X.calm = true) (ha : EV c X a fa) (hb : EV c X b fb) (hx : Gl X "min" := by rfl) (hs : starEach [a, b] X.env = (false, eval a X.env) :: starEach [b] X.env := by rfl) (hs2 : starEach [b] X.env = (false, eval b X.env) :: starEach [] X.env := by rfl) (hpl : (backTo pos (starEach [b] X.env)).any (·.1) = false := by rfl) :
    EV c X (.Call (.Name "min" p) [a, b] [] pos) (bnd (aCons fa (aCons fb aNil)) fun xs => lift (min2 xs)) :=
  peOf (pe_callB (call_min2 hc) hx hm (by decide +kernel) (EA_cons ha (EA_cons hb EA_nil hs2) hs) (by decide) (by decide) hs hpl) fun σ H Q ⟨B, ρ, fp, S, q⟩ => ⟨B, ρ, fp, S, at_bnd q fun vs ds ρ1 fp1 B1 H1 g r q1 => by
    obtain ⟨d, hd, k⟩ := at_lift q1
    have r := relA_v (n := 2) (B := B) (H := H) r
    unfold min2 at hd
    split at hd <;> cases hd
    exact ⟨_, _, two_ints r, k _ fp1 B1 H1 (.refl g.sr) (.int _)⟩⟩
def tyD : D → String
  | .non => "NoneType"
  | .bl _ => "bool"
  | .int _ => "int"
  | .str _ => "str"
  | .tup _ => "tuple"
  | .lst _ => "list"
  | .scr _ => "list"
  | .dic _ => "dict"
  | .dit _ => "dict"
theorem ty_rep {K : PySem.W.Frag} {B H : Hp} {x : V} {d : D} (ex : Ex B H) (h : Rep K B x d) (hd : tyD d ≠ "list") : TyX K H x (.type (tyD d)) := by
  cases h with
  | non => exact .base .non
  | bl b => exact .base (.bl b)
  | int b => exact .base (.int b)
  | str b => exact .base (.str b)
  | tup e _ => exact .base (.tup (ex _ _ e))
  | lst e _ => exact (hd rfl).elim
  | scr e _ => exact (hd rfl).elim
  | dic e _ => exact .base (.dK (ex _ _ e))
  | dit e _ => exact .base (.dT (ex _ _ e))
def isiD (T : String) (d : D) : Option D := if tyD d ≠ "list" then (kitB (tyD d) T).map .bl else none
theorem EV_isi {T : Str} {Ts : String} {p2 : Pos} (hm : X.mg "isinstance" = none) (hmT : X.mg T = none) (hbT : bootBuiltins T = some (.type Ts)) (ha : EV c X a fa) (hK : c.K = X.K := by rfl) (hx : Gl X "isinstance" := by rfl) (hxT : Gl X T := by rfl) (hnT : T ≠ "__name__" := by decide) (hdT : (T == ("__debug__" : Str)) = false := by decide)
    (hs : starEach [a, .Name T p2] X.env = (false, eval a X.env) :: starEach [.Name T p2] X.env := by rfl) (hs2 : starEach [.Name T p2] X.env = (false, eval (.Name T p2) X.env) :: starEach [] X.env := by rfl) (hpl : (backTo pos (starEach [.Name T p2] X.env)).any (·.1) = false := by rfl) :
    EV c X (.Call (.Name "isinstance" p) [a, .Name T p2] [] pos) (op1 (isiD Ts) fa) :=
  peOf (pe_callB call_isi hx hm (by decide +kernel) (pa_cons ha (pa_cons (pe_bltn (v := .ty Ts) hxT hmT hbT rfl hnT hdT) pa_nil hs2) hs) (by decide) (by decide) hs hpl) fun σ H Q ⟨B, ρ, fp, S, q⟩ => ⟨B, ρ, fp, S, at_bnd q fun x dx ρ1 fp1 B1 H1 g1 r1 q1 => by
    obtain ⟨d, hd, k⟩ := at_lift q1
    unfold isiD at hd
    by_cases hl : tyD dx ≠ "list"
    · rw [if_pos hl] at hd
      cases e : kitB (tyD dx) Ts with
      | none => rw [e] at hd; cases hd
      | some b =>
        rw [e] at hd
        cases hd
        exact ⟨x, .ty Ts, _, _, b, rfl, .ty Ts, by rw [← hK]; exact ty_rep g1.sr.ex r1 hl, kit_ty e, k _ fp1 B1 H1 (.refl g1.sr) (.bl _)⟩
    · rw [if_neg hl] at hd; cases hd⟩
end
end Fl

set_option maxHeartbeats 1000000
namespace Fl
open PySem PySem.Spec PyProof.Rows L2

/-! ### methods of the thing of a slot -/
def updS (j : Nat) (g : D → Option (D × D)) : M D := fun ρ => match get ρ j with
  | some d => match g d with
    | some (r, d') => .ok r (ρ.set j (some d'))
    | none => .no
  | none => .no
def isLst : D → Option Unit
  | .lst _ => some ()
  | _ => none
def methM (j : Nat) (m : D → List D → Option (D × D)) (fa : M (List D)) : M D := bnd (rd j) fun d0 => bnd (lift (isLst d0)) fun _ => bnd fa fun xs => updS j fun d => m d xs
def MtO (c : Cn) (r : V → List V → Hp → VK → Prop) (m : D → List D → Option (D × D)) : Prop := ∀ {B H : Hp} {P : Addr → Prop} {v : V} {d : D} {xs : List V} {ds : List D} {res d' : D} {Q : VK}, Ex B H → (∀ a, P a → B a = none) → Own c.K B H P v d → RepL c.K B xs ds → m d ds = some (res, d') →
  (∀ a o vr, v = .ref a → P a → Own c.K B (upd H a o) P v d' → Rep c.K B vr res → Q vr (upd H a o)) → r v xs H Q
theorem getE_lt {ρ : Rho} {j : Nat} {d : D} (h : get ρ j = some d) : j < ρ.length := (List.getElem?_eq_some_iff.mp (get_some h)).1
section
variable {c : Cn} {X : Cx} {o e a b : Expr} {es : List Expr} {fa fb : M D} {fs : M (List D)} {name : Str} {pos apos cpos : Pos} {id : String} {r : V → List V → Hp → VK → Prop} {m : D → List D → Option (D × D)} {j : Nat}
theorem at_upd {σ : L2.St} {fp0 : Fp} {H0 : Hp} {B H : Hp} {ρ : Rho} {fp : Fp} {g : D → Option (D × D)} {Q : VK} (q : c.at fp0 H0 B ρ fp (updS j g) (relV c) σ H Q) : ∃ d res d', get ρ j = some d ∧ g d = some (res, d') ∧ ∀ b fp' B' H', Go c.K c.ow fp B H σ (ρ.set j (some d')) fp' B' H' → Rep c.K B' b res → Q b H' := by
  unfold Cn.at updS at q
  cases e : get ρ j with
  | none => rw [e] at q; exact q.elim
  | some d =>
    rw [e] at q
    simp only at q
    cases e2 : g d with
    | none => rw [e2] at q; exact q.elim
    | some p =>
      obtain ⟨res, d'⟩ := p
      rw [e2] at q
      exact ⟨d, res, d', rfl, e2, q⟩
theorem meth_fin {σ : L2.St} {fp0 : Fp} {H0 : Hp} {B H : Hp} {ρ : Rho} {fp : Fp} {Q : VK} {v : V} {xs : List V} {ds : List D} (S : SR c.K c.ow B H σ ρ fp) (ho : c.ow j = true) (hm : MtO c r m) (hv : σ[j]? = some (some v)) (hx : RepL c.K B xs ds) (q : c.at fp0 H0 B ρ fp (updS j fun d => m d ds) (relV c) σ H Q) : r v xs H Q := by
  obtain ⟨d, res, d', h1, h2, k⟩ := at_upd q
  obtain ⟨v2, hv2, o2⟩ := S.own ho (get_some h1)
  rw [hv] at hv2; cases hv2
  refine hm S.ex (S.ub j) o2 hx h2 fun a o vr ev hp ow2 rr => ?_
  subst ev
  exact k vr fp B _ (S.write ho (getE_lt h1) hv hp ow2) rr
theorem ty_own {K : PySem.W.Frag} {B H : Hp} {P : Addr → Prop} {v : V} {d : D} (h : Own K B H P v d) (e : isLst d = some ()) : tyV K "list" v H := by
  cases h with
  | lst p q r => exact .inl ⟨rfl, _, SqL.of q⟩
  | _ => cases e
theorem EV_meth (slot : Slot "list" name id) (hty : typeOf (.builtin id) = pure (.type "method_descriptor")) (hr : MtR X id r) (hm : MtO c r m) (ho : PE X o (tVar j)) {n : Nat} (ha : EA c X (List.replicate n .v) (e :: es) fs) (hj : c.ow j = true := by rfl) (hK : c.K = X.K := by rfl)
    (hbase : attributeBase o name X.env (eval o X.env) = eval o X.env := by rfl)
    (hfew : ((backTo cpos (starEach (e :: es) X.env)).all (fun x => !x.1) && (backToKw cpos (keywordEach [] X.env)).all (fun x => x.1.isSome)
      && decide ((e :: es).length + ([] : List Keyword).length + (if ([] : List Keyword).isEmpty then 0 else 1) < 30)) = true := by rfl)
    (hline : (apos.endLine == cpos.line) = true := by rfl) (hs : starEach (e :: es) X.env = (false, eval e X.env) :: starEach es X.env := by rfl) (hplain : (backTo cpos (starEach es X.env)).any (·.1) = false := by rfl) :
    EV c X (.Call (.Attribute o name apos) (e :: es) [] cpos) (methM j m fs) :=
  peOf (pe_bm PySem.F.plainAttrs_list slot hty hr ho ha hbase hfew hline hs hplain) fun σ H Q ⟨B, ρ, fp, S, q⟩ => by
    obtain ⟨d0, hd0, q0⟩ := at_rd q
    obtain ⟨_, hl, q1⟩ := at_bl q0
    obtain ⟨v, hv, o0⟩ := S.own hj (get_some hd0)
    refine ⟨v, hv, by rw [← hK]; exact ty_own o0 hl, B, ρ, fp, S, at_bnd q1 fun vs ds ρ2 fp2 B2 H2 g2 r2 q2 => ?_⟩
    exact meth_fin g2.sr hj hm hv (relA_v (n := n) (B := B) (H := H) r2) q2
theorem EV_meth0 (slot : Slot "list" name id) (hty : typeOf (.builtin id) = pure (.type "method_descriptor")) (hr : MtR X id r) (hm : MtO c r m) (ho : PE X o (tVar j)) (hj : c.ow j = true := by rfl) (hK : c.K = X.K := by rfl)
    (hbase : attributeBase o name X.env (eval o X.env) = eval o X.env := by rfl) (hline : (apos.endLine == cpos.line) = true := by rfl) :
    EV c X (.Call (.Attribute o name apos) [] [] cpos) (methM j m aNil) :=
  peOf (pe_bm0 PySem.F.plainAttrs_list slot hty hr ho hbase hline) fun σ H Q ⟨B, ρ, fp, S, q⟩ => by
    obtain ⟨d0, hd0, q0⟩ := at_rd q
    obtain ⟨_, hl, q1⟩ := at_bl q0
    obtain ⟨v, hv, o0⟩ := S.own hj (get_some hd0)
    exact ⟨v, hv, by rw [← hK]; exact ty_own o0 hl, meth_fin (ds := []) S hj hm hv .nil q1⟩
end
def appD : D → List D → Option (D × D)
  | .lst xs, [y] => if xs.length < szL then some (.non, .lst (xs ++ [y])) else none
  | _, _ => none
def tupB : D → Option (List D)
  | .lst ys => some ys
  | .tup ys => some ys
  | _ => none
def extD : D → List D → Option (D × D)
  | .lst xs, [y] => match tupB y with
    | some ys => if xs.length + ys.length ≤ szL then some (.non, .lst (xs ++ ys)) else none
    | none => none
  | _, _ => none
def pop0 : D → List D → Option (D × D)
  | .lst xs, [] => match xs[xs.length - 1]? with
    | some y => some (y, .lst xs.dropLast)
    | none => none
  | _, _ => none
def popK (xs : List D) (i : Int) : Option (D × D) := if okR i = true then match seqIndex? i xs.length with
    | some k => match xs[k]? with
      | some y => some (y, .lst (xs.eraseIdx k))
      | none => none
    | none => none
    else none
def popI : D → List D → Option (D × D)
  | .lst xs, [d] => match intD d with
    | some i => popK xs i
    | none => none
  | _, _ => none
section
variable {c : Cn} {X : Cx} {o e a b : Expr} {es : List Expr} {fa fb : M D} {fs : M (List D)} {pos apos cpos : Pos} {j : Nat}
theorem mo_app : MtO c rAppend appD := fun {B H P v d xs ds res d' Q} ex hu ho hx h k => by
  cases ho with
  | lst p e r =>
    cases hx with
    | nil => cases h
    | cons a t =>
      cases t with
      | nil =>
        obtain ⟨hl, h⟩ := ite_some h
        cases h
        exact ⟨_, _, _, rfl, rfl, e, by rw [r.length, ← szL_eq]; exact hl, k _ _ _ rfl p (.lst p upd_same (r.app (.one a))) .non⟩
      | cons _ _ => cases h
  | _ => cases h
def rExtA (K : PySem.W.Frag) : V → List V → Hp → VK → Prop := fun x vs H Q => rExtend x vs H Q ∨ rExtT K x vs H Q
theorem mt_extA : MtR X "list.extend" (rExtA X.K) := MtR.or mt_extend mt_extendT
theorem mo_ext : MtO c (rExtA c.K) extD := fun {B H P v d xs ds res d' Q} ex hu ho hx h k => by
  cases ho with
  | lst p e r =>
    cases hx with
    | nil => cases h
    | cons a t =>
      cases t with
      | nil =>
        have h' : (match tupB _ with | some ys => if _ + ys.length ≤ szL then some (D.non, D.lst (_ ++ ys)) else none | none => none) = some (res, d') := h
        cases a with
        | lst e2 r2 =>
          obtain ⟨hl, h⟩ := ite_some h'
          cases h
          exact .inl ⟨_, _, _, _, rfl, rfl, e, ex _ _ e2, by rw [r.length, r2.length, ← szL_eq]; exact hl, k _ _ _ rfl p (.lst p upd_same (r.app r2)) .non⟩
        | tup e2 r2 =>
          obtain ⟨hl, h⟩ := ite_some h'
          cases h
          exact .inr ⟨_, _, _, _, rfl, rfl, e, SqT.of (ex _ _ e2), by rw [r.length, r2.length, ← szL_eq]; exact hl, k _ _ _ rfl p (.lst p upd_same (r.app r2)) .non⟩
        | _ => cases h'
      | cons _ _ => cases h
  | _ => cases h
theorem rep_dropLast {K : PySem.W.Frag} {B : Hp} : ∀ {xs : List V} {ds : List D}, RepL K B xs ds → RepL K B xs.dropLast ds.dropLast
  | _, _, .nil => .nil
  | _, _, .cons _ .nil => .nil
  | _, _, .cons a (.cons b t) => .cons a (rep_dropLast (.cons b t))
theorem mo_pop : MtO c rPop pop0 := fun {B H P v d xs ds res d' Q} ex hu ho hx h k => by
  cases ho with
  | @lst a ys es p e r =>
    cases hx with
    | nil =>
      have h' : (match es[es.length - 1]? with | some y => some (y, D.lst es.dropLast) | none => none) = some (res, d') := h
      cases q : es[es.length - 1]? with
      | none => rw [q] at h'; cases h'
      | some y =>
        rw [q] at h'
        cases h'
        obtain ⟨v, h1, h2⟩ := r.get q
        exact ⟨_, _, _, rfl, rfl, e, by rw [r.length]; exact h1, k _ _ _ rfl p (.lst p upd_same (rep_dropLast r)) h2⟩
    | cons a t => cases h
  | _ => cases h
theorem mo_popI : MtO c rPopAt popI := fun {B H P v d xs ds res d' Q} ex hu ho hx h k => by
  cases ho with
  | @lst a ys es p e r =>
    cases hx with
    | nil => cases h
    | @cons x _ dx _ rx t =>
      cases t with
      | cons _ _ => cases h
      | nil =>
        have h' : (match intD dx with | some i => popK es i | none => none) = some (res, d') := h
        cases rx with
        | int i =>
          have h' : popK es i = some (res, d') := h'
          unfold popK at h'
          by_cases hi : okR i = true
          · rw [if_pos hi] at h'
            obtain ⟨b1, b2⟩ := okR_iff.mp hi
            cases q : seqIndex? i es.length with
            | none => rw [q] at h'; cases h'
            | some n =>
              rw [q] at h'
              simp only at h'
              cases q2 : es[n]? with
              | none => rw [q2] at h'; cases h'
              | some y =>
                rw [q2] at h'
                cases h'
                obtain ⟨v, h1, h2⟩ := r.get q2
                exact ⟨_, _, i, n, v, rfl, rfl, e, by omega, by omega, by rw [r.length]; exact q, h1, k _ _ _ rfl p (.lst p upd_same (r.erase n)) h2⟩
          · rw [if_neg hi] at h'; cases h'
        | _ => cases h'
  | _ => cases h
theorem EV_append (ho : PE X o (tVar j)) (ha : EV c X e fa) (hj : c.ow j = true := by rfl) (hK : c.K = X.K := by rfl)
    (hbase : attributeBase o "append" X.env (eval o X.env) = eval o X.env := by rfl)
    (hfew : ((backTo cpos (starEach [e] X.env)).all (fun x => !x.1) && (backToKw cpos (keywordEach [] X.env)).all (fun x => x.1.isSome)
      && decide ([e].length + ([] : List Keyword).length + (if ([] : List Keyword).isEmpty then 0 else 1) < 30)) = true := by rfl)
    (hline : (apos.endLine == cpos.line) = true := by rfl) (hs : starEach [e] X.env = (false, eval e X.env) :: starEach [] X.env := by rfl) (hplain : (backTo cpos (starEach [] X.env)).any (·.1) = false := by rfl) :
    EV c X (.Call (.Attribute o "append" apos) [e] [] cpos) (methM j appD (aCons fa aNil)) :=
  EV_meth PySem.F.slot_list_append PySem.F.type_list_append mt_append mo_app ho (n := 1) (EA_cons ha EA_nil hs) hj hK hbase hfew hline hs hplain
theorem EV_extend (ho : PE X o (tVar j)) (ha : EV c X e fa) (hj : c.ow j = true := by rfl) (hK : c.K = X.K := by rfl)
    (hbase : attributeBase o "extend" X.env (eval o X.env) = eval o X.env := by rfl)
    (hfew : ((backTo cpos (starEach [e] X.env)).all (fun x => !x.1) && (backToKw cpos (keywordEach [] X.env)).all (fun x => x.1.isSome)
      && decide ([e].length + ([] : List Keyword).length + (if ([] : List Keyword).isEmpty then 0 else 1) < 30)) = true := by rfl)
    (hline : (apos.endLine == cpos.line) = true := by rfl) (hs : starEach [e] X.env = (false, eval e X.env) :: starEach [] X.env := by rfl) (hplain : (backTo cpos (starEach [] X.env)).any (·.1) = false := by rfl) :
    EV c X (.Call (.Attribute o "extend" apos) [e] [] cpos) (methM j extD (aCons fa aNil)) :=
  EV_meth PySem.F.slot_list_extend PySem.F.type_list_extend mt_extA (by rw [← hK]; exact mo_ext) ho (n := 1) (EA_cons ha EA_nil hs) hj hK hbase hfew hline hs hplain
theorem EV_popI (ho : PE X o (tVar j)) (ha : EV c X e fa) (hj : c.ow j = true := by rfl) (hK : c.K = X.K := by rfl)
    (hbase : attributeBase o "pop" X.env (eval o X.env) = eval o X.env := by rfl)
    (hfew : ((backTo cpos (starEach [e] X.env)).all (fun x => !x.1) && (backToKw cpos (keywordEach [] X.env)).all (fun x => x.1.isSome)
      && decide ([e].length + ([] : List Keyword).length + (if ([] : List Keyword).isEmpty then 0 else 1) < 30)) = true := by rfl)
    (hline : (apos.endLine == cpos.line) = true := by rfl) (hs : starEach [e] X.env = (false, eval e X.env) :: starEach [] X.env := by rfl) (hplain : (backTo cpos (starEach [] X.env)).any (·.1) = false := by rfl) :
    EV c X (.Call (.Attribute o "pop" apos) [e] [] cpos) (methM j popI (aCons fa aNil)) :=
  EV_meth PySem.F.slot_list_pop PySem.F.type_list_pop mt_popAt mo_popI ho (n := 1) (EA_cons ha EA_nil hs) hj hK hbase hfew hline hs hplain
theorem EV_pop0 (ho : PE X o (tVar j)) (hj : c.ow j = true := by rfl) (hK : c.K = X.K := by rfl) (hbase : attributeBase o "pop" X.env (eval o X.env) = eval o X.env := by rfl) (hline : (apos.endLine == cpos.line) = true := by rfl) :
    EV c X (.Call (.Attribute o "pop" apos) [] [] cpos) (methM j pop0 aNil) :=
  EV_meth0 PySem.F.slot_list_pop PySem.F.type_list_pop mt_pop mo_pop ho hj hK hbase hline
end

/-! ### assignments -/
def asgS (f : M D) (g : G) : S := thn f fun d ρ => match g d ρ with
  | some ρ' => .nx ρ'
  | none => .no
def stD : D → D → D → Option D
  | .lst xs, .int i, d => (ixN xs.length i).map fun j => .lst (xs.set j d)
  | .dic es, k, d => putD (.dic es) k d
  | .dit es, k, d => putD (.dit es) k d
  | _, _, _ => none
/-- x[e] = .., x a slot of one's own -/
def gSubS (j : Nat) (fi : M D) : G := fun d ρ => match get ρ j with
  | none => none
  | some _ => match fi ρ with
    | .ok k ρ1 => match get ρ1 j with
      | some x => match stD x k d with
        | some x' => some (ρ1.set j (some x'))
        | none => none
      | none => none
    | _ => none
def rSetA : TSet := fun o i v H Q => rSetL o i v H Q ∨ ∃ a H', o = .ref a ∧ DPut H a i v H' ∧ Q H'
theorem st_own {K : PySem.W.Frag} {B H : Hp} {P : Addr → Prop} {x y v : V} {dx dy d dx' : D} {Q : Hp → Prop} (ex : Ex B H) (hub : ∀ a, P a → B a = none) (hx : Own K B H P x dx) (hy : Rep K B y dy) (hv : Rep K B v d) (h : stD dx dy d = some dx')
    (k : ∀ a o, x = .ref a → P a → Own K B (upd H a o) P x dx' → Q (upd H a o)) : rSetA x y v H Q := by
  have dd : ∀ {dx : D}, Own K B H P x dx → putD dx dy d = some dx' → rSetA x y v H Q := fun {dx} hx h => by
    obtain ⟨a, o, e1, p, g, ow⟩ := put_own ex hub hx hy hv h
    exact .inr ⟨a, _, e1, g, k a o e1 p ow⟩
  cases dx with
  | lst ds =>
    cases hx with
    | @lst a xs _ p e r =>
      cases hy with
      | int i =>
        have h' : (ixN ds.length i).map (fun j => D.lst (ds.set j d)) = some dx' := h
        cases q : ixN ds.length i with
        | none => rw [q] at h'; cases h'
        | some n =>
          rw [q] at h'
          cases h'
          exact .inl ⟨a, xs, i, n, rfl, rfl, e, by rw [r.length]; exact q, k a _ rfl p (.lst p upd_same (RepL.set hv n r))⟩
      | _ => cases h
  | dic es => exact dd hx h
  | dit es => exact dd hx h
  | _ => cases h
section
variable {c : Cn} {X : Cx} {o e a b i : Expr} {f fa fb : M D} {g : G} {tl : List Nat} {pos : Pos} {j : Nat}
theorem EG_sub {k : Nat} (hr : Room k X.A) (ho : PE X o (tVar j)) (hi : EV c X i fa) (hj : c.ow j = true := by rfl)
    (ha : ∀ v, assign (.Subscript o i pos) X.env v = (do
      let ov ← holding [v] (eval o X.env)
      let iv ← holding [v, ov] (eval i X.env)
      standAt pos
      holding [v, ov, iv] (setItem ov iv v)
      release [v, ov, iv] []) := by intro _; rfl) : EG c X (.Subscript o i pos) [] (gSubS j fa) :=
  pgOf (pg_sub ho hi (PSet.or set_list (set_dict (hu_of hr))) ha) fun v σ H Q ⟨B, ρ, fp, d, S, r, q⟩ => by
    unfold gSubS at q
    cases h0 : get ρ j with
    | none => rw [h0] at q; exact q.elim
    | some d0 =>
      rw [h0] at q
      simp only at q
      obtain ⟨x, hx, _⟩ := S.own hj (get_some h0)
      refine ⟨x, hx, B, ρ, fp, S, ?_⟩
      unfold Cn.at
      cases h1 : fa ρ with
      | no => rw [h1] at q; exact q.elim
      | ex _ _ _ => rw [h1] at q; exact q.elim
      | ok kk ρ1 =>
        rw [h1] at q
        simp only at q
        intro y fp1 B1 H1 g1 r1
        cases h2 : get ρ1 j with
        | none => rw [h2] at q; exact q.elim
        | some dx =>
          rw [h2] at q
          simp only at q
          cases h3 : stD dx kk d with
          | none => rw [h3] at q; exact q.elim
          | some dx' =>
            rw [h3] at q
            simp only at q
            obtain ⟨x2, hx2, o2⟩ := g1.sr.own hj (get_some h2)
            rw [hx] at hx2; cases hx2
            refine st_own (Q := fun H3 => Q σ H3) g1.sr.ex (g1.sr.ub j) o2 r1 (r.mono g1.b) h3 fun a o ea pa ow => ?_
            subst ea
            exact q σ fp1 B1 _ (g1.trans (g1.sr.write hj (getE_lt h2) hx pa ow)) (.refl σ)
theorem ES_asg {tg : Expr} (he : EV c X e f) (hg : EG c X tg tl g) (hk : (tl.all fun i => !c.kp i) = true := by rfl) (hs : swapsWithSole [tg] e pos.line X.env = pure false := by rfl) (hw : swappedStores [tg] e X.env = pure none := by rfl)
    (h1 : (assignEach [tg] X.env).map (·.2) = [assign tg X.env] := by rfl) : ES c X (.Assign [tg] e pos) (asgS f g) :=
  psOf (ps_asg he hg hs hw h1) fun D σ H ⟨B, ρ, fp, S, i0, q⟩ => ⟨B, ρ, fp, S, at_thn q fun b a ρ1 fp1 B1 H1 g1 r q1 => by
    refine ⟨B1, ρ1, fp1, a, g1.sr, r, ?_⟩
    cases z : g a ρ1 with
    | none => simp only [z] at q1; exact q1
    | some ρ' =>
      simp only [z] at q1
      exact fun σ' fp' B' H' go sl => q1 σ' fp' B' H' go (sl.kp hk)⟩
/-- x op= e -/
def augS (i : Nat) (g : D → D → Option D) (f : M D) : S := thn (rd i) fun x => thn f fun y => thn (lift (g x y)) fun z ρ => .nx (ρ.set i (some z))
theorem ES_aug {i : Nat} {x : Str} {op : Operator} {r : R2} {gg : D → D → Option D} {pos' : Pos} (ho : OpR X (inplaceOp op) r) (hg : OpG c r gg (relV c)) (hN : X.N.Nodup) (hi : X.N[i]? = some x) (hx : Loc X.env.scope x) (he : EV c X e f) (how : c.ow i = false := by rfl) (hk : c.kp i = false := by rfl) (hv : Vis X.env.scope x := by first | exact .inl rfl | exact .inr (.inl rfl))
    (hf : X.fn x = true ∨ X.env.scope.names.lookup x = some .local := by first | exact .inl rfl | exact .inr rfl) : ES c X (.AugAssign (.Name x pos') op e pos) (augS i gg f) :=
  psOf (ps_aug hN hi hx he (fun pins s σ H x y v u Q I rx ry q => ho pins s σ H x y v u Q I rx ry q)) fun D σ H ⟨B, ρ, fp, S, i0, q⟩ => by
    obtain ⟨d, hd, q1⟩ : ∃ d, get ρ i = some d ∧ c.atO B fp (thn f (fun y => thn (lift (gg d y)) fun z ρ => .nx (ρ.set i (some z))) ρ) D σ H := by
      unfold augS thn rd lift at q
      cases e : get ρ i with
      | none => rw [e] at q; exact q.elim
      | some d => rw [e] at q; exact ⟨d, rfl, q⟩
    obtain ⟨v, hv, rv⟩ := S.val how (get_some hd)
    refine ⟨v, hv, B, ρ, fp, S, at_thn q1 fun b a ρ1 fp1 B1 H1 g1 r1 q2 => ?_⟩
    refine hg (fp0 := fp1) (H0 := H1) g1.sr (fun _ z => z) (rv.mono g1.b) r1 (at_thn q2 fun z dz ρ2 fp2 B2 H2 g2 r2 q3 => ?_)
    exact q3 _ fp2 B2 H2 (.setV g2.sr how r2) (.set hk)
end
end Fl

set_option maxHeartbeats 1000000
namespace Fl
open PySem PySem.Spec PyProof.Rows L2

/-! ### a, b = x, y -/
def parS (is : List Nat) (f : M (List D)) : S := thn f fun ds ρ => if ds.length = is.length then .nx ((is.zip ds).foldl (fun ρ p => ρ.set p.1 (some p.2)) ρ) else .no
section
variable {c : Cn} {X : Cx} {a b d e : Expr} {f : M (List D)} {pos : Pos} {m1 m2 m3 : Md}
/-- one more of the arguments into its slot -/
theorem put1 {σ0 σ : L2.St} {ρ : Rho} {fp fp0 : Fp} {B H B1 H1 : Hp} {i : Nat} {v : V} {d : D} {P : Addr → Prop} {o : Bool} (g : Go c.K c.ow fp B H σ ρ fp0 B1 H1) (kp : Kp c σ0 σ) (ho : c.ow i = o) (hk : c.kp i = false)
    (r : if o = true then Own c.K B1 H1 P v d else Rep c.K B1 v d) (k : ∀ a, P a → H a = none ∧ B1 a = none ∧ (∃ o, H1 a = some o) ∧ ∀ j, ¬ fp0 j a) :
    ∃ fp2, Go c.K c.ow fp B H (σ.set i (some v)) (ρ.set i (some d)) fp2 B1 H1 ∧ Kp c σ0 (σ.set i (some v)) ∧ ∀ j a, fp2 j a → fp0 j a ∨ P a := by
  cases o with
  | false => exact ⟨fp0, g.trans (.setV g.sr ho (by simpa using r)), kp.trans (.set hk), fun _ _ h => .inl h⟩
  | true =>
    have S2 := Go.setO (H' := H1) g.sr (i := i) ho (by simpa using r) fun a p => (k a p).2
    exact ⟨_, ⟨S2, g.b, g.h, g.t, g.f, fun j a h => by
      by_cases z : j = i
      · simp only [if_pos z] at h; exact .inr (k a h).1
      · simp only [if_neg z] at h; exact g.s j a h⟩, kp.trans (.set hk), fun j a h => by
      by_cases z : j = i
      · simp only [if_pos z] at h; exact .inr h
      · simp only [if_neg z] at h; exact .inl h⟩
/-- values and new things alone -/
def plainM (ms : List Md) : Bool := ms.all fun m => match m with
  | .s _ => false
  | _ => true
theorem arg_at {σ : L2.St} {fp fp1 : Fp} {H B1 H1 : Hp} {vs : List V} {ds : List D} {ms : List Md} (h : relA c ms σ fp H fp1 B1 H1 vs ds) (hp : plainM ms = true) : ∃ fa : Fp, ds.length = ms.length ∧ vs.length = ms.length ∧ (∀ (i : Nat) d, ds[i]? = some d → ∃ v, vs[i]? = some v ∧ if ownM ms i = true then Own c.K B1 H1 (fa i) v d else Rep c.K B1 v d) ∧
    (∀ i a, fa i a → H a = none ∧ B1 a = none ∧ (∃ o, H1 a = some o) ∧ ∀ j, ¬ fp1 j a) ∧ ∀ i j a, fa i a → fa j a → i = j := by
  obtain ⟨hl, fa, S, k, _⟩ := h
  have h2 : vs.length = ds.length := by simpa using S.ln
  refine ⟨fa, hl, by omega, fun i d h => ?_, fun i a h => ?_, S.dj⟩
  · obtain ⟨v, e1, e2⟩ := S.sl i d (by rw [List.getElem?_map, h]; rfl)
    rw [List.getElem?_map] at e1
    cases e : vs[i]? with
    | none => rw [e] at e1; cases e1
    | some u => rw [e] at e1; cases e1; exact ⟨_, rfl, e2⟩
  · refine ⟨?_, S.ub i a h, S.al i a h, ?_⟩
    · rcases k i a h with ⟨_, z, _⟩ | ⟨j, z, _⟩
      · exact z
      · have := List.all_eq_true.mp hp _ (List.mem_of_getElem? z); cases this
    · rcases k i a h with ⟨_, _, z⟩ | ⟨j, z, _⟩
      · exact z
      · have := List.all_eq_true.mp hp _ (List.mem_of_getElem? z); cases this
theorem ES_par2 {i j : Nat} {x y : Str} {px py pt : Pos} {kt k2 pt2} (hc : X.calm = true) (hN : X.N.Nodup) (hi : X.N[i]? = some x) (hj : X.N[j]? = some y) (hij : i ≠ j)
    (hx : X.env.scope.names.lookup x = some .local) (hy : X.env.scope.names.lookup y = some .local) (ha : EA c X [m1, m2] [a, b] f)
    (hw : swappedStores [.Tuple [.Name x px, .Name y py] kt pt] (.Tuple [a, b] k2 pt2) X.env = pure (some [x, y])) (hp : plainM [m1, m2] = true := by rfl)
    (ho1 : c.ow i = m1.own := by rfl) (ho2 : c.ow j = m2.own := by rfl) (hk1 : c.kp i = false := by rfl) (hk2 : c.kp j = false := by rfl)
    (hs : swapsWithSole [.Tuple [.Name x px, .Name y py] kt pt] (.Tuple [a, b] k2 pt2) pos.line X.env = pure false := by rfl) :
    ES c X (.Assign [.Tuple [.Name x px, .Name y py] kt pt] (.Tuple [a, b] k2 pt2) pos) (parS [i, j] f) :=
  psOf (ps_par hc hN hi hj hij hx hy ha hw hs) fun D σ H ⟨B, ρ, fp, S, i0, q⟩ => ⟨B, ρ, fp, S, at_thnG q fun vs ds ρ1 fp1 B1 H1 g1 r q1 => by
    obtain ⟨fa, hl, hl2, get, fr, dj⟩ := arg_at r hp
    match ds, hl with
    | [d1, d2], _ =>
      match vs, hl2 with
      | [v1, v2], _ =>
        obtain ⟨_, e1, r1⟩ := get 0 d1 rfl
        cases e1
        obtain ⟨_, e2, r2⟩ := get 1 d2 rfl
        cases e2
        obtain ⟨fp2, g2, k2, s2⟩ := put1 g1 (.refl σ) ho1 hk1 r1 (fr 0)
        obtain ⟨fp3, g3, k3, s3⟩ := put1 g2 k2 ho2 hk2 r2 fun a p => ⟨(fr 1 a p).1, (fr 1 a p).2.1, (fr 1 a p).2.2.1, fun l z => (s2 l a z).elim ((fr 1 a p).2.2.2 l) fun z => by cases dj 0 1 a z p⟩
        exact ⟨_, _, rfl, q1 _ fp3 B1 H1 g3 k3⟩⟩
theorem ES_par3 {i j l : Nat} {x y z : Str} {px py pz pt : Pos} {kt k2 pt2} (hc : X.calm = true) (hN : X.N.Nodup) (hi : X.N[i]? = some x) (hj : X.N[j]? = some y) (hl : X.N[l]? = some z) (hij : i ≠ j) (hil : i ≠ l) (hjl : j ≠ l)
    (hx : X.env.scope.names.lookup x = some .local) (hy : X.env.scope.names.lookup y = some .local) (hz : X.env.scope.names.lookup z = some .local) (ha : EA c X [m1, m2, m3] [a, b, d] f)
    (hw : swappedStores [.Tuple [.Name x px, .Name y py, .Name z pz] kt pt] (.Tuple [a, b, d] k2 pt2) X.env = pure (some [x, y, z])) (hp : plainM [m1, m2, m3] = true := by rfl)
    (ho1 : c.ow i = m1.own := by rfl) (ho2 : c.ow j = m2.own := by rfl) (ho3 : c.ow l = m3.own := by rfl) (hk1 : c.kp i = false := by rfl) (hk2 : c.kp j = false := by rfl) (hk3 : c.kp l = false := by rfl)
    (hs : swapsWithSole [.Tuple [.Name x px, .Name y py, .Name z pz] kt pt] (.Tuple [a, b, d] k2 pt2) pos.line X.env = pure false := by rfl) :
    ES c X (.Assign [.Tuple [.Name x px, .Name y py, .Name z pz] kt pt] (.Tuple [a, b, d] k2 pt2) pos) (parS [i, j, l] f) :=
  psOf (ps_par3 hc hN hi hj hl hij hil hjl hx hy hz ha hw hs) fun D σ H ⟨B, ρ, fp, S, i0, q⟩ => ⟨B, ρ, fp, S, at_thnG q fun vs ds ρ1 fp1 B1 H1 g1 r q1 => by
    obtain ⟨fa, hl, hl2, get, fr, dj⟩ := arg_at r hp
    match ds, hl with
    | [d1, d2, d3], _ =>
      match vs, hl2 with
      | [v1, v2, v3], _ =>
        obtain ⟨_, e1, r1⟩ := get 0 d1 rfl
        cases e1
        obtain ⟨_, e2, r2⟩ := get 1 d2 rfl
        cases e2
        obtain ⟨_, e3, r3⟩ := get 2 d3 rfl
        cases e3
        obtain ⟨fp2, g2, k2, s2⟩ := put1 g1 (.refl σ) ho1 hk1 r1 (fr 0)
        obtain ⟨fp3, g3, k3, s3⟩ := put1 g2 k2 ho2 hk2 r2 fun a p => ⟨(fr 1 a p).1, (fr 1 a p).2.1, (fr 1 a p).2.2.1, fun l z => (s2 l a z).elim ((fr 1 a p).2.2.2 l) fun z => by cases dj 0 1 a z p⟩
        obtain ⟨fp4, g4, k4, s4⟩ := put1 g3 k3 ho3 hk3 r3 fun a p => ⟨(fr 2 a p).1, (fr 2 a p).2.1, (fr 2 a p).2.2.1, fun l z => (s3 l a z).elim (fun z => (s2 l a z).elim ((fr 2 a p).2.2.2 l) fun z => by cases dj 0 2 a z p) fun z => by cases dj 1 2 a z p⟩
        exact ⟨_, _, _, rfl, q1 _ fp4 B1 H1 g4 k4⟩⟩
end

/-! ### dicts: displays, in, get, op= -/
def pairsM : List (M D × M D) → M (List (D × D))
  | [] => pur []
  | (fk, fv) :: r => bnd fk fun k => bnd fv fun v => bnd (pairsM r) fun ps => pur ((k, v) :: ps)
def keyed : List (D × D) → Option (List (Key × D))
  | [] => some []
  | (k, v) :: r => match keyOf k, keyed r with
    | some k, some r => some ((k, v) :: r)
    | _, _ => none
def mergeE (es more : List (Key × D)) : List (Key × D) := more.foldl (fun acc e => putE acc e.1 e.2) es
def mkDic (ps : List (D × D)) : Option D := if ps.length ≤ 15 then (keyed ps).map fun es => .dic (mergeE [] es) else none
def RepPs (K : PySem.W.Frag) (B : Hp) : List (V × V) → List (D × D) → Prop := Paired fun p q => Rep K B p.1 q.1 ∧ Rep K B p.2 q.2
theorem RepPs.mono {K : PySem.W.Frag} {B B' : Hp} (e : Ex B B') : ∀ {ps : List (V × V)} {ds : List (D × D)}, RepPs K B ps ds → RepPs K B' ps ds
  | _, _, .nil => .nil
  | _, _, .cons ⟨a, b⟩ t => .cons ⟨a.mono e, b.mono e⟩ (RepPs.mono e t)
theorem keyed_v {K : PySem.W.Frag} {B : Hp} : ∀ {ps : List (V × V)} {ds : List (D × D)} {es : List (Key × D)}, RepPs K B ps ds → keyed ds = some es → ∃ kvs : List (Key × V), ps = kvs.map (fun kv => (kV kv.1, kv.2)) ∧ RepP K B kvs es
  | _, _, es, .nil, h => by cases h; exact ⟨[], rfl, .nil⟩
  | (x, y) :: ps, (k, v) :: ds, es, .cons ⟨a, b⟩ t, h => by
    unfold keyed at h
    cases h1 : keyOf k with
    | none => rw [h1] at h; cases h
    | some k' =>
      cases h2 : keyed ds with
      | none => rw [h1, h2] at h; cases h
      | some es' =>
        rw [h1, h2] at h
        cases h
        obtain ⟨kvs, e, r⟩ := keyed_v t h2
        exact ⟨(k', y) :: kvs, by rw [e, List.map_cons, ← keyOf_v a h1], .cons ⟨rfl, b⟩ r⟩
theorem merge_rep {K : PySem.W.Frag} {B : Hp} : ∀ {kvs : List (Key × V)} {es : List (Key × D)} {acc : List (Key × V)} {ac : List (Key × D)}, RepP K B kvs es → RepP K B acc ac → RepP K B (mergeK acc kvs) (mergeE ac es)
  | _, _, _, _, .nil, h => h
  | (k, v) :: kvs, (k', d) :: es, acc, ac, .cons ⟨h1, h2⟩ t, h => by
    cases h1
    show RepP K B (mergeK (putK acc k v) kvs) (mergeE (putE ac k d) es)
    exact merge_rep t (h.put k h2)
def relPs (c : Cn) : Rel (List (V × V)) (List (D × D)) := fun _ _ _ _ B' _ ps ds => RepPs c.K B' ps ds
section
variable {c : Cn} {X : Cx} {a b d e o i k v : Expr} {fa fb fd fk fv fi fe : M D} {pos : Pos} {keys : List (Option Expr)} {values : List Expr}
def canP (c : Cn) (fs : List (M D × M D)) : List (TE × TE) := fs.map fun p => (can c p.1 (relV c), can c p.2 (relV c))
def EPs (c : Cn) (X : Cx) (pos : Pos) (keys : List (Option Expr)) (values : List Expr) (fs : List (M D × M D)) : Prop := PPs X pos keys values (canP c fs)
theorem EPs_nil : EPs c X pos [] [] [] := pps_nil
theorem EPs_cons {ks : List (Option Expr)} {vs : List Expr} {fs : List (M D × M D)} (hk : EV c X k fk) (hv : EV c X v fv) (hr : EPs c X pos ks vs fs) : EPs c X pos (some k :: ks) (v :: vs) ((fk, fv) :: fs) := pps_cons hk hv hr
theorem at_bndS {σ : L2.St} {fp0 fpS fp : Fp} {H0 BS HS B H : Hp} {ρ : Rho} {α β γ δ : Type} {f : M α} {g : α → M γ} {relf : Rel β α} {rel : Rel δ γ} {Q : δ → Hp → Prop} {Q1 : β → Hp → Prop} (h : c.at fp0 H0 BS ρ fpS (bnd f g) rel σ HS Q)
    (gs : ∀ {ρ' : Rho} {fp' : Fp} {B' H' : Hp}, Go c.K c.ow fp B H σ ρ' fp' B' H' → Go c.K c.ow fpS BS HS σ ρ' fp' B' H')
    (k : ∀ b a ρ1 fp1 B1 H1, Go c.K c.ow fp B H σ ρ1 fp1 B1 H1 → relf σ fp H fp1 B1 H1 b a → c.at fp0 H0 BS ρ1 fpS (g a) rel σ HS Q → Q1 b H1) : c.at fp H B ρ fp f relf σ H Q1 := by
  unfold Cn.at bnd at h
  unfold Cn.at
  cases e : f ρ with
  | no => rw [e] at h; exact h
  | ex x d ρ' => rw [e] at h; exact fun cl dd fp' B' H' go r => h cl dd fp' B' H' (gs go) r
  | ok a ρ' => rw [e] at h; exact fun b fp1 B1 H1 go r => k b a ρ' fp1 B1 H1 go r h
theorem pairs_at : ∀ {fs : List (M D × M D)} {σ : L2.St} {fp0 fpS : Fp} {H0 BS HS B H : Hp} {ρ : Rho} {fp : Fp} {α : Type} {g : List (D × D) → M α} {β : Type} {rel : Rel β α} {Q : β → Hp → Prop} {Q1 : List (V × V) → Hp → Prop}, SR c.K c.ow B H σ ρ fp → c.at fp0 H0 BS ρ fpS (bnd (pairsM fs) g) rel σ HS Q →
    (∀ {ρ' : Rho} {fp' : Fp} {B' H' : Hp}, Go c.K c.ow fp B H σ ρ' fp' B' H' → Go c.K c.ow fpS BS HS σ ρ' fp' B' H') →
    (∀ ps ds ρ1 fp1 B1 H1, Go c.K c.ow fp B H σ ρ1 fp1 B1 H1 → RepPs c.K B1 ps ds → c.at fp0 H0 BS ρ1 fpS (g ds) rel σ HS Q → Q1 ps H1) → tPairs (canP c fs) σ H Q1
  | [], σ, fp0, fpS, H0, BS, HS, B, H, ρ, fp, α, g, β, rel, Q, Q1, S, q, gs, k => k [] [] ρ fp B H (.refl S) .nil q
  | (fk, fv) :: r, σ, fp0, fpS, H0, BS, HS, B, H, ρ, fp, α, g, β, rel, Q, Q1, S, q, gs, k => by
    have q : c.at fp0 H0 BS ρ fpS (bnd fk fun k => bnd fv fun v => bnd (pairsM r) fun ps => g ((k, v) :: ps)) rel σ HS Q := by
      have e : bnd (pairsM ((fk, fv) :: r)) g ρ = (bnd fk fun k => bnd fv fun v => bnd (pairsM r) fun ps => g ((k, v) :: ps)) ρ := by
        show bnd (bnd fk fun k => bnd fv fun v => bnd (pairsM r) fun ps => pur ((k, v) :: ps)) g ρ = _
        unfold bnd pur
        cases fk ρ with
        | no => rfl
        | ex _ _ _ => rfl
        | ok k ρ1 =>
          simp only
          cases fv ρ1 with
          | no => rfl
          | ex _ _ _ => rfl
          | ok v ρ2 =>
            simp only
            cases pairsM r ρ2 <;> rfl
      unfold Cn.at at q ⊢
      rw [← e]; exact q
    refine ⟨B, ρ, fp, S, at_bndS q gs fun x dx ρ1 fp1 B1 H1 g1 r1 q1 => ⟨B1, ρ1, fp1, g1.sr, at_bndS q1 (fun go => gs (g1.trans go)) fun y dy ρ2 fp2 B2 H2 g2 r2 q2 => pairs_at g2.sr q2 (fun go => gs (g1.trans (g2.trans go))) fun ps ds ρ3 fp3 B3 H3 g3 r3 q3 => ?_⟩⟩
    exact k _ _ ρ3 fp3 B3 H3 (g1.trans (g2.trans g3)) (.cons ⟨r1.mono (g2.b.trans g3.b), r2.mono g3.b⟩ r3) q3
def dispM (fs : List (M D × M D)) : M D := bnd (pairsM fs) fun ps => lift (mkDic ps)
theorem RepPs.length {K : PySem.W.Frag} {B : Hp} {ps : List (V × V)} {ds : List (D × D)} (h : RepPs K B ps ds) : ps.length = ds.length := Paired.length h
theorem EN_disp {fs : List (M D × M D)} (h : EPs c X pos keys values fs) (hall : keys.all (·.isSome) = true := by rfl) (hl : keys.length = values.length := by rfl) (h0 : keys ≠ [] := by exact fun z => by cases z) (h15 : keys.length ≤ 15 := by decide) : EN c X (.Dict keys values pos) (dispM fs) :=
  peOf (pe_disp h hall hl h0 h15) fun σ H Q ⟨B, ρ, fp, S, q⟩ => fun p hp => by
    have g0 := S.fresh (.dK []) hp
    have np : ∀ i, ¬ fp i p := fun i z => by
      obtain ⟨o, e⟩ := S.al i p z
      rw [hp] at e; cases e
    refine pairs_at g0.sr q (fun go => g0.trans go) fun ps ds ρ1 fp1 B1 H1 g1 r1 q1 => ?_
    have ga := g0.trans g1
    obtain ⟨d, hd, kk⟩ := at_lift q1
    have e1 : H1 p = some (.dK []) := g1.h p _ upd_same fun ⟨i, z⟩ => np i z
    have b1 : B1 p = none := g1.f p _ upd_same (S.ex.free hp) fun ⟨i, z⟩ => np i z
    have n1 : ∀ i, ¬ fp1 i p := fun i z => (g1.s i p z).elim (np i) fun z => by rw [upd_same] at z; cases z
    unfold mkDic at hd
    by_cases hz : ds.length ≤ 15
    · rw [if_pos hz] at hd
      cases hk : keyed ds with
      | none => rw [hk] at hd; cases hd
      | some es =>
        rw [hk] at hd
        cases hd
        obtain ⟨kvs, ek, rk⟩ := keyed_v r1 hk
        refine ⟨e1, kvs, ek, by have := r1.length; rw [ek, List.length_map] at this; omega, ?_⟩
        have up : ∀ b u, H1 b = some u → ∃ u', upd H1 p (.dK (mergeK [] kvs)) b = some u' := fun b u e => by
          by_cases z : b = p
          · exact ⟨_, by rw [z, upd_same]⟩
          · exact ⟨u, by rw [upd_ne z]; exact e⟩
        refine kk _ fp1 B1 _ ⟨⟨g1.sr.ln, fun b u e => ?_, fun i d e => ?_, g1.sr.dj, g1.sr.ub, fun i b e => let ⟨u, z⟩ := g1.sr.al i b e; up b u z⟩, ga.b, fun b u e n => ?_, fun b u e => let ⟨u2, z⟩ := ga.t b u e; up b u2 z, ga.f, ga.s⟩ ⟨fun a => a = p, .dic rfl upd_same (merge_rep rk .nil).k, fun a e => ?_⟩
        · rw [upd_ne (ne_of_none e b1)]; exact g1.sr.ex b u e
        · obtain ⟨v1, e1, e2⟩ := g1.sr.sl i d e
          refine ⟨v1, e1, ?_⟩
          split
          · rename_i ho; rw [if_pos ho] at e2
            refine e2.mono (.refl _) fun b u pb z => ?_
            rw [upd_ne (show b ≠ p from fun e => n1 i (by rw [← e]; exact pb))]; exact z
          · rename_i ho; rw [if_neg ho] at e2; exact e2
        · rw [upd_ne (ne_of_none e hp)]; exact ga.h b u e n
        · subst e
          exact ⟨hp, b1, ⟨_, upd_same⟩, n1⟩
    · rw [if_neg hz] at hd; cases hd
end
end Fl

set_option maxHeartbeats 1000000
namespace Fl
open PySem PySem.Spec PyProof.Rows L2

section
variable {X : Cx}
def rInDic : R2 := fun y x H Q => ∃ a o, x = .ref a ∧ DGet H a y o ∧ Q (.bl o.isSome) H
def rNotInDic : R2 := fun y x H Q => ∃ a o, x = .ref a ∧ DGet H a y o ∧ Q (.bl (!o.isSome)) H
theorem op_inDic (hu : X.A.units + 1 < cLine) : OpR X (compareOp .In) rInDic := by
  intro pins s σ H y x u v Q I ry rx h
  obtain ⟨a, o, rfl, g, q⟩ := h
  obtain rfl : v = Value.ref a := rx
  exact d_in hu I g ry fun s3 I3 => ⟨.bl o.isSome, H, I3, rfl, q⟩
theorem op_notInDic (hu : X.A.units + 1 < cLine) : OpR X (compareOp .NotIn) rNotInDic := by
  intro pins s σ H y x u v Q I ry rx h
  obtain ⟨a, o, rfl, g, q⟩ := h
  obtain rfl : v = Value.ref a := rx
  exact d_notIn hu I g ry fun s3 I3 => ⟨.bl (!o.isSome), H, I3, rfl, q⟩
end
/-- x in a dict, a list -/
def inB (x : D) : D → Option Bool
  | .dic es => (lookD (.dic es) x).map (·.isSome)
  | .dit es => (lookD (.dit es) x).map (·.isSome)
  | .lst ds => if SeqAt.shaped (toP x) = true ∧ SeqAt.shaped (toP (.lst ds)) = true then some (ds.any fun z => PyData.eqv (toP z) (toP x)) else none
  | _ => none
def inD (x d : D) : Option D := (inB x d).map .bl
def notInD (x d : D) : Option D := (inB x d).map fun b => .bl (!b)
theorem any_toPs (p : PyData → Bool) : ∀ ds : List D, (toPs ds).any p = ds.any fun z => p (toP z)
  | [] => rfl
  | d :: ds => by unfold toPs; rw [List.any_cons, List.any_cons, any_toPs p ds]
theorem own_toDp {K : PySem.W.Frag} {B H : Hp} {x : V} {ds : List D} (ex : Ex B H) (hx : Bor K B H x (.lst ds)) (h : (toP (.lst ds)).canLay0 = true) : Dp K H x (toP (.lst ds)) := by
  rcases hx with hx | ⟨P, hx⟩
  · exact dp_of (hx.mono ex) h
  · cases hx with
    | @lst a xs _ p e r => exact dp_of (Rep.lst e (r.mono ex)) h
section
variable {c : Cn} {X : Cx} {a b d e o i k v : Expr} {fa fb fd fk fv fi fe : M D} {pos cpos apos : Pos} {j : Nat}
theorem in_any {K : PySem.W.Frag} {B H : Hp} {x y : V} {dx dy : D} {t : Bool} (ex : Ex B H) (hx : Rep K B x dx) (hy : Bor K B H y dy) (h : inB dx dy = some t) {Q : VK} (q : Q (.bl t) H) : rInDic x y H Q ∨ rInD K x y H Q := by
  have dc : ∀ {dy : D}, Bor K B H y dy → (lookD dy dx).map (·.isSome) = some t → rInDic x y H Q := fun {dy} hy h => by
    cases e : lookD dy dx with
    | none => rw [e] at h; cases h
    | some o =>
      rw [e] at h
      obtain ⟨a, r, h1, h2, _, h3, h4⟩ := look_get ex hy hx e
      refine ⟨a, r, h1, h2, ?_⟩
      have : r.isSome = t := by
        cases o with
        | none => rw [h4 rfl]; cases h; rfl
        | some d => obtain ⟨v, e, _⟩ := h3 d rfl; rw [e]; cases h; rfl
      rw [this]; exact q
  cases dy with
  | dic es => exact .inl (dc hy h)
  | dit es => exact .inl (dc hy h)
  | lst ds =>
    obtain ⟨⟨h1, h2⟩, rfl⟩ := ite_some h
    refine .inr ⟨toP dx, toPs ds, dp_of (hx.mono ex) (SeqAt.canLay_of_shaped h1), ?_, h1, by simpa [toP] using h2, by rw [any_toPs]; exact q⟩
    have := own_toDp ex hy (SeqAt.canLay_of_shaped h2)
    unfold toP at this
    exact this
  | _ => cases h
theorem notIn_any {K : PySem.W.Frag} {B H : Hp} {x y : V} {dx dy : D} {t : Bool} (ex : Ex B H) (hx : Rep K B x dx) (hy : Bor K B H y dy) (h : inB dx dy = some t) {Q : VK} (q : Q (.bl (!t)) H) : rNotInDic x y H Q ∨ rNotInD K x y H Q := by
  have dc : ∀ {dy : D}, Bor K B H y dy → (lookD dy dx).map (·.isSome) = some t → rNotInDic x y H Q := fun {dy} hy h => by
    cases e : lookD dy dx with
    | none => rw [e] at h; cases h
    | some o =>
      rw [e] at h
      obtain ⟨a, r, h1, h2, _, h3, h4⟩ := look_get ex hy hx e
      refine ⟨a, r, h1, h2, ?_⟩
      have : r.isSome = t := by
        cases o with
        | none => rw [h4 rfl]; cases h; rfl
        | some d => obtain ⟨v, e, _⟩ := h3 d rfl; rw [e]; cases h; rfl
      rw [this]; exact q
  cases dy with
  | dic es => exact .inl (dc hy h)
  | dit es => exact .inl (dc hy h)
  | lst ds =>
    obtain ⟨⟨h1, h2⟩, rfl⟩ := ite_some h
    refine .inr ⟨toP dx, toPs ds, dp_of (hx.mono ex) (SeqAt.canLay_of_shaped h1), ?_, h1, by simpa [toP] using h2, by rw [any_toPs]; exact q⟩
    have := own_toDp ex hy (SeqAt.canLay_of_shaped h2)
    unfold toP at this
    exact this
  | _ => cases h
theorem un65 {A : Around} {k : Nat} (hr : Room (k + 1) A) : A.units + 65 < cLine := by have := hr.un; omega
/-- x in d, x not in d: of a value -/
theorem ck_in {k : Nat} (hr : Room (k + 1) X.A) (hK : c.K = X.K := by rfl) : CmpK c X .In inD := ⟨_, (op_inDic (hu_of hr)).or (op_inD (un65 hr)), fun {fp0 H0 B ρ fp σ H x y dx dy Q} S hz rx ry q => by
  obtain ⟨d, hd, kk⟩ := at_lift q
  unfold inD at hd
  cases e : inB dx dy with
  | none => rw [e] at hd; cases hd
  | some t =>
    rw [e] at hd; cases hd
    rw [← hK]
    exact in_any S.ex rx (.inl ry) e (kk _ fp B H (.refl S) (.bl _))⟩
theorem ck_notIn {k : Nat} (hr : Room (k + 1) X.A) (hK : c.K = X.K := by rfl) : CmpK c X .NotIn notInD := ⟨_, (op_notInDic (hu_of hr)).or (op_notInD (un65 hr)), fun {fp0 H0 B ρ fp σ H x y dx dy Q} S hz rx ry q => by
  obtain ⟨d, hd, kk⟩ := at_lift q
  unfold notInD at hd
  cases e : inB dx dy with
  | none => rw [e] at hd; cases hd
  | some t =>
    rw [e] at hd; cases hd
    rw [← hK]
    exact notIn_any S.ex rx (.inl ry) e (kk _ fp B H (.refl S) (.bl _))⟩
/-- a value beside the thing of a slot -/
def opS (g : D → D → Option D) (fa : M D) (j : Nat) : M D := bnd fa fun x => bnd (rd j) fun d => lift (g x d)
/-- the same with one's own on the right -/
structure CmpO (c : Cn) (X : Cx) (op : CmpOp) (g : D → D → Option D) : Prop where
  ex : ∃ r, OpR X (compareOp op) r ∧ ∀ {fp0 H0 B ρ fp σ H x y dx dy Q}, SR c.K c.ow B H σ ρ fp → Rep c.K B x dx → Bor c.K B H y dy → c.at fp0 H0 B ρ fp (lift (g dx dy)) (relV c) σ H Q → r x y H Q
theorem co_in {k : Nat} (hr : Room (k + 1) X.A) (hK : c.K = X.K := by rfl) : CmpO c X .In inD := ⟨_, (op_inDic (hu_of hr)).or (op_inD (un65 hr)), fun {fp0 H0 B ρ fp σ H x y dx dy Q} S rx ry q => by
  obtain ⟨d, hd, kk⟩ := at_lift q
  unfold inD at hd
  cases e : inB dx dy with
  | none => rw [e] at hd; cases hd
  | some t =>
    rw [e] at hd; cases hd
    rw [← hK]
    exact in_any S.ex rx ry e (kk _ fp B H (.refl S) (.bl _))⟩
theorem co_notIn {k : Nat} (hr : Room (k + 1) X.A) (hK : c.K = X.K := by rfl) : CmpO c X .NotIn notInD := ⟨_, (op_notInDic (hu_of hr)).or (op_notInD (un65 hr)), fun {fp0 H0 B ρ fp σ H x y dx dy Q} S rx ry q => by
  obtain ⟨d, hd, kk⟩ := at_lift q
  unfold notInD at hd
  cases e : inB dx dy with
  | none => rw [e] at hd; cases hd
  | some t =>
    rw [e] at hd; cases hd
    rw [← hK]
    exact notIn_any S.ex rx ry e (kk _ fp B H (.refl S) (.bl _))⟩
theorem EV_cmpS {op : CmpOp} {g : D → D → Option D} (h : CmpO c X op g) (ha : EV c X a fa) (hb : PE X b (tVar j)) (hj : c.ow j = true := by rfl) (hm : behindInMarks op b = false := by first | exact nomark _ | rfl) : EV c X (.Compare a [op] [b] pos) (opS g fa j) := by
  obtain ⟨r, h1, h2⟩ := h.ex
  exact peOf (pe_cmpR h1 ha hb hm) fun σ H Q ⟨B, ρ, fp, S, q⟩ => ⟨B, ρ, fp, S, at_bnd q fun x dx ρ1 fp1 B1 H1 g1 r1 q1 => by
    obtain ⟨d, hd, q2⟩ := at_rd q1
    obtain ⟨v, hv, o⟩ := g1.sr.own hj (get_some hd)
    exact ⟨v, hv, h2 g1.sr r1 (.inr ⟨_, o⟩) q2⟩⟩
theorem ET_cmpS {op : CmpOp} {g : D → D → Option D} (h : CmpO c X op g) (ha : EV c X a fa) (hb : PE X b (tVar j)) (hj : c.ow j = true := by rfl) (hm : behindInMarks op b = false := by first | exact nomark _ | rfl) : ET c X (.Compare a [op] [b] pos) (tst (opS g fa j)) := by
  obtain ⟨r, h1, h2⟩ := h.ex
  exact ptOf (pt_cmpR h1 ha hb hm) fun σ H Q ⟨B, ρ, fp, S, q⟩ => ⟨B, ρ, fp, S, at_bnd (at_tst q) fun x dx ρ1 fp1 B1 H1 g1 r1 q1 => by
    obtain ⟨d, hd, q2⟩ := at_rd q1
    obtain ⟨v, hv, o⟩ := g1.sr.own hj (get_some hd)
    exact ⟨v, hv, h2 g1.sr r1 (.inr ⟨_, o⟩) q2⟩⟩
/-! d.get -/
def getD1 (d k : D) : Option D := (lookD d k).map fun o => o.getD .non
def getD2 (d k x : D) : Option D := (lookD d k).map fun o => o.getD x
def isDicO (d : D) : Option Unit := if isDic d = true then some () else none
def get1M (fd fk : M D) : M D := bnd fd fun d => bnd (lift (isDicO d)) fun _ => bnd fk fun k => lift (getD1 d k)
def get2M (fd fk fx : M D) : M D := bnd fd fun d => bnd (lift (isDicO d)) fun _ => bnd fk fun k => bnd fx fun x => lift (getD2 d k x)
def get1S (j : Nat) (fk : M D) : M D := bnd (rd j) fun d => bnd (lift (isDicO d)) fun _ => bnd fk fun k => bnd (rd j) fun d => lift (getD1 d k)
def get2S (j : Nat) (fk fx : M D) : M D := bnd (rd j) fun d => bnd (lift (isDicO d)) fun _ => bnd fk fun k => bnd fx fun x => bnd (rd j) fun d => lift (getD2 d k x)
theorem isD_of {K : PySem.W.Frag} {B H : Hp} {x : V} {d : D} (ex : Ex B H) (h : Bor K B H x d) (e : isDicO d = some ()) : ∃ a, x = .ref a ∧ IsD H a := by
  cases d with
  | dic es =>
    rcases h with h | ⟨P, h⟩
    · cases h with
      | dic e r => exact ⟨_, rfl, .inl ⟨_, .inl (ex _ _ e)⟩⟩
    · cases h with
      | dic p e r => exact ⟨_, rfl, .inl ⟨_, .inl e⟩⟩
  | dit es =>
    rcases h with h | ⟨P, h⟩
    · cases h with
      | dit e r => exact ⟨_, rfl, .inr ⟨_, .inl (ex _ _ e)⟩⟩
    · cases h with
      | dit p e r => exact ⟨_, rfl, .inr ⟨_, .inl e⟩⟩
  | _ => cases e
theorem get1_fin {K : PySem.W.Frag} {B H : Hp} {a : Addr} {y : V} {dx dy d : D} {Q : VK} (ex : Ex B H) (hx : Bor K B H (.ref a) dx) (hy : Rep K B y dy) (h : getD1 dx dy = some d) (k : ∀ v, Rep K B v d → Q v H) : ∃ o, DGet H a y o ∧ Q (o.getD .non) H := by
  unfold getD1 at h
  cases e : lookD dx dy with
  | none => rw [e] at h; cases h
  | some o =>
    rw [e] at h
    cases h
    obtain ⟨a', r, h1, h2, _, h3, h4⟩ := look_get ex hx hy e
    cases h1
    refine ⟨r, h2, k _ ?_⟩
    cases o with
    | none => rw [h4 rfl]; exact .non
    | some d => obtain ⟨v, e, rv⟩ := h3 d rfl; rw [e]; exact rv
theorem get2_fin {K : PySem.W.Frag} {B H : Hp} {a : Addr} {y z : V} {dx dy dz d : D} {Q : VK} (ex : Ex B H) (hx : Bor K B H (.ref a) dx) (hy : Rep K B y dy) (hz : Rep K B z dz) (h : getD2 dx dy dz = some d) (k : ∀ v, Rep K B v d → Q v H) : ∃ o, DGet H a y o ∧ Q (o.getD z) H := by
  unfold getD2 at h
  cases e : lookD dx dy with
  | none => rw [e] at h; cases h
  | some o =>
    rw [e] at h
    cases h
    obtain ⟨a', r, h1, h2, _, h3, h4⟩ := look_get ex hx hy e
    cases h1
    refine ⟨r, h2, k _ ?_⟩
    cases o with
    | none => rw [h4 rfl]; exact hz
    | some d => obtain ⟨v, e, rv⟩ := h3 d rfl; rw [e]; exact rv
theorem EV_get1 {k : Nat} (hr : Room k X.A) (ho : EV c X o fd) (he : EV c X e fk) (m : M1 X o "get" apos e cpos := by exact ⟨rfl, rfl, rfl, rfl⟩) : EV c X (.Call (.Attribute o "get" apos) [e] [] cpos) (get1M fd fk) :=
  peOf (pe_dget1 (hu_of hr) ho he m) fun σ H Q ⟨B, ρ, fp, S, q⟩ => ⟨B, ρ, fp, S, at_bnd q fun x dx ρ1 fp1 B1 H1 g1 r1 q1 => by
    obtain ⟨_, hd, q2⟩ := at_bl q1
    obtain ⟨a, rfl, isd⟩ := isD_of g1.sr.ex (.inl r1) hd
    refine ⟨a, rfl, isd, B1, ρ1, fp1, g1.sr, at_bnd q2 fun y dy ρ2 fp2 B2 H2 g2 r2 q3 => ?_⟩
    obtain ⟨d, hd, k⟩ := at_lift q3
    exact get1_fin g2.sr.ex (.inl (r1.mono g2.b)) r2 hd fun v w => k v fp2 B2 H2 (.refl g2.sr) w⟩
theorem EV_get2 {k : Nat} (hr : Room k X.A) (ho : EV c X o fd) (he : EV c X e fk) (hf : EV c X b fb) (m : M2 X o "get" apos e b cpos := by exact ⟨rfl, rfl, rfl, rfl⟩) : EV c X (.Call (.Attribute o "get" apos) [e, b] [] cpos) (get2M fd fk fb) :=
  peOf (pe_dget2 (hu_of hr) ho he hf m) fun σ H Q ⟨B, ρ, fp, S, q⟩ => ⟨B, ρ, fp, S, at_bnd q fun x dx ρ1 fp1 B1 H1 g1 r1 q1 => by
    obtain ⟨_, hd, q2⟩ := at_bl q1
    obtain ⟨a, rfl, isd⟩ := isD_of g1.sr.ex (.inl r1) hd
    refine ⟨a, rfl, isd, B1, ρ1, fp1, g1.sr, at_bnd q2 fun y dy ρ2 fp2 B2 H2 g2 r2 q3 => ⟨B2, ρ2, fp2, g2.sr, at_bnd q3 fun z dz ρ3 fp3 B3 H3 g3 r3 q4 => ?_⟩⟩
    obtain ⟨d, hd, k⟩ := at_lift q4
    exact get2_fin g3.sr.ex (.inl (r1.mono (g2.b.trans g3.b))) (r2.mono g3.b) r3 hd fun v w => k v fp3 B3 H3 (.refl g3.sr) w⟩
theorem EV_get1S {k : Nat} (hr : Room k X.A) (ho : PE X o (tVar j)) (he : EV c X e fk) (hj : c.ow j = true := by rfl) (m : M1 X o "get" apos e cpos := by exact ⟨rfl, rfl, rfl, rfl⟩) : EV c X (.Call (.Attribute o "get" apos) [e] [] cpos) (get1S j fk) :=
  peOf (pe_dget1 (hu_of hr) ho he m) fun σ H Q ⟨B, ρ, fp, S, q⟩ => by
    obtain ⟨d0, hd0, q1⟩ := at_rd q
    obtain ⟨_, hd, q2⟩ := at_bl q1
    obtain ⟨x, hx, o0⟩ := S.own hj (get_some hd0)
    obtain ⟨a, rfl, isd⟩ := isD_of S.ex (.inr ⟨_, o0⟩) hd
    refine ⟨_, hx, a, rfl, isd, B, ρ, fp, S, at_bnd q2 fun y dy ρ2 fp2 B2 H2 g2 r2 q3 => ?_⟩
    obtain ⟨d1, hd1, q4⟩ := at_rd q3
    obtain ⟨x2, hx2, o2⟩ := g2.sr.own hj (get_some hd1)
    rw [hx] at hx2; cases hx2
    obtain ⟨d, hd, k⟩ := at_lift q4
    exact get1_fin g2.sr.ex (.inr ⟨_, o2⟩) r2 hd fun v w => k v fp2 B2 H2 (.refl g2.sr) w
theorem EV_get2S {k : Nat} (hr : Room k X.A) (ho : PE X o (tVar j)) (he : EV c X e fk) (hf : EV c X b fb) (hj : c.ow j = true := by rfl) (m : M2 X o "get" apos e b cpos := by exact ⟨rfl, rfl, rfl, rfl⟩) : EV c X (.Call (.Attribute o "get" apos) [e, b] [] cpos) (get2S j fk fb) :=
  peOf (pe_dget2 (hu_of hr) ho he hf m) fun σ H Q ⟨B, ρ, fp, S, q⟩ => by
    obtain ⟨d0, hd0, q1⟩ := at_rd q
    obtain ⟨_, hd, q2⟩ := at_bl q1
    obtain ⟨x, hx, o0⟩ := S.own hj (get_some hd0)
    obtain ⟨a, rfl, isd⟩ := isD_of S.ex (.inr ⟨_, o0⟩) hd
    refine ⟨_, hx, a, rfl, isd, B, ρ, fp, S, at_bnd q2 fun y dy ρ2 fp2 B2 H2 g2 r2 q3 => ⟨B2, ρ2, fp2, g2.sr, at_bnd q3 fun z dz ρ3 fp3 B3 H3 g3 r3 q4 => ?_⟩⟩
    obtain ⟨d1, hd1, q5⟩ := at_rd q4
    obtain ⟨x2, hx2, o2⟩ := g3.sr.own hj (get_some hd1)
    rw [hx] at hx2; cases hx2
    obtain ⟨d, hd, k⟩ := at_lift q5
    exact get2_fin g3.sr.ex (.inr ⟨_, o2⟩) (r2.mono g3.b) r3 hd fun v w => k v fp3 B3 H3 (.refl g3.sr) w
/-! x[k] += e, x a dict of one's own -/
def putS (j : Nat) (k z : D) : S := fun ρ => match get ρ j with
  | some dx => match putD dx k z with
    | some dx' => .nx (ρ.set j (some dx'))
    | none => .no
  | none => .no
def daugS (j : Nat) (fk : M D) (g : D → D → Option D) (fe : M D) : S := thn (rd j) fun _ => thn fk fun k => thn (bnd (rd j) fun dx => lift (lookD dx k)) fun o => match o with
  | none => fun _ => .no
  | some x => thn fe fun y => thn (lift (g x y)) fun z => putS j k z
theorem thn_rd {σ : L2.St} {B H : Hp} {ρ : Rho} {fp : Fp} {D : Ends} {k : Fl.D → S} (h : c.atO B fp (thn (rd j) k ρ) D σ H) : ∃ d, get ρ j = some d ∧ c.atO B fp (k d ρ) D σ H := by
  unfold thn rd lift at h
  cases e : get ρ j with
  | none => rw [e] at h; exact h.elim
  | some d => rw [e] at h; exact ⟨d, rfl, h⟩
theorem thn_look {σ : L2.St} {B H : Hp} {ρ : Rho} {fp : Fp} {D : Ends} {g : Fl.D → Option (Option Fl.D)} {k : Option Fl.D → S} (h : c.atO B fp (thn (bnd (rd j) fun dx => lift (g dx)) k ρ) D σ H) : ∃ d o, get ρ j = some d ∧ g d = some o ∧ c.atO B fp (k o ρ) D σ H := by
  unfold thn bnd rd lift at h
  cases e : get ρ j with
  | none => rw [e] at h; exact h.elim
  | some d =>
    rw [e] at h
    simp only at h
    cases e2 : g d with
    | none => rw [e2] at h; exact h.elim
    | some o => rw [e2] at h; exact ⟨d, o, rfl, e2, h⟩
theorem ES_daug {k : Nat} {tpos : Pos} (hr : Room k X.A) (ho : PE X o (tVar j)) (hi : EV c X i fi) (hv : EV c X v fv) (hj : c.ow j = true := by rfl)
    (ha : ∀ ov iv new, augStore i ov iv new = (do holding [new, ov, iv] (setItem ov iv new); release [new, ov, iv] []; pure .next) := by intro _ _ _; rfl) : ES c X (.AugAssign (.Subscript o i tpos) .Add v pos) (daugS j fi (gI (fun _ _ => true) (· + ·)) fv) :=
  psOf (ps_daug (rd := rAdd) (hu_of hr) ho hi hv in_add ha) fun D σ H ⟨B, ρ, fp, S, i0, q⟩ => by
    obtain ⟨d0, hd0, q1⟩ := thn_rd q
    obtain ⟨x, hx, o0⟩ := S.own hj (get_some hd0)
    refine ⟨x, hx, B, ρ, fp, S, at_thn q1 fun y dy ρ1 fp1 B1 H1 g1 r1 q2 => ?_⟩
    obtain ⟨d1, oo, hd1, hl, q3⟩ := thn_look q2
    obtain ⟨x1, hx1, o1⟩ := g1.sr.own hj (get_some hd1)
    rw [hx] at hx1; cases hx1
    cases oo with
    | none => exact q3.elim
    | some dv =>
      obtain ⟨a, r, rfl, h2, _, h3, _⟩ := look_get g1.sr.ex (.inr ⟨_, o1⟩) r1 hl
      obtain ⟨w, rfl, rw'⟩ := h3 dv rfl
      refine ⟨a, w, rfl, h2, B1, ρ1, fp1, g1.sr, at_thn q3 fun y2 dy2 ρ2 fp2 B2 H2 g2 r2 q4 => ?_⟩
      have rw2 := rw'.mono g2.b
      cases dv with
      | int n =>
        cases dy2 with
        | int m =>
          cases rw2
          cases r2
          refine ⟨n, m, rfl, rfl, ?_⟩
          have q5 : c.atO B2 fp2 (putS j dy (.int (n + m)) ρ2) D σ H2 := q4
          unfold putS at q5
          cases e1 : get ρ2 j with
          | none => rw [e1] at q5; exact q5.elim
          | some dx =>
            rw [e1] at q5
            simp only at q5
            cases e2 : putD dx dy (.int (n + m)) with
            | none => rw [e2] at q5; exact q5.elim
            | some dx' =>
              rw [e2] at q5
              simp only at q5
              obtain ⟨x3, hx3, o3⟩ := g2.sr.own hj (get_some e1)
              rw [hx] at hx3; cases hx3
              obtain ⟨a', ob, ea, pa, dp, ow⟩ := put_own g2.sr.ex (g2.sr.ub j) o3 (r1.mono g2.b) (.int (n + m)) e2
              cases ea
              exact ⟨_, dp, q5 σ fp2 B2 _ (g2.sr.write hj (getE_lt e1) hx pa ow) (.refl σ)⟩
        | _ => exact q4.elim
      | _ => exact q4.elim
/-! ranges as lists and tuples -/
def rgL (a b : Int) : Option (List D) := if okR a = true ∧ okR b = true ∧ (b - a).toNat ≤ 16777216 then some (countD a 1 (b - a).toNat) else none
def rgM1 (fa : M D) : M (List D) := bnd fa fun x => bnd (lift (intD x)) fun i => lift (rgL 0 i)
def rgM2 (fa fb : M D) : M (List D) := bnd fa fun x => bnd fb fun y => bnd (lift (intD x)) fun i => bnd (lift (intD y)) fun j => lift (rgL i j)
theorem rgV_rep {K : PySem.W.Frag} {B : Hp} {a b : Int} : RepL K B (rgV a b) (countD a 1 (b - a).toNat) := by
  have e1 : rgV a b = ((List.range (b - a).toNat).map fun i => a + ((i : Nat) : Int)).map V.int := by unfold rgV; rw [List.map_map]; rfl
  have e2 : countD a 1 (b - a).toNat = ((List.range (b - a).toNat).map fun i => a + ((i : Nat) : Int)).map D.int := by
    unfold countD; rw [List.map_map]
    refine List.map_congr_left fun i _ => ?_
    show D.int (a + (i : Int) * 1) = D.int (a + (i : Int))
    rw [Int.mul_one]
  rw [e1, e2]
  exact .ofInts _
/-- a range's reading -/
def ER (c : Cn) (X : Cx) (e : Expr) (f : M (List D)) : Prop := ∃ t, PRg X e t ∧ ∀ {fp0 : Fp} {H0 B H : Hp} {ρ : Rho} {fp : Fp} {σ : L2.St} {β : Type} {rel : Rel β D} {g : List D → M D} {Q : β → Hp → Prop} {Q1 : Int → Int → Hp → Prop}, SR c.K c.ow B H σ ρ fp → c.at fp0 H0 B ρ fp (bnd f g) rel σ H Q →
  (∀ a b ρ1 fp1 B1 H1, Go c.K c.ow fp B H σ ρ1 fp1 B1 H1 → RgOk a b → c.at fp0 H0 B1 ρ1 fp1 (g (countD a 1 (b - a).toNat)) rel σ H1 Q → Q1 a b H1) → t σ H Q1
theorem rg_ok {a b : Int} {ds : List D} (h : rgL a b = some ds) : RgOk a b ∧ ds = countD a 1 (b - a).toNat := by
  obtain ⟨⟨h1, h2, h3⟩, rfl⟩ := ite_some h
  obtain ⟨a1, a2⟩ := okR_iff.mp h1
  obtain ⟨b1, b2⟩ := okR_iff.mp h2
  exact ⟨⟨a1, a2, b1, b2, by omega⟩, rfl⟩
theorem ER_1 {p : Pos} (hm : X.mg "range" = none) (ha : EV c X a fa) (hg : Gl X "range" := by rfl) (na : starEach [a] X.env = (false, eval a X.env) :: starEach [] X.env := by rfl) : ER c X (.Call (.Name "range" p) [a] [] pos) (rgM1 fa) :=
  ⟨_, prg_1 hg hm ha na, fun {fp0 H0 B H ρ fp σ β rel g Q Q1} S q k => by
    have q : c.at fp0 H0 B ρ fp (bnd fa fun x => bnd (bnd (lift (intD x)) fun i => lift (rgL 0 i)) g) rel σ H Q := by
      have e : bnd (rgM1 fa) g ρ = (bnd fa fun x => bnd (bnd (lift (intD x)) fun i => lift (rgL 0 i)) g) ρ := by
        unfold rgM1 bnd
        cases fa ρ <;> rfl
      unfold Cn.at at q ⊢
      rw [← e]; exact q
    refine ⟨B, ρ, fp, S, at_bnd q fun x dx ρ1 fp1 B1 H1 g1 r1 q1 => ?_⟩
    cases r1 with
    | int n =>
      cases e : rgL 0 n with
      | none =>
        have : bnd (bnd (lift (intD (.int n))) fun i => lift (rgL 0 i)) g ρ1 = .no := by
          show bnd (lift (rgL 0 n)) g ρ1 = .no
          rw [e]; rfl
        unfold Cn.at at q1
        rw [this] at q1
        exact q1.elim
      | some ds =>
        obtain ⟨ok, rfl⟩ := rg_ok e
        refine ⟨n, rfl, k 0 n ρ1 fp1 B1 H1 g1 ok ?_⟩
        have : bnd (bnd (lift (intD (.int n))) fun i => lift (rgL 0 i)) g ρ1 = g (countD 0 1 (n - 0).toNat) ρ1 := by
          show bnd (lift (rgL 0 n)) g ρ1 = _
          rw [e]; rfl
        unfold Cn.at at q1 ⊢
        rw [this] at q1
        exact q1
    | _ => exact q1.elim⟩
theorem ER_2 {p : Pos} (hm : X.mg "range" = none) (ha : EV c X a fa) (hb : EV c X b fb) (hg : Gl X "range" := by rfl) (na : starEach [a, b] X.env = (false, eval a X.env) :: starEach [b] X.env := by rfl) (nb : starEach [b] X.env = (false, eval b X.env) :: starEach [] X.env := by rfl) (hp : (backTo pos (starEach [b] X.env)).any (·.1) = false := by rfl) :
    ER c X (.Call (.Name "range" p) [a, b] [] pos) (rgM2 fa fb) :=
  ⟨_, prg_2 hg hm ha hb na nb hp, fun {fp0 H0 B H ρ fp σ β rel g Q Q1} S q k => by
    have q : c.at fp0 H0 B ρ fp (bnd fa fun x => bnd fb fun y => bnd (bnd (lift (intD x)) fun i => bnd (lift (intD y)) fun j => lift (rgL i j)) g) rel σ H Q := by
      have e : bnd (rgM2 fa fb) g ρ = (bnd fa fun x => bnd fb fun y => bnd (bnd (lift (intD x)) fun i => bnd (lift (intD y)) fun j => lift (rgL i j)) g) ρ := by
        unfold rgM2 bnd
        cases fa ρ with
        | no => rfl
        | ex _ _ _ => rfl
        | ok a ρ1 => simp only; cases fb ρ1 <;> rfl
      unfold Cn.at at q ⊢
      rw [← e]; exact q
    refine ⟨B, ρ, fp, S, at_bnd q fun x dx ρ1 fp1 B1 H1 g1 r1 q1 => ⟨B1, ρ1, fp1, g1.sr, at_bnd q1 fun y dy ρ2 fp2 B2 H2 g2 r2 q2 => ?_⟩⟩
    cases r1 with
    | int n =>
      cases r2 with
      | int m =>
        cases e : rgL n m with
        | none =>
          have : bnd (bnd (lift (intD (.int n))) fun i => bnd (lift (intD (.int m))) fun j => lift (rgL i j)) g ρ2 = .no := by
            show bnd (lift (rgL n m)) g ρ2 = .no
            rw [e]; rfl
          unfold Cn.at at q2
          rw [this] at q2
          exact q2.elim
        | some ds =>
          obtain ⟨ok, rfl⟩ := rg_ok e
          refine ⟨n, m, rfl, rfl, k n m ρ2 fp2 B2 H2 (g1.trans g2) ok ?_⟩
          have : bnd (bnd (lift (intD (.int n))) fun i => bnd (lift (intD (.int m))) fun j => lift (rgL i j)) g ρ2 = g (countD n 1 (m - n).toNat) ρ2 := by
            show bnd (lift (rgL n m)) g ρ2 = _
            rw [e]; rfl
          unfold Cn.at at q2 ⊢
          rw [this] at q2
          exact q2
      | _ => exact q2.elim
    | _ => exact q2.elim⟩
theorem EV_tupR {f : M (List D)} {p : Pos} (hc : X.calm = true) (hm : X.mg "tuple" = none) (he : ER c X e f) (hg : Gl X "tuple" := by rfl) (na : starEach [e] X.env = (false, eval e X.env) :: starEach [] X.env := by rfl) : EV c X (.Call (.Name "tuple" p) [e] [] pos) (bnd f fun ds => pur (.tup ds)) := by
  obtain ⟨t, h1, h2⟩ := he
  exact peOf (pe_tupRg hc hg hm h1 na) fun σ H Q ⟨B, ρ, fp, S, q⟩ => h2 S q fun a b ρ1 fp1 B1 H1 g1 ok q1 => ⟨ok, fun p hp => at_pur q1 _ _ _ _ (g1.sr.laid _ hp) (.tup upd_same rgV_rep)⟩
theorem EN_lstR {f : M (List D)} {p : Pos} (hc : X.calm = true) (hm : X.mg "list" = none) (he : ER c X e f) (hg : Gl X "list" := by rfl) (na : starEach [e] X.env = (false, eval e X.env) :: starEach [] X.env := by rfl) : EN c X (.Call (.Name "list" p) [e] [] pos) (bnd f fun ds => pur (.lst ds)) := by
  obtain ⟨t, h1, h2⟩ := he
  exact peOf (pe_listRg hc hg hm h1 na) fun σ H Q ⟨B, ρ, fp, S, q⟩ => h2 S q fun a b ρ1 fp1 B1 H1 g1 ok q1 => ⟨ok, fun p hp => fin_own g1.sr (at_pur q1) hp (g1.non hp) (.lst rfl upd_same rgV_rep)⟩
def negD : D → Option D
  | .int i => some (.int (-i))
  | _ => none
theorem EV_neg (ha : EV c X a fa) : EV c X (.UnaryOp .USub a pos) (op1 negD fa) :=
  peOf (pe_un un_neg ha) fun σ H Q ⟨B, ρ, fp, S, q⟩ => ⟨B, ρ, fp, S, at_bnd q fun x dx ρ1 fp1 B1 H1 g1 r1 q1 => by
    obtain ⟨d, hd, k⟩ := at_lift q1
    cases r1 with
    | int i => cases hd; exact ⟨i, rfl, k _ fp1 B1 H1 (.refl g1.sr) (.int _)⟩
    | _ => cases hd⟩
end
end Fl

set_option maxHeartbeats 1000000
namespace Fl
open PySem PySem.Spec PyProof.Rows L2

def lk (is : List Nat) (i : Nat) : Bool := is.contains i
/-- a def of the text as the top has left it -/
def Has (K : PySem.W.Frag) (mg : Str → Option Value) (x : Str) (st : Stmt) (ps : List Str) : Prop := ∃ f fd, Fun K x x st f fd ∧ mg x = some (.ref f) ∧ Binds K fd ps []
/-- a def that keeps its function -/
def Okd (P : Program) (w : World) (K : PySem.W.Frag) (mg : Str → Option Value) (base : Heap) (lev : Nat) (x : Str) (ps : List Str) (pow kp : Nat → Bool) (rm : Bool) (xr : Str → D → Value → Option Addr → Hp → Prop) (n : Nat) (F : List D → R D) : Prop :=
  ∃ f fd, mg x = some (.ref f) ∧ PySem.W.keepIn K (.ref f) = true ∧ Binds K fd ps [] ∧ FnOk P w K mg base (L2.CX P w) lev f fd ps (spF K pow kp rm xr n F)
section
variable {c : Cn} {X : Cx} {j k n : Nat} {x : Str} {ps : List Str} {kp : Nat → Bool} {m0 : List Md} {F : List D → R D} {p pos : Pos} {e : Expr} {es : List Expr} {ms : List Md} {fa : M (List D)}
theorem EV_cal (O : Okd X.prog X.w X.K X.mg X.base j x ps (ownM m0) kp false c.xr n F) (hr : Room k X.A) (tk : Takes X c.W) (ha : EA c X ms (e :: es) fa) (hjk : j ≤ k := by decide) (hK : c.K = X.K := by rfl) (hpow : m0.map Md.own = ms.map Md.own := by rfl) (hl : ms.length = n := by rfl) (hg : Gl X x := by rfl)
    (hdb : (x == ("__debug__" : Str)) = false := by decide) (he : starEach (e :: es) X.env = (false, eval e X.env) :: starEach es X.env := by rfl) (hpl : (backTo pos (starEach es X.env)).any (·.1) = false := by rfl) (hks : ksOk kp 0 ms = true := by rfl) : EV c X (.Call (.Name x p) (e :: es) [] pos) (callF ms F fa) := by
  obtain ⟨f, fd, hm, hk, hb, G⟩ := O
  exact EV_call (by rw [hK]; exact G.mono hjk) hr hm hk hb tk ha (ownM_own hpow) hl hg hdb he hpl hks
theorem EN_cal (O : Okd X.prog X.w X.K X.mg X.base j x ps (ownM m0) kp true c.xr n F) (hr : Room k X.A) (tk : Takes X c.W) (ha : EA c X ms (e :: es) fa) (hjk : j ≤ k := by decide) (hK : c.K = X.K := by rfl) (hpow : m0.map Md.own = ms.map Md.own := by rfl) (hl : ms.length = n := by rfl) (hg : Gl X x := by rfl)
    (hdb : (x == ("__debug__" : Str)) = false := by decide) (he : starEach (e :: es) X.env = (false, eval e X.env) :: starEach es X.env := by rfl) (hpl : (backTo pos (starEach es X.env)).any (·.1) = false := by rfl) (hks : ksOk kp 0 ms = true := by rfl) : EN c X (.Call (.Name x p) (e :: es) [] pos) (callF ms F fa) := by
  obtain ⟨f, fd, hm, hk, hb, G⟩ := O
  exact EN_call (by rw [hK]; exact G.mono hjk) hr hm hk hb tk ha (ownM_own hpow) hl hg hdb he hpl hks
theorem EV_cal0 (O : Okd X.prog X.w X.K X.mg X.base j x [] (ownM m0) kp false c.xr 0 F) (hr : Room k X.A) (tk : Takes X c.W) (hjk : j ≤ k := by decide) (hK : c.K = X.K := by rfl) (hpow : m0.map Md.own = ([] : List Md).map Md.own := by rfl) (hg : Gl X x := by rfl) (hdb : (x == ("__debug__" : Str)) = false := by decide) :
    EV c X (.Call (.Name x p) [] [] pos) (callF [] F aNil) := by
  obtain ⟨f, fd, hm, hk, hb, G⟩ := O
  have G' : FnOk X.prog X.w X.K X.mg X.base (L2.CX X.prog X.w) k f fd [] (spF c.K (ownM m0) kp false c.xr 0 F) := by rw [hK]; exact G.mono hjk
  refine ⟨fun pins s σ H Q I h => ?_⟩
  obtain ⟨B, ρ, fp, S, q⟩ := h
  have q2 := call_core (kp := kp) (Q := Q) (ms := []) (fa := aNil) (ownM_own hpow) (fun i j h => by simp at h) (fun _ _ _ h => relP_V h) rfl q
  have q4 : spF c.K (ownM m0) kp false c.xr 0 F ([] ++ []) H Q (WE c.W σ) := at_pur q2 [] fp B H (.refl S) ⟨rfl, _, .nil S.ex, fun _ _ h => h.elim, fun i j h => by simp at h⟩
  refine wpAny_Call_Name_kw (ld_glob I hg hm ?_ hdb)
  exact PySem.W.callWith_K0 I.kIn hk (run_fnSD (us := []) (E := WE c.W) (dvs := []) (ds := []) G' hr hb .nil (passAt tk σ) I .nil q4)
end
/-! globals that hold ints, texts -/
def GlobV (K : PySem.W.Frag) (mg : Str → Option Value) (x : Str) (d : D) : Prop := ∃ v u, mg x = some u ∧ RelV v u ∧ ∀ B, Rep K B v d
theorem EV_glob {c : Cn} {X : Cx} {x : Str} {d : D} {pos : Pos} (h : GlobV X.K X.mg x d) (hK : c.K = X.K := by rfl) (hg : Gl X x := by rfl) (hd : (x == ("__debug__" : Str)) = false := by decide) : EV c X (.Name x pos) (pur d) := by
  obtain ⟨v, u, hm, r, rp⟩ := h
  exact EV_c (pe_glob hg hm r hd) fun B => by rw [hK]; exact rp B
theorem ES_doc {c : Cn} {X : Cx} {x j pos pos'} : ES c X (.Expr (.Constant (.str x) j pos) pos') skip := psOf ps_doc fun D σ H ⟨B, ρ, fp, S, i, q⟩ => q σ fp B H (.refl S) (.refl σ)
/-- the law's own def: of every script it is True -/
theorem law_sp {K : PySem.W.Frag} {xr : Str → D → Value → Option Addr → Hp → Prop} {kp : Nat → Bool} {F : List D → R D} {n : Nat} (hF : ∀ ns : List Int, ns.length ≤ n → ∃ outs, F [.scr (ns.map D.int)] = .ok (.bl true) outs)
    (H : Hp) (a : Addr) (ns : List Int) (hl : ns.length ≤ n) (hS : SqL K H a (ns.map V.int)) : spF K (ownM [.v]) kp false xr 1 F [.ref a] H (fun v _ => v = .bl true) fun _ _ _ => False := by
  obtain ⟨outs, e⟩ := hF ns hl
  refine ⟨rfl, H, [.scr (ns.map D.int)], fun _ _ => False, ⟨rfl, Ex.refl _, fun i d h => ?_, fun _ _ _ h => h.elim, fun _ _ h => h.elim, fun _ _ h => h.elim⟩, ?_⟩
  · cases i with
    | zero =>
      cases h
      exact ⟨_, rfl, .scr hS (.ofInts ns)⟩
    | succ i => simp at h
  · rw [e]
    intro v fp' B' H' go r
    unfold relP at r
    rw [if_neg (by decide)] at r
    cases r
    rfl
theorem hcx {P : Program} {w : World} (H : Hp) (s : Shared) (e : Value) (s' : Shared) (h : L2.CX P w [] H s (fun _ _ _ => False) e s') : False := by
  obtain ⟨_, _, _, _, _, _, _, _, _, _, _, _, z⟩ := h
  exact z
end Fl

set_option maxHeartbeats 1000000
/-! steps of functions upon data, as rows for simp -/
namespace Fl
open PySem PySem.Spec PyProof.Rows L2
section
variable {α β : Type} (ρ : Rho)
@[simp ↓] theorem x_bnd (f : M α) (g : α → M β) : bnd f g ρ = match f ρ with | .ok a ρ' => g a ρ' | .ex x d ρ' => .ex x d ρ' | .no => .no := (rfl)
@[simp ↓] theorem x_pur (a : α) : (pur a : M α) ρ = .ok a ρ := (rfl)
@[simp ↓] theorem x_lift (o : Option α) : lift o ρ = match o with | some a => .ok a ρ | none => .no := (rfl)
@[simp ↓] theorem x_rd (i : Nat) : rd i ρ = lift (get ρ i) ρ := (rfl)
@[simp ↓] theorem x_op2 (g : D → D → Option D) (fa fb : M D) : op2 g fa fb ρ = bnd fa (fun x => bnd fb fun y => lift (g x y)) ρ := (rfl)
@[simp ↓] theorem x_op1 (g : D → Option D) (fa : M D) : op1 g fa ρ = bnd fa (fun x => lift (g x)) ρ := (rfl)
@[simp ↓] theorem x_tst (f : M D) : tst f ρ = bnd f (fun d => lift (tru d)) ρ := (rfl)
@[simp ↓] theorem x_andT (ta tb : M Bool) : andT ta tb ρ = bnd ta (fun x => if x = true then tb else pur false) ρ := (rfl)
@[simp ↓] theorem x_orT (ta tb : M Bool) : orT ta tb ρ = bnd ta (fun x => if x = true then pur true else tb) ρ := (rfl)
@[simp ↓] theorem x_notT (ta : M Bool) : notT ta ρ = bnd ta (fun x => pur (!x)) ρ := (rfl)
@[simp ↓] theorem x_andV (fa fb : M D) : andV fa fb ρ = bnd fa (fun x => bnd (lift (tru x)) fun k => if k = true then fb else pur (.bl false)) ρ := (rfl)
@[simp ↓] theorem x_orV (fa fb : M D) : orV fa fb ρ = bnd fa (fun x => bnd (lift (tru x)) fun k => if k = true then pur (.bl true) else fb) ρ := (rfl)
@[simp ↓] theorem x_notV (fa : M D) : notV fa ρ = bnd fa (fun x => bnd (lift (tru x)) fun k => pur (.bl (!k))) ρ := (rfl)
@[simp ↓] theorem x_ifM (t : M Bool) (fa fb : M α) : ifM t fa fb ρ = bnd t (fun x => if x = true then fa else fb) ρ := (rfl)
@[simp ↓] theorem x_chn (g g' : D → D → Option D) (fa fb fd : M D) : chn g g' fa fb fd ρ = bnd fa (fun x => bnd fb fun y => bnd (lift (g x y)) fun z => bnd (lift (tru z)) fun k => if k = true then bnd fd fun u => lift (g' y u) else pur (.bl false)) ρ := (rfl)
@[simp ↓] theorem x_aNil : aNil ρ = .ok [] ρ := (rfl)
@[simp ↓] theorem x_aCons (fa : M D) (fr : M (List D)) : aCons fa fr ρ = bnd fa (fun x => bnd fr fun xs => pur (x :: xs)) ρ := (rfl)
@[simp ↓] theorem x_aSlot (j : Nat) (fr : M (List D)) : aSlot j fr ρ = bnd (rd j) (fun _ => bnd fr fun xs => bnd (rd j) fun x => pur (x :: xs)) ρ := (rfl)
@[simp ↓] theorem x_thn (f : M α) (k : α → S) : thn f k ρ = match f ρ with | .ok a ρ' => k a ρ' | .ex x d ρ' => .ex x d ρ' | .no => .no := (rfl)
@[simp ↓] theorem x_skip : skip ρ = .nx ρ := (rfl)
@[simp ↓] theorem x_ret (f : M D) : ret f ρ = thn f (fun d ρ => .rt d ρ) ρ := (rfl)
@[simp ↓] theorem x_ifS (t : M Bool) (a b : S) : ifS t a b ρ = thn t (fun k => if k = true then a else b) ρ := (rfl)
@[simp ↓] theorem x_setS (i : Nat) (f : M D) : setS i f ρ = thn f (fun d ρ => .nx (ρ.set i (some d))) ρ := (rfl)
@[simp ↓] theorem x_asgS (f : M D) (g : G) : asgS f g ρ = thn f (fun d ρ => match g d ρ with | some ρ' => .nx ρ' | none => .no) ρ := (rfl)
@[simp ↓] theorem x_parS (is : List Nat) (f : M (List D)) : parS is f ρ = thn f (fun ds ρ => if ds.length = is.length then .nx ((is.zip ds).foldl (fun ρ p => ρ.set p.1 (some p.2)) ρ) else .no) ρ := (rfl)
@[simp ↓] theorem x_callF (ms : List Md) (F : List D → R D) (fa : M (List D)) : callF ms F fa ρ = bnd fa (fun ds ρ => match F ds with | .ok d outs => .ok d (upds ms outs ρ) | .ex x d outs => .ex x d (upds ms outs ρ) | .no => .no) ρ := (rfl)
@[simp ↓] theorem x_lcM (it : M (List D)) (g : G) (t : M Bool) (fe : M D) (vs : List Nat) : lcM it g t fe vs ρ = bnd it (lcK g t fe vs) ρ := (rfl)
@[simp ↓] theorem x_forS (it : M (List D)) (g : G) (s : S) : forS it g s ρ = thn it (fun ds => forGo g s ds) ρ := (rfl)
@[simp ↓] theorem x_itSeq (f : M D) : itSeq f ρ = bnd f (fun d => lift (seqD d)) ρ := (rfl)
@[simp ↓] theorem x_it1 (fa : M D) : it1 fa ρ = bnd (aCons fa aNil) (fun xs => lift (rng1 xs)) ρ := (rfl)
@[simp ↓] theorem x_it2 (fa fb : M D) : it2 fa fb ρ = bnd (aCons fa (aCons fb aNil)) (fun xs => lift (rng2 xs)) ρ := (rfl)
@[simp ↓] theorem x_it3 (fa fb fc : M D) : it3 fa fb fc ρ = bnd (aCons fa (aCons fb (aCons fc aNil))) (fun xs => lift (rng3 xs)) ρ := (rfl)
@[simp ↓] theorem x_ixS (j : Nat) (fb : M D) : ixS j fb ρ = bnd (rd j) (fun _ => bnd fb fun k => bnd (rd j) fun x => lift (ixD x k)) ρ := (rfl)
@[simp ↓] theorem x_methM (j : Nat) (m : D → List D → Option (D × D)) (fa : M (List D)) : methM j m fa ρ = bnd (rd j) (fun d0 => bnd (lift (isLst d0)) fun _ => bnd fa fun xs => updS j fun d => m d xs) ρ := (rfl)
@[simp ↓] theorem x_oNone : oNone ρ = .ok none ρ := (rfl)
@[simp ↓] theorem x_oSome (f : M D) : oSome f ρ = bnd f (fun d => bnd (lift (intD d)) fun i => pur (some i)) ρ := (rfl)
@[simp ↓] theorem x_slM (fa : M D) (fl fh : M (Option Int)) : slM fa fl fh ρ = bnd fa (fun x => bnd fl fun l => bnd fh fun h => lift (slD x l h)) ρ := (rfl)
@[simp ↓] theorem x_slS (j : Nat) (fl fh : M (Option Int)) : slS j fl fh ρ = bnd (rd j) (fun _ => bnd fl fun l => bnd fh fun h => bnd (rd j) fun x => lift (slD x l h)) ρ := (rfl)
@[simp ↓] theorem x_rgM2 (fa fb : M D) : rgM2 fa fb ρ = bnd fa (fun x => bnd fb fun y => bnd (lift (intD x)) fun i => bnd (lift (intD y)) fun j => lift (rgL i j)) ρ := (rfl)
end
/-- a row of statements: the first goes on -/
theorem sq_nx {s t : S} {ρ ρ' : Rho} (h : s ρ = .nx ρ') : sq s t ρ = t ρ' := by unfold sq; rw [h]
theorem sq_rt {s t : S} {ρ ρ' : Rho} {d : D} (h : s ρ = .rt d ρ') : sq s t ρ = .rt d ρ' := by unfold sq; rw [h]
@[simp ↓] theorem x_sq (s t : S) (ρ : Rho) : sq s t ρ = match s ρ with | .nx ρ' => t ρ' | o => o := (rfl)
@[simp] theorem get_0 (o : Option D) (r : Rho) : get (o :: r) 0 = o := (rfl)
@[simp] theorem get_s (o : Option D) (r : Rho) (n : Nat) : get (o :: r) (n + 1) = get r n := (rfl)
@[simp] theorem wipe_1 (ρ : Rho) (v : Nat) : wipeR ρ [v] = ρ.set v none := (rfl)
@[simp] theorem unw_1 (ρ ρe : Rho) (v : Nat) : unw ρ ρe [v] = ρe.set v (get ρ v) := (rfl)
@[simp] theorem gNam_x (i : Nat) (d : D) (ρ : Rho) : gNam i d ρ = some (ρ.set i (some d)) := (rfl)
@[simp] theorem mask_nil (kp : Nat → Bool) (n : Nat) : mask kp n [] = [] := (rfl)
@[simp] theorem mask_cons (kp : Nat → Bool) (n : Nat) (o : Option D) (r : Rho) : mask kp n (o :: r) = (if kp n = true then o else none) :: mask kp (n + 1) r := (rfl)
@[simp] theorem lk_nil (i : Nat) : lk [] i = false := (rfl)
@[simp] theorem lk_0 (i : Nat) : lk [0] i = (i == 0) := by unfold lk; simp [List.contains, List.elem]; cases i <;> rfl
@[simp] theorem tru_bl (b : Bool) : tru (.bl b) = some b := (rfl)
@[simp] theorem upds_nil (os ρ : Rho) : upds [] os ρ = ρ := (rfl)
@[simp] theorem upds_v (ms : List Md) (o : Option D) (os ρ : Rho) : upds (.v :: ms) (o :: os) ρ = upds ms os ρ := (rfl)
@[simp] theorem upds_n (ms : List Md) (o : Option D) (os ρ : Rho) : upds (.n :: ms) (o :: os) ρ = upds ms os ρ := (rfl)
@[simp] theorem upds_s (j : Nat) (ms : List Md) (o : Option D) (os ρ : Rho) : upds (.s j :: ms) (o :: os) ρ = upds ms os (ρ.set j o) := (rfl)
/-- naturals as data -/
def N (n : Nat) : D := .int n
@[simp] theorem lit0 : D.int 0 = N 0 := (rfl)
@[simp] theorem lit1 : D.int 1 = N 1 := (rfl)
@[simp] theorem lit2 : D.int 2 = N 2 := (rfl)
@[simp] theorem lit3 : D.int 3 = N 3 := (rfl)
@[simp] theorem lit4 : D.int 4 = N 4 := (rfl)
@[simp] theorem lit5 : D.int 5 = N 5 := (rfl)
@[simp] theorem lit7 : D.int 7 = N 7 := (rfl)
@[simp] theorem lit8 : D.int 8 = N 8 := (rfl)
@[simp] theorem lit9 : D.int 9 = N 9 := (rfl)
@[simp] theorem lit10 : D.int 10 = N 10 := (rfl)
@[simp] theorem lit18 : D.int 18 = N 18 := (rfl)
@[simp] theorem lit49 : D.int 49 = N 49 := (rfl)
@[simp] theorem lit58 : D.int 58 = N 58 := (rfl)
@[simp] theorem lit60 : D.int 60 = N 60 := (rfl)
@[simp] theorem lit72 : D.int 72 = N 72 := (rfl)
@[simp] theorem lit400 : D.int 400 = N 400 := (rfl)
@[simp] theorem lit997 : D.int 997 = N 997 := (rfl)
@[simp] theorem lit16807 : D.int 16807 = N 16807 := (rfl)
@[simp] theorem lit48271 : D.int 48271 = N 48271 := (rfl)
@[simp] theorem lit69621 : D.int 69621 = N 69621 := (rfl)
@[simp] theorem lit65521 : D.int 65521 = N 65521 := (rfl)
@[simp] theorem lit65537 : D.int 65537 = N 65537 := (rfl)
@[simp] theorem lit1000003 : D.int 1000003 = N 1000003 := (rfl)
def nat : D → Nat
  | .int k => k.toNat
  | _ => 0
@[simp] theorem nat_N (n : Nat) : nat (N n) = n := Int.toNat_natCast n
@[simp] theorem addN (a b : Nat) : addD (N a) (N b) = some (N (a + b)) := (rfl)
theorem subN {a b : Nat} (h : b ≤ a) : subD (N a) (N b) = some (N (a - b)) := by
  show some (D.int ((a : Int) - b)) = some (D.int ((a - b : Nat) : Int))
  rw [Int.ofNat_sub h]
theorem mulN {a b : Nat} (h : a < 2 ^ 64 ∨ b < 2 ^ 64) : mulD (N a) (N b) = some (N (a * b)) := by
  have : cMl a b = true := cMl_iff.mpr (by omega)
  show (if cMl a b = true then some (D.int ((a : Int) * b)) else none) = _
  rw [if_pos this]; rfl
theorem shlN {a b : Nat} (h : a < 2 ^ 64) (hb : b ≤ 1000000) : shlD (N a) (N b) = some (N (a * 2 ^ b)) := by
  have : cSh a b = true := cSh_iff.mpr ⟨by omega, by omega, by simpa using h⟩
  show (if cSh a b = true then some (D.int ((a : Int) * 2 ^ b)) else none) = _
  rw [if_pos this]
  show _ = some (D.int ((a * 2 ^ b : Nat) : Int))
  push_cast; rfl
theorem powN {a b : Nat} (h : a < 2 ^ 64) (hb : b ≤ 1000000) : powD (N a) (N b) = some (N (a ^ b)) := by
  have : cSh a b = true := cSh_iff.mpr ⟨by omega, by omega, by simpa using h⟩
  show (if cSh a b = true then some (D.int ((a : Int) ^ b)) else none) = _
  rw [if_pos this]
  show _ = some (D.int ((a ^ b : Nat) : Int))
  push_cast; rfl
@[simp] theorem mkLst_nil : mkLst [] = some (.lst []) := if_pos (Nat.zero_le _)
@[simp] theorem mkTup_nil : mkTup [] = some (.tup []) := if_pos (Nat.zero_le _)
@[simp] theorem mkTup_1 (a : D) : mkTup [a] = some (.tup [a]) := if_pos (by unfold szL; simp)
@[simp] theorem mkTup_2 (a b : D) : mkTup [a, b] = some (.tup [a, b]) := if_pos (by unfold szL; simp)
@[simp] theorem mkTup_3 (a b c : D) : mkTup [a, b, c] = some (.tup [a, b, c]) := if_pos (by unfold szL; simp)
@[simp] theorem mkTup_4 (a b c d : D) : mkTup [a, b, c, d] = some (.tup [a, b, c, d]) := if_pos (by unfold szL; simp)
@[simp] theorem shrN (a b : Nat) : shrD (N a) (N b) = some (N (a / 2 ^ b)) := by
  have : cShr a b = true := cShr_iff.mpr (by omega)
  show (if cShr a b = true then some (D.int ((a : Int) / 2 ^ b)) else none) = _
  rw [if_pos this]
  show _ = some (D.int ((a / 2 ^ b : Nat) : Int))
  push_cast; rfl
theorem modN {a b : Nat} (h : 0 < b) : modD (N a) (N b) = some (N (a % b)) := by
  have : cMod a b = true := cMod_iff.mpr (by omega)
  show (if cMod a b = true then some (D.int ((a : Int) % b)) else none) = _
  rw [if_pos this]; rfl
theorem divN {a b : Nat} (h : 0 < b) (h2 : b < 2 ^ 64) : divD (N a) (N b) = some (N (a / b)) := by
  have : cDiv a b = true := cDiv_iff.mpr (by omega)
  show (if cDiv a b = true then some (D.int ((a : Int) / b)) else none) = _
  rw [if_pos this]; rfl
@[simp] theorem xorN (a b : Nat) : xorD (N a) (N b) = some (N (a ^^^ b)) := by
  show some (D.int (Builtin.bitXor a b)) = _
  rw [Bits.bitXor_pp (by omega) (by omega)]; rfl
@[simp] theorem andN (a b : Nat) : andD (N a) (N b) = some (N (a &&& b)) := by
  show some (D.int (Builtin.bitAnd a b)) = _
  rw [bitAnd_pp (by omega) (by omega)]; rfl
@[simp] theorem eqN (a b : Nat) : eqD (N a) (N b) = some (.bl (decide (a = b))) := by
  unfold eqD
  rw [if_pos ⟨rfl, rfl⟩]
  congr 2
  show decide ((a : Int) = b) = decide (a = b)
  congr 1; exact propext (by omega)
@[simp] theorem neN (a b : Nat) : neD (N a) (N b) = some (.bl (!decide (a = b))) := by
  unfold neD
  rw [if_pos ⟨rfl, rfl⟩]
  congr 3
  show decide ((a : Int) = b) = decide (a = b)
  congr 1; exact propext (by omega)
@[simp] theorem ltN (a b : Nat) : ltD (N a) (N b) = some (.bl (decide (a < b))) := by
  show some (D.bl (decide ((a : Int) < b))) = _
  congr 3; exact propext (by omega)
@[simp] theorem leN (a b : Nat) : leD (N a) (N b) = some (.bl (decide (a ≤ b))) := by
  show some (D.bl (decide ((a : Int) ≤ b))) = _
  congr 3; exact propext (by omega)
@[simp] theorem gtN (a b : Nat) : gtD (N a) (N b) = some (.bl (decide (b < a))) := by
  show some (D.bl (decide ((b : Int) < a))) = _
  congr 3; exact propext (by omega)
@[simp] theorem geN (a b : Nat) : geD (N a) (N b) = some (.bl (decide (b ≤ a))) := by
  show some (D.bl (decide ((b : Int) ≤ a))) = _
  congr 3; exact propext (by omega)
@[simp] theorem intFN (a : Nat) : intF (N a) = some (N a) := (rfl)
theorem rng1N {n : Nat} (h : n < 2 ^ 62) : rng1 [N n] = some ((List.range n).map N) := by
  show (if okR n = true then some (countD 0 1 (n : Int).toNat) else none) = _
  rw [if_pos (okR_iff.mpr ⟨by omega, by omega⟩)]
  unfold countD
  congr 1
  apply List.map_congr_left
  intro i _
  show D.int (0 + (i : Int) * 1) = D.int i
  congr 1; omega
theorem szL_ok {n : Nat} (h : n < 2 ^ 20) : n ≤ szL := by unfold szL; omega
theorem rng3_def (i j c : Int) : rng3 [.int i, .int j, .int c] = if okR i = true ∧ okR j = true ∧ c = -1 then some (countD i (-1) (i - j).toNat) else none := rfl
theorem rng3N {n : Nat} (h : n < 2 ^ 62) (h0 : 0 < n) : rng3 [N (n - 1), .int (-1), .int (-1)] = some ((List.range n).map fun i => N (n - 1 - i)) := by
  unfold N
  rw [rng3_def, if_pos ⟨okR_iff.mpr ⟨by omega, by omega⟩, okR_iff.mpr ⟨by decide, by decide⟩, rfl⟩]
  have : (((n - 1 : Nat) : Int) - -1).toNat = n := by omega
  rw [this]
  unfold countD
  congr 1
  apply List.map_congr_left
  intro i hi
  rw [List.mem_range] at hi
  congr 1; omega
theorem ixNN {n i : Nat} (h : i < n) : ixN n (i : Int) = some i := by
  unfold ixN
  simp [h]
theorem atN {α : Type} {xs : List α} {i : Nat} {d : α} (h : xs[i]? = some d) : atI xs (i : Int) = some d := by
  unfold atI
  rw [ixNN (List.getElem?_eq_some_iff.mp h).1]; exact h
theorem ixTN {xs : List D} {i : Nat} {d : D} (h : xs[i]? = some d) : ixD (.tup xs) (N i) = some d := atN h
theorem ixLN {xs : List D} {i : Nat} {d : D} (h : xs[i]? = some d) : ixD (.lst xs) (N i) = some d := atN h
theorem ixSN {xs : List D} {i : Nat} {d : D} (h : xs[i]? = some d) : ixD (.scr xs) (N i) = some d := atN h
theorem mkTup_ok {xs : List D} (h : xs.length ≤ szL) : mkTup xs = some (.tup xs) := if_pos h
theorem mkLst_ok {xs : List D} (h : xs.length ≤ szL) : mkLst xs = some (.lst xs) := if_pos h
/-- a comprehension whose item is a function of the target -/
theorem lc_go {v : Nat} {fe : M D} {ρ : Rho} {f : D → D} : ∀ {ds : List D}, (∀ d ∈ ds, fe ((ρ.set v none).set v (some d)) = .ok (f d) ((ρ.set v none).set v (some d))) → lcGo (gNam v) (pur true) fe [v] ds (ρ.set v none) = some (ds.map f, ρ.set v none)
  | [], _ => rfl
  | d :: ds, h => by
    unfold lcGo
    simp only [gNam_x, x_pur]
    rw [h d (by simp)]
    simp only [wipe_1, List.set_set]
    rw [lc_go (fun e he => h e (by simp [he]))]
    rfl
theorem lc_k {v : Nat} {fe : M D} {ρ : Rho} {f : D → D} {ds : List D} (hl : ds.length ≤ szL) (h : ∀ d ∈ ds, fe ((ρ.set v none).set v (some d)) = .ok (f d) ((ρ.set v none).set v (some d))) : lcK (gNam v) (pur true) fe [v] ds ρ = .ok (.lst (ds.map f)) ((ρ.set v none).set v (get ρ v)) := by
  unfold lcK
  rw [if_pos hl]
  simp only [wipe_1]
  rw [lc_go h]
  simp only [unw_1]
end Fl

set_option maxHeartbeats 1000000
/-! rules of ends, loops -/
namespace Fl
open PySem PySem.Spec PyProof.Rows L2
def wq (o : Out) (Qn : Rho → Prop) (Qr : D → Rho → Prop) : Prop := match o with
  | .nx ρ => Qn ρ
  | .rt d ρ => Qr d ρ
  | _ => False
@[simp] theorem wq_nx (ρ : Rho) (Qn : Rho → Prop) (Qr : D → Rho → Prop) : wq (.nx ρ) Qn Qr = Qn ρ := rfl
@[simp] theorem wq_rt (d : D) (ρ : Rho) (Qn : Rho → Prop) (Qr : D → Rho → Prop) : wq (.rt d ρ) Qn Qr = Qr d ρ := rfl
theorem wq_sq {s t : S} {ρ : Rho} {Qn : Rho → Prop} {Qr : D → Rho → Prop} (h : wq (s ρ) (fun ρ' => wq (t ρ') Qn Qr) Qr) : wq (sq s t ρ) Qn Qr := by
  unfold sq
  cases e : s ρ <;> rw [e] at h <;> first | exact h | exact h.elim
theorem wq_sqx {s t : S} {ρ ρ' : Rho} {Qn : Rho → Prop} {Qr : D → Rho → Prop} (h : s ρ = .nx ρ') (k : wq (t ρ') Qn Qr) : wq (sq s t ρ) Qn Qr := wq_sq (by rw [h]; exact k)
theorem wq_mono {o : Out} {Qn Qn' : Rho → Prop} {Qr Qr' : D → Rho → Prop} (h : wq o Qn Qr) (k : ∀ ρ, Qn ρ → Qn' ρ) (k' : ∀ d ρ, Qr d ρ → Qr' d ρ) : wq o Qn' Qr' := by
  cases o <;> first | exact k _ h | exact k' _ _ h | exact h.elim
theorem wq_go {g : G} {s : S} {Qr : D → Rho → Prop} (P : Nat → Rho → Prop) : ∀ (ds : List D) (i : Nat) (ρ : Rho), (∀ j d ρ, ds[j]? = some d → P (i + j) ρ → ∃ ρ1, g d ρ = some ρ1 ∧ wq (s ρ1) (P (i + j + 1)) Qr) → P i ρ → wq (forGo g s ds ρ) (P (i + ds.length)) Qr
  | [], i, ρ, _, h => h
  | d :: ds, i, ρ, st, h => by
    obtain ⟨ρ1, h1, h2⟩ := st 0 d ρ rfl h
    unfold forGo
    rw [h1]
    simp only
    cases e : s ρ1 <;> rw [e] at h2 <;> try exact h2.elim
    · rename_i ρ2
      have := wq_go P ds (i + 1) ρ2 (fun j d ρ hj hp => by
        have q := st (j + 1) d ρ (by simpa using hj) (by rw [show i + (j + 1) = i + 1 + j by omega]; exact hp)
        rw [show i + 1 + j + 1 = i + (j + 1) + 1 by omega]
        exact q) h2
      rw [show i + (d :: ds).length = i + 1 + ds.length by simp; omega]
      exact this
    · exact h2
theorem wq_for {it : M (List D)} {g : G} {s : S} {ρ ρ1 : Rho} {ds : List D} {Qn : Rho → Prop} {Qr : D → Rho → Prop} (P : Nat → Rho → Prop) (hi : it ρ = .ok ds ρ1) (h0 : P 0 ρ1) (st : ∀ j d ρ, ds[j]? = some d → P j ρ → ∃ ρ2, g d ρ = some ρ2 ∧ wq (s ρ2) (P (j + 1)) Qr) (k : ∀ ρ, P ds.length ρ → Qn ρ) : wq (forS it g s ρ) Qn Qr := by
  unfold forS thn
  rw [hi]
  have := wq_go (Qr := Qr) P ds 0 ρ1 (fun j d ρ hj hp => by simpa using st j d ρ hj (by simpa using hp)) h0
  rw [Nat.zero_add] at this
  exact wq_mono this k fun _ _ h => h
theorem runF_of {n N : Nat} {kp : Nat → Bool} {rm : Bool} {g : S} {ds : List D} {post : D → Rho → Prop} (hl : ds.length = n) (h : wq (g (ds.map some ++ List.replicate (N - n) none)) (fun _ => False) fun d ρ => post d ((mask kp 0 ρ).take n)) : ∃ d outs, runF n N kp rm g ds = .ok d outs ∧ post d outs := by
  unfold runF
  rw [if_pos hl]
  cases e : g (ds.map some ++ List.replicate (N - n) none) <;> rw [e] at h <;> try exact h.elim
  exact ⟨_, _, rfl, h⟩
@[simp] theorem szL_lt {n : Nat} (h : n < 2 ^ 20) : n < szL := by unfold szL; omega
theorem appL {xs : List D} {y : D} (h : xs.length < 2 ^ 20) : appD (.lst xs) [y] = some (.non, .lst (xs ++ [y])) := if_pos (szL_lt h)
theorem addT {xs ys : List D} (h : xs.length + ys.length < 2 ^ 20) : addD (.tup xs) (.tup ys) = some (.tup (xs ++ ys)) := if_pos (szL_ok h)
@[simp] theorem isLst_l (xs : List D) : isLst (.lst xs) = some () := rfl
theorem x_updS (j : Nat) (g : D → Option (D × D)) (ρ : Rho) : updS j g ρ = match get ρ j with | some d => (match g d with | some (r, d') => .ok r (ρ.set j (some d')) | none => .no) | none => .no := (rfl)
mutual
def deq : D → D → Bool
  | .non, .non => true
  | .bl a, .bl b => a == b
  | .int a, .int b => decide (a = b)
  | .str a, .str b => decide (a = b)
  | .tup a, .tup b => deqs a b
  | .lst a, .lst b => deqs a b
  | _, _ => false
def deqs : List D → List D → Bool
  | [], [] => true
  | x :: xs, y :: ys => deq x y && deqs xs ys
  | _, _ => false
end
mutual
theorem deq_ok : ∀ {x y : D}, deq x y = true → x = y
  | .non, .non, _ => rfl
  | .bl a, .bl b, h => by simp [deq] at h; rw [h]
  | .int a, .int b, h => by simp [deq] at h; rw [h]
  | .str a, .str b, h => by simp [deq] at h; rw [h]
  | .tup a, .tup b, h => congrArg D.tup (deqs_ok (x := a) (y := b) (by simpa [deq] using h))
  | .lst a, .lst b, h => congrArg D.lst (deqs_ok (x := a) (y := b) (by simpa [deq] using h))
theorem deqs_ok : ∀ {x y : List D}, deqs x y = true → x = y
  | [], [], _ => rfl
  | x :: xs, y :: ys, h => by
    simp [deqs] at h
    rw [deq_ok h.1, deqs_ok h.2]
end
def isOk (r : R D) (d : D) (n : Nat) : Bool := match r with
  | .ok e outs => deq e d && outs.all (·.isNone) && decide (outs.length = n)
  | _ => false
theorem isOk_ok {r : R D} {d : D} {n : Nat} (h : isOk r d n = true) : r = .ok d (List.replicate n none) := by
  unfold isOk at h
  split at h
  · rename_i e outs
    simp only [Bool.and_eq_true, decide_eq_true_iff] at h
    obtain ⟨⟨h1, h2⟩, h3⟩ := h
    rw [deq_ok h1]
    congr 1
    refine List.ext_getElem (by simp [h3]) fun i a b => ?_
    have := List.all_eq_true.mp h2 outs[i] (List.getElem_mem _)
    rw [List.getElem_replicate]
    simpa using this
  · cases h
theorem cut_to {α : Type} (xs : List α) (p : Nat) : cutA xs none (some (p : Int)) = xs.take p := by
  unfold cutA
  rw [HT.sIx_none, HT.sIx_nat]
  simp
theorem cut_from {α : Type} (xs : List α) (p : Nat) : cutA xs (some (p : Int)) none = xs.drop p := by
  unfold cutA
  rw [HT.sIx_none, HT.sIx_nat]
  rw [List.take_of_length_le (by simp)]
  rcases Nat.le_total p xs.length with h | h
  · rw [Nat.min_eq_left h]
  · rw [Nat.min_eq_right h, List.drop_length, List.drop_of_length_le h]
@[simp] theorem intD_N (n : Nat) : intD (N n) = some (n : Int) := rfl
end Fl

set_option maxHeartbeats 4000000
/-! the defs of the linked text as functions upon data (printed by gen.py) -/
namespace K70
open PySem PySem.Spec PyProof.Rows L2 Fl
/-! is_number: 0 thing -/
def S_is_number : S :=
    (ret (andV (op1 (isiD "int") (rd 0)) (andV (notV (op1 (isiD "bool") (rd 0))) (op2 geD (rd 0) (pur (.int 0))))))
def F_is_number : List D → R D := runF 1 1 (lk []) false S_is_number

/-! bits_of: 0 number 1 many 2 k -/
def S_bits_of : S :=
    (ret (op1 tupD (lcM (it1 (rd 1)) (gNam 2) (pur true) (op2 andD (op2 shrD (rd 0) (op2 subD (op2 subD (rd 1) (pur (.int 1))) (rd 2))) (pur (.int 1))) [2])))
def F_bits_of : List D → R D := runF 2 3 (lk []) false S_bits_of

/-! all_bits: 0 numbers 1 found 2 own -/
def b1_all_bits : S :=
    (thn (methM 1 extD (aCons (callF [.v, .v] F_bits_of (aCons (rd 2) (aCons (pur (.int 8)) aNil))) aNil)) fun _ => skip)
def S_all_bits : S :=
    (sq (setS 1 (bnd aNil fun xs => lift (mkLst xs)))
    (sq (forS (itSeq (rd 0)) (gNam 2) b1_all_bits)
    (ret (op1 tupD (rd 1)))))
def F_all_bits : List D → R D := runF 1 3 (lk []) false S_all_bits

/-! is_rule: 0 thing -/
def S_is_rule : S :=
    (sq (ifS (orT (notT (tst (op1 (isiD "tuple") (rd 0)))) (orT (tst (op2 neD (op1 lenD (rd 0)) (pur (.int 2)))) (orT (notT (tst (callF [.v] F_is_number (aCons (op2 ixD (rd 0) (pur (.int 0))) aNil)))) (notT (tst (callF [.v] F_is_number (aCons (op2 ixD (rd 0) (pur (.int 1))) aNil))))))) (ret (pur (.bl false))) skip)
    (ret (andV (chn leD leD (pur (.int 1)) (op2 ixD (rd 0) (pur (.int 0))) (pur (.int 32))) (andV (op2 eqD (op2 modD (op2 ixD (rd 0) (pur (.int 1))) (pur (.int 2))) (pur (.int 1))) (op2 ltD (op2 ixD (rd 0) (pur (.int 1))) (op2 shlD (pur (.int 1)) (op2 ixD (rd 0) (pur (.int 0)))))))))
def F_is_rule : List D → R D := runF 1 1 (lk []) false S_is_rule

/-! doubled: 0 rule 1 number 2 width 3 tail -/
def S_doubled : S :=
    (sq (asgS (rd 0) (gTupD (gMore (gNam 2) (gMore (gNam 3) gEnd))))
    (sq (setS 1 (op2 shlD (rd 1) (pur (.int 1))))
    (ret (ifM (tst (op2 eqD (op2 shrD (rd 1) (rd 2)) (pur (.int 1)))) (op2 xorD (op2 xorD (rd 1) (op2 shlD (pur (.int 1)) (rd 2))) (rd 3)) (rd 1)))))
def F_doubled : List D → R D := runF 2 4 (lk []) false S_doubled

/-! check_of: 0 bits 1 rule 2 found 3 top 4 bit -/
def b1_check_of : S :=
    (setS 2 (callF [.v, .v] F_doubled (aCons (rd 1) (aCons (op2 xorD (rd 2) (op2 shlD (rd 4) (rd 3))) aNil))))
def S_check_of : S :=
    (sq (parS [2, 3] (aCons (pur (.int 0)) (aCons (op2 subD (op2 ixD (rd 1) (pur (.int 0))) (pur (.int 1))) aNil)))
    (sq (forS (itSeq (rd 0)) (gNam 4) b1_check_of)
    (ret (rd 2))))
def F_check_of : List D → R D := runF 2 5 (lk []) false S_check_of

/-! check_of_numbers: 0 numbers 1 rule -/
def S_check_of_numbers : S :=
    (ret (callF [.v, .v] F_check_of (aCons (callF [.v] F_all_bits (aCons (rd 0) aNil)) (aCons (rd 1) aNil))))
def F_check_of_numbers : List D → R D := runF 2 2 (lk []) false S_check_of_numbers

/-! product_of: 0 rule 1 one 2 other 3 found 4 k -/
def b1_product_of : S :=
    (setS 3 (op2 xorD (callF [.v, .v] F_doubled (aCons (rd 0) (aCons (rd 3) aNil))) (ifM (tst (op2 eqD (op2 andD (op2 shrD (rd 2) (rd 4)) (pur (.int 1))) (pur (.int 1)))) (rd 1) (pur (.int 0)))))
def S_product_of : S :=
    (sq (setS 3 (pur (.int 0)))
    (sq (forS (it3 (op2 subD (op2 ixD (rd 0) (pur (.int 0))) (pur (.int 1))) (op1 negD (pur (.int 1))) (op1 negD (pur (.int 1)))) (gNam 4) b1_product_of)
    (ret (rd 3))))
def F_product_of : List D → R D := runF 3 5 (lk []) false S_product_of

/-! left_of: 0 rule 1 number -/
def S_left_of : S :=
    (ret (ifM (tst (op2 eqD (op2 shrD (rd 1) (op2 ixD (rd 0) (pur (.int 0)))) (pur (.int 0)))) (rd 1) (op2 ixD (rd 0) (pur (.int 1)))))
def F_left_of : List D → R D := runF 2 2 (lk []) false S_left_of

/-! power_of: 0 rule 1 many 2 found 3 own -/
def b1_power_of : S :=
    (sq (setS 2 (ifM (tst (op2 eqD (op2 modD (rd 1) (pur (.int 2))) (pur (.int 1)))) (callF [.v, .v, .v] F_product_of (aCons (rd 0) (aCons (rd 2) (aCons (rd 3) aNil)))) (rd 2)))
    (parS [3, 1] (aCons (callF [.v, .v, .v] F_product_of (aCons (rd 0) (aCons (rd 3) (aCons (rd 3) aNil)))) (aCons (op2 divD (rd 1) (pur (.int 2))) aNil))))
def S_power_of : S :=
    (sq (parS [2, 3] (aCons (callF [.v, .v] F_left_of (aCons (rd 0) (aCons (pur (.int 1)) aNil))) (aCons (callF [.v, .v] F_left_of (aCons (rd 0) (aCons (pur (.int 2)) aNil))) aNil)))
    (sq (whGo (tst (op2 gtD (rd 1) (pur (.int 0)))) b1_power_of 1000000)
    (ret (rd 2))))
def F_power_of : List D → R D := runF 2 4 (lk []) false S_power_of

/-! shift_of: 0 rule 1 check 2 many -/
def S_shift_of : S :=
    (ret (callF [.v, .v, .v] F_product_of (aCons (rd 0) (aCons (rd 1) (aCons (callF [.v, .v] F_power_of (aCons (rd 0) (aCons (rd 2) aNil))) aNil)))))
def F_shift_of : List D → R D := runF 3 3 (lk []) false S_shift_of

/-! joined_check: 0 one 1 other 2 many 3 rule -/
def S_joined_check : S :=
    (ret (op2 xorD (callF [.v, .v, .v] F_shift_of (aCons (rd 3) (aCons (rd 0) (aCons (rd 2) aNil)))) (rd 1)))
def F_joined_check : List D → R D := runF 4 4 (lk []) false S_joined_check

/-! u_law_draws: 0 script 1 many 2 draws 3 mixed 4 k 5 cell 6 rest 7 turn -/
def b1_u_law_draws : S :=
    (sq (setS 3 (op2 modD (op1 intF (op2 addD (op2 addD (op2 mulD (rd 3) (pur (.int 16807))) (rd 4)) (pur (.int 1)))) (pur (.int 65537))))
    (thn (methM 2 appD (aCons (op2 modD (op1 intF (rd 3)) (pur (.int 997))) aNil)) fun _ => skip))
def b2_u_law_draws : S :=
    (ifS (tst (op2 gtD (rd 6) (pur (.int 0)))) (sq (thn (methM 2 appD (aCons (op2 modD (op1 intF (rd 6)) (pur (.int 997))) aNil)) fun _ => skip)
    (setS 6 (op2 divD (rd 6) (pur (.int 997))))) skip)
def b3_u_law_draws : S :=
    (sq (setS 5 (op1 absD (op1 intF (op2 ixD (rd 0) (rd 4)))))
    (sq (setS 3 (op2 modD (op1 intF (op2 addD (op2 addD (op2 mulD (rd 3) (pur (.int 48271))) (op2 modD (rd 5) (pur (.int 1000003)))) (rd 4))) (pur (.int 65537))))
    (sq (setS 6 (pur (.int 0)))
    (sq (ifS (tst (op2 geD (rd 5) (op2 powD (pur (.int 10)) (pur (.int 18))))) (setS 6 (rd 5)) (sq (thn (methM 2 appD (aCons (op2 modD (op1 intF (rd 5)) (pur (.int 997))) aNil)) fun _ => skip)
    (thn (methM 2 appD (aCons (op2 modD (op2 modD (op1 intF (op2 addD (op2 mulD (rd 3) (pur (.int 69621))) (pur (.int 5)))) (pur (.int 65521))) (pur (.int 997))) aNil)) fun _ => skip)))
    (forS (it1 (pur (.int 60))) (gNam 7) b2_u_law_draws)))))
def S_u_law_draws : S :=
    (sq (setS 2 (bnd aNil fun xs => lift (mkLst xs)))
    (sq (setS 3 (pur (.int 7)))
    (sq (forS (it1 (op1 lenD (rd 0))) (gNam 4) b3_u_law_draws)
    (sq (forS (it1 (rd 1)) (gNam 4) b1_u_law_draws)
    (ret (slS 2 oNone (oSome (rd 1))))))))
def F_u_law_draws : List D → R D := runF 2 8 (lk []) false S_u_law_draws

/-! u_law_next: 0 w 1 many -/
def S_u_law_next : S :=
    (sq (daugS 0 (pur (.str (PySem.Str.ofString "at"))) (gI (fun _ _ => true) (· + ·)) (pur (.int 1)))
    (sq (ifS (tst (op2 gtD (ixS 0 (pur (.str (PySem.Str.ofString "at")))) (op1 lenD (ixS 0 (pur (.str (PySem.Str.ofString "draws"))))))) (ret (pur (.int 0))) skip)
    (ret (op2 modD (op1 intF (op2 ixD (ixS 0 (pur (.str (PySem.Str.ofString "draws")))) (op2 subD (ixS 0 (pur (.str (PySem.Str.ofString "at")))) (pur (.int 1))))) (rd 1)))))
def F_u_law_next : List D → R D := runF 2 2 (lk [0]) false S_u_law_next

/-! u_law_pick: 0 w 1 rows -/
def S_u_law_pick : S :=
    (ret (op2 ixD (rd 1) (callF [.s 0, .v] F_u_law_next (aSlot 0 (aCons (op1 lenD (rd 1)) aNil)))))
def F_u_law_pick : List D → R D := runF 2 2 (lk [0]) false S_u_law_pick

/-! u_law_plain:  -/
def S_u_law_plain : S :=
    (ret (bnd (aCons (bnd (aCons (pur (.int 3)) (aCons (pur (.int 3)) (aCons (pur (.int 3)) aNil))) fun xs => lift (mkTup xs)) (aCons (bnd (aCons (pur (.int 6)) (aCons (pur (.int 47)) (aCons (pur (.int 44)) aNil))) fun xs => lift (mkTup xs)) (aCons (bnd (aCons (pur (.int 7)) (aCons (pur (.int 9)) (aCons (pur (.int 117)) aNil))) fun xs => lift (mkTup xs)) (aCons (bnd (aCons (pur (.int 8)) (aCons (pur (.int 7)) (aCons (pur (.int 244)) aNil))) fun xs => lift (mkTup xs)) (aCons (bnd (aCons (pur (.int 8)) (aCons (pur (.int 213)) (aCons (pur (.int 188)) aNil))) fun xs => lift (mkTup xs)) (aCons (bnd (aCons (pur (.int 8)) (aCons (pur (.int 29)) (aCons (pur (.int 55)) aNil))) fun xs => lift (mkTup xs)) (aCons (bnd (aCons (pur (.int 8)) (aCons (pur (.int 155)) (aCons (pur (.int 234)) aNil))) fun xs => lift (mkTup xs)) (aCons (bnd (aCons (pur (.int 8)) (aCons (pur (.int 47)) (aCons (pur (.int 62)) aNil))) fun xs => lift (mkTup xs)) (aCons (bnd (aCons (pur (.int 10)) (aCons (pur (.int 563)) (aCons (pur (.int 409)) aNil))) fun xs => lift (mkTup xs)) (aCons (bnd (aCons (pur (.int 11)) (aCons (pur (.int 775)) (aCons (pur (.int 97)) aNil))) fun xs => lift (mkTup xs)) (aCons (bnd (aCons (pur (.int 12)) (aCons (pur (.int 2063)) (aCons (pur (.int 3931)) aNil))) fun xs => lift (mkTup xs)) (aCons (bnd (aCons (pur (.int 13)) (aCons (pur (.int 7413)) (aCons (pur (.int 1274)) aNil))) fun xs => lift (mkTup xs)) (aCons (bnd (aCons (pur (.int 14)) (aCons (pur (.int 8237)) (aCons (pur (.int 3921)) aNil))) fun xs => lift (mkTup xs)) (aCons (bnd (aCons (pur (.int 15)) (aCons (pur (.int 17817)) (aCons (pur (.int 1438)) aNil))) fun xs => lift (mkTup xs)) (aCons (bnd (aCons (pur (.int 16)) (aCons (pur (.int 4129)) (aCons (pur (.int 12739)) aNil))) fun xs => lift (mkTup xs)) (aCons (bnd (aCons (pur (.int 16)) (aCons (pur (.int 32773)) (aCons (pur (.int 65256)) aNil))) fun xs => lift (mkTup xs)) (aCons (bnd (aCons (pur (.int 16)) (aCons (pur (.int 35767)) (aCons (pur (.int 53467)) aNil))) fun xs => lift (mkTup xs)) (aCons (bnd (aCons (pur (.int 16)) (aCons (pur (.int 41111)) (aCons (pur (.int 4019)) aNil))) fun xs => lift (mkTup xs)) (aCons (bnd (aCons (pur (.int 16)) (aCons (pur (.int 1417)) (aCons (pur (.int 127)) aNil))) fun xs => lift (mkTup xs)) (aCons (bnd (aCons (pur (.int 17)) (aCons (pur (.int 92251)) (aCons (pur (.int 20227)) aNil))) fun xs => lift (mkTup xs)) (aCons (bnd (aCons (pur (.int 21)) (aCons (pur (.int 1058969)) (aCons (pur (.int 972865)) aNil))) fun xs => lift (mkTup xs)) (aCons (bnd (aCons (pur (.int 24)) (aCons (pur (.int 8801531)) (aCons (pur (.int 13494019)) aNil))) fun xs => lift (mkTup xs)) (aCons (bnd (aCons (pur (.int 24)) (aCons (pur (.int 8388707)) (aCons (pur (.int 2355026)) aNil))) fun xs => lift (mkTup xs)) (aCons (bnd (aCons (pur (.int 32)) (aCons (pur (.int 79764919)) (aCons (pur (.int 2309065087)) aNil))) fun xs => lift (mkTup xs)) (aCons (bnd (aCons (pur (.int 32)) (aCons (pur (.int 2168537515)) (aCons (pur (.int 806403967)) aNil))) fun xs => lift (mkTup xs)) (aCons (bnd (aCons (pur (.int 32)) (aCons (pur (.int 175)) (aCons (pur (.int 3171672888)) aNil))) fun xs => lift (mkTup xs)) aNil)))))))))))))))))))))))))) fun xs => lift (mkTup xs)))
def F_u_law_plain : List D → R D := runF 0 0 (lk []) false S_u_law_plain

/-! u_law_begun:  -/
def S_u_law_begun : S :=
    (ret (bnd (aCons (bnd (aCons (pur (.int 16)) (aCons (pur (.int 4129)) (aCons (pur (.int 65535)) (aCons (pur (.int 10673)) aNil)))) fun xs => lift (mkTup xs)) (aCons (bnd (aCons (pur (.int 16)) (aCons (pur (.int 4129)) (aCons (pur (.int 7439)) (aCons (pur (.int 58828)) aNil)))) fun xs => lift (mkTup xs)) (aCons (bnd (aCons (pur (.int 16)) (aCons (pur (.int 51303)) (aCons (pur (.int 65535)) (aCons (pur (.int 19462)) aNil)))) fun xs => lift (mkTup xs)) (aCons (bnd (aCons (pur (.int 16)) (aCons (pur (.int 32773)) (aCons (pur (.int 32781)) (aCons (pur (.int 40655)) aNil)))) fun xs => lift (mkTup xs)) (aCons (bnd (aCons (pur (.int 8)) (aCons (pur (.int 155)) (aCons (pur (.int 255)) (aCons (pur (.int 218)) aNil)))) fun xs => lift (mkTup xs)) (aCons (bnd (aCons (pur (.int 8)) (aCons (pur (.int 29)) (aCons (pur (.int 253)) (aCons (pur (.int 126)) aNil)))) fun xs => lift (mkTup xs)) (aCons (bnd (aCons (pur (.int 8)) (aCons (pur (.int 47)) (aCons (pur (.int 255)) (aCons (pur (.int 32)) aNil)))) fun xs => lift (mkTup xs)) (aCons (bnd (aCons (pur (.int 8)) (aCons (pur (.int 29)) (aCons (pur (.int 255)) (aCons (pur (.int 180)) aNil)))) fun xs => lift (mkTup xs)) (aCons (bnd (aCons (pur (.int 10)) (aCons (pur (.int 985)) (aCons (pur (.int 1023)) (aCons (pur (.int 563)) aNil)))) fun xs => lift (mkTup xs)) (aCons (bnd (aCons (pur (.int 11)) (aCons (pur (.int 901)) (aCons (pur (.int 26)) (aCons (pur (.int 1443)) aNil)))) fun xs => lift (mkTup xs)) (aCons (bnd (aCons (pur (.int 12)) (aCons (pur (.int 3859)) (aCons (pur (.int 4095)) (aCons (pur (.int 3405)) aNil)))) fun xs => lift (mkTup xs)) (aCons (bnd (aCons (pur (.int 24)) (aCons (pur (.int 8801531)) (aCons (pur (.int 11994318)) (aCons (pur (.int 2215682)) aNil)))) fun xs => lift (mkTup xs)) (aCons (bnd (aCons (pur (.int 24)) (aCons (pur (.int 6122955)) (aCons (pur (.int 16702650)) (aCons (pur (.int 7961021)) aNil)))) fun xs => lift (mkTup xs)) (aCons (bnd (aCons (pur (.int 24)) (aCons (pur (.int 6122955)) (aCons (pur (.int 11259375)) (aCons (pur (.int 2040760)) aNil)))) fun xs => lift (mkTup xs)) (aCons (bnd (aCons (pur (.int 30)) (aCons (pur (.int 540064199)) (aCons (pur (.int 1073741823)) (aCons (pur (.int 993834304)) aNil)))) fun xs => lift (mkTup xs)) (aCons (bnd (aCons (pur (.int 31)) (aCons (pur (.int 79764919)) (aCons (pur (.int 2147483647)) (aCons (pur (.int 1930828691)) aNil)))) fun xs => lift (mkTup xs)) (aCons (bnd (aCons (pur (.int 32)) (aCons (pur (.int 79764919)) (aCons (pur (.int 4294967295)) (aCons (pur (.int 58124007)) aNil)))) fun xs => lift (mkTup xs)) (aCons (bnd (aCons (pur (.int 32)) (aCons (pur (.int 175)) (aCons (pur (.int 0)) (aCons (pur (.int 3171672888)) aNil)))) fun xs => lift (mkTup xs)) aNil)))))))))))))))))) fun xs => lift (mkTup xs)))
def F_u_law_begun : List D → R D := runF 0 0 (lk []) false S_u_law_begun

/-! u_law_bits: 0 number 1 many 2 k -/
def S_u_law_bits : S :=
    (ret (op1 tupD (lcM (it1 (rd 1)) (gNam 2) (pur true) (op2 andD (op2 shrD (rd 0) (op2 subD (op2 subD (rd 1) (pur (.int 1))) (rd 2))) (pur (.int 1))) [2])))
def F_u_law_bits : List D → R D := runF 2 3 (lk []) false S_u_law_bits

/-! u_law_signs: 0 found 1 k -/
def b1_u_law_signs : S :=
    (setS 0 (op2 addD (rd 0) (callF [.v, .v] F_u_law_bits (aCons (op2 addD (pur (.int 49)) (rd 1)) (aCons (pur (.int 8)) aNil)))))
def S_u_law_signs : S :=
    (sq (setS 0 (bnd aNil fun xs => lift (mkTup xs)))
    (sq (forS (it1 (pur (.int 9))) (gNam 1) b1_u_law_signs)
    (ret (rd 0))))
def F_u_law_signs : List D → R D := runF 0 2 (lk []) false S_u_law_signs

/-! u_law_both: 0 one 1 other 2 k -/
def S_u_law_both : S :=
    (ret (op1 tupD (lcM (it1 (op1 lenD (rd 0))) (gNam 2) (pur true) (op2 xorD (op2 ixD (rd 0) (rd 2)) (op2 ixD (rd 1) (rd 2))) [2])))
def F_u_law_both : List D → R D := runF 2 3 (lk []) false S_u_law_both

/-! u_law_rows_right: 0 w 1 rule 2 width 3 many 4 one 5 other 6 k 7 check 8 more 9 place 10 turned -/
def S_u_law_rows_right : S :=
    (sq (parS [2, 3] (aCons (op2 ixD (rd 1) (pur (.int 0))) (aCons (op2 addD (pur (.int 1)) (callF [.s 0, .v] F_u_law_next (aSlot 0 (aCons (pur (.int 60)) aNil)))) aNil)))
    (sq (parS [4, 5] (aCons (op1 tupD (lcM (it1 (rd 3)) (gNam 6) (pur true) (callF [.s 0, .v] F_u_law_next (aSlot 0 (aCons (pur (.int 2)) aNil))) [6])) (aCons (op1 tupD (lcM (it1 (rd 3)) (gNam 6) (pur true) (callF [.s 0, .v] F_u_law_next (aSlot 0 (aCons (pur (.int 2)) aNil))) [6])) aNil)))
    (sq (parS [7, 8] (aCons (callF [.v, .v] F_check_of (aCons (rd 4) (aCons (rd 1) aNil))) (aCons (callF [.v, .v] F_check_of (aCons (rd 5) (aCons (rd 1) aNil))) aNil)))
    (sq (ifS (orT (tst (op2 neD (callF [.v, .v] F_check_of (aCons (callF [.v, .v] F_u_law_both (aCons (rd 4) (aCons (rd 5) aNil))) (aCons (rd 1) aNil))) (op2 xorD (rd 7) (rd 8)))) (tst (op2 neD (callF [.v, .v] F_check_of (aCons (op2 addD (rd 4) (callF [.v, .v] F_u_law_bits (aCons (rd 7) (aCons (rd 2) aNil)))) (aCons (rd 1) aNil))) (pur (.int 0))))) (ret (pur (.bl false))) skip)
    (sq (ifS (orT (tst (op2 neD (callF [.v, .v, .v, .v] F_joined_check (aCons (rd 7) (aCons (rd 8) (aCons (rd 3) (aCons (rd 1) aNil))))) (callF [.v, .v] F_check_of (aCons (op2 addD (rd 4) (rd 5)) (aCons (rd 1) aNil))))) (tst (op2 neD (callF [.v, .v] F_check_of (aCons (op2 addD (op2 mulD (bnd (aCons (pur (.int 0)) aNil) fun xs => lift (mkTup xs)) (callF [.s 0, .v] F_u_law_next (aSlot 0 (aCons (pur (.int 9)) aNil)))) (rd 4)) (aCons (rd 1) aNil))) (rd 7)))) (ret (pur (.bl false))) skip)
    (sq (setS 9 (callF [.s 0, .v] F_u_law_next (aSlot 0 (aCons (rd 3) aNil))))
    (sq (setS 10 (op2 addD (op2 addD (slM (rd 4) oNone (oSome (rd 9))) (bnd (aCons (op2 subD (pur (.int 1)) (op2 ixD (rd 4) (rd 9))) aNil) fun xs => lift (mkTup xs))) (slM (rd 4) (oSome (op2 addD (rd 9) (pur (.int 1)))) oNone)))
    (sq (ifS (orT (tst (op2 neD (callF [.v, .v] F_check_of (aCons (rd 10) (aCons (rd 1) aNil))) (op2 xorD (rd 7) (callF [.v, .v] F_power_of (aCons (rd 1) (aCons (op2 subD (op2 subD (op2 addD (rd 2) (rd 3)) (pur (.int 1))) (rd 9)) aNil)))))) (tst (op2 eqD (callF [.v, .v] F_check_of (aCons (rd 10) (aCons (rd 1) aNil))) (rd 7)))) (ret (pur (.bl false))) skip)
    (ret (op2 eqD (callF [.v, .v, .v] F_shift_of (aCons (rd 1) (aCons (rd 7) (aCons (rd 3) aNil)))) (callF [.v, .v] F_check_of (aCons (op2 addD (rd 4) (op2 mulD (bnd (aCons (pur (.int 0)) aNil) fun xs => lift (mkTup xs)) (rd 3))) (aCons (rd 1) aNil)))))))))))))
def F_u_law_rows_right : List D → R D := runF 2 11 (lk [0]) false S_u_law_rows_right

/-! law: 0 script 1 w 2 signs 3 turn 4 width 5 tail 6 due 7 rule 8 first 9 turned -/
def b1_law : S :=
    (sq (asgS (callF [.s 1, .v] F_u_law_pick (aSlot 1 (aCons (callF [] F_u_law_plain aNil) aNil))) (gTupD (gMore (gNam 4) (gMore (gNam 5) (gMore (gNam 6) gEnd)))))
    (sq (setS 7 (bnd (aCons (rd 4) (aCons (rd 5) aNil)) fun xs => lift (mkTup xs)))
    (sq (ifS (orT (tst (op2 isNotB (callF [.v] F_is_rule (aCons (rd 7) aNil)) (pur (.bl true)))) (orT (tst (op2 neD (callF [.v, .v] F_check_of_numbers (aCons (bnd (rgM2 (pur (.int 49)) (pur (.int 58))) fun ds => pur (.tup ds)) (aCons (rd 7) aNil))) (rd 6))) (orT (tst (op2 neD (callF [.v, .v] F_check_of (aCons (rd 2) (aCons (rd 7) aNil))) (rd 6))) (notT (tst (callF [.s 1, .v] F_u_law_rows_right (aSlot 1 (aCons (rd 7) aNil)))))))) (ret (pur (.bl false))) skip)
    (sq (asgS (callF [.s 1, .v] F_u_law_pick (aSlot 1 (aCons (callF [] F_u_law_begun aNil) aNil))) (gTupD (gMore (gNam 4) (gMore (gNam 5) (gMore (gNam 8) (gMore (gNam 6) gEnd))))))
    (sq (setS 7 (bnd (aCons (rd 4) (aCons (rd 5) aNil)) fun xs => lift (mkTup xs)))
    (sq (setS 9 (op2 addD (callF [.v, .v] F_u_law_both (aCons (slM (rd 2) oNone (oSome (rd 4))) (aCons (callF [.v, .v] F_u_law_bits (aCons (rd 8) (aCons (rd 4) aNil))) aNil))) (slM (rd 2) (oSome (rd 4)) oNone)))
    (sq (ifS (orT (tst (op2 neD (callF [.v, .v] F_check_of (aCons (rd 9) (aCons (rd 7) aNil))) (rd 6))) (orT (tst (op2 neD (callF [.v, .v] F_check_of (aCons (rd 2) (aCons (rd 7) aNil))) (op2 xorD (rd 6) (callF [.v, .v, .v] F_shift_of (aCons (rd 7) (aCons (rd 8) (aCons (pur (.int 72)) aNil))))))) (notT (tst (callF [.s 1, .v] F_u_law_rows_right (aSlot 1 (aCons (rd 7) aNil))))))) (ret (pur (.bl false))) skip)
    (ifS (tst (op2 neD (callF [.v, .v] F_check_of (aCons (op2 addD (rd 2) (callF [.v, .v] F_u_law_bits (aCons (callF [.v, .v] F_check_of (aCons (rd 2) (aCons (rd 7) aNil))) (aCons (rd 4) aNil)))) (aCons (rd 7) aNil))) (pur (.int 0)))) (ret (pur (.bl false))) skip))))))))
def S_law : S :=
    (sq (setS 1 (dispM [((pur (.str (PySem.Str.ofString "draws"))), (callF [.v, .v] F_u_law_draws (aCons (rd 0) (aCons (pur (.int 400)) aNil)))), ((pur (.str (PySem.Str.ofString "at"))), (pur (.int 0)))]))
    (sq (setS 2 (callF [] F_u_law_signs aNil))
    (sq (forS (it1 (pur (.int 3))) (gNam 3) b1_law)
    (ret (pur (.bl true))))))
def F_law : List D → R D := runF 1 10 (lk []) false S_law

end K70

set_option maxHeartbeats 4000000
/-! each def keeps its function (printed by gen.py) -/
namespace K70
open PySem PySem.Spec PyProof.Rows L2 Fl
def topS (i : Nat) : Stmt := PySem.Challenge.pw_servedasmade_k70_whole_checks_known_by_n.main.body.getD i (.Pass ⟨0, 0, 0, 0⟩)
abbrev s_is_number : Stmt := topS 1
abbrev N_is_number : List Str := ["thing"]
theorem sc_is_number : FnScope N_is_number ["thing"] (defScope s_is_number) := ⟨rfl, rfl, rfl, by decide +kernel, rfl, by decide +kernel, by decide +kernel⟩
abbrev s_bits_of : Stmt := topS 3
abbrev N_bits_of : List Str := ["number", "many", "k"]
theorem sc_bits_of : FnScope N_bits_of ["number", "many"] (defScope s_bits_of) := ⟨rfl, rfl, rfl, by decide +kernel, rfl, by decide +kernel, by decide +kernel⟩
abbrev s_all_bits : Stmt := topS 4
abbrev N_all_bits : List Str := ["numbers", "found", "own"]
theorem sc_all_bits : FnScope N_all_bits ["numbers"] (defScope s_all_bits) := ⟨rfl, rfl, rfl, by decide +kernel, rfl, by decide +kernel, by decide +kernel⟩
abbrev s_is_rule : Stmt := topS 6
abbrev N_is_rule : List Str := ["thing"]
theorem sc_is_rule : FnScope N_is_rule ["thing"] (defScope s_is_rule) := ⟨rfl, rfl, rfl, by decide +kernel, rfl, by decide +kernel, by decide +kernel⟩
abbrev s_doubled : Stmt := topS 7
abbrev N_doubled : List Str := ["rule", "number", "width", "tail"]
theorem sc_doubled : FnScope N_doubled ["rule", "number"] (defScope s_doubled) := ⟨rfl, rfl, rfl, by decide +kernel, rfl, by decide +kernel, by decide +kernel⟩
abbrev s_check_of : Stmt := topS 8
abbrev N_check_of : List Str := ["bits", "rule", "found", "top", "bit"]
theorem sc_check_of : FnScope N_check_of ["bits", "rule"] (defScope s_check_of) := ⟨rfl, rfl, rfl, by decide +kernel, rfl, by decide +kernel, by decide +kernel⟩
abbrev s_check_of_numbers : Stmt := topS 9
abbrev N_check_of_numbers : List Str := ["numbers", "rule"]
theorem sc_check_of_numbers : FnScope N_check_of_numbers ["numbers", "rule"] (defScope s_check_of_numbers) := ⟨rfl, rfl, rfl, by decide +kernel, rfl, by decide +kernel, by decide +kernel⟩
abbrev s_product_of : Stmt := topS 10
abbrev N_product_of : List Str := ["rule", "one", "other", "found", "k"]
theorem sc_product_of : FnScope N_product_of ["rule", "one", "other"] (defScope s_product_of) := ⟨rfl, rfl, rfl, by decide +kernel, rfl, by decide +kernel, by decide +kernel⟩
abbrev s_left_of : Stmt := topS 12
abbrev N_left_of : List Str := ["rule", "number"]
theorem sc_left_of : FnScope N_left_of ["rule", "number"] (defScope s_left_of) := ⟨rfl, rfl, rfl, by decide +kernel, rfl, by decide +kernel, by decide +kernel⟩
abbrev s_power_of : Stmt := topS 11
abbrev N_power_of : List Str := ["rule", "many", "found", "own"]
theorem sc_power_of : FnScope N_power_of ["rule", "many"] (defScope s_power_of) := ⟨rfl, rfl, rfl, by decide +kernel, rfl, by decide +kernel, by decide +kernel⟩
abbrev s_shift_of : Stmt := topS 13
abbrev N_shift_of : List Str := ["rule", "check", "many"]
theorem sc_shift_of : FnScope N_shift_of ["rule", "check", "many"] (defScope s_shift_of) := ⟨rfl, rfl, rfl, by decide +kernel, rfl, by decide +kernel, by decide +kernel⟩
abbrev s_joined_check : Stmt := topS 14
abbrev N_joined_check : List Str := ["one", "other", "many", "rule"]
theorem sc_joined_check : FnScope N_joined_check ["one", "other", "many", "rule"] (defScope s_joined_check) := ⟨rfl, rfl, rfl, by decide +kernel, rfl, by decide +kernel, by decide +kernel⟩
abbrev s_u_law_draws : Stmt := topS 16
abbrev N_u_law_draws : List Str := ["script", "many", "draws", "mixed", "k", "cell", "rest", "turn"]
theorem sc_u_law_draws : FnScope N_u_law_draws ["script", "many"] (defScope s_u_law_draws) := ⟨rfl, rfl, rfl, by decide +kernel, rfl, by decide +kernel, by decide +kernel⟩
abbrev s_u_law_next : Stmt := topS 17
abbrev N_u_law_next : List Str := ["w", "many"]
theorem sc_u_law_next : FnScope N_u_law_next ["w", "many"] (defScope s_u_law_next) := ⟨rfl, rfl, rfl, by decide +kernel, rfl, by decide +kernel, by decide +kernel⟩
abbrev s_u_law_pick : Stmt := topS 18
abbrev N_u_law_pick : List Str := ["w", "rows"]
theorem sc_u_law_pick : FnScope N_u_law_pick ["w", "rows"] (defScope s_u_law_pick) := ⟨rfl, rfl, rfl, by decide +kernel, rfl, by decide +kernel, by decide +kernel⟩
abbrev s_u_law_plain : Stmt := topS 19
abbrev N_u_law_plain : List Str := []
theorem sc_u_law_plain : FnScope N_u_law_plain [] (defScope s_u_law_plain) := ⟨rfl, rfl, rfl, by decide +kernel, rfl, by decide +kernel, by decide +kernel⟩
abbrev s_u_law_begun : Stmt := topS 20
abbrev N_u_law_begun : List Str := []
theorem sc_u_law_begun : FnScope N_u_law_begun [] (defScope s_u_law_begun) := ⟨rfl, rfl, rfl, by decide +kernel, rfl, by decide +kernel, by decide +kernel⟩
abbrev s_u_law_bits : Stmt := topS 21
abbrev N_u_law_bits : List Str := ["number", "many", "k"]
theorem sc_u_law_bits : FnScope N_u_law_bits ["number", "many"] (defScope s_u_law_bits) := ⟨rfl, rfl, rfl, by decide +kernel, rfl, by decide +kernel, by decide +kernel⟩
abbrev s_u_law_signs : Stmt := topS 22
abbrev N_u_law_signs : List Str := ["found", "k"]
theorem sc_u_law_signs : FnScope N_u_law_signs [] (defScope s_u_law_signs) := ⟨rfl, rfl, rfl, by decide +kernel, rfl, by decide +kernel, by decide +kernel⟩
abbrev s_u_law_both : Stmt := topS 23
abbrev N_u_law_both : List Str := ["one", "other", "k"]
theorem sc_u_law_both : FnScope N_u_law_both ["one", "other"] (defScope s_u_law_both) := ⟨rfl, rfl, rfl, by decide +kernel, rfl, by decide +kernel, by decide +kernel⟩
abbrev s_u_law_rows_right : Stmt := topS 24
abbrev N_u_law_rows_right : List Str := ["w", "rule", "width", "many", "one", "other", "k", "check", "more", "place", "turned"]
theorem sc_u_law_rows_right : FnScope N_u_law_rows_right ["w", "rule"] (defScope s_u_law_rows_right) := ⟨rfl, rfl, rfl, by decide +kernel, rfl, by decide +kernel, by decide +kernel⟩
abbrev s_law : Stmt := topS 25
abbrev N_law : List Str := ["script", "w", "signs", "turn", "width", "tail", "due", "rule", "first", "turned"]
theorem sc_law : FnScope N_law ["script"] (defScope s_law) := ⟨rfl, rfl, rfl, by decide +kernel, rfl, by decide +kernel, by decide +kernel⟩
structure Tx (K : PySem.W.Frag) (mg : Str → Option Value) : Prop where
  z_abs : mg "abs" = none
  z_bool : mg "bool" = none
  z_int : mg "int" = none
  z_isinstance : mg "isinstance" = none
  z_len : mg "len" = none
  z_range : mg "range" = none
  z_tuple : mg "tuple" = none
  d_is_number : Has K mg "is_number" s_is_number ["thing"]
  d_bits_of : Has K mg "bits_of" s_bits_of ["number", "many"]
  d_all_bits : Has K mg "all_bits" s_all_bits ["numbers"]
  d_is_rule : Has K mg "is_rule" s_is_rule ["thing"]
  d_doubled : Has K mg "doubled" s_doubled ["rule", "number"]
  d_check_of : Has K mg "check_of" s_check_of ["bits", "rule"]
  d_check_of_numbers : Has K mg "check_of_numbers" s_check_of_numbers ["numbers", "rule"]
  d_product_of : Has K mg "product_of" s_product_of ["rule", "one", "other"]
  d_left_of : Has K mg "left_of" s_left_of ["rule", "number"]
  d_power_of : Has K mg "power_of" s_power_of ["rule", "many"]
  d_shift_of : Has K mg "shift_of" s_shift_of ["rule", "check", "many"]
  d_joined_check : Has K mg "joined_check" s_joined_check ["one", "other", "many", "rule"]
  d_u_law_draws : Has K mg "_law_draws" s_u_law_draws ["script", "many"]
  d_u_law_next : Has K mg "_law_next" s_u_law_next ["w", "many"]
  d_u_law_pick : Has K mg "_law_pick" s_u_law_pick ["w", "rows"]
  d_u_law_plain : Has K mg "_law_plain" s_u_law_plain []
  d_u_law_begun : Has K mg "_law_begun" s_u_law_begun []
  d_u_law_bits : Has K mg "_law_bits" s_u_law_bits ["number", "many"]
  d_u_law_signs : Has K mg "_law_signs" s_u_law_signs []
  d_u_law_both : Has K mg "_law_both" s_u_law_both ["one", "other"]
  d_u_law_rows_right : Has K mg "_law_rows_right" s_u_law_rows_right ["w", "rule"]
  d_law : Has K mg "law" s_law ["script"]
def Tx.xr {K : PySem.W.Frag} {mg : Str → Option Value} (_ : Tx K mg) : Str → D → Value → Option Addr → Hp → Prop := fun _ _ _ _ _ => False
section
variable {P : Program} {w : World} {K : PySem.W.Frag} {mg : Str → Option Value} {base : Heap}
theorem ok_is_number (T : Tx K mg) : Okd P w K mg base 1 "is_number" ["thing"] (ownM [.v]) (lk []) false T.xr 1 F_is_number := by
  obtain ⟨f, fd, F, hm, hb⟩ := T.d_is_number
  refine ⟨f, fd, hm, F.kp, hb, fn_F (N := N_is_number) (ow := lk []) F sc_is_number rfl rfl rfl rfl fun cdv A outer s H E fp hr => ?_⟩
  have tk : Takes (xOf P w K mg base N_is_number "is_number" s_is_number f cdv A outer s H E) (fun cl d _ H => E cl d H) := takes_of rfl rfl rfl rfl
  have hp : PassesOwn (model P w) (xOf P w K mg base N_is_number "is_number" s_is_number f cdv A outer s H E).A (xOf P w K mg base N_is_number "is_number" s_is_number f cdv A outer s H E).env (xOf P w K mg base N_is_number "is_number" s_is_number f cdv A outer s H E).xe := passes_of rfl
  exact (ESs_one (ES_ret (EV_and (EV_isi (Ts := "int") T.z_isinstance T.z_int (by decide +kernel) (EV_var (pv 0))) (EV_and (EV_not (EV_isi (Ts := "bool") T.z_isinstance T.z_bool (by decide +kernel) (EV_var (pv 0)))) (EV_one (EV_cmp ck_ge (EV_var (pv 0)) EV_int))))))

theorem ok_bits_of (T : Tx K mg) : Okd P w K mg base 1 "bits_of" ["number", "many"] (ownM [.v, .v]) (lk []) false T.xr 2 F_bits_of := by
  obtain ⟨f, fd, F, hm, hb⟩ := T.d_bits_of
  refine ⟨f, fd, hm, F.kp, hb, fn_F (N := N_bits_of) (ow := lk []) F sc_bits_of rfl rfl rfl rfl fun cdv A outer s H E fp hr => ?_⟩
  have tk : Takes (xOf P w K mg base N_bits_of "bits_of" s_bits_of f cdv A outer s H E) (fun cl d _ H => E cl d H) := takes_of rfl rfl rfl rfl
  have hp : PassesOwn (model P w) (xOf P w K mg base N_bits_of "bits_of" s_bits_of f cdv A outer s H E).A (xOf P w K mg base N_bits_of "bits_of" s_bits_of f cdv A outer s H E).env (xOf P w K mg base N_bits_of "bits_of" s_bits_of f cdv A outer s H E).xe := passes_of rfl
  exact (ESs_one (ES_ret (EV_tupO T.z_tuple (EB_ofN (EN_lc rfl sc_bits_of.nd (EI_r1 (EV_var (pv 1)) T.z_range) (blkOk_by (own := [("k", 2)]) (N := N_bits_of) (sc := defScope s_bits_of) (by decide +kernel)) (fun _ _ _ _ _ => (EG_name sc_bits_of.nd (i := 2) rfl (by first | exact .inl rfl | exact .inr rfl))) (fun _ _ _ _ _ => ETs_nil) (fun _ _ _ _ _ => (EV_band (EV_shr (EV_var (pv 0)) (EV_sub (EV_sub (EV_var (pv 1)) EV_int) (EV_var (pv 2)))) EV_int)))))))

theorem ok_all_bits (T : Tx K mg) : Okd P w K mg base 2 "all_bits" ["numbers"] (ownM [.v]) (lk []) false T.xr 1 F_all_bits := by
  obtain ⟨f, fd, F, hm, hb⟩ := T.d_all_bits
  refine ⟨f, fd, hm, F.kp, hb, fn_F (N := N_all_bits) (ow := lk [1]) F sc_all_bits rfl rfl rfl rfl fun cdv A outer s H E fp hr => ?_⟩
  have tk : Takes (xOf P w K mg base N_all_bits "all_bits" s_all_bits f cdv A outer s H E) (fun cl d _ H => E cl d H) := takes_of rfl rfl rfl rfl
  have hp : PassesOwn (model P w) (xOf P w K mg base N_all_bits "all_bits" s_all_bits f cdv A outer s H E).A (xOf P w K mg base N_all_bits "all_bits" s_all_bits f cdv A outer s H E).env (xOf P w K mg base N_all_bits "all_bits" s_all_bits f cdv A outer s H E).xe := passes_of rfl
  exact (ESs_cons (ES_setN (i := 1) sc_all_bits.nd rfl (.inl rfl) (EN_lst (n := 0) EA_nil))
    (ESs_cons (ES_for hp rfl (EI_seq (EV_var (pv 0))) (EG_name sc_all_bits.nd (i := 2) rfl (by first | exact .inl rfl | exact .inr rfl))
    (ESs_one (ES_expr (EV_extend (pv 1) (EV_cal (ms := [.v, .v]) (ok_bits_of T) hr tk (EA_cons (EV_var (pv 2)) (EA_cons EV_int EA_nil)))))))
    (ESs_one (ES_ret (EV_tupO T.z_tuple (EB_own (pv 1)))))))

theorem ok_is_rule (T : Tx K mg) : Okd P w K mg base 2 "is_rule" ["thing"] (ownM [.v]) (lk []) false T.xr 1 F_is_rule := by
  obtain ⟨f, fd, F, hm, hb⟩ := T.d_is_rule
  refine ⟨f, fd, hm, F.kp, hb, fn_F (N := N_is_rule) (ow := lk []) F sc_is_rule rfl rfl rfl rfl fun cdv A outer s H E fp hr => ?_⟩
  have tk : Takes (xOf P w K mg base N_is_rule "is_rule" s_is_rule f cdv A outer s H E) (fun cl d _ H => E cl d H) := takes_of rfl rfl rfl rfl
  have hp : PassesOwn (model P w) (xOf P w K mg base N_is_rule "is_rule" s_is_rule f cdv A outer s H E).A (xOf P w K mg base N_is_rule "is_rule" s_is_rule f cdv A outer s H E).env (xOf P w K mg base N_is_rule "is_rule" s_is_rule f cdv A outer s H E).xe := passes_of rfl
  exact (ESs_cons (ES_if (ET_w (EW_or (ET_not (ET_val (EV_isi (Ts := "tuple") T.z_isinstance T.z_tuple (by decide +kernel) (EV_var (pv 0))))) (EW_or (ET_cm (ck_ne hr) (EV_len T.z_len (EB_of (EV_var (pv 0)))) EV_int) (EW_or (ET_not (ET_val (EV_cal (ms := [.v]) (ok_is_number T) hr tk (EA_cons (EV_ix hr (EV_var (pv 0)) EV_int) EA_nil)))) (EW_or1 (ET_not (ET_val (EV_cal (ms := [.v]) (ok_is_number T) hr tk (EA_cons (EV_ix hr (EV_var (pv 0)) EV_int) EA_nil)))))))))
    (ESs_one (ES_ret EV_bl)) ESs_nil)
    (ESs_one (ES_ret (EV_and (EV_chn ck_le ck_le EV_int (EV_ix hr (EV_var (pv 0)) EV_int) EV_int) (EV_and (EV_cmp (ck_eq hr) (EV_mod (EV_ix hr (EV_var (pv 0)) EV_int) EV_int) EV_int) (EV_one (EV_cmp ck_lt (EV_ix hr (EV_var (pv 0)) EV_int) (EV_shl EV_int (EV_ix hr (EV_var (pv 0)) EV_int)))))))))

theorem ok_doubled (T : Tx K mg) : Okd P w K mg base 1 "doubled" ["rule", "number"] (ownM [.v, .v]) (lk []) false T.xr 2 F_doubled := by
  obtain ⟨f, fd, F, hm, hb⟩ := T.d_doubled
  refine ⟨f, fd, hm, F.kp, hb, fn_F (N := N_doubled) (ow := lk []) F sc_doubled rfl rfl rfl rfl fun cdv A outer s H E fp hr => ?_⟩
  have tk : Takes (xOf P w K mg base N_doubled "doubled" s_doubled f cdv A outer s H E) (fun cl d _ H => E cl d H) := takes_of rfl rfl rfl rfl
  have hp : PassesOwn (model P w) (xOf P w K mg base N_doubled "doubled" s_doubled f cdv A outer s H E).A (xOf P w K mg base N_doubled "doubled" s_doubled f cdv A outer s H E).env (xOf P w K mg base N_doubled "doubled" s_doubled f cdv A outer s H E).xe := passes_of rfl
  exact (ESs_cons (ES_asg (EV_var (pv 0)) (EG_tup rfl (EGs_cons (EG_name sc_doubled.nd (i := 2) rfl (by first | exact .inl rfl | exact .inr rfl)) (EGs_cons (EG_name sc_doubled.nd (i := 3) rfl (by first | exact .inl rfl | exact .inr rfl)) EGs_nil)) (hl := (gMore_len (gMore_len gEnd_len)))))
    (ESs_cons (ES_set (i := 1) sc_doubled.nd rfl (.inl rfl) (EV_shl (EV_var (pv 1)) EV_int))
    (ESs_one (ES_ret (E_if (ET_cm (ck_eq hr) (EV_shr (EV_var (pv 1)) (EV_var (pv 2))) EV_int) (EV_xor (EV_xor (EV_var (pv 1)) (EV_shl EV_int (EV_var (pv 2)))) (EV_var (pv 3))) (EV_var (pv 1)))))))

theorem ok_check_of (T : Tx K mg) : Okd P w K mg base 2 "check_of" ["bits", "rule"] (ownM [.v, .v]) (lk []) false T.xr 2 F_check_of := by
  obtain ⟨f, fd, F, hm, hb⟩ := T.d_check_of
  refine ⟨f, fd, hm, F.kp, hb, fn_F (N := N_check_of) (ow := lk []) F sc_check_of rfl rfl rfl rfl fun cdv A outer s H E fp hr => ?_⟩
  have tk : Takes (xOf P w K mg base N_check_of "check_of" s_check_of f cdv A outer s H E) (fun cl d _ H => E cl d H) := takes_of rfl rfl rfl rfl
  have hp : PassesOwn (model P w) (xOf P w K mg base N_check_of "check_of" s_check_of f cdv A outer s H E).A (xOf P w K mg base N_check_of "check_of" s_check_of f cdv A outer s H E).env (xOf P w K mg base N_check_of "check_of" s_check_of f cdv A outer s H E).xe := passes_of rfl
  exact (ESs_cons (ES_par2 rfl sc_check_of.nd rfl rfl (by decide) rfl rfl (EA_cons EV_int (EA_cons (EV_sub (EV_ix hr (EV_var (pv 1)) EV_int) EV_int) EA_nil)) (by rfl) (i := 2) (j := 3))
    (ESs_cons (ES_for hp rfl (EI_seq (EV_var (pv 0))) (EG_name sc_check_of.nd (i := 4) rfl (by first | exact .inl rfl | exact .inr rfl))
    (ESs_one (ES_set (i := 2) sc_check_of.nd rfl (.inl rfl) (EV_cal (ms := [.v, .v]) (ok_doubled T) hr tk (EA_cons (EV_var (pv 1)) (EA_cons (EV_xor (EV_var (pv 2)) (EV_shl (EV_var (pv 4)) (EV_var (pv 3)))) EA_nil))))))
    (ESs_one (ES_ret (EV_var (pv 2))))))

theorem ok_check_of_numbers (T : Tx K mg) : Okd P w K mg base 3 "check_of_numbers" ["numbers", "rule"] (ownM [.v, .v]) (lk []) false T.xr 2 F_check_of_numbers := by
  obtain ⟨f, fd, F, hm, hb⟩ := T.d_check_of_numbers
  refine ⟨f, fd, hm, F.kp, hb, fn_F (N := N_check_of_numbers) (ow := lk []) F sc_check_of_numbers rfl rfl rfl rfl fun cdv A outer s H E fp hr => ?_⟩
  have tk : Takes (xOf P w K mg base N_check_of_numbers "check_of_numbers" s_check_of_numbers f cdv A outer s H E) (fun cl d _ H => E cl d H) := takes_of rfl rfl rfl rfl
  have hp : PassesOwn (model P w) (xOf P w K mg base N_check_of_numbers "check_of_numbers" s_check_of_numbers f cdv A outer s H E).A (xOf P w K mg base N_check_of_numbers "check_of_numbers" s_check_of_numbers f cdv A outer s H E).env (xOf P w K mg base N_check_of_numbers "check_of_numbers" s_check_of_numbers f cdv A outer s H E).xe := passes_of rfl
  exact (ESs_one (ES_ret (EV_cal (ms := [.v, .v]) (ok_check_of T) hr tk (EA_cons (EV_cal (ms := [.v]) (ok_all_bits T) hr tk (EA_cons (EV_var (pv 0)) EA_nil)) (EA_cons (EV_var (pv 1)) EA_nil)))))

theorem ok_product_of (T : Tx K mg) : Okd P w K mg base 2 "product_of" ["rule", "one", "other"] (ownM [.v, .v, .v]) (lk []) false T.xr 3 F_product_of := by
  obtain ⟨f, fd, F, hm, hb⟩ := T.d_product_of
  refine ⟨f, fd, hm, F.kp, hb, fn_F (N := N_product_of) (ow := lk []) F sc_product_of rfl rfl rfl rfl fun cdv A outer s H E fp hr => ?_⟩
  have tk : Takes (xOf P w K mg base N_product_of "product_of" s_product_of f cdv A outer s H E) (fun cl d _ H => E cl d H) := takes_of rfl rfl rfl rfl
  have hp : PassesOwn (model P w) (xOf P w K mg base N_product_of "product_of" s_product_of f cdv A outer s H E).A (xOf P w K mg base N_product_of "product_of" s_product_of f cdv A outer s H E).env (xOf P w K mg base N_product_of "product_of" s_product_of f cdv A outer s H E).xe := passes_of rfl
  exact (ESs_cons (ES_set (i := 3) sc_product_of.nd rfl (.inl rfl) EV_int)
    (ESs_cons (ES_for hp rfl (EI_r3 (EV_sub (EV_ix hr (EV_var (pv 0)) EV_int) EV_int) (EV_neg EV_int) (EV_neg EV_int) T.z_range) (EG_name sc_product_of.nd (i := 4) rfl (by first | exact .inl rfl | exact .inr rfl))
    (ESs_one (ES_set (i := 3) sc_product_of.nd rfl (.inl rfl) (EV_xor (EV_cal (ms := [.v, .v]) (ok_doubled T) hr tk (EA_cons (EV_var (pv 0)) (EA_cons (EV_var (pv 3)) EA_nil))) (E_if (ET_cm (ck_eq hr) (EV_band (EV_shr (EV_var (pv 2)) (EV_var (pv 4))) EV_int) EV_int) (EV_var (pv 1)) EV_int)))))
    (ESs_one (ES_ret (EV_var (pv 3))))))

theorem ok_left_of (T : Tx K mg) : Okd P w K mg base 1 "left_of" ["rule", "number"] (ownM [.v, .v]) (lk []) false T.xr 2 F_left_of := by
  obtain ⟨f, fd, F, hm, hb⟩ := T.d_left_of
  refine ⟨f, fd, hm, F.kp, hb, fn_F (N := N_left_of) (ow := lk []) F sc_left_of rfl rfl rfl rfl fun cdv A outer s H E fp hr => ?_⟩
  have tk : Takes (xOf P w K mg base N_left_of "left_of" s_left_of f cdv A outer s H E) (fun cl d _ H => E cl d H) := takes_of rfl rfl rfl rfl
  have hp : PassesOwn (model P w) (xOf P w K mg base N_left_of "left_of" s_left_of f cdv A outer s H E).A (xOf P w K mg base N_left_of "left_of" s_left_of f cdv A outer s H E).env (xOf P w K mg base N_left_of "left_of" s_left_of f cdv A outer s H E).xe := passes_of rfl
  exact (ESs_one (ES_ret (E_if (ET_cm (ck_eq hr) (EV_shr (EV_var (pv 1)) (EV_ix hr (EV_var (pv 0)) EV_int)) EV_int) (EV_var (pv 1)) (EV_ix hr (EV_var (pv 0)) EV_int))))

theorem ok_power_of (T : Tx K mg) : Okd P w K mg base 3 "power_of" ["rule", "many"] (ownM [.v, .v]) (lk []) false T.xr 2 F_power_of := by
  obtain ⟨f, fd, F, hm, hb⟩ := T.d_power_of
  refine ⟨f, fd, hm, F.kp, hb, fn_F (N := N_power_of) (ow := lk []) F sc_power_of rfl rfl rfl rfl fun cdv A outer s H E fp hr => ?_⟩
  have tk : Takes (xOf P w K mg base N_power_of "power_of" s_power_of f cdv A outer s H E) (fun cl d _ H => E cl d H) := takes_of rfl rfl rfl rfl
  have hp : PassesOwn (model P w) (xOf P w K mg base N_power_of "power_of" s_power_of f cdv A outer s H E).A (xOf P w K mg base N_power_of "power_of" s_power_of f cdv A outer s H E).env (xOf P w K mg base N_power_of "power_of" s_power_of f cdv A outer s H E).xe := passes_of rfl
  exact (ESs_cons (ES_par2 rfl sc_power_of.nd rfl rfl (by decide) rfl rfl (EA_cons (EV_cal (ms := [.v, .v]) (ok_left_of T) hr tk (EA_cons (EV_var (pv 0)) (EA_cons EV_int EA_nil))) (EA_cons (EV_cal (ms := [.v, .v]) (ok_left_of T) hr tk (EA_cons (EV_var (pv 0)) (EA_cons EV_int EA_nil))) EA_nil)) (by rfl) (i := 2) (j := 3))
    (ESs_cons (ES_while 1000000 hp (ET_cm ck_gt (EV_var (pv 1)) EV_int)
    (ESs_cons (ES_set (i := 2) sc_power_of.nd rfl (.inl rfl) (E_if (ET_cm (ck_eq hr) (EV_mod (EV_var (pv 1)) EV_int) EV_int) (EV_cal (ms := [.v, .v, .v]) (ok_product_of T) hr tk (EA_cons (EV_var (pv 0)) (EA_cons (EV_var (pv 2)) (EA_cons (EV_var (pv 3)) EA_nil)))) (EV_var (pv 2))))
    (ESs_one (ES_par2 rfl sc_power_of.nd rfl rfl (by decide) rfl rfl (EA_cons (EV_cal (ms := [.v, .v, .v]) (ok_product_of T) hr tk (EA_cons (EV_var (pv 0)) (EA_cons (EV_var (pv 3)) (EA_cons (EV_var (pv 3)) EA_nil)))) (EA_cons (EV_fdiv (EV_var (pv 1)) EV_int) EA_nil)) (by rfl) (i := 3) (j := 1)))))
    (ESs_one (ES_ret (EV_var (pv 2))))))

theorem ok_shift_of (T : Tx K mg) : Okd P w K mg base 4 "shift_of" ["rule", "check", "many"] (ownM [.v, .v, .v]) (lk []) false T.xr 3 F_shift_of := by
  obtain ⟨f, fd, F, hm, hb⟩ := T.d_shift_of
  refine ⟨f, fd, hm, F.kp, hb, fn_F (N := N_shift_of) (ow := lk []) F sc_shift_of rfl rfl rfl rfl fun cdv A outer s H E fp hr => ?_⟩
  have tk : Takes (xOf P w K mg base N_shift_of "shift_of" s_shift_of f cdv A outer s H E) (fun cl d _ H => E cl d H) := takes_of rfl rfl rfl rfl
  have hp : PassesOwn (model P w) (xOf P w K mg base N_shift_of "shift_of" s_shift_of f cdv A outer s H E).A (xOf P w K mg base N_shift_of "shift_of" s_shift_of f cdv A outer s H E).env (xOf P w K mg base N_shift_of "shift_of" s_shift_of f cdv A outer s H E).xe := passes_of rfl
  exact (ESs_one (ES_ret (EV_cal (ms := [.v, .v, .v]) (ok_product_of T) hr tk (EA_cons (EV_var (pv 0)) (EA_cons (EV_var (pv 1)) (EA_cons (EV_cal (ms := [.v, .v]) (ok_power_of T) hr tk (EA_cons (EV_var (pv 0)) (EA_cons (EV_var (pv 2)) EA_nil))) EA_nil))))))

theorem ok_joined_check (T : Tx K mg) : Okd P w K mg base 5 "joined_check" ["one", "other", "many", "rule"] (ownM [.v, .v, .v, .v]) (lk []) false T.xr 4 F_joined_check := by
  obtain ⟨f, fd, F, hm, hb⟩ := T.d_joined_check
  refine ⟨f, fd, hm, F.kp, hb, fn_F (N := N_joined_check) (ow := lk []) F sc_joined_check rfl rfl rfl rfl fun cdv A outer s H E fp hr => ?_⟩
  have tk : Takes (xOf P w K mg base N_joined_check "joined_check" s_joined_check f cdv A outer s H E) (fun cl d _ H => E cl d H) := takes_of rfl rfl rfl rfl
  have hp : PassesOwn (model P w) (xOf P w K mg base N_joined_check "joined_check" s_joined_check f cdv A outer s H E).A (xOf P w K mg base N_joined_check "joined_check" s_joined_check f cdv A outer s H E).env (xOf P w K mg base N_joined_check "joined_check" s_joined_check f cdv A outer s H E).xe := passes_of rfl
  exact (ESs_one (ES_ret (EV_xor (EV_cal (ms := [.v, .v, .v]) (ok_shift_of T) hr tk (EA_cons (EV_var (pv 3)) (EA_cons (EV_var (pv 0)) (EA_cons (EV_var (pv 2)) EA_nil)))) (EV_var (pv 1)))))

theorem ok_u_law_draws (T : Tx K mg) : Okd P w K mg base 1 "_law_draws" ["script", "many"] (ownM [.v, .v]) (lk []) false T.xr 2 F_u_law_draws := by
  obtain ⟨f, fd, F, hm, hb⟩ := T.d_u_law_draws
  refine ⟨f, fd, hm, F.kp, hb, fn_F (N := N_u_law_draws) (ow := lk [2]) F sc_u_law_draws rfl rfl rfl rfl fun cdv A outer s H E fp hr => ?_⟩
  have tk : Takes (xOf P w K mg base N_u_law_draws "_law_draws" s_u_law_draws f cdv A outer s H E) (fun cl d _ H => E cl d H) := takes_of rfl rfl rfl rfl
  have hp : PassesOwn (model P w) (xOf P w K mg base N_u_law_draws "_law_draws" s_u_law_draws f cdv A outer s H E).A (xOf P w K mg base N_u_law_draws "_law_draws" s_u_law_draws f cdv A outer s H E).env (xOf P w K mg base N_u_law_draws "_law_draws" s_u_law_draws f cdv A outer s H E).xe := passes_of rfl
  exact (ESs_cons (ES_setN (i := 2) sc_u_law_draws.nd rfl (.inl rfl) (EN_lst (n := 0) EA_nil))
    (ESs_cons (ES_set (i := 3) sc_u_law_draws.nd rfl (.inl rfl) EV_int)
    (ESs_cons (ES_for hp rfl (EI_r1 (EV_len T.z_len (EB_of (EV_var (pv 0)))) T.z_range) (EG_name sc_u_law_draws.nd (i := 4) rfl (by first | exact .inl rfl | exact .inr rfl))
    (ESs_cons (ES_set (i := 5) sc_u_law_draws.nd rfl (.inl rfl) (EV_abs T.z_abs (EB_of (EV_int' T.z_int (EB_of (EV_ix hr (EV_var (pv 0)) (EV_var (pv 4))))))))
    (ESs_cons (ES_set (i := 3) sc_u_law_draws.nd rfl (.inl rfl) (EV_mod (EV_int' T.z_int (EB_of (EV_add (EV_add (EV_mul (EV_var (pv 3)) EV_int) (EV_mod (EV_var (pv 5)) EV_int)) (EV_var (pv 4))))) EV_int))
    (ESs_cons (ES_set (i := 6) sc_u_law_draws.nd rfl (.inl rfl) EV_int)
    (ESs_cons (ES_if (ET_cm ck_ge (EV_var (pv 5)) (EV_pow EV_int EV_int))
    (ESs_one (ES_set (i := 6) sc_u_law_draws.nd rfl (.inl rfl) (EV_var (pv 5)))) (ESs_cons (ES_expr (EV_append (pv 2) (EV_mod (EV_int' T.z_int (EB_of (EV_var (pv 5)))) EV_int)))
    (ESs_one (ES_expr (EV_append (pv 2) (EV_mod (EV_mod (EV_int' T.z_int (EB_of (EV_add (EV_mul (EV_var (pv 3)) EV_int) EV_int))) EV_int) EV_int))))))
    (ESs_one (ES_for hp rfl (EI_r1 EV_int T.z_range) (EG_name sc_u_law_draws.nd (i := 7) rfl (by first | exact .inl rfl | exact .inr rfl))
    (ESs_one (ES_if (ET_cm ck_gt (EV_var (pv 6)) EV_int)
    (ESs_cons (ES_expr (EV_append (pv 2) (EV_mod (EV_int' T.z_int (EB_of (EV_var (pv 6)))) EV_int)))
    (ESs_one (ES_set (i := 6) sc_u_law_draws.nd rfl (.inl rfl) (EV_fdiv (EV_var (pv 6)) EV_int)))) ESs_nil)))))))))
    (ESs_cons (ES_for hp rfl (EI_r1 (EV_var (pv 1)) T.z_range) (EG_name sc_u_law_draws.nd (i := 4) rfl (by first | exact .inl rfl | exact .inr rfl))
    (ESs_cons (ES_set (i := 3) sc_u_law_draws.nd rfl (.inl rfl) (EV_mod (EV_int' T.z_int (EB_of (EV_add (EV_add (EV_mul (EV_var (pv 3)) EV_int) (EV_var (pv 4))) EV_int))) EV_int))
    (ESs_one (ES_expr (EV_append (pv 2) (EV_mod (EV_int' T.z_int (EB_of (EV_var (pv 3)))) EV_int))))))
    (ESs_one (ES_ret (EV_of (EN_slS (pv 2) EO_none (EO_some (EV_var (pv 1)))))))))))

theorem ok_u_law_next (T : Tx K mg) : Okd P w K mg base 1 "_law_next" ["w", "many"] (ownM [.n, .v]) (lk [0]) false T.xr 2 F_u_law_next := by
  obtain ⟨f, fd, F, hm, hb⟩ := T.d_u_law_next
  refine ⟨f, fd, hm, F.kp, hb, fn_F (N := N_u_law_next) (ow := lk [0]) F sc_u_law_next rfl rfl rfl rfl fun cdv A outer s H E fp hr => ?_⟩
  have tk : Takes (xOf P w K mg base N_u_law_next "_law_next" s_u_law_next f cdv A outer s H E) (fun cl d _ H => E cl d H) := takes_of rfl rfl rfl rfl
  have hp : PassesOwn (model P w) (xOf P w K mg base N_u_law_next "_law_next" s_u_law_next f cdv A outer s H E).A (xOf P w K mg base N_u_law_next "_law_next" s_u_law_next f cdv A outer s H E).env (xOf P w K mg base N_u_law_next "_law_next" s_u_law_next f cdv A outer s H E).xe := passes_of rfl
  exact (ESs_cons (ES_daug hr (pv 0) EV_str EV_int)
    (ESs_cons (ES_if (ET_cm ck_gt (EV_ixS hr (pv 0) EV_str) (EV_len T.z_len (EB_of (EV_ixS hr (pv 0) EV_str))))
    (ESs_one (ES_ret EV_int)) ESs_nil)
    (ESs_one (ES_ret (EV_mod (EV_int' T.z_int (EB_of (EV_ix hr (EV_ixS hr (pv 0) EV_str) (EV_sub (EV_ixS hr (pv 0) EV_str) EV_int)))) (EV_var (pv 1)))))))

theorem ok_u_law_pick (T : Tx K mg) : Okd P w K mg base 2 "_law_pick" ["w", "rows"] (ownM [.n, .v]) (lk [0]) false T.xr 2 F_u_law_pick := by
  obtain ⟨f, fd, F, hm, hb⟩ := T.d_u_law_pick
  refine ⟨f, fd, hm, F.kp, hb, fn_F (N := N_u_law_pick) (ow := lk [0]) F sc_u_law_pick rfl rfl rfl rfl fun cdv A outer s H E fp hr => ?_⟩
  have tk : Takes (xOf P w K mg base N_u_law_pick "_law_pick" s_u_law_pick f cdv A outer s H E) (fun cl d _ H => E cl d H) := takes_of rfl rfl rfl rfl
  have hp : PassesOwn (model P w) (xOf P w K mg base N_u_law_pick "_law_pick" s_u_law_pick f cdv A outer s H E).A (xOf P w K mg base N_u_law_pick "_law_pick" s_u_law_pick f cdv A outer s H E).env (xOf P w K mg base N_u_law_pick "_law_pick" s_u_law_pick f cdv A outer s H E).xe := passes_of rfl
  exact (ESs_one (ES_ret (EV_ix hr (EV_var (pv 1)) (EV_cal (ms := [.s 0, .v]) (ok_u_law_next T) hr tk (EA_consS (pv 0) (EA_cons (EV_len T.z_len (EB_of (EV_var (pv 1)))) EA_nil))))))

theorem ok_u_law_plain (T : Tx K mg) : Okd P w K mg base 1 "_law_plain" [] (ownM []) (lk []) false T.xr 0 F_u_law_plain := by
  obtain ⟨f, fd, F, hm, hb⟩ := T.d_u_law_plain
  refine ⟨f, fd, hm, F.kp, hb, fn_F (N := N_u_law_plain) (ow := lk []) F sc_u_law_plain rfl rfl rfl rfl fun cdv A outer s H E fp hr => ?_⟩
  have tk : Takes (xOf P w K mg base N_u_law_plain "_law_plain" s_u_law_plain f cdv A outer s H E) (fun cl d _ H => E cl d H) := takes_of rfl rfl rfl rfl
  have hp : PassesOwn (model P w) (xOf P w K mg base N_u_law_plain "_law_plain" s_u_law_plain f cdv A outer s H E).A (xOf P w K mg base N_u_law_plain "_law_plain" s_u_law_plain f cdv A outer s H E).env (xOf P w K mg base N_u_law_plain "_law_plain" s_u_law_plain f cdv A outer s H E).xe := passes_of rfl
  exact (ESs_one (ES_ret (EV_tup (n := 26) (EA_cons (EV_tup (n := 3) (EA_cons EV_int (EA_cons EV_int (EA_cons EV_int EA_nil)))) (EA_cons (EV_tup (n := 3) (EA_cons EV_int (EA_cons EV_int (EA_cons EV_int EA_nil)))) (EA_cons (EV_tup (n := 3) (EA_cons EV_int (EA_cons EV_int (EA_cons EV_int EA_nil)))) (EA_cons (EV_tup (n := 3) (EA_cons EV_int (EA_cons EV_int (EA_cons EV_int EA_nil)))) (EA_cons (EV_tup (n := 3) (EA_cons EV_int (EA_cons EV_int (EA_cons EV_int EA_nil)))) (EA_cons (EV_tup (n := 3) (EA_cons EV_int (EA_cons EV_int (EA_cons EV_int EA_nil)))) (EA_cons (EV_tup (n := 3) (EA_cons EV_int (EA_cons EV_int (EA_cons EV_int EA_nil)))) (EA_cons (EV_tup (n := 3) (EA_cons EV_int (EA_cons EV_int (EA_cons EV_int EA_nil)))) (EA_cons (EV_tup (n := 3) (EA_cons EV_int (EA_cons EV_int (EA_cons EV_int EA_nil)))) (EA_cons (EV_tup (n := 3) (EA_cons EV_int (EA_cons EV_int (EA_cons EV_int EA_nil)))) (EA_cons (EV_tup (n := 3) (EA_cons EV_int (EA_cons EV_int (EA_cons EV_int EA_nil)))) (EA_cons (EV_tup (n := 3) (EA_cons EV_int (EA_cons EV_int (EA_cons EV_int EA_nil)))) (EA_cons (EV_tup (n := 3) (EA_cons EV_int (EA_cons EV_int (EA_cons EV_int EA_nil)))) (EA_cons (EV_tup (n := 3) (EA_cons EV_int (EA_cons EV_int (EA_cons EV_int EA_nil)))) (EA_cons (EV_tup (n := 3) (EA_cons EV_int (EA_cons EV_int (EA_cons EV_int EA_nil)))) (EA_cons (EV_tup (n := 3) (EA_cons EV_int (EA_cons EV_int (EA_cons EV_int EA_nil)))) (EA_cons (EV_tup (n := 3) (EA_cons EV_int (EA_cons EV_int (EA_cons EV_int EA_nil)))) (EA_cons (EV_tup (n := 3) (EA_cons EV_int (EA_cons EV_int (EA_cons EV_int EA_nil)))) (EA_cons (EV_tup (n := 3) (EA_cons EV_int (EA_cons EV_int (EA_cons EV_int EA_nil)))) (EA_cons (EV_tup (n := 3) (EA_cons EV_int (EA_cons EV_int (EA_cons EV_int EA_nil)))) (EA_cons (EV_tup (n := 3) (EA_cons EV_int (EA_cons EV_int (EA_cons EV_int EA_nil)))) (EA_cons (EV_tup (n := 3) (EA_cons EV_int (EA_cons EV_int (EA_cons EV_int EA_nil)))) (EA_cons (EV_tup (n := 3) (EA_cons EV_int (EA_cons EV_int (EA_cons EV_int EA_nil)))) (EA_cons (EV_tup (n := 3) (EA_cons EV_int (EA_cons EV_int (EA_cons EV_int EA_nil)))) (EA_cons (EV_tup (n := 3) (EA_cons EV_int (EA_cons EV_int (EA_cons EV_int EA_nil)))) (EA_cons (EV_tup (n := 3) (EA_cons EV_int (EA_cons EV_int (EA_cons EV_int EA_nil)))) EA_nil)))))))))))))))))))))))))))))

theorem ok_u_law_begun (T : Tx K mg) : Okd P w K mg base 1 "_law_begun" [] (ownM []) (lk []) false T.xr 0 F_u_law_begun := by
  obtain ⟨f, fd, F, hm, hb⟩ := T.d_u_law_begun
  refine ⟨f, fd, hm, F.kp, hb, fn_F (N := N_u_law_begun) (ow := lk []) F sc_u_law_begun rfl rfl rfl rfl fun cdv A outer s H E fp hr => ?_⟩
  have tk : Takes (xOf P w K mg base N_u_law_begun "_law_begun" s_u_law_begun f cdv A outer s H E) (fun cl d _ H => E cl d H) := takes_of rfl rfl rfl rfl
  have hp : PassesOwn (model P w) (xOf P w K mg base N_u_law_begun "_law_begun" s_u_law_begun f cdv A outer s H E).A (xOf P w K mg base N_u_law_begun "_law_begun" s_u_law_begun f cdv A outer s H E).env (xOf P w K mg base N_u_law_begun "_law_begun" s_u_law_begun f cdv A outer s H E).xe := passes_of rfl
  exact (ESs_one (ES_ret (EV_tup (n := 18) (EA_cons (EV_tup (n := 4) (EA_cons EV_int (EA_cons EV_int (EA_cons EV_int (EA_cons EV_int EA_nil))))) (EA_cons (EV_tup (n := 4) (EA_cons EV_int (EA_cons EV_int (EA_cons EV_int (EA_cons EV_int EA_nil))))) (EA_cons (EV_tup (n := 4) (EA_cons EV_int (EA_cons EV_int (EA_cons EV_int (EA_cons EV_int EA_nil))))) (EA_cons (EV_tup (n := 4) (EA_cons EV_int (EA_cons EV_int (EA_cons EV_int (EA_cons EV_int EA_nil))))) (EA_cons (EV_tup (n := 4) (EA_cons EV_int (EA_cons EV_int (EA_cons EV_int (EA_cons EV_int EA_nil))))) (EA_cons (EV_tup (n := 4) (EA_cons EV_int (EA_cons EV_int (EA_cons EV_int (EA_cons EV_int EA_nil))))) (EA_cons (EV_tup (n := 4) (EA_cons EV_int (EA_cons EV_int (EA_cons EV_int (EA_cons EV_int EA_nil))))) (EA_cons (EV_tup (n := 4) (EA_cons EV_int (EA_cons EV_int (EA_cons EV_int (EA_cons EV_int EA_nil))))) (EA_cons (EV_tup (n := 4) (EA_cons EV_int (EA_cons EV_int (EA_cons EV_int (EA_cons EV_int EA_nil))))) (EA_cons (EV_tup (n := 4) (EA_cons EV_int (EA_cons EV_int (EA_cons EV_int (EA_cons EV_int EA_nil))))) (EA_cons (EV_tup (n := 4) (EA_cons EV_int (EA_cons EV_int (EA_cons EV_int (EA_cons EV_int EA_nil))))) (EA_cons (EV_tup (n := 4) (EA_cons EV_int (EA_cons EV_int (EA_cons EV_int (EA_cons EV_int EA_nil))))) (EA_cons (EV_tup (n := 4) (EA_cons EV_int (EA_cons EV_int (EA_cons EV_int (EA_cons EV_int EA_nil))))) (EA_cons (EV_tup (n := 4) (EA_cons EV_int (EA_cons EV_int (EA_cons EV_int (EA_cons EV_int EA_nil))))) (EA_cons (EV_tup (n := 4) (EA_cons EV_int (EA_cons EV_int (EA_cons EV_int (EA_cons EV_int EA_nil))))) (EA_cons (EV_tup (n := 4) (EA_cons EV_int (EA_cons EV_int (EA_cons EV_int (EA_cons EV_int EA_nil))))) (EA_cons (EV_tup (n := 4) (EA_cons EV_int (EA_cons EV_int (EA_cons EV_int (EA_cons EV_int EA_nil))))) (EA_cons (EV_tup (n := 4) (EA_cons EV_int (EA_cons EV_int (EA_cons EV_int (EA_cons EV_int EA_nil))))) EA_nil)))))))))))))))))))))

theorem ok_u_law_bits (T : Tx K mg) : Okd P w K mg base 1 "_law_bits" ["number", "many"] (ownM [.v, .v]) (lk []) false T.xr 2 F_u_law_bits := by
  obtain ⟨f, fd, F, hm, hb⟩ := T.d_u_law_bits
  refine ⟨f, fd, hm, F.kp, hb, fn_F (N := N_u_law_bits) (ow := lk []) F sc_u_law_bits rfl rfl rfl rfl fun cdv A outer s H E fp hr => ?_⟩
  have tk : Takes (xOf P w K mg base N_u_law_bits "_law_bits" s_u_law_bits f cdv A outer s H E) (fun cl d _ H => E cl d H) := takes_of rfl rfl rfl rfl
  have hp : PassesOwn (model P w) (xOf P w K mg base N_u_law_bits "_law_bits" s_u_law_bits f cdv A outer s H E).A (xOf P w K mg base N_u_law_bits "_law_bits" s_u_law_bits f cdv A outer s H E).env (xOf P w K mg base N_u_law_bits "_law_bits" s_u_law_bits f cdv A outer s H E).xe := passes_of rfl
  exact (ESs_one (ES_ret (EV_tupO T.z_tuple (EB_ofN (EN_lc rfl sc_u_law_bits.nd (EI_r1 (EV_var (pv 1)) T.z_range) (blkOk_by (own := [("k", 2)]) (N := N_u_law_bits) (sc := defScope s_u_law_bits) (by decide +kernel)) (fun _ _ _ _ _ => (EG_name sc_u_law_bits.nd (i := 2) rfl (by first | exact .inl rfl | exact .inr rfl))) (fun _ _ _ _ _ => ETs_nil) (fun _ _ _ _ _ => (EV_band (EV_shr (EV_var (pv 0)) (EV_sub (EV_sub (EV_var (pv 1)) EV_int) (EV_var (pv 2)))) EV_int)))))))

theorem ok_u_law_signs (T : Tx K mg) : Okd P w K mg base 2 "_law_signs" [] (ownM []) (lk []) false T.xr 0 F_u_law_signs := by
  obtain ⟨f, fd, F, hm, hb⟩ := T.d_u_law_signs
  refine ⟨f, fd, hm, F.kp, hb, fn_F (N := N_u_law_signs) (ow := lk []) F sc_u_law_signs rfl rfl rfl rfl fun cdv A outer s H E fp hr => ?_⟩
  have tk : Takes (xOf P w K mg base N_u_law_signs "_law_signs" s_u_law_signs f cdv A outer s H E) (fun cl d _ H => E cl d H) := takes_of rfl rfl rfl rfl
  have hp : PassesOwn (model P w) (xOf P w K mg base N_u_law_signs "_law_signs" s_u_law_signs f cdv A outer s H E).A (xOf P w K mg base N_u_law_signs "_law_signs" s_u_law_signs f cdv A outer s H E).env (xOf P w K mg base N_u_law_signs "_law_signs" s_u_law_signs f cdv A outer s H E).xe := passes_of rfl
  exact (ESs_cons (ES_set (i := 0) sc_u_law_signs.nd rfl (.inl rfl) (EV_tup (n := 0) EA_nil))
    (ESs_cons (ES_for hp rfl (EI_r1 EV_int T.z_range) (EG_name sc_u_law_signs.nd (i := 1) rfl (by first | exact .inl rfl | exact .inr rfl))
    (ESs_one (ES_set (i := 0) sc_u_law_signs.nd rfl (.inl rfl) (EV_add (EV_var (pv 0)) (EV_cal (ms := [.v, .v]) (ok_u_law_bits T) hr tk (EA_cons (EV_add EV_int (EV_var (pv 1))) (EA_cons EV_int EA_nil)))))))
    (ESs_one (ES_ret (EV_var (pv 0))))))

theorem ok_u_law_both (T : Tx K mg) : Okd P w K mg base 1 "_law_both" ["one", "other"] (ownM [.v, .v]) (lk []) false T.xr 2 F_u_law_both := by
  obtain ⟨f, fd, F, hm, hb⟩ := T.d_u_law_both
  refine ⟨f, fd, hm, F.kp, hb, fn_F (N := N_u_law_both) (ow := lk []) F sc_u_law_both rfl rfl rfl rfl fun cdv A outer s H E fp hr => ?_⟩
  have tk : Takes (xOf P w K mg base N_u_law_both "_law_both" s_u_law_both f cdv A outer s H E) (fun cl d _ H => E cl d H) := takes_of rfl rfl rfl rfl
  have hp : PassesOwn (model P w) (xOf P w K mg base N_u_law_both "_law_both" s_u_law_both f cdv A outer s H E).A (xOf P w K mg base N_u_law_both "_law_both" s_u_law_both f cdv A outer s H E).env (xOf P w K mg base N_u_law_both "_law_both" s_u_law_both f cdv A outer s H E).xe := passes_of rfl
  exact (ESs_one (ES_ret (EV_tupO T.z_tuple (EB_ofN (EN_lc rfl sc_u_law_both.nd (EI_r1 (EV_len T.z_len (EB_of (EV_var (pv 0)))) T.z_range) (blkOk_by (own := [("k", 2)]) (N := N_u_law_both) (sc := defScope s_u_law_both) (by decide +kernel)) (fun _ _ _ _ _ => (EG_name sc_u_law_both.nd (i := 2) rfl (by first | exact .inl rfl | exact .inr rfl))) (fun _ _ _ _ _ => ETs_nil) (fun _ _ _ _ _ => (EV_xor (EV_ix hr (EV_var (pv 0)) (EV_var (pv 2))) (EV_ix hr (EV_var (pv 1)) (EV_var (pv 2))))))))))

theorem ok_u_law_rows_right (T : Tx K mg) : Okd P w K mg base 6 "_law_rows_right" ["w", "rule"] (ownM [.n, .v]) (lk [0]) false T.xr 2 F_u_law_rows_right := by
  obtain ⟨f, fd, F, hm, hb⟩ := T.d_u_law_rows_right
  refine ⟨f, fd, hm, F.kp, hb, fn_F (N := N_u_law_rows_right) (ow := lk [0]) F sc_u_law_rows_right rfl rfl rfl rfl fun cdv A outer s H E fp hr => ?_⟩
  have tk : Takes (xOf P w K mg base N_u_law_rows_right "_law_rows_right" s_u_law_rows_right f cdv A outer s H E) (fun cl d _ H => E cl d H) := takes_of rfl rfl rfl rfl
  have hp : PassesOwn (model P w) (xOf P w K mg base N_u_law_rows_right "_law_rows_right" s_u_law_rows_right f cdv A outer s H E).A (xOf P w K mg base N_u_law_rows_right "_law_rows_right" s_u_law_rows_right f cdv A outer s H E).env (xOf P w K mg base N_u_law_rows_right "_law_rows_right" s_u_law_rows_right f cdv A outer s H E).xe := passes_of rfl
  exact (ESs_cons (ES_par2 rfl sc_u_law_rows_right.nd rfl rfl (by decide) rfl rfl (EA_cons (EV_ix hr (EV_var (pv 1)) EV_int) (EA_cons (EV_add EV_int (EV_cal (ms := [.s 0, .v]) (ok_u_law_next T) hr tk (EA_consS (pv 0) (EA_cons EV_int EA_nil)))) EA_nil)) (by rfl) (i := 2) (j := 3))
    (ESs_cons (ES_par2 rfl sc_u_law_rows_right.nd rfl rfl (by decide) rfl rfl (EA_cons (EV_tupO T.z_tuple (EB_ofN (EN_lc rfl sc_u_law_rows_right.nd (EI_r1 (EV_var (pv 3)) T.z_range) (blkOk_by (own := [("k", 6)]) (N := N_u_law_rows_right) (sc := defScope s_u_law_rows_right) (by decide +kernel)) (fun _ _ _ _ _ => (EG_name sc_u_law_rows_right.nd (i := 6) rfl (by first | exact .inl rfl | exact .inr rfl))) (fun _ _ _ _ _ => ETs_nil) (fun _ _ _ _ _ => (EV_cal (ms := [.s 0, .v]) (ok_u_law_next T) hr takes0 (EA_consS (pv 0) (EA_cons EV_int EA_nil))))))) (EA_cons (EV_tupO T.z_tuple (EB_ofN (EN_lc rfl sc_u_law_rows_right.nd (EI_r1 (EV_var (pv 3)) T.z_range) (blkOk_by (own := [("k", 6)]) (N := N_u_law_rows_right) (sc := defScope s_u_law_rows_right) (by decide +kernel)) (fun _ _ _ _ _ => (EG_name sc_u_law_rows_right.nd (i := 6) rfl (by first | exact .inl rfl | exact .inr rfl))) (fun _ _ _ _ _ => ETs_nil) (fun _ _ _ _ _ => (EV_cal (ms := [.s 0, .v]) (ok_u_law_next T) hr takes0 (EA_consS (pv 0) (EA_cons EV_int EA_nil))))))) EA_nil)) (by rfl) (i := 4) (j := 5))
    (ESs_cons (ES_par2 rfl sc_u_law_rows_right.nd rfl rfl (by decide) rfl rfl (EA_cons (EV_cal (ms := [.v, .v]) (ok_check_of T) hr tk (EA_cons (EV_var (pv 4)) (EA_cons (EV_var (pv 1)) EA_nil))) (EA_cons (EV_cal (ms := [.v, .v]) (ok_check_of T) hr tk (EA_cons (EV_var (pv 5)) (EA_cons (EV_var (pv 1)) EA_nil))) EA_nil)) (by rfl) (i := 7) (j := 8))
    (ESs_cons (ES_if (ET_w (EW_or (ET_cm (ck_ne hr) (EV_cal (ms := [.v, .v]) (ok_check_of T) hr tk (EA_cons (EV_cal (ms := [.v, .v]) (ok_u_law_both T) hr tk (EA_cons (EV_var (pv 4)) (EA_cons (EV_var (pv 5)) EA_nil))) (EA_cons (EV_var (pv 1)) EA_nil))) (EV_xor (EV_var (pv 7)) (EV_var (pv 8)))) (EW_or1 (ET_cm (ck_ne hr) (EV_cal (ms := [.v, .v]) (ok_check_of T) hr tk (EA_cons (EV_add (EV_var (pv 4)) (EV_cal (ms := [.v, .v]) (ok_u_law_bits T) hr tk (EA_cons (EV_var (pv 7)) (EA_cons (EV_var (pv 2)) EA_nil)))) (EA_cons (EV_var (pv 1)) EA_nil))) EV_int))))
    (ESs_one (ES_ret EV_bl)) ESs_nil)
    (ESs_cons (ES_if (ET_w (EW_or (ET_cm (ck_ne hr) (EV_cal (ms := [.v, .v, .v, .v]) (ok_joined_check T) hr tk (EA_cons (EV_var (pv 7)) (EA_cons (EV_var (pv 8)) (EA_cons (EV_var (pv 3)) (EA_cons (EV_var (pv 1)) EA_nil))))) (EV_cal (ms := [.v, .v]) (ok_check_of T) hr tk (EA_cons (EV_add (EV_var (pv 4)) (EV_var (pv 5))) (EA_cons (EV_var (pv 1)) EA_nil)))) (EW_or1 (ET_cm (ck_ne hr) (EV_cal (ms := [.v, .v]) (ok_check_of T) hr tk (EA_cons (EV_add (EV_mul (EV_tup (n := 1) (EA_cons EV_int EA_nil)) (EV_cal (ms := [.s 0, .v]) (ok_u_law_next T) hr tk (EA_consS (pv 0) (EA_cons EV_int EA_nil)))) (EV_var (pv 4))) (EA_cons (EV_var (pv 1)) EA_nil))) (EV_var (pv 7))))))
    (ESs_one (ES_ret EV_bl)) ESs_nil)
    (ESs_cons (ES_set (i := 9) sc_u_law_rows_right.nd rfl (.inl rfl) (EV_cal (ms := [.s 0, .v]) (ok_u_law_next T) hr tk (EA_consS (pv 0) (EA_cons (EV_var (pv 3)) EA_nil))))
    (ESs_cons (ES_set (i := 10) sc_u_law_rows_right.nd rfl (.inl rfl) (EV_add (EV_add (EV_sl (EV_var (pv 4)) EO_none (EO_some (EV_var (pv 9)))) (EV_tup (n := 1) (EA_cons (EV_sub EV_int (EV_ix hr (EV_var (pv 4)) (EV_var (pv 9)))) EA_nil))) (EV_sl (EV_var (pv 4)) (EO_some (EV_add (EV_var (pv 9)) EV_int)) EO_none)))
    (ESs_cons (ES_if (ET_w (EW_or (ET_cm (ck_ne hr) (EV_cal (ms := [.v, .v]) (ok_check_of T) hr tk (EA_cons (EV_var (pv 10)) (EA_cons (EV_var (pv 1)) EA_nil))) (EV_xor (EV_var (pv 7)) (EV_cal (ms := [.v, .v]) (ok_power_of T) hr tk (EA_cons (EV_var (pv 1)) (EA_cons (EV_sub (EV_sub (EV_add (EV_var (pv 2)) (EV_var (pv 3))) EV_int) (EV_var (pv 9))) EA_nil))))) (EW_or1 (ET_cm (ck_eq hr) (EV_cal (ms := [.v, .v]) (ok_check_of T) hr tk (EA_cons (EV_var (pv 10)) (EA_cons (EV_var (pv 1)) EA_nil))) (EV_var (pv 7))))))
    (ESs_one (ES_ret EV_bl)) ESs_nil)
    (ESs_one (ES_ret (EV_cmp (ck_eq hr) (EV_cal (ms := [.v, .v, .v]) (ok_shift_of T) hr tk (EA_cons (EV_var (pv 1)) (EA_cons (EV_var (pv 7)) (EA_cons (EV_var (pv 3)) EA_nil)))) (EV_cal (ms := [.v, .v]) (ok_check_of T) hr tk (EA_cons (EV_add (EV_var (pv 4)) (EV_mul (EV_tup (n := 1) (EA_cons EV_int EA_nil)) (EV_var (pv 3)))) (EA_cons (EV_var (pv 1)) EA_nil))))))))))))))

theorem ok_law (T : Tx K mg) : Okd P w K mg base 7 "law" ["script"] (ownM [.v]) (lk []) false T.xr 1 F_law := by
  obtain ⟨f, fd, F, hm, hb⟩ := T.d_law
  refine ⟨f, fd, hm, F.kp, hb, fn_F (N := N_law) (ow := lk [1]) F sc_law rfl rfl rfl rfl fun cdv A outer s H E fp hr => ?_⟩
  have tk : Takes (xOf P w K mg base N_law "law" s_law f cdv A outer s H E) (fun cl d _ H => E cl d H) := takes_of rfl rfl rfl rfl
  have hp : PassesOwn (model P w) (xOf P w K mg base N_law "law" s_law f cdv A outer s H E).A (xOf P w K mg base N_law "law" s_law f cdv A outer s H E).env (xOf P w K mg base N_law "law" s_law f cdv A outer s H E).xe := passes_of rfl
  exact (ESs_cons (ES_setN (i := 1) sc_law.nd rfl (.inl rfl) (EN_disp (EPs_cons EV_str (EV_cal (ms := [.v, .v]) (ok_u_law_draws T) hr tk (EA_cons (EV_var (pv 0)) (EA_cons EV_int EA_nil))) (EPs_cons EV_str EV_int EPs_nil))))
    (ESs_cons (ES_set (i := 2) sc_law.nd rfl (.inl rfl) (EV_cal0 (ok_u_law_signs T) hr tk))
    (ESs_cons (ES_for hp rfl (EI_r1 EV_int T.z_range) (EG_name sc_law.nd (i := 3) rfl (by first | exact .inl rfl | exact .inr rfl))
    (ESs_cons (ES_asg (EV_cal (ms := [.s 1, .v]) (ok_u_law_pick T) hr tk (EA_consS (pv 1) (EA_cons (EV_cal0 (ok_u_law_plain T) hr tk) EA_nil))) (EG_tup rfl (EGs_cons (EG_name sc_law.nd (i := 4) rfl (by first | exact .inl rfl | exact .inr rfl)) (EGs_cons (EG_name sc_law.nd (i := 5) rfl (by first | exact .inl rfl | exact .inr rfl)) (EGs_cons (EG_name sc_law.nd (i := 6) rfl (by first | exact .inl rfl | exact .inr rfl)) EGs_nil))) (hl := (gMore_len (gMore_len (gMore_len gEnd_len))))))
    (ESs_cons (ES_set (i := 7) sc_law.nd rfl (.inl rfl) (EV_tup (n := 2) (EA_cons (EV_var (pv 4)) (EA_cons (EV_var (pv 5)) EA_nil))))
    (ESs_cons (ES_if (ET_w (EW_or (ET_cm ck_isNotB (EV_cal (ms := [.v]) (ok_is_rule T) hr tk (EA_cons (EV_var (pv 7)) EA_nil)) EV_bl) (EW_or (ET_cm (ck_ne hr) (EV_cal (ms := [.v, .v]) (ok_check_of_numbers T) hr tk (EA_cons (EV_tupR rfl T.z_tuple (ER_2 T.z_range EV_int EV_int)) (EA_cons (EV_var (pv 7)) EA_nil))) (EV_var (pv 6))) (EW_or (ET_cm (ck_ne hr) (EV_cal (ms := [.v, .v]) (ok_check_of T) hr tk (EA_cons (EV_var (pv 2)) (EA_cons (EV_var (pv 7)) EA_nil))) (EV_var (pv 6))) (EW_or1 (ET_not (ET_val (EV_cal (ms := [.s 1, .v]) (ok_u_law_rows_right T) hr tk (EA_consS (pv 1) (EA_cons (EV_var (pv 7)) EA_nil))))))))))
    (ESs_one (ES_ret EV_bl)) ESs_nil)
    (ESs_cons (ES_asg (EV_cal (ms := [.s 1, .v]) (ok_u_law_pick T) hr tk (EA_consS (pv 1) (EA_cons (EV_cal0 (ok_u_law_begun T) hr tk) EA_nil))) (EG_tup rfl (EGs_cons (EG_name sc_law.nd (i := 4) rfl (by first | exact .inl rfl | exact .inr rfl)) (EGs_cons (EG_name sc_law.nd (i := 5) rfl (by first | exact .inl rfl | exact .inr rfl)) (EGs_cons (EG_name sc_law.nd (i := 8) rfl (by first | exact .inl rfl | exact .inr rfl)) (EGs_cons (EG_name sc_law.nd (i := 6) rfl (by first | exact .inl rfl | exact .inr rfl)) EGs_nil)))) (hl := (gMore_len (gMore_len (gMore_len (gMore_len gEnd_len)))))))
    (ESs_cons (ES_set (i := 7) sc_law.nd rfl (.inl rfl) (EV_tup (n := 2) (EA_cons (EV_var (pv 4)) (EA_cons (EV_var (pv 5)) EA_nil))))
    (ESs_cons (ES_set (i := 9) sc_law.nd rfl (.inl rfl) (EV_add (EV_cal (ms := [.v, .v]) (ok_u_law_both T) hr tk (EA_cons (EV_sl (EV_var (pv 2)) EO_none (EO_some (EV_var (pv 4)))) (EA_cons (EV_cal (ms := [.v, .v]) (ok_u_law_bits T) hr tk (EA_cons (EV_var (pv 8)) (EA_cons (EV_var (pv 4)) EA_nil))) EA_nil))) (EV_sl (EV_var (pv 2)) (EO_some (EV_var (pv 4))) EO_none)))
    (ESs_cons (ES_if (ET_w (EW_or (ET_cm (ck_ne hr) (EV_cal (ms := [.v, .v]) (ok_check_of T) hr tk (EA_cons (EV_var (pv 9)) (EA_cons (EV_var (pv 7)) EA_nil))) (EV_var (pv 6))) (EW_or (ET_cm (ck_ne hr) (EV_cal (ms := [.v, .v]) (ok_check_of T) hr tk (EA_cons (EV_var (pv 2)) (EA_cons (EV_var (pv 7)) EA_nil))) (EV_xor (EV_var (pv 6)) (EV_cal (ms := [.v, .v, .v]) (ok_shift_of T) hr tk (EA_cons (EV_var (pv 7)) (EA_cons (EV_var (pv 8)) (EA_cons EV_int EA_nil)))))) (EW_or1 (ET_not (ET_val (EV_cal (ms := [.s 1, .v]) (ok_u_law_rows_right T) hr tk (EA_consS (pv 1) (EA_cons (EV_var (pv 7)) EA_nil)))))))))
    (ESs_one (ES_ret EV_bl)) ESs_nil)
    (ESs_one (ES_if (ET_cm (ck_ne hr) (EV_cal (ms := [.v, .v]) (ok_check_of T) hr tk (EA_cons (EV_add (EV_var (pv 2)) (EV_cal (ms := [.v, .v]) (ok_u_law_bits T) hr tk (EA_cons (EV_cal (ms := [.v, .v]) (ok_check_of T) hr tk (EA_cons (EV_var (pv 2)) (EA_cons (EV_var (pv 7)) EA_nil))) (EA_cons (EV_var (pv 4)) EA_nil)))) (EA_cons (EV_var (pv 7)) EA_nil))) EV_int)
    (ESs_one (ES_ret EV_bl)) ESs_nil))))))))))
    (ESs_one (ES_ret EV_bl)))))
theorem fn_law (T : Tx K mg) {f : Addr} {fd : FuncData} (F : Fun K "law" "law" s_law f fd) : FnOk P w K mg base (L2.CX P w) 7 f fd ["script"] (spF K (ownM [.v]) (lk []) false T.xr 1 F_law) := by
  refine fn_F (N := N_law) (ow := lk [1]) F sc_law rfl rfl rfl rfl fun cdv A outer s H E fp hr => ?_
  have tk : Takes (xOf P w K mg base N_law "law" s_law f cdv A outer s H E) (fun cl d _ H => E cl d H) := takes_of rfl rfl rfl rfl
  have hp : PassesOwn (model P w) (xOf P w K mg base N_law "law" s_law f cdv A outer s H E).A (xOf P w K mg base N_law "law" s_law f cdv A outer s H E).env (xOf P w K mg base N_law "law" s_law f cdv A outer s H E).xe := passes_of rfl
  exact (ESs_cons (ES_setN (i := 1) sc_law.nd rfl (.inl rfl) (EN_disp (EPs_cons EV_str (EV_cal (ms := [.v, .v]) (ok_u_law_draws T) hr tk (EA_cons (EV_var (pv 0)) (EA_cons EV_int EA_nil))) (EPs_cons EV_str EV_int EPs_nil))))
    (ESs_cons (ES_set (i := 2) sc_law.nd rfl (.inl rfl) (EV_cal0 (ok_u_law_signs T) hr tk))
    (ESs_cons (ES_for hp rfl (EI_r1 EV_int T.z_range) (EG_name sc_law.nd (i := 3) rfl (by first | exact .inl rfl | exact .inr rfl))
    (ESs_cons (ES_asg (EV_cal (ms := [.s 1, .v]) (ok_u_law_pick T) hr tk (EA_consS (pv 1) (EA_cons (EV_cal0 (ok_u_law_plain T) hr tk) EA_nil))) (EG_tup rfl (EGs_cons (EG_name sc_law.nd (i := 4) rfl (by first | exact .inl rfl | exact .inr rfl)) (EGs_cons (EG_name sc_law.nd (i := 5) rfl (by first | exact .inl rfl | exact .inr rfl)) (EGs_cons (EG_name sc_law.nd (i := 6) rfl (by first | exact .inl rfl | exact .inr rfl)) EGs_nil))) (hl := (gMore_len (gMore_len (gMore_len gEnd_len))))))
    (ESs_cons (ES_set (i := 7) sc_law.nd rfl (.inl rfl) (EV_tup (n := 2) (EA_cons (EV_var (pv 4)) (EA_cons (EV_var (pv 5)) EA_nil))))
    (ESs_cons (ES_if (ET_w (EW_or (ET_cm ck_isNotB (EV_cal (ms := [.v]) (ok_is_rule T) hr tk (EA_cons (EV_var (pv 7)) EA_nil)) EV_bl) (EW_or (ET_cm (ck_ne hr) (EV_cal (ms := [.v, .v]) (ok_check_of_numbers T) hr tk (EA_cons (EV_tupR rfl T.z_tuple (ER_2 T.z_range EV_int EV_int)) (EA_cons (EV_var (pv 7)) EA_nil))) (EV_var (pv 6))) (EW_or (ET_cm (ck_ne hr) (EV_cal (ms := [.v, .v]) (ok_check_of T) hr tk (EA_cons (EV_var (pv 2)) (EA_cons (EV_var (pv 7)) EA_nil))) (EV_var (pv 6))) (EW_or1 (ET_not (ET_val (EV_cal (ms := [.s 1, .v]) (ok_u_law_rows_right T) hr tk (EA_consS (pv 1) (EA_cons (EV_var (pv 7)) EA_nil))))))))))
    (ESs_one (ES_ret EV_bl)) ESs_nil)
    (ESs_cons (ES_asg (EV_cal (ms := [.s 1, .v]) (ok_u_law_pick T) hr tk (EA_consS (pv 1) (EA_cons (EV_cal0 (ok_u_law_begun T) hr tk) EA_nil))) (EG_tup rfl (EGs_cons (EG_name sc_law.nd (i := 4) rfl (by first | exact .inl rfl | exact .inr rfl)) (EGs_cons (EG_name sc_law.nd (i := 5) rfl (by first | exact .inl rfl | exact .inr rfl)) (EGs_cons (EG_name sc_law.nd (i := 8) rfl (by first | exact .inl rfl | exact .inr rfl)) (EGs_cons (EG_name sc_law.nd (i := 6) rfl (by first | exact .inl rfl | exact .inr rfl)) EGs_nil)))) (hl := (gMore_len (gMore_len (gMore_len (gMore_len gEnd_len)))))))
    (ESs_cons (ES_set (i := 7) sc_law.nd rfl (.inl rfl) (EV_tup (n := 2) (EA_cons (EV_var (pv 4)) (EA_cons (EV_var (pv 5)) EA_nil))))
    (ESs_cons (ES_set (i := 9) sc_law.nd rfl (.inl rfl) (EV_add (EV_cal (ms := [.v, .v]) (ok_u_law_both T) hr tk (EA_cons (EV_sl (EV_var (pv 2)) EO_none (EO_some (EV_var (pv 4)))) (EA_cons (EV_cal (ms := [.v, .v]) (ok_u_law_bits T) hr tk (EA_cons (EV_var (pv 8)) (EA_cons (EV_var (pv 4)) EA_nil))) EA_nil))) (EV_sl (EV_var (pv 2)) (EO_some (EV_var (pv 4))) EO_none)))
    (ESs_cons (ES_if (ET_w (EW_or (ET_cm (ck_ne hr) (EV_cal (ms := [.v, .v]) (ok_check_of T) hr tk (EA_cons (EV_var (pv 9)) (EA_cons (EV_var (pv 7)) EA_nil))) (EV_var (pv 6))) (EW_or (ET_cm (ck_ne hr) (EV_cal (ms := [.v, .v]) (ok_check_of T) hr tk (EA_cons (EV_var (pv 2)) (EA_cons (EV_var (pv 7)) EA_nil))) (EV_xor (EV_var (pv 6)) (EV_cal (ms := [.v, .v, .v]) (ok_shift_of T) hr tk (EA_cons (EV_var (pv 7)) (EA_cons (EV_var (pv 8)) (EA_cons EV_int EA_nil)))))) (EW_or1 (ET_not (ET_val (EV_cal (ms := [.s 1, .v]) (ok_u_law_rows_right T) hr tk (EA_consS (pv 1) (EA_cons (EV_var (pv 7)) EA_nil)))))))))
    (ESs_one (ES_ret EV_bl)) ESs_nil)
    (ESs_one (ES_if (ET_cm (ck_ne hr) (EV_cal (ms := [.v, .v]) (ok_check_of T) hr tk (EA_cons (EV_add (EV_var (pv 2)) (EV_cal (ms := [.v, .v]) (ok_u_law_bits T) hr tk (EA_cons (EV_cal (ms := [.v, .v]) (ok_check_of T) hr tk (EA_cons (EV_var (pv 2)) (EA_cons (EV_var (pv 7)) EA_nil))) (EA_cons (EV_var (pv 4)) EA_nil)))) (EA_cons (EV_var (pv 7)) EA_nil))) EV_int)
    (ESs_one (ES_ret EV_bl)) ESs_nil))))))))))
    (ESs_one (ES_ret EV_bl)))))

end
end K70

/-! plain: registers of checks -/
namespace K70
def dbl (w t x : Nat) : Nat := ((2 * x) % 2 ^ w) ^^^ (if x.testBit (w - 1) then t else 0)
def stp (w t s : Nat) (b : Bool) : Nat := dbl w t (s ^^^ if b then 2 ^ (w - 1) else 0)
def fld (w t s : Nat) (bs : List Bool) : Nat := bs.foldl (stp w t) s
def dn (w t : Nat) : Nat → Nat → Nat
  | 0, a => a
  | n + 1, a => dbl w t (dn w t n a)
def hor (w t a f : Nat) (bs : List Bool) : Nat := bs.foldl (fun f c => dbl w t f ^^^ if c then a else 0) f
def bm : Nat → Nat → List Bool
  | 0, _ => []
  | k + 1, b => b.testBit k :: bm k b
def mul (w t a b : Nat) : Nat := hor w t a 0 (bm w b)
def xp (w t n : Nat) : Nat := dn w t n 1
theorem xtop {m u : Nat} (h : u < 2 ^ m) : u ^^^ 2 ^ m = u + 2 ^ m := by
  have h1 := Nat.two_pow_add_eq_or_of_lt h 1
  rw [Nat.mul_one] at h1
  rw [Nat.add_comm, h1]
  apply Nat.eq_of_testBit_eq
  intro i
  rw [Nat.testBit_xor, Nat.testBit_or, Nat.testBit_two_pow]
  by_cases e : m = i
  · subst e
    have : u.testBit m = false := Nat.testBit_lt_two_pow h
    simp [this]
  · simp [e]
theorem mod_succ (x k : Nat) : x % 2 ^ (k + 1) = x % 2 ^ k + 2 ^ k * (x.testBit k).toNat := by rw [Nat.mod_pow_succ, Nat.toNat_testBit]
section
variable {w t : Nat} (W : 0 < w) (T : t < 2 ^ w)
include W T
theorem dbl_lt (x : Nat) : dbl w t x < 2 ^ w := by
  unfold dbl
  apply Nat.xor_lt_two_pow (Nat.mod_lt _ (Nat.two_pow_pos w))
  split
  · exact T
  · exact Nat.two_pow_pos w
omit W T in
theorem dbl_zero : dbl w t 0 = 0 := by simp [dbl]
omit W T in
theorem dbl_xor (x y : Nat) : dbl w t (x ^^^ y) = dbl w t x ^^^ dbl w t y := by
  have e : (2 * (x ^^^ y)) % 2 ^ w = ((2 * x) % 2 ^ w) ^^^ ((2 * y) % 2 ^ w) := by
    apply Nat.eq_of_testBit_eq
    intro i
    rw [Nat.testBit_xor, Nat.testBit_mod_two_pow, Nat.testBit_mod_two_pow, Nat.testBit_mod_two_pow]
    have e2 : ∀ z : Nat, 2 * z = 2 ^ 1 * z := fun z => by omega
    rw [e2, e2 x, e2 y, Nat.testBit_two_pow_mul, Nat.testBit_two_pow_mul, Nat.testBit_two_pow_mul, Nat.testBit_xor]
    cases decide (i < w) <;> cases decide (i ≥ 1) <;> simp
  unfold dbl
  rw [e, Nat.testBit_xor]
  cases x.testBit (w - 1) <;> cases y.testBit (w - 1) <;> simp <;> (apply Nat.eq_of_testBit_eq; intro i; simp only [Nat.testBit_xor]; cases ((2 * x) % 2 ^ w).testBit i <;> cases ((2 * y) % 2 ^ w).testBit i <;> cases t.testBit i <;> rfl)
omit T in
theorem dbl_small {x : Nat} (h : x < 2 ^ (w - 1)) : dbl w t x = 2 * x := by
  have e : 2 ^ w = 2 * 2 ^ (w - 1) := by
    obtain ⟨k, rfl⟩ : ∃ k, w = k + 1 := ⟨w - 1, by omega⟩
    rw [Nat.pow_succ]; simp; omega
  unfold dbl
  rw [Nat.testBit_lt_two_pow h, Nat.mod_eq_of_lt (by omega)]
  simp
omit T in
theorem dbl_top : dbl w t (2 ^ (w - 1)) = t := by
  have e : 2 ^ w = 2 * 2 ^ (w - 1) := by
    obtain ⟨k, rfl⟩ : ∃ k, w = k + 1 := ⟨w - 1, by omega⟩
    rw [Nat.pow_succ]; simp; omega
  unfold dbl
  rw [← e, Nat.mod_self, Nat.testBit_two_pow_self]
  simp
omit T in
theorem dbl_ne {x : Nat} (ht : t % 2 = 1) (hx : x < 2 ^ w) (h : dbl w t x = 0) : x = 0 := by
  have e : 2 ^ w = 2 * 2 ^ (w - 1) := by
    obtain ⟨k, rfl⟩ : ∃ k, w = k + 1 := ⟨w - 1, by omega⟩
    rw [Nat.pow_succ]; simp; omega
  by_cases hb : x < 2 ^ (w - 1)
  · rw [dbl_small W hb] at h; omega
  · exfalso
    have tb : x.testBit (w - 1) = true := by
      rw [Nat.testBit_eq_decide_div_mod_eq]
      have : x / 2 ^ (w - 1) = 1 := by
        apply Nat.div_eq_of_lt_le <;> omega
      rw [this]; rfl
    have z : (dbl w t x).testBit 0 = true := by
      unfold dbl
      rw [tb, Nat.testBit_xor, Nat.testBit_mod_two_pow]
      simp [Nat.testBit_zero, ht]
    rw [h] at z
    simp at z
omit W T in
theorem stp_xor (s s' : Nat) (b b' : Bool) : stp w t (s ^^^ s') (b ^^ b') = stp w t s b ^^^ stp w t s' b' := by
  unfold stp
  rw [← dbl_xor]
  congr 1
  cases b <;> cases b' <;> simp <;> (apply Nat.eq_of_testBit_eq; intro i; simp only [Nat.testBit_xor]; cases s.testBit i <;> cases s'.testBit i <;> cases (2 ^ (w - 1)).testBit i <;> rfl)
omit W T in
theorem fld_xor : ∀ (bs bs' : List Bool) (s s' : Nat), bs.length = bs'.length → fld w t (s ^^^ s') (List.zipWith (· ^^ ·) bs bs') = fld w t s bs ^^^ fld w t s' bs'
  | [], [], _, _, _ => rfl
  | b :: bs, b' :: bs', s, s', h => by
    show fld w t (stp w t (s ^^^ s') (b ^^ b')) (List.zipWith (· ^^ ·) bs bs') = fld w t (stp w t s b) bs ^^^ fld w t (stp w t s' b') bs'
    rw [stp_xor]
    exact fld_xor bs bs' _ _ (by simpa using h)
omit W T in
theorem fld_app (s : Nat) (a b : List Bool) : fld w t s (a ++ b) = fld w t (fld w t s a) b := by unfold fld; rw [List.foldl_append]
omit W T in
theorem dn_succ (a : Nat) : ∀ n, dn w t (n + 1) a = dn w t n (dbl w t a)
  | 0 => rfl
  | n + 1 => by
    show dbl w t (dn w t (n + 1) a) = dbl w t (dn w t n (dbl w t a))
    rw [dn_succ a n]
omit W T in
theorem dn_add (a : Nat) (m : Nat) : ∀ n, dn w t (m + n) a = dn w t n (dn w t m a)
  | 0 => rfl
  | n + 1 => by
    show dbl w t (dn w t (m + n) a) = dbl w t (dn w t n (dn w t m a))
    rw [dn_add a m n]
omit W T in
theorem dn_xor (a b : Nat) : ∀ n, dn w t n (a ^^^ b) = dn w t n a ^^^ dn w t n b
  | 0 => rfl
  | n + 1 => by unfold dn; rw [dn_xor a b n, dbl_xor]
omit W T in
theorem dn_zero : ∀ n, dn w t n 0 = 0
  | 0 => rfl
  | n + 1 => by unfold dn; rw [dn_zero n, dbl_zero]
theorem dn_lt {a : Nat} (h : a < 2 ^ w) : ∀ n, dn w t n a < 2 ^ w
  | 0 => h
  | n + 1 => dbl_lt W T _
theorem dn_ne {a : Nat} (ht : t % 2 = 1) (ha : a < 2 ^ w) (h0 : a ≠ 0) : ∀ n, dn w t n a ≠ 0
  | 0 => h0
  | n + 1 => fun z => dn_ne ht ha h0 n (dbl_ne W ht (dn_lt W T ha n) z)
omit W T in
theorem fld_rep (s : Nat) : ∀ n, fld w t s (List.replicate n false) = dn w t n s
  | 0 => rfl
  | n + 1 => by
    rw [List.replicate_succ, dn_succ]
    show fld w t (stp w t s false) _ = _
    have : stp w t s false = dbl w t s := by simp [stp]
    rw [this]; exact fld_rep _ n
omit T W in
theorem zw_false : ∀ (b : List Bool), List.zipWith (· ^^ ·) (List.replicate b.length false) b = b
  | [] => rfl
  | b :: bs => by
    rw [List.length_cons, List.replicate_succ, List.zipWith_cons_cons, zw_false bs, Bool.false_xor]
omit W T in
theorem fld_from (s : Nat) (b : List Bool) : fld w t s b = dn w t b.length s ^^^ fld w t 0 b := by
  have h := fld_xor (w := w) (t := t) (List.replicate b.length false) b s 0 (by simp)
  rw [zw_false, fld_rep, Nat.xor_zero] at h
  exact h
/-- joined -/
theorem fld_join (a b : List Bool) : fld w t 0 (a ++ b) = dn w t b.length (fld w t 0 a) ^^^ fld w t 0 b := by rw [fld_app, fld_from]
omit W T in
theorem fld_lead (n : Nat) (b : List Bool) : fld w t 0 (List.replicate n false ++ b) = fld w t 0 b := by rw [fld_app, fld_rep, dn_zero]
theorem fld_lt : ∀ (bs : List Bool) {s : Nat}, s < 2 ^ w → fld w t s bs < 2 ^ w
  | [], _, h => h
  | b :: bs, s, h => fld_lt bs (s := stp w t s b) (dbl_lt W T _)
omit T in
theorem fld_self (c : Nat) : ∀ k, k ≤ w → fld w t ((c % 2 ^ k) * 2 ^ (w - k)) (bm k c) = 0
  | 0, _ => by simp [Nat.mod_one]; rfl
  | k + 1, h => by
    show fld w t (stp w t ((c % 2 ^ (k + 1)) * 2 ^ (w - (k + 1))) (c.testBit k)) (bm k c) = 0
    have p1 : 2 ^ (w - k) = 2 * 2 ^ (w - (k + 1)) := by
      rw [show w - k = (w - (k + 1)) + 1 by omega, Nat.pow_succ]; omega
    have p2 : 2 ^ (w - 1) = 2 ^ k * 2 ^ (w - (k + 1)) := by rw [← Nat.pow_add]; congr 1; omega
    have hu : (c % 2 ^ k) * 2 ^ (w - (k + 1)) < 2 ^ (w - 1) := by
      rw [p2]; exact Nat.mul_lt_mul_of_pos_right (Nat.mod_lt _ (Nat.two_pow_pos k)) (Nat.two_pow_pos _)
    have e : stp w t ((c % 2 ^ (k + 1)) * 2 ^ (w - (k + 1))) (c.testBit k) = (c % 2 ^ k) * 2 ^ (w - k) := by
      unfold stp
      rw [mod_succ]
      have e2 : (c % 2 ^ k + 2 ^ k * (c.testBit k).toNat) * 2 ^ (w - (k + 1)) ^^^ (if c.testBit k = true then 2 ^ (w - 1) else 0) = (c % 2 ^ k) * 2 ^ (w - (k + 1)) := by
        cases c.testBit k
        · simp
        · simp only [Bool.toNat_true, Nat.mul_one, if_true, Nat.add_mul]
          rw [← p2, ← xtop hu, Nat.xor_assoc, Nat.xor_self, Nat.xor_zero]
      rw [e2, dbl_small W hu, p1, Nat.mul_left_comm]
    rw [e]
    exact fld_self c k (by omega)
/-- behind its own -/
theorem fld_own (a : List Bool) : fld w t 0 (a ++ bm w (fld w t 0 a)) = 0 := by
  rw [fld_app]
  have h := fld_self (t := t) W (fld w t 0 a) w (Nat.le_refl _)
  rw [Nat.sub_self, Nat.pow_zero, Nat.mul_one, Nat.mod_eq_of_lt (fld_lt W T a (Nat.two_pow_pos w))] at h
  exact h
omit W T in
theorem hor_xor (a a' : Nat) : ∀ (l : List Bool) (f f' : Nat), hor w t (a ^^^ a') (f ^^^ f') l = hor w t a f l ^^^ hor w t a' f' l
  | [], _, _ => rfl
  | c :: l, f, f' => by
    show hor w t (a ^^^ a') (dbl w t (f ^^^ f') ^^^ if c then a ^^^ a' else 0) l = hor w t a (dbl w t f ^^^ if c then a else 0) l ^^^ hor w t a' (dbl w t f' ^^^ if c then a' else 0) l
    rw [← hor_xor, dbl_xor]
    congr 1
    cases c
    · simp
    · simp only [if_true]
      apply Nat.eq_of_testBit_eq; intro i; simp only [Nat.testBit_xor]
      cases (dbl w t f).testBit i <;> cases (dbl w t f').testBit i <;> cases a.testBit i <;> cases a'.testBit i <;> rfl
omit W T in
theorem hor_dbl (a : Nat) : ∀ (l : List Bool) (f : Nat), hor w t (dbl w t a) (dbl w t f) l = dbl w t (hor w t a f l)
  | [], _ => rfl
  | c :: l, f => by
    show hor w t (dbl w t a) (dbl w t (dbl w t f) ^^^ if c then dbl w t a else 0) l = dbl w t (hor w t a (dbl w t f ^^^ if c then a else 0) l)
    rw [← hor_dbl, dbl_xor]
    congr 2
    cases c <;> simp [dbl_zero]
omit T in
theorem hor_one (b : Nat) : ∀ (k f : Nat), k ≤ w → f < 2 ^ (w - k) → hor w t 1 f (bm k b) = f * 2 ^ k + b % 2 ^ k
  | 0, f, _, _ => by simp [Nat.mod_one]; rfl
  | k + 1, f, h, hf => by
    show hor w t 1 (dbl w t f ^^^ if b.testBit k then 1 else 0) (bm k b) = _
    have p1 : 2 ^ (w - k) = 2 * 2 ^ (w - (k + 1)) := by
      rw [show w - k = (w - (k + 1)) + 1 by omega, Nat.pow_succ]; omega
    have hf2 : f < 2 ^ (w - 1) := Nat.lt_of_lt_of_le hf (Nat.pow_le_pow_right (by omega) (by omega))
    have e : (dbl w t f ^^^ if b.testBit k then 1 else 0) = 2 * f + (b.testBit k).toNat := by
      rw [dbl_small W hf2]
      cases b.testBit k
      · simp
      · simp only [if_true, Bool.toNat_true]
        apply Nat.eq_of_testBit_eq; intro i
        rw [Nat.testBit_xor]
        cases i with
        | zero => simp [Nat.testBit_zero]
        | succ i => rw [Nat.testBit_succ, Nat.testBit_succ, Nat.testBit_succ, show 2 * f / 2 = f by omega, show 1 / 2 = 0 by rfl, show (2 * f + 1) / 2 = f by omega]; simp
    rw [e, hor_one b k _ (by omega) (by cases b.testBit k <;> simp <;> omega), mod_succ, Nat.pow_succ, Nat.add_mul]
    have : 2 * f * 2 ^ k = f * (2 ^ k * 2) := by rw [Nat.mul_comm 2 f, Nat.mul_assoc, Nat.mul_comm 2]
    rw [this, Nat.mul_comm (b.testBit k).toNat]; omega
theorem mul_one {b : Nat} (h : b < 2 ^ w) : mul w t 1 b = b := by
  unfold mul
  rw [hor_one W b w 0 (Nat.le_refl _) (by simp), Nat.mod_eq_of_lt h]; simp
theorem mul_xp {b : Nat} (h : b < 2 ^ w) : ∀ m, mul w t (xp w t m) b = dn w t m b
  | 0 => mul_one W T h
  | m + 1 => by
    show hor w t (dbl w t (dn w t m 1)) 0 (bm w b) = dbl w t (dn w t m b)
    have e := hor_dbl (w := w) (t := t) (dn w t m 1) (bm w b) 0
    rw [dbl_zero] at e
    rw [e, ← mul_xp h m]; rfl
omit W T in
theorem xp_add (m n : Nat) : xp w t (m + n) = dn w t n (xp w t m) := dn_add 1 m n
theorem xp_lt (h1 : 1 < 2 ^ w) (m : Nat) : xp w t m < 2 ^ w := dn_lt W T h1 m
omit T in
theorem xp_small : ∀ j, j < w → xp w t j = 2 ^ j
  | 0, _ => rfl
  | j + 1, h => by
    show dbl w t (xp w t j) = _
    rw [xp_small j (by omega), dbl_small W (Nat.pow_lt_pow_right (by omega) (by omega)), Nat.pow_succ]; omega
theorem mul_sh (n : Nat) : ∀ k, k ≤ w → ∀ a, a < 2 ^ k → mul w t a (xp w t n) = dn w t n a
  | 0, _, a, h => by
    have : a = 0 := by simpa using h
    subst this
    rw [dn_zero]
    have : ∀ l : List Bool, hor w t 0 0 l = 0 := fun l => by
      induction l with
      | nil => rfl
      | cons c l ih =>
        show hor w t 0 (dbl w t 0 ^^^ if c then 0 else 0) l = 0
        rw [dbl_zero]; simpa using ih
    exact this _
  | k + 1, h, a, ha => by
    have one : 1 < 2 ^ w := Nat.one_lt_two_pow (by omega)
    have low : a % 2 ^ k < 2 ^ k := Nat.mod_lt _ (Nat.two_pow_pos k)
    have ih := mul_sh n k (by omega) (a % 2 ^ k) low
    have e : a = a % 2 ^ k + 2 ^ k * (a.testBit k).toNat := by rw [← mod_succ, Nat.mod_eq_of_lt ha]
    cases hb : a.testBit k
    · rw [hb] at e; simp at e; rw [e]; exact ih
    · rw [hb] at e
      simp only [Bool.toNat_true, Nat.mul_one] at e
      rw [← xtop low] at e
      have top : mul w t (2 ^ k) (xp w t n) = dn w t n (2 ^ k) := by
        rw [← xp_small (t := t) W k (by omega), mul_xp W T (xp_lt W T one n), ← xp_add, ← xp_add, Nat.add_comm]
      rw [e, dn_xor, ← ih, ← top]
      have q := hor_xor (w := w) (t := t) (a % 2 ^ k) (2 ^ k) (bm w (xp w t n)) 0 0
      rw [Nat.xor_zero] at q
      exact q
theorem mul_xpn (n : Nat) {a : Nat} (h : a < 2 ^ w) : mul w t a (xp w t n) = dn w t n a := mul_sh W T n w (Nat.le_refl _) a h
theorem mul_xx (h1 : 1 < 2 ^ w) (m n : Nat) : mul w t (xp w t m) (xp w t n) = xp w t (m + n) := by rw [mul_xp W T (xp_lt W T h1 n), ← xp_add, Nat.add_comm]
omit T in
theorem xp_w : xp w t w = t := by
  obtain ⟨k, rfl⟩ : ∃ k, w = k + 1 := ⟨w - 1, by omega⟩
  show dbl (k + 1) t (xp (k + 1) t k) = t
  rw [xp_small W k (by omega)]
  exact dbl_top W
/-- one bit turned -/
theorem fld_unit (p q : Nat) : fld w t 0 (List.replicate p false ++ (true :: List.replicate q false)) = xp w t (w + q) := by
  rw [fld_lead]
  show fld w t (stp w t 0 true) _ = _
  have e : stp w t 0 true = t := by
    unfold stp
    simp only [if_true, Nat.zero_xor]
    exact dbl_top W
  rw [e, fld_rep, xp_add, xp_w W]
omit W T in
theorem zw_unit : ∀ (p : Nat) (bs : List Bool) (b : Bool) (cs : List Bool), bs.length = p → List.zipWith (· ^^ ·) (bs ++ (b :: cs)) (List.replicate p false ++ (true :: List.replicate cs.length false)) = bs ++ ((!b) :: cs)
  | 0, [], b, cs, _ => by
    have : ∀ cs : List Bool, List.zipWith (· ^^ ·) cs (List.replicate cs.length false) = cs := fun cs => by
      induction cs with
      | nil => rfl
      | cons c cs ih => rw [List.length_cons, List.replicate_succ, List.zipWith_cons_cons, ih, Bool.xor_false]
    simp [this]
  | p + 1, x :: bs, b, cs, h => by
    rw [List.replicate_succ, List.cons_append, List.cons_append, List.zipWith_cons_cons, zw_unit p bs b cs (by simpa using h), Bool.xor_false]; rfl
theorem fld_turn (bs : List Bool) (b : Bool) (cs : List Bool) : fld w t 0 (bs ++ ((!b) :: cs)) = fld w t 0 (bs ++ (b :: cs)) ^^^ xp w t (w + cs.length) := by
  have h := fld_xor (w := w) (t := t) (bs ++ (b :: cs)) (List.replicate bs.length false ++ (true :: List.replicate cs.length false)) 0 0 (by simp)
  rw [zw_unit _ _ _ _ rfl, fld_unit W T, Nat.xor_zero] at h
  exact h
end
end K70

set_option maxHeartbeats 4000000
/-! what the defs hand back -/
namespace K70
open PySem PySem.Spec PyProof.Rows L2 Fl
def rul (w t : Nat) : D := .tup [N w, N t]
def bD (bs : List Bool) : List D := bs.map fun b => N b.toNat
theorem v_doubled {w t x : Nat} (W : 0 < w) (hw : w ≤ 32) (hx : x < 2 ^ w) : F_doubled [rul w t, N x] = .ok (N (dbl w t x)) [none, none] := by
  have e : 2 ^ w = 2 * 2 ^ (w - 1) := by
    obtain ⟨k, rfl⟩ : ∃ k, w = k + 1 := ⟨w - 1, by omega⟩
    rw [Nat.pow_succ]; simp; omega
  have h32 : 2 ^ w ≤ 2 ^ 32 := Nat.pow_le_pow_right (by omega) hw
  have hx64 : x < 2 ^ 64 := by omega
  have s1 : shlD (N x) (N 1) = some (N (x * 2 ^ 1)) := shlN hx64 (by omega)
  have s2 : shlD (N 1) (N w) = some (N (1 * 2 ^ w)) := shlN (by omega) (by omega)
  have hd : dbl w t x = if x * 2 ^ 1 / 2 ^ w = 1 then x * 2 ^ 1 ^^^ 1 * 2 ^ w ^^^ t else x * 2 ^ 1 := by
    have tb : x.testBit (w - 1) = decide (x * 2 ^ 1 / 2 ^ w = 1) := by
      rw [Nat.testBit_eq_decide_div_mod_eq]
      congr 1
      have : x * 2 ^ 1 / 2 ^ w = x / 2 ^ (w - 1) := by rw [e, Nat.pow_one, Nat.mul_comm 2, Nat.mul_div_mul_right _ _ (by omega)]
      rw [this]
      have : x / 2 ^ (w - 1) < 2 := by rw [Nat.div_lt_iff_lt_mul (Nat.two_pow_pos _)]; omega
      apply propext
      constructor <;> (intro h; try rw [Nat.mod_eq_of_lt this] at *; try omega)
      all_goals simp_all
    unfold dbl
    rw [tb]
    by_cases h : x * 2 ^ 1 / 2 ^ w = 1
    · rw [if_pos h, decide_eq_true h, if_pos rfl]
      congr 1
      have hge : 2 ^ w ≤ x * 2 ^ 1 := by
        rcases Nat.lt_or_ge (x * 2 ^ 1) (2 ^ w) with z | z
        · rw [Nat.div_eq_of_lt z] at h; omega
        · exact z
      have hlt : x * 2 ^ 1 - 2 ^ w < 2 ^ w := by omega
      have e3 : x * 2 ^ 1 = (x * 2 ^ 1 - 2 ^ w) ^^^ 2 ^ w := by rw [xtop hlt]; omega
      rw [show 2 * x = x * 2 ^ 1 by omega, Nat.mod_eq_sub_mod hge, Nat.mod_eq_of_lt hlt]
      conv => rhs; rw [e3]
      rw [Nat.one_mul, Nat.xor_assoc, Nat.xor_self, Nat.xor_zero]
    · rw [if_neg h, decide_eq_false h, if_neg (by decide), Nat.xor_zero, Nat.mul_comm 2 x]
      have hlt : x * 2 ^ 1 < 2 ^ w := by
        rcases Nat.lt_or_ge (x * 2 ^ 1) (2 ^ w) with z | z
        · exact z
        · exfalso; apply h
          apply Nat.div_eq_of_lt_le <;> omega
      rw [show x * 2 = x * 2 ^ 1 by omega, Nat.mod_eq_of_lt hlt]
  unfold F_doubled runF S_doubled rul
  simp [gTupD, gMore, gEnd, s1, s2, List.replicate]
  by_cases h : x * 2 ^ 1 / 2 ^ w = 1
  · rw [hd, if_pos h]
    simp at h
    simp [h, s2]
  · rw [hd, if_neg h]
    simp at h
    simp [h]

theorem v_bits (x m : Nat) (hm : m < 2 ^ 20) : F_bits_of [N x, N m] = .ok (.tup (bD (bm m x))) [none, none] := by
  have hl : ((List.range m).map N).length ≤ szL := szL_ok (by simpa using hm)
  have hb : bD (bm m x) = ((List.range m).map N).map fun d => N (x / 2 ^ (m - 1 - nat d) &&& 1) := by
    have : ∀ m, bm m x = (List.range m).map fun k => x.testBit (m - 1 - k) := fun m => by
      induction m with
      | zero => rfl
      | succ m ih =>
        rw [List.range_succ_eq_map, List.map_cons, List.map_map]
        unfold bm
        rw [ih]
        congr 1
        apply List.map_congr_left
        intro k _
        show _ = x.testBit (m + 1 - 1 - (k + 1))
        congr 1; omega
    rw [this]
    unfold bD
    rw [List.map_map, List.map_map]
    apply List.map_congr_left
    intro k _
    rw [Function.comp_apply, Function.comp_apply, nat_N, Nat.toNat_testBit, Nat.and_one_is_mod]
  unfold F_bits_of runF S_bits_of
  simp [List.replicate, rng1N (show m < 2 ^ 62 by omega)]
  rw [lc_k (f := fun d => N (x / 2 ^ (m - 1 - nat d) &&& 1)) hl (by
    intro d hd
    rw [List.mem_map] at hd
    obtain ⟨k, hk, rfl⟩ := hd
    rw [List.mem_range] at hk
    simp [subN (show 1 ≤ m by omega), subN (show k ≤ m - 1 by omega)]), ← hb]
  simp [tupD]
theorem v_lbits (x m : Nat) (hm : m < 2 ^ 20) : F_u_law_bits [N x, N m] = .ok (.tup (bD (bm m x))) [none, none] := v_bits x m hm
theorem chk_go {w t : Nat} (W : 0 < w) (hw : w ≤ 32) (T : t < 2 ^ w) (b : Option D) : ∀ (bs : List Bool) (s : Nat) (x : Option D), s < 2 ^ w → ∃ y, forGo (gNam 4) b1_check_of (bD bs) [b, some (rul w t), some (N s), some (N (w - 1)), x] = .nx [b, some (rul w t), some (N (fld w t s bs)), some (N (w - 1)), y]
  | [], s, x, _ => ⟨x, rfl⟩
  | c :: bs, s, x, hs => by
    have e : 2 ^ w = 2 * 2 ^ (w - 1) := by
      obtain ⟨k, rfl⟩ : ∃ k, w = k + 1 := ⟨w - 1, by omega⟩
      rw [Nat.pow_succ]; simp; omega
    have s2 : shlD (N c.toNat) (N (w - 1)) = some (N (c.toNat * 2 ^ (w - 1))) := shlN (by cases c <;> simp) (by omega)
    have hc : c.toNat * 2 ^ (w - 1) = if c then 2 ^ (w - 1) else 0 := by cases c <;> simp
    have lt : (s ^^^ c.toNat * 2 ^ (w - 1)) < 2 ^ w := Nat.xor_lt_two_pow hs (by rw [hc]; split <;> omega)
    obtain ⟨y, hy⟩ := chk_go W hw T b bs (stp w t s c) (some (N c.toNat)) (dbl_lt W T _)
    refine ⟨y, ?_⟩
    show forGo _ _ (N c.toNat :: bD bs) _ = _
    unfold forGo
    simp [b1_check_of, s2, v_doubled W hw lt]
    rw [hc]
    exact hy
theorem v_check {w t : Nat} (W : 0 < w) (hw : w ≤ 32) (T : t < 2 ^ w) (bs : List Bool) : F_check_of [.tup (bD bs), rul w t] = .ok (N (fld w t 0 bs)) [none, none] := by
  obtain ⟨y, hy⟩ := chk_go W hw T (some (.tup (bD bs))) bs 0 none (Nat.two_pow_pos w)
  have i0 : ixD (rul w t) (N 0) = some (N w) := ixTN rfl
  unfold F_check_of runF S_check_of
  simp [List.replicate, i0, subN (show 1 ≤ w from W), seqD, hy]
theorem prod_go {w t : Nat} (W : 0 < w) (hw : w ≤ 32) (T : t < 2 ^ w) (a b : Nat) (ha : a < 2 ^ w) : ∀ (n f : Nat) (x : Option D), f < 2 ^ w → ∃ y, forGo (gNam 4) b1_product_of ((List.range n).map fun i => N (n - 1 - i)) [some (rul w t), some (N a), some (N b), some (N f), x] = .nx [some (rul w t), some (N a), some (N b), some (N (hor w t a f (bm n b))), y]
  | 0, f, x, _ => ⟨x, rfl⟩
  | n + 1, f, x, hf => by
    obtain ⟨y, hy⟩ := prod_go W hw T a b ha n (dbl w t f ^^^ if b.testBit n then a else 0) (some (N n)) (Nat.xor_lt_two_pow (dbl_lt W T _) (by split <;> first | exact ha | exact Nat.two_pow_pos w))
    refine ⟨y, ?_⟩
    rw [List.range_succ_eq_map, List.map_cons, List.map_map]
    have e : ((fun i => N (n + 1 - 1 - i)) ∘ Nat.succ) = fun i => N (n - 1 - i) := by
      funext i; show N (n + 1 - 1 - (i + 1)) = _; congr 1; omega
    rw [e]
    unfold forGo
    have tb : b.testBit n = decide (b / 2 ^ n % 2 = 1) := Nat.testBit_eq_decide_div_mod_eq
    have hor1 : hor w t a f (bm (n + 1) b) = hor w t a (dbl w t f ^^^ if b.testBit n then a else 0) (bm n b) := rfl
    rw [hor1]
    simp [b1_product_of, v_doubled W hw hf]
    by_cases h : b / 2 ^ n % 2 = 1
    · rw [tb, decide_eq_true h] at hy ⊢
      simp [h] at hy ⊢
      exact hy
    · rw [tb, decide_eq_false h] at hy ⊢
      simp [h] at hy ⊢
      exact hy
theorem v_prod {w t : Nat} (W : 0 < w) (hw : w ≤ 32) (T : t < 2 ^ w) (a b : Nat) (ha : a < 2 ^ w) : F_product_of [rul w t, N a, N b] = .ok (N (mul w t a b)) [none, none, none] := by
  obtain ⟨y, hy⟩ := prod_go W hw T a b ha w 0 none (Nat.two_pow_pos w)
  have i0 : ixD (rul w t) (N 0) = some (N w) := ixTN rfl
  have rg := rng3N (n := w) (by omega) W
  have ng : negD (N 1) = some (.int (-1)) := rfl
  unfold F_product_of runF S_product_of
  simp [List.replicate, i0, subN (show 1 ≤ w from W), rg, ng, hy]; rfl
theorem v_left {w t x : Nat} (hx : x < 2 ^ w) : F_left_of [rul w t, N x] = .ok (N x) [none, none] := by
  have i0 : ixD (rul w t) (N 0) = some (N w) := ixTN rfl
  unfold F_left_of runF S_left_of
  simp [List.replicate, i0, Nat.div_eq_of_lt hx]
end K70

set_option maxHeartbeats 4000000
/-! what the defs hand back -/
namespace K70
open PySem PySem.Spec PyProof.Rows L2 Fl
section
variable {w t : Nat} (W : 2 ≤ w) (hw : w ≤ 32) (T : t < 2 ^ w)
include W hw T
theorem one_lt : 1 < 2 ^ w := Nat.one_lt_two_pow (by omega)
theorem xp_1 : xp w t 1 = 2 := by rw [xp_small (by omega) 1 (by omega)]
theorem pow_go : ∀ (n fuel m e f : Nat), m < 2 ^ n → n < fuel → ∃ y, whGo (tst (op2 gtD (rd 1) (pur (.int 0)))) b1_power_of fuel [some (rul w t), some (N m), some (N (xp w t e)), some (N (xp w t f))] = .nx [some (rul w t), some (N 0), some (N (xp w t (e + m * f))), y]
  | n, 0, m, e, f, _, h => by omega
  | n, fuel + 1, m, e, f, hm, h => by
    have o := one_lt W hw T
    have p1 := v_prod (by omega) hw T (xp w t e) (xp w t f) (xp_lt (by omega) T o e)
    have p2 := v_prod (by omega) hw T (xp w t f) (xp w t f) (xp_lt (by omega) T o f)
    rw [mul_xx (by omega) T o] at p1 p2
    unfold whGo
    by_cases h0 : m = 0
    · subst h0
      simp
    · have hn : 0 < n := by
        rcases Nat.eq_zero_or_pos n with z | z
        · subst z; simp at hm; omega
        · exact z
      have hm2 : m / 2 < 2 ^ (n - 1) := by
        obtain ⟨k, rfl⟩ : ∃ k, n = k + 1 := ⟨n - 1, by omega⟩
        rw [Nat.pow_succ] at hm
        simp; omega
      by_cases ho : m % 2 = 1
      · obtain ⟨y, hy⟩ := pow_go (n - 1) fuel (m / 2) (e + f) (f + f) hm2 (by omega)
        refine ⟨y, ?_⟩
        have : e + f + m / 2 * (f + f) = e + m * f := by
          have z : m = 2 * (m / 2) + 1 := by omega
          conv => rhs; rw [z]
          rw [Nat.add_mul, Nat.one_mul, Nat.mul_add, Nat.mul_assoc, Nat.two_mul]; omega
        rw [this] at hy
        simp only [lit0] at hy
        have st : b1_power_of [some (rul w t), some (N m), some (N (xp w t e)), some (N (xp w t f))] = .nx [some (rul w t), some (N (m / 2)), some (N (xp w t (e + f))), some (N (xp w t (f + f)))] := by
          unfold b1_power_of
          simp [modN, divN, ho, p1, p2]
        simp [show 0 < m by omega, st, hy]
      · obtain ⟨y, hy⟩ := pow_go (n - 1) fuel (m / 2) e (f + f) hm2 (by omega)
        refine ⟨y, ?_⟩
        have : e + m / 2 * (f + f) = e + m * f := by
          have z : m = 2 * (m / 2) := by omega
          conv => rhs; rw [z]
          rw [Nat.mul_add, Nat.mul_assoc, Nat.two_mul]
        rw [this] at hy
        simp only [lit0] at hy
        have st : b1_power_of [some (rul w t), some (N m), some (N (xp w t e)), some (N (xp w t f))] = .nx [some (rul w t), some (N (m / 2)), some (N (xp w t e)), some (N (xp w t (f + f)))] := by
          unfold b1_power_of
          simp [modN, divN, ho, p2]
        simp [show 0 < m by omega, st, hy]
theorem v_power {m : Nat} (hm : m < 2 ^ 20) : F_power_of [rul w t, N m] = .ok (N (xp w t m)) [none, none] := by
  obtain ⟨y, hy⟩ := pow_go W hw T 20 1000000 m 0 1 hm (by omega)
  have l1 := v_left (t := t) (one_lt W hw T)
  have l2 := v_left (t := t) (show 2 < 2 ^ w by have := Nat.pow_le_pow_right (n := 2) (by omega) W; omega)
  rw [xp_1 W hw T, Nat.zero_add, Nat.mul_one] at hy
  simp only [lit0, show xp w t 0 = 1 from rfl] at hy
  unfold F_power_of runF S_power_of
  simp [List.replicate, l1, l2, hy]
theorem v_shift {c m : Nat} (hm : m < 2 ^ 20) (hc : c < 2 ^ w) : F_shift_of [rul w t, N c, N m] = .ok (N (dn w t m c)) [none, none, none] := by
  have p := v_prod (by omega) hw T c (xp w t m) hc
  rw [mul_xpn (by omega) T m hc] at p
  unfold F_shift_of runF S_shift_of
  simp [List.replicate, v_power W hw T hm, p]
theorem v_joined {c d m : Nat} (hm : m < 2 ^ 20) (hc : c < 2 ^ w) : F_joined_check [N c, N d, N m, rul w t] = .ok (N (dn w t m c ^^^ d)) [none, none, none, none] := by
  unfold F_joined_check runF S_joined_check
  simp [List.replicate, v_shift W hw T hm hc]
omit hw T W in
theorem v_isnum (x : Nat) : F_is_number [N x] = .ok (.bl true) [none] := by
  have i1 : isiD "int" (N x) = some (.bl true) := rfl
  have i2 : isiD "bool" (N x) = some (.bl false) := rfl
  unfold F_is_number runF S_is_number
  simp [List.replicate, i1, i2]
theorem v_isrule (ho : t % 2 = 1) : F_is_rule [rul w t] = .ok (.bl true) [none] := by
  have i1 : isiD "tuple" (rul w t) = some (.bl true) := rfl
  have i2 : lenD (rul w t) = some (N 2) := rfl
  have i3 : ixD (rul w t) (N 0) = some (N w) := ixTN rfl
  have i4 : ixD (rul w t) (N 1) = some (N t) := ixTN rfl
  have s2 : shlD (N 1) (N w) = some (N (1 * 2 ^ w)) := shlN (by omega) (by omega)
  unfold F_is_rule runF S_is_rule
  simp [List.replicate, i1, i2, i3, i4, v_isnum, modN, ho, s2, T, hw, show 1 ≤ w by omega, show D.int 32 = N 32 from rfl]
end
end K70

set_option maxHeartbeats 4000000
/-! draws -/
namespace K70
open PySem PySem.Spec PyProof.Rows L2 Fl
def wD (l : List Nat) (k : Nat) : D := .dic [(.inr (PySem.Str.ofString "draws"), .lst (l.map N)), (.inr (PySem.Str.ofString "at"), N k)]
theorem ne1 : ¬ (PySem.Str.ofString "draws" = PySem.Str.ofString "at") := by decide
theorem look_at (l : List Nat) (k : Nat) : lookD (wD l k) (.str (PySem.Str.ofString "at")) = some (some (N k)) := by
  have : getE (κ := Key) [(.inr (PySem.Str.ofString "draws"), Fl.D.lst (l.map N)), (.inr (PySem.Str.ofString "at"), N k)] (.inr (PySem.Str.ofString "at")) = some (N k) := by
    unfold getE
    simp [List.find?, ne1]
  unfold wD lookD keyOf
  simp only [Option.map_some]
  rw [this]
theorem ix_at (l : List Nat) (k : Nat) : ixD (wD l k) (.str (PySem.Str.ofString "at")) = some (N k) := by
  unfold wD ixD lookD keyOf getE
  simp [List.find?, ne1]
theorem ix_dr (l : List Nat) (k : Nat) : ixD (wD l k) (.str (PySem.Str.ofString "draws")) = some (.lst (l.map N)) := by
  unfold wD ixD lookD keyOf getE
  simp [List.find?]
theorem put_at (l : List Nat) (k j : Nat) : putD (wD l k) (.str (PySem.Str.ofString "at")) (N j) = some (wD l j) := by
  unfold wD putD keyOf
  simp [putE, szL, ne1]
theorem v_next (l : List Nat) (k n : Nat) (hn : 0 < n) : ∃ r, r < n ∧ F_u_law_next [wD l k, N n] = .ok (N r) [some (wD l (k + 1)), none] := by
  have g1 : gI (fun _ _ => true) (· + ·) (N k) (N 1) = some (N (k + 1)) := rfl
  have ln : lenD (.lst (l.map N)) = some (N l.length) := by
    show some (Fl.D.int (l.map N).length) = _
    rw [List.length_map]; rfl
  by_cases h : l.length < k + 1
  · refine ⟨0, hn, ?_⟩
    unfold F_u_law_next runF S_u_law_next
    simp [List.replicate, daugS, look_at, g1, putS, put_at, ix_at, ix_dr, ln, h]
  · have hk : (l.map N)[k]? = some (N l[k]) := by
      rw [List.getElem?_map, List.getElem?_eq_getElem (by omega)]; rfl
    refine ⟨l[k] % n, Nat.mod_lt _ hn, ?_⟩
    unfold F_u_law_next runF S_u_law_next
    simp [List.replicate, daugS, look_at, g1, putS, put_at, ix_at, ix_dr, ln, h, subN (show 1 ≤ k + 1 by omega), ixLN hk, modN hn]
theorem v_pick (l : List Nat) (k : Nat) (rows : List D) (h0 : 0 < rows.length) : ∃ r, r ∈ rows ∧ F_u_law_pick [wD l k, .tup rows] = .ok r [some (wD l (k + 1)), none] := by
  obtain ⟨i, hi, e⟩ := v_next l k rows.length h0
  have ln : lenD (.tup rows) = some (N rows.length) := rfl
  refine ⟨rows[i], List.getElem_mem _, ?_⟩
  unfold F_u_law_pick runF S_u_law_pick
  simp [List.replicate, ln, e, ixTN (List.getElem?_eq_getElem hi)]
/-- the draws are naturals -/
theorem dr_in (sc : Fl.D) (m2 j c : Nat) (lim : Nat) (l3 : List Nat) (r : Nat) (d : Option Fl.D) (h3 : l3.length < 2 ^ 20) : ∃ (l4 : List Nat) (r2 : Nat), b2_u_law_draws [some sc, some (N 400), some (.lst (l3.map N)), some (N m2), some (N j), some (N c), some (N r), d] = .nx [some sc, some (N 400), some (.lst (l4.map N)), some (N m2), some (N j), some (N c), some (N r2), d] ∧ l4.length ≤ l3.length + 1 := by
  unfold b2_u_law_draws
  by_cases hr : 0 < r
  · refine ⟨l3 ++ [r % 997], r / 997, ?_, by simp⟩
    simp [hr, modN, divN, x_updS, appL (xs := l3.map N) (by simpa using h3)]
  · refine ⟨l3, r, ?_, by simp⟩
    simp [hr]
theorem gen_mix (A B Md : Nat) (hA : A < 2 ^ 64) (hB : 0 < B) (hM : 0 < Md) (s0 s1 s2 : Option Fl.D) (m j x : Nat) (c d : Option Fl.D) : ∃ m2, setS 3 (op2 modD (op1 intF (op2 addD (op2 addD (op2 mulD (rd 3) (pur (N A))) (op2 modD (rd 5) (pur (N B)))) (rd 4))) (pur (N Md))) [s0, s1, s2, some (N m), some (N j), some (N x), c, d] = .nx [s0, s1, s2, some (N m2), some (N j), some (N x), c, d] :=
  ⟨(m * A + x % B + j) % Md, by simp [mulN (a := m) (b := A) (.inr hA), modN hB, modN hM]⟩
theorem gen_two (Q A C M2 : Nat) (hQ : 0 < Q) (hA : A < 2 ^ 64) (hM : 0 < M2) (s0 s1 : Option Fl.D) (l : List Nat) (m j x : Nat) (c d : Option Fl.D) (hl : l.length + 1 < 2 ^ 20) : ∃ l2 : List Nat, (sq (thn (methM 2 appD (aCons (op2 modD (op1 intF (rd 5)) (pur (N Q))) aNil)) fun _ => skip)
    (thn (methM 2 appD (aCons (op2 modD (op2 modD (op1 intF (op2 addD (op2 mulD (rd 3) (pur (N A))) (pur (N C)))) (pur (N M2))) (pur (N Q))) aNil)) fun _ => skip)) [s0, s1, some (.lst (l.map N)), some (N m), some (N j), some (N x), c, d] = .nx [s0, s1, some (.lst (l2.map N)), some (N m), some (N j), some (N x), c, d] ∧ l2.length ≤ l.length + 2 :=
  ⟨l ++ [x % Q, (m * A + C) % M2 % Q], by simp [modN hQ, modN hM, x_updS, appL (xs := l.map N) (by simp; omega), mulN (a := m) (b := A) (.inr hA), appL (xs := l.map N ++ [N (x % Q)]) (by simp; omega)], by simp⟩
theorem gen_tail (A Md Q : Nat) (hA : A < 2 ^ 64) (hM : 0 < Md) (hQ : 0 < Q) (s0 s1 : Option Fl.D) (l3 : List Nat) (m i : Nat) (b c d : Option Fl.D) (h3 : l3.length < 2 ^ 20) : ∃ (l4 : List Nat) (m2 : Nat), (sq (setS 3 (op2 modD (op1 intF (op2 addD (op2 addD (op2 mulD (rd 3) (pur (N A))) (rd 4)) (pur (N 1)))) (pur (N Md))))
    (thn (methM 2 appD (aCons (op2 modD (op1 intF (rd 3)) (pur (N Q))) aNil)) fun _ => skip)) [s0, s1, some (.lst (l3.map N)), some (N m), some (N i), b, c, d] = .nx [s0, s1, some (.lst (l4.map N)), some (N m2), some (N i), b, c, d] ∧ l4.length ≤ l3.length + 1 :=
  ⟨l3 ++ [(m * A + i + 1) % Md % Q], (m * A + i + 1) % Md, by simp [mulN (a := m) (b := A) (.inr hA), modN hM, modN hQ, x_updS, appL (xs := l3.map N) (by simpa using h3)], by simp⟩
theorem wq_ex {s : S} {ρ ρ' : Rho} {Qn : Rho → Prop} {Qr : Fl.D → Rho → Prop} (h : s ρ = .nx ρ') (k : Qn ρ') : wq (s ρ) Qn Qr := by rw [h]; exact k
theorem dr_out (ns : List Int) (hns : ns.length ≤ 63) (l : List Nat) (m j : Nat) (a b c d : Option Fl.D) (hl : l.length ≤ 62 * j) (hj : j < ns.length) : wq (b3_u_law_draws [some (.scr (ns.map D.int)), some (N 400), some (.lst (l.map N)), some (N m), some (N j), b, c, d])
    (fun ρ => ∃ (l : List Nat) (m : Nat) (a b c d : Option Fl.D), ρ = [some (Fl.D.scr (ns.map D.int)), some (N 400), some (.lst (l.map N)), some (N m), a, b, c, d] ∧ l.length ≤ 62 * (j + 1)) (fun _ _ => False) := by
  have ii : ixD (Fl.D.scr (ns.map D.int)) (N j) = some (.int ns[j]) := ixSN (by rw [List.getElem?_map, List.getElem?_eq_getElem hj]; rfl)
  have ab : absD (.int ns[j]) = some (N ns[j].natAbs) := by
    show some (Fl.D.int _) = some (Fl.D.int _)
    congr 2
    split <;> omega
  have fi : intF (.int ns[j]) = some (.int ns[j]) := rfl
  generalize hx : ns[j].natAbs = x at ab
  generalize (Fl.D.scr (ns.map D.int)) = sc at ii ⊢
  unfold b3_u_law_draws
  refine wq_sqx (ρ' := [some sc, some (N 400), some (.lst (l.map N)), some (N m), some (N j), some (N x), c, d]) (by simp [ii, fi, ab]) ?_
  obtain ⟨m2, em⟩ := gen_mix 48271 1000003 65537 (by omega) (by omega) (by omega) (some sc) (some (N 400)) (some (.lst (l.map N))) m j x c d
  refine wq_sqx em ?_
  clear em
  refine wq_sqx (ρ' := [some sc, some (N 400), some (.lst (l.map N)), some (N m2), some (N j), some (N x), some (N 0), d]) (by simp) ?_
  have pw : powD (N 10) (N 18) = some (N (10 ^ 18)) := powN (by omega) (by omega)
  have e1 : ∃ (l2 : List Nat) (r : Nat), (ifS (tst (op2 geD (rd 5) (op2 powD (pur (.int 10)) (pur (.int 18))))) (setS 6 (rd 5)) (sq (thn (methM 2 appD (aCons (op2 modD (op1 intF (rd 5)) (pur (.int 997))) aNil)) fun _ => skip)
    (thn (methM 2 appD (aCons (op2 modD (op2 modD (op1 intF (op2 addD (op2 mulD (rd 3) (pur (.int 69621))) (pur (.int 5)))) (pur (.int 65521))) (pur (.int 997))) aNil)) fun _ => skip))) [some sc, some (N 400), some (.lst (l.map N)), some (N m2), some (N j), some (N x), some (N 0), d] = .nx [some sc, some (N 400), some (.lst (l2.map N)), some (N m2), some (N j), some (N x), some (N r), d] ∧ l2.length ≤ l.length + 2 := by
    by_cases hc : 10 ^ 18 ≤ x
    · refine ⟨l, x, ?_, by omega⟩
      simp at hc
      simp [pw, hc]
    · obtain ⟨l2, e2, h2⟩ := gen_two 997 69621 5 65521 (by omega) (by omega) (by omega) (some sc) (some (N 400)) l m2 j x (some (N 0)) d (by omega)
      refine ⟨l2, 0, ?_, h2⟩
      have ge : geD (N x) (N (10 ^ 18)) = some (.bl false) := by rw [geN, decide_eq_false hc]
      refine Eq.trans ?_ e2
      unfold ifS Fl.thn tst op2
      simp only [x_bnd, x_rd, get_s, get_0, x_lift, x_pur, lit10, lit18, pw, ge, tru_bl]
      rfl
  obtain ⟨l2, r, e1, h2⟩ := e1
  refine wq_sqx e1 ?_
  have r60 := rng1N (n := 60) (by omega)
  refine wq_for (fun i ρ => ∃ (l3 : List Nat) (r : Nat) (d : Option Fl.D), ρ = [some sc, some (N 400), some (.lst (l3.map N)), some (N m2), some (N j), some (N x), some (N r), d] ∧ l3.length ≤ l2.length + i) (ds := (List.range 60).map N) (ρ1 := [some sc, some (N 400), some (.lst (l2.map N)), some (N m2), some (N j), some (N x), some (N r), d]) (by simp [r60]) ⟨l2, r, d, rfl, by omega⟩ (fun i d ρ hi ⟨l3, r, d2, e, h3⟩ => ?_) (fun ρ ⟨l3, r, d, e, h3⟩ => ?_)
  · subst e
    have hi2 : i < 60 := by
      have := (List.getElem?_eq_some_iff.mp hi).1
      simpa using this
    obtain ⟨l4, r2, e4, h4⟩ := dr_in sc m2 j x 0 l3 r (some d) (by omega)
    refine ⟨_, rfl, ?_⟩
    exact wq_ex e4 ⟨l4, r2, _, rfl, by omega⟩
  · subst e
    refine ⟨l3, m2, _, _, _, _, rfl, ?_⟩
    simp at h3; omega
theorem dr_tail (sc : Fl.D) (i : Nat) (l3 : List Nat) (m : Nat) (b c d : Option Fl.D) (h3 : l3.length < 2 ^ 20) : ∃ (l4 : List Nat) (m2 : Nat), b1_u_law_draws [some sc, some (N 400), some (.lst (l3.map N)), some (N m), some (N i), b, c, d] = .nx [some sc, some (N 400), some (.lst (l4.map N)), some (N m2), some (N i), b, c, d] ∧ l4.length ≤ l3.length + 1 := by
  exact gen_tail 16807 65537 997 (by omega) (by omega) (by omega) (some sc) (some (N 400)) l3 m i b c d h3
theorem cut_map {α β : Type} (f : α → β) (xs : List α) (lo hi : Option Int) : cutA (xs.map f) lo hi = (cutA xs lo hi).map f := by
  unfold cutA
  rw [List.length_map, ← List.map_drop, ← List.map_take]
theorem v_draws (ns : List Int) (hns : ns.length ≤ 63) : ∃ l : List Nat, F_u_law_draws [.scr (ns.map D.int), N 400] = .ok (.lst (l.map N)) [none, none] := by
  have key : ∃ d outs, F_u_law_draws [.scr (ns.map D.int), N 400] = .ok d outs ∧ (∃ l : List Nat, d = .lst (l.map N)) ∧ outs = [none, none] := by
    unfold F_u_law_draws
    refine runF_of (post := fun d outs => (∃ l : List Nat, d = .lst (l.map N)) ∧ outs = [none, none]) rfl ?_
    unfold S_u_law_draws
    have ln : lenD (Fl.D.scr (ns.map D.int)) = some (N ns.length) := by
      show some (Fl.D.int (ns.map Fl.D.int).length) = _
      rw [List.length_map]; rfl
    have rl := rng1N (n := ns.length) (by omega)
    have r4 := rng1N (n := 400) (by omega)
    simp only [List.map_cons, List.map_nil, List.replicate, List.cons_append, List.nil_append]
    refine wq_sqx (ρ' := [some (Fl.D.scr (ns.map D.int)), some (N 400), some (.lst ([].map N)), none, none, none, none, none]) (by simp) ?_
    refine wq_sqx (ρ' := [some (Fl.D.scr (ns.map D.int)), some (N 400), some (.lst ([].map N)), some (N 7), none, none, none, none]) (by simp) ?_
    apply wq_sq
    refine (wq_for (fun j ρ => ∃ (l : List Nat) (m : Nat) (a b c d : Option Fl.D), ρ = [some (Fl.D.scr (ns.map D.int)), some (N 400), some (.lst (l.map N)), some (N m), a, b, c, d] ∧ l.length ≤ 62 * j) (ds := (List.range ns.length).map N) (ρ1 := [some (Fl.D.scr (ns.map D.int)), some (N 400), some (.lst ([].map N)), some (N 7), none, none, none, none]) (by simp [ln, rl])
      ⟨[], 7, none, none, none, none, rfl, by simp⟩ (fun j d ρ hj ⟨l, m, a, b, c, dd, e, hl⟩ => ?_) (fun ρ ⟨l, m, a, b, c, d, e, hl⟩ => ?_))
    · have hjn : j < ns.length := by
        have := (List.getElem?_eq_some_iff.mp hj).1
        simpa using this
      have hd : d = N j := by
        rw [List.getElem?_map, List.getElem?_range hjn] at hj
        exact (Option.some.inj hj).symm
      subst e hd
      exact ⟨_, rfl, wq_mono (dr_out ns hns l m j a b c dd hl hjn) (fun _ h => h) (fun _ _ h => h.elim)⟩
    · subst e
      have hl' : l.length ≤ 62 * ns.length := by simpa using hl
      apply wq_sq
      refine (wq_for (fun i ρ => ∃ (l3 : List Nat) (m : Nat) (a b c d : Option Fl.D), ρ = [some (Fl.D.scr (ns.map D.int)), some (N 400), some (.lst (l3.map N)), some (N m), a, b, c, d] ∧ l3.length ≤ l.length + i) (ds := (List.range 400).map N) (ρ1 := [some (Fl.D.scr (ns.map D.int)), some (N 400), some (.lst (l.map N)), some (N m), a, b, c, d]) (by simp [r4])
        ⟨l, m, a, b, c, d, rfl, by omega⟩ (fun i d ρ hi ⟨l3, m, a, b, c, d2, e, h3⟩ => ?_) (fun ρ ⟨l3, m, a, b, c, d2, e, h3⟩ => ?_))
      · subst e
        have hi2 : i < 400 := by
          have := (List.getElem?_eq_some_iff.mp hi).1
          simpa using this
        have hd : d = N i := by
          rw [List.getElem?_map, List.getElem?_range hi2] at hi
          exact (Option.some.inj hi).symm
        subst hd
        obtain ⟨l4, m4, e4, h4⟩ := dr_tail (Fl.D.scr (ns.map D.int)) i l3 m b c d2 (by omega)
        exact ⟨_, rfl, wq_ex e4 ⟨l4, m4, _, _, _, _, rfl, by omega⟩⟩
      · subst e
        have i4 : intD (N 400) = some 400 := rfl
        have sl : slD (.lst (l3.map N)) none (some 400) = some (.lst ((cutA l3 none (some 400)).map N)) := by
          show some (Fl.D.lst _) = _
          rw [cut_map]
        simp [i4, sl]
        exact ⟨_, rfl⟩
  obtain ⟨d, outs, e, ⟨l, rfl⟩, rfl⟩ := key
  exact ⟨l, e⟩
end K70

set_option maxHeartbeats 4000000
/-! rows, signs -/
namespace K70
open PySem PySem.Spec PyProof.Rows L2 Fl
def sg : List Bool := (List.range 9).flatMap fun k => bm 8 (49 + k)
theorem v_signs : F_u_law_signs [] = .ok (.tup (bD sg)) [] := isOk_ok (n := 0) (by decide +kernel)
theorem v_allsigns : F_all_bits [.tup (countD 49 1 9)] = .ok (.tup (bD sg)) [none] := isOk_ok (n := 1) (by decide +kernel)
theorem bD_len (bs : List Bool) : (bD bs).length = bs.length := by unfold bD; rw [List.length_map]
theorem bD_app (a b : List Bool) : bD (a ++ b) = bD a ++ bD b := by unfold bD; rw [List.map_append]
theorem bD_get {a : List Bool} {i : Nat} (h : i < a.length) : (bD a)[i]? = some (N (a[i]).toNat) := by
  unfold bD
  rw [List.getElem?_map, List.getElem?_eq_getElem h]; rfl
theorem addB {a b : List Bool} (h : a.length + b.length < 2 ^ 20) : addD (.tup (bD a)) (.tup (bD b)) = some (.tup (bD (a ++ b))) := by
  rw [addT (by rw [bD_len, bD_len]; exact h), bD_app]
theorem v_both (a b : List Bool) (e : a.length = b.length) (h : a.length < 2 ^ 20) : F_u_law_both [.tup (bD a), .tup (bD b)] = .ok (.tup (bD (List.zipWith (· ^^ ·) a b))) [none, none] := by
  have ln : lenD (.tup (bD a)) = some (N a.length) := by
    show some (Fl.D.int (bD a).length) = _
    rw [bD_len]; rfl
  have rg := rng1N (n := a.length) (by omega)
  let f : Fl.D → Fl.D := fun d => N ((a[nat d]?.getD false).toNat ^^^ (b[nat d]?.getD false).toNat)
  have hf : ((List.range a.length).map N).map f = bD (List.zipWith (· ^^ ·) a b) := by
    refine List.ext_getElem (by simp [bD, e]) fun i h1 h2 => ?_
    have hi : i < a.length := by simpa using h1
    simp [bD, f, List.getElem?_eq_getElem hi, List.getElem?_eq_getElem (e ▸ hi)]
    cases a[i] <;> cases b[i]'(e ▸ hi) <;> rfl
  unfold F_u_law_both runF S_u_law_both
  simp [List.replicate, ln, rg]
  rw [lc_k (f := f) (szL_ok (by simpa using h)) (by
    intro d hd
    rw [List.mem_map] at hd
    obtain ⟨k, hk, rfl⟩ := hd
    rw [List.mem_range] at hk
    have e1 := ixTN (bD_get hk)
    have e2 := ixTN (bD_get (e ▸ hk))
    simp [f, e1, e2, List.getElem?_eq_getElem hk, List.getElem?_eq_getElem (e ▸ hk)]), hf]
  simp [tupD]
abbrev CALL2 : M Fl.D := callF [.s 0, .v] F_u_law_next (aSlot 0 (aCons (pur (N 2)) aNil))
theorem draw_go (l : List Nat) (r1 r2 r3 r4 r5 r7 r8 r9 r10 : Option Fl.D) : ∀ (ds : List Fl.D) (k : Nat), ∃ (bs : List Bool) (k' : Nat), bs.length = ds.length ∧ lcGo (gNam 6) (pur true) CALL2 [6] ds [some (wD l k), r1, r2, r3, r4, r5, none, r7, r8, r9, r10] = some (bD bs, [some (wD l k'), r1, r2, r3, r4, r5, none, r7, r8, r9, r10])
  | [], k => ⟨[], k, rfl, rfl⟩
  | d :: ds, k => by
    obtain ⟨r, hr, e⟩ := v_next l k 2 (by omega)
    obtain ⟨bs, k', h1, h2⟩ := draw_go l r1 r2 r3 r4 r5 r7 r8 r9 r10 ds (k + 1)
    have hb : N r = N (decide (r = 1)).toNat := by
      rcases (show r = 0 ∨ r = 1 by omega) with z | z <;> subst z <;> rfl
    refine ⟨decide (r = 1) :: bs, k', by simp [h1], ?_⟩
    unfold lcGo
    simp [e, h2, hb, bD]
theorem draw_k (l : List Nat) (r1 r2 r3 r4 r5 r7 r8 r9 r10 : Option Fl.D) (n k : Nat) (hn : n < 2 ^ 20) : ∃ (bs : List Bool) (k' : Nat), bs.length = n ∧ lcK (gNam 6) (pur true) CALL2 [6] ((List.range n).map N) [some (wD l k), r1, r2, r3, r4, r5, none, r7, r8, r9, r10] = .ok (.lst (bD bs)) [some (wD l k'), r1, r2, r3, r4, r5, none, r7, r8, r9, r10] := by
  obtain ⟨bs, k', h1, h2⟩ := draw_go l r1 r2 r3 r4 r5 r7 r8 r9 r10 ((List.range n).map N) k
  refine ⟨bs, k', by simpa using h1, ?_⟩
  unfold lcK
  rw [if_pos (szL_ok (by simpa using hn))]
  simp [h2]
theorem bD_rep (n : Nat) : (List.replicate n [N 0]).flatten = bD (List.replicate n false) := by
  unfold bD
  rw [List.map_replicate]
  induction n with
  | zero => rfl
  | succ n ih => rw [List.replicate_succ, List.replicate_succ, List.flatten_cons, ih]; rfl
theorem mulB {n : Nat} (h : n ≤ 1000) : mulD (.tup [N 0]) (N n) = some (.tup (bD (List.replicate n false))) := by
  show (if -1000 ≤ (n : Int) ∧ (n : Int) ≤ 1000 ∧ [N 0].length ≤ 1000 then some (Fl.D.tup (List.replicate (n : Int).toNat [N 0]).flatten) else none) = _
  rw [if_pos ⟨by omega, by omega, by simp⟩, Int.toNat_natCast, bD_rep]
set_option maxHeartbeats 8000000 in
theorem v_rows {w t : Nat} (W : 2 ≤ w) (hw : w ≤ 32) (T : t < 2 ^ w) (ho : t % 2 = 1) (l : List Nat) (k : Nat) : ∃ k', F_u_law_rows_right [wD l k, rul w t] = .ok (.bl true) [some (wD l k'), none] := by
  have W1 : 0 < w := by omega
  have chk := v_check W1 hw T
  have i0 : ixD (rul w t) (N 0) = some (N w) := ixTN rfl
  obtain ⟨m', hm', e1⟩ := v_next l k 60 (by omega)
  generalize hm : 1 + m' = m at *
  have m0 : 0 < m := by omega
  have m60 : m ≤ 60 := by omega
  have rg := rng1N (n := m) (by omega)
  obtain ⟨a, k2, la, e2⟩ := draw_k l (some (rul w t)) (some (N w)) (some (N m)) none none none none none none m (k + 1) (by omega)
  obtain ⟨b, k3, lb, e3⟩ := draw_k l (some (rul w t)) (some (N w)) (some (N m)) none none none none none none m k2 (by omega)
  have vb := v_both a b (by omega) (by omega)
  have x1 := fld_xor (w := w) (t := t) a b 0 0 (by omega)
  rw [Nat.xor_zero] at x1
  have x2 := fld_own W1 T a
  have x3 := fld_join (t := t) W1 T a b
  have lta := fld_lt (t := t) W1 T a (Nat.two_pow_pos w)
  have ltb := fld_lt (t := t) W1 T b (Nat.two_pow_pos w)
  generalize hca : fld w t 0 a = ca at *
  generalize hcb : fld w t 0 b = cb at *
  have lbm : ∀ n x, (bm n x).length = n := fun n => by
    induction n with
    | zero => intro x; rfl
    | succ n ih => intro x; show (bm n x).length + 1 = n + 1; rw [ih]
  have ad1 : addD (.tup (bD a)) (.tup (bD (bm w ca))) = some (.tup (bD (a ++ bm w ca))) := addB (by rw [lbm]; omega)
  have ad2 : addD (.tup (bD a)) (.tup (bD b)) = some (.tup (bD (a ++ b))) := addB (by omega)
  have jn := v_joined W hw T (c := ca) (d := cb) (m := m) (by omega) lta
  rw [lb] at x3
  obtain ⟨z, hz, e4⟩ := v_next l k3 9 (by omega)
  have mz := mulB (n := z) (by omega)
  have ad3 : addD (.tup (bD (List.replicate z false))) (.tup (bD a)) = some (.tup (bD (List.replicate z false ++ a))) := addB (by simp; omega)
  have x4 := fld_lead (w := w) (t := t) z a
  rw [hca] at x4
  obtain ⟨p, hp, e5⟩ := v_next l (k3 + 1) m m0
  have ip := ixTN (bD_get (a := a) (i := p) (by omega))
  have ct : slD (.tup (bD a)) none (some (p : Int)) = some (.tup (bD (a.take p))) := by
    show some (Fl.D.tup (cutA (bD a) _ _)) = _
    unfold bD; rw [cut_map, cut_to]
  have cf : slD (.tup (bD a)) (some ((p + 1 : Nat) : Int)) none = some (.tup (bD (a.drop (p + 1)))) := by
    show some (Fl.D.tup (cutA (bD a) _ _)) = _
    unfold bD; rw [cut_map, cut_from]
  have cf2 : slD (.tup (bD a)) (some ((p : Int) + 1)) none = some (.tup (bD (a.drop (p + 1)))) := cf
  have hsplit : a = a.take p ++ (a[p] :: a.drop (p + 1)) := by
    rw [← List.drop_eq_getElem_cons (by omega)]; simp
  have sb : subD (N 1) (N (a[p]).toNat) = some (N (!a[p]).toNat) := by
    rw [subN (by cases a[p] <;> simp)]
    cases a[p] <;> rfl
  have t1 : Fl.D.tup [N (!a[p]).toNat] = .tup (bD [!a[p]]) := rfl
  have ad4 : addD (.tup (bD (a.take p))) (.tup (bD [!a[p]])) = some (.tup (bD (a.take p ++ [!a[p]]))) := addB (by simp; omega)
  have ad5 : addD (.tup (bD (a.take p ++ [!a[p]]))) (.tup (bD (a.drop (p + 1)))) = some (.tup (bD (a.take p ++ (!a[p]) :: a.drop (p + 1)))) := by
    rw [addB (by simp; omega), List.append_assoc]; rfl
  have x5 := fld_turn (t := t) W1 T (a.take p) a[p] (a.drop (p + 1))
  rw [← hsplit, hca] at x5
  have dl : w + (a.drop (p + 1)).length = w + m - 1 - p := by simp; omega
  rw [dl] at x5
  generalize htr : a.take p ++ (!a[p]) :: a.drop (p + 1) = tr at *
  have pw := v_power W hw T (m := w + m - 1 - p) (by omega)
  have nz : xp w t (w + m - 1 - p) ≠ 0 := dn_ne W1 T ho (one_lt W hw T) (by omega) _
  have x6 : ca ^^^ xp w t (w + m - 1 - p) ≠ ca := fun z => nz (by
    have := congrArg (ca ^^^ ·) z
    simpa [← Nat.xor_assoc] using this)
  have sh := v_shift W hw T (c := ca) (m := m) (by omega) lta
  have mz2 := mulB (n := m) (by omega)
  have ad6 : addD (.tup (bD a)) (.tup (bD (List.replicate m false))) = some (.tup (bD (a ++ List.replicate m false))) := addB (by simp; omega)
  have x7 : fld w t 0 (a ++ List.replicate m false) = dn w t m ca := by rw [fld_app, fld_rep, hca]
  have lbits := fun x => v_lbits x w (by omega)
  have post : ∃ d outs, F_u_law_rows_right [wD l k, rul w t] = .ok d outs ∧ (d = .bl true ∧ outs = [some (wD l (k3 + 2)), none]) := by
    unfold F_u_law_rows_right
    refine runF_of (post := fun d outs => d = .bl true ∧ outs = [some (wD l (k3 + 2)), none]) rfl ?_
    unfold S_u_law_rows_right
    simp only [List.map_cons, List.map_nil, List.replicate, List.cons_append, List.nil_append]
    refine wq_sqx (ρ' := [some (wD l (k + 1)), some (rul w t), some (N w), some (N m), none, none, none, none, none, none, none]) (by simp [i0, e1, hm]) ?_
    refine wq_sqx (ρ' := [some (wD l k3), some (rul w t), some (N w), some (N m), some (.tup (bD a)), some (.tup (bD b)), none, none, none, none, none]) (by simp only [CALL2] at e2 e3; simp [rg, e2, e3, tupD]) ?_
    refine wq_sqx (ρ' := [some (wD l k3), some (rul w t), some (N w), some (N m), some (.tup (bD a)), some (.tup (bD b)), none, some (N ca), some (N cb), none, none]) (by simp [chk, hca, hcb]) ?_
    refine wq_sqx (ρ' := [some (wD l k3), some (rul w t), some (N w), some (N m), some (.tup (bD a)), some (.tup (bD b)), none, some (N ca), some (N cb), none, none]) (by simp [chk, vb, x1, lbits, ad1, x2]) ?_
    refine wq_sqx (ρ' := [some (wD l (k3 + 1)), some (rul w t), some (N w), some (N m), some (.tup (bD a)), some (.tup (bD b)), none, some (N ca), some (N cb), none, none]) (by simp [chk, jn, ad2, x3, e4, mz, ad3, x4]) ?_
    refine wq_sqx (ρ' := [some (wD l (k3 + 2)), some (rul w t), some (N w), some (N m), some (.tup (bD a)), some (.tup (bD b)), none, some (N ca), some (N cb), some (N p), none]) (by simp [e5]) ?_
    refine wq_sqx (ρ' := [some (wD l (k3 + 2)), some (rul w t), some (N w), some (N m), some (.tup (bD a)), some (.tup (bD b)), none, some (N ca), some (N cb), some (N p), some (.tup (bD tr))]) (by simp [ct, ip, sb, t1, ad4, cf2, ad5]) ?_
    refine wq_sqx (ρ' := [some (wD l (k3 + 2)), some (rul w t), some (N w), some (N m), some (.tup (bD a)), some (.tup (bD b)), none, some (N ca), some (N cb), some (N p), some (.tup (bD tr))]) (by simp [chk, x5, subN (show 1 ≤ w + m by omega), subN (show p ≤ w + m - 1 by omega), pw, x6]) ?_
    simp [sh, mz2, ad6, chk, x7]
  obtain ⟨d, outs, e, rfl, rfl⟩ := post
  exact ⟨_, e⟩
end K70

set_option maxHeartbeats 4000000
/-! the law's own -/
namespace K70
open PySem PySem.Spec PyProof.Rows L2 Fl
def plain : List (Nat × Nat × Nat) := [(3, 3, 3), (6, 47, 44), (7, 9, 117), (8, 7, 244), (8, 213, 188), (8, 29, 55), (8, 155, 234), (8, 47, 62), (10, 563, 409), (11, 775, 97), (12, 2063, 3931), (13, 7413, 1274), (14, 8237, 3921), (15, 17817, 1438), (16, 4129, 12739), (16, 32773, 65256), (16, 35767, 53467), (16, 41111, 4019), (16, 1417, 127), (17, 92251, 20227), (21, 1058969, 972865), (24, 8801531, 13494019), (24, 8388707, 2355026), (32, 79764919, 2309065087), (32, 2168537515, 806403967), (32, 175, 3171672888)]
def begun : List (Nat × Nat × Nat × Nat) := [(16, 4129, 65535, 10673), (16, 4129, 7439, 58828), (16, 51303, 65535, 19462), (16, 32773, 32781, 40655), (8, 155, 255, 218), (8, 29, 253, 126), (8, 47, 255, 32), (8, 29, 255, 180), (10, 985, 1023, 563), (11, 901, 26, 1443), (12, 3859, 4095, 3405), (24, 8801531, 11994318, 2215682), (24, 6122955, 16702650, 7961021), (24, 6122955, 11259375, 2040760), (30, 540064199, 1073741823, 993834304), (31, 79764919, 2147483647, 1930828691), (32, 79764919, 4294967295, 58124007), (32, 175, 0, 3171672888)]
theorem v_plain : F_u_law_plain [] = .ok (.tup (plain.map fun r => .tup [N r.1, N r.2.1, N r.2.2])) [] := isOk_ok (n := 0) (by decide +kernel)
theorem v_begun : F_u_law_begun [] = .ok (.tup (begun.map fun r => .tup [N r.1, N r.2.1, N r.2.2.1, N r.2.2.2])) [] := isOk_ok (n := 0) (by decide +kernel)
theorem plain_ok : ∀ r ∈ plain, 2 ≤ r.1 ∧ r.1 ≤ 32 ∧ r.2.1 < 2 ^ r.1 ∧ r.2.1 % 2 = 1 ∧ fld r.1 r.2.1 0 sg = r.2.2 := by decide +kernel
theorem begun_ok : ∀ r ∈ begun, 2 ≤ r.1 ∧ r.1 ≤ 32 ∧ r.2.1 < 2 ^ r.1 ∧ r.2.1 % 2 = 1 ∧ r.2.2.1 < 2 ^ r.1 ∧ fld r.1 r.2.1 0 (List.zipWith (· ^^ ·) (sg.take r.1) (bm r.1 r.2.2.1) ++ sg.drop r.1) = r.2.2.2 ∧ fld r.1 r.2.1 0 sg = r.2.2.2 ^^^ dn r.1 r.2.1 72 r.2.2.1 := by decide +kernel
theorem bm_len : ∀ n x, (bm n x).length = n := fun n => by
  induction n with
  | zero => intro x; rfl
  | succ n ih => intro x; show (bm n x).length + 1 = n + 1; rw [ih]
theorem sg_len : sg.length = 72 := by decide +kernel
theorem v_cnum {w t : Nat} (W : 0 < w) (hw : w ≤ 32) (T : t < 2 ^ w) : F_check_of_numbers [.tup (countD 49 1 9), rul w t] = .ok (N (fld w t 0 sg)) [none, none] := by
  unfold F_check_of_numbers runF S_check_of_numbers
  simp [List.replicate, v_allsigns, v_check W hw T]
theorem rg49 : rgL 49 58 = some (countD 49 1 9) := by
  unfold rgL
  rw [if_pos ⟨by decide, by decide, by decide⟩]; rfl
theorem turn_ok (sc : Fl.D) (l : List Nat) (k : Nat) (q3 q4 q5 q6 q7 q8 q9 : Option Fl.D) : ∃ (k' : Nat) (r4 r5 r6 r7 r8 r9 : Option Fl.D), b1_law [some sc, some (wD l k), some (.tup (bD sg)), q3, q4, q5, q6, q7, q8, q9] = .nx [some sc, some (wD l k'), some (.tup (bD sg)), q3, r4, r5, r6, r7, r8, r9] := by
  obtain ⟨d1, hd1, e1⟩ := v_pick l k (plain.map fun r => .tup [N r.1, N r.2.1, N r.2.2]) (by decide +kernel)
  rw [List.mem_map] at hd1
  obtain ⟨⟨w, t, du⟩, hr1, rfl⟩ := hd1
  obtain ⟨W, hw, T, ho, hdu⟩ := plain_ok _ hr1
  simp only at W hw T ho hdu e1
  obtain ⟨k2, e2⟩ := v_rows W hw T ho l (k + 1)
  have ck1 := v_check (show 0 < w by omega) hw T sg
  have cn1 := v_cnum (show 0 < w by omega) hw T
  have ir1 := v_isrule W hw T ho
  rw [hdu] at ck1 cn1
  have it : isNotB (.bl true) (.bl true) = some (.bl false) := rfl
  obtain ⟨d3, hd3, e3⟩ := v_pick l k2 (begun.map fun r => .tup [N r.1, N r.2.1, N r.2.2.1, N r.2.2.2]) (by decide +kernel)
  rw [List.mem_map] at hd3
  obtain ⟨⟨w', t', fi, du'⟩, hr3, rfl⟩ := hd3
  obtain ⟨W', hw', T', ho', hf', hq1, hq2⟩ := begun_ok _ hr3
  simp only at W' hw' T' ho' hf' hq1 hq2 e3
  have W1' : 0 < w' := by omega
  have chk := v_check W1' hw' T'
  have lb := fun x => v_lbits x w' (by omega)
  have ct : slD (.tup (bD sg)) none (some (w' : Int)) = some (.tup (bD (sg.take w'))) := by
    show some (Fl.D.tup (cutA (bD sg) _ _)) = _
    unfold bD; rw [cut_map, cut_to]
  have cf : slD (.tup (bD sg)) (some (w' : Int)) none = some (.tup (bD (sg.drop w'))) := by
    show some (Fl.D.tup (cutA (bD sg) _ _)) = _
    unfold bD; rw [cut_map, cut_from]
  have vb := v_both (sg.take w') (bm w' fi) (by rw [List.length_take, bm_len, sg_len]; omega) (by rw [List.length_take, sg_len]; omega)
  have ad1 : addD (.tup (bD (List.zipWith (· ^^ ·) (sg.take w') (bm w' fi)))) (.tup (bD (sg.drop w'))) = some (.tup (bD (List.zipWith (· ^^ ·) (sg.take w') (bm w' fi) ++ sg.drop w'))) := addB (by rw [List.length_zipWith, List.length_take, List.length_drop, bm_len, sg_len]; omega)
  have sh := v_shift W' hw' T' (c := fi) (m := 72) (by omega) hf'
  obtain ⟨k4, e4⟩ := v_rows W' hw' T' ho' l (k2 + 1)
  have x2 := fld_own W1' T' sg
  have ad2 : addD (.tup (bD sg)) (.tup (bD (bm w' (fld w' t' 0 sg)))) = some (.tup (bD (sg ++ bm w' (fld w' t' 0 sg)))) := addB (by rw [bm_len, sg_len]; omega)
  have ad3 := ad2
  rw [hq2] at ad3 x2
  generalize hz : List.zipWith (· ^^ ·) (sg.take w') (bm w' fi) ++ sg.drop w' = tr at *
  have rl1 : Fl.D.tup [N w, N t] = rul w t := rfl
  have rl2 : Fl.D.tup [N w', N t'] = rul w' t' := rfl
  have i1 : Fl.intD (.int 49) = some 49 := rfl
  have post : wq (b1_law [some sc, some (wD l k), some (.tup (bD sg)), q3, q4, q5, q6, q7, q8, q9]) (fun ρ => ∃ (k' : Nat) (r4 r5 r6 r7 r8 r9 : Option Fl.D), ρ = [some sc, some (wD l k'), some (.tup (bD sg)), q3, r4, r5, r6, r7, r8, r9]) (fun _ _ => False) := by
    unfold b1_law
    refine wq_sqx (ρ' := [some sc, some (wD l (k + 1)), some (.tup (bD sg)), q3, some (N w), some (N t), some (N du), q7, q8, q9]) (by simp [v_plain, e1, gTupD, gMore, gEnd]) ?_
    refine wq_sqx (ρ' := [some sc, some (wD l (k + 1)), some (.tup (bD sg)), q3, some (N w), some (N t), some (N du), some (rul w t), q8, q9]) (by simp [rl1]) ?_
    refine wq_sqx (ρ' := [some sc, some (wD l k2), some (.tup (bD sg)), q3, some (N w), some (N t), some (N du), some (rul w t), q8, q9]) (by simp [ir1, it, rg49, cn1, ck1, e2]) ?_
    refine wq_sqx (ρ' := [some sc, some (wD l (k2 + 1)), some (.tup (bD sg)), q3, some (N w'), some (N t'), some (N du'), some (rul w t), some (N fi), q9]) (by simp [v_begun, e3, gTupD, gMore, gEnd]) ?_
    refine wq_sqx (ρ' := [some sc, some (wD l (k2 + 1)), some (.tup (bD sg)), q3, some (N w'), some (N t'), some (N du'), some (rul w' t'), some (N fi), q9]) (by simp [rl2]) ?_
    refine wq_sqx (ρ' := [some sc, some (wD l (k2 + 1)), some (.tup (bD sg)), q3, some (N w'), some (N t'), some (N du'), some (rul w' t'), some (N fi), some (.tup (bD tr))]) (by simp [ct, lb, vb, cf, ad1]) ?_
    refine wq_sqx (ρ' := [some sc, some (wD l k4), some (.tup (bD sg)), q3, some (N w'), some (N t'), some (N du'), some (rul w' t'), some (N fi), some (.tup (bD tr))]) (by simp [chk, hq1, hq2, sh, e4]) ?_
    simp [chk, hq2, lb, ad3, x2]
    exact ⟨k4, rfl⟩
  cases e : b1_law [some sc, some (wD l k), some (.tup (bD sg)), q3, q4, q5, q6, q7, q8, q9] <;> rw [e] at post <;> try exact post.elim
  obtain ⟨k', a, b, c, d, f, g, rfl⟩ := post
  exact ⟨k', a, b, c, d, f, g, rfl⟩
theorem v_law (ns : List Int) (h : ns.length ≤ 63) : ∃ outs, F_law [.scr (ns.map D.int)] = .ok (.bl true) outs := by
  obtain ⟨l, hl⟩ := v_draws ns h
  have dk : mkDic [(.str (PySem.Str.ofString "draws"), .lst (l.map N)), (.str (PySem.Str.ofString "at"), N 0)] = some (wD l 0) := by
    unfold mkDic wD
    simp [keyed, keyOf, mergeE, putE, ne1]
  have r3 := rng1N (n := 3) (by omega)
  have post : ∃ d outs, F_law [.scr (ns.map D.int)] = .ok d outs ∧ d = .bl true := by
    unfold F_law
    refine runF_of (post := fun d outs => d = .bl true) rfl ?_
    unfold S_law
    generalize (Fl.D.scr (ns.map D.int)) = sc at *
    simp only [List.map_cons, List.map_nil, List.replicate, List.cons_append, List.nil_append]
    refine wq_sqx (ρ' := [some sc, some (wD l 0), none, none, none, none, none, none, none, none]) (by simp [dispM, pairsM, hl, dk]) ?_
    refine wq_sqx (ρ' := [some sc, some (wD l 0), some (.tup (bD sg)), none, none, none, none, none, none, none]) (by simp [v_signs]) ?_
    refine wq_sq ?_
    refine wq_for (fun _ ρ => ∃ (k : Nat) (r3 r4 r5 r6 r7 r8 r9 : Option Fl.D), ρ = [some sc, some (wD l k), some (.tup (bD sg)), r3, r4, r5, r6, r7, r8, r9]) (ds := (List.range 3).map N) (ρ1 := [some sc, some (wD l 0), some (.tup (bD sg)), none, none, none, none, none, none, none]) (by simp [r3]) ⟨0, none, none, none, none, none, none, none, rfl⟩ (fun j d ρ hj ⟨k, r3, r4, r5, r6, r7, r8, r9, e⟩ => ?_) (fun ρ ⟨k, r3, r4, r5, r6, r7, r8, r9, e⟩ => ?_)
    · subst e
      obtain ⟨k', a, b, c, d', f, g, e⟩ := turn_ok sc l k (some d) r4 r5 r6 r7 r8 r9
      refine ⟨_, rfl, ?_⟩
      exact wq_ex e ⟨k', _, _, _, _, _, _, _, rfl⟩
    · subst e
      simp
  obtain ⟨d, outs, e, rfl⟩ := post
  exact ⟨outs, e⟩
end K70

set_option maxHeartbeats 4000000
/-! the end (printed by gen.py) -/
namespace K70
open PySem PySem.Spec PyProof.Rows L2 Fl
theorem has_mk {K : PySem.W.Frag} {h : Heap} {mg : Str → Option Value} (X : K.In h) (G : h.Ns mainGlobals mg) {x : Str} {st : Stmt} {ps : List Str} {f : Addr} {oc kV dc pm cd ct : Value} {od an : Option Addr} {sl : Array (Option Value)}
    (a : PySem.W.nsIn K mainGlobals x = some (some (.ref f))) (l : K.lookup f = some ⟨oc, od, .func (PySem.W.fnOf x x (defArgs st) (defBody st) (defScope st) .none kV dc pm an cd ct), sl⟩) (c : PySem.W.codeIn K cd x = true) (k : PySem.W.keepIn K (.ref f) = true)
    (hb : ∀ {fd : FuncData}, Fun K x x st f fd → Binds K fd ps []) : Has K mg x st ps := ⟨f, _, fun_mk l c k, PySem.W.mg_of X G a, hb (fun_mk l c k)⟩
theorem hb_is_number {K : PySem.W.Frag} {f : Addr} {fd : FuncData} (F : Fun K "is_number" "is_number" s_is_number f fd) : Binds K fd ["thing"] [] := F.binds (ps := ["thing"]) fun _ _ _ _ _ _ us hl => match us, hl with | [_], _ => rfl
theorem hb_bits_of {K : PySem.W.Frag} {f : Addr} {fd : FuncData} (F : Fun K "bits_of" "bits_of" s_bits_of f fd) : Binds K fd ["number", "many"] [] := F.binds (ps := ["number", "many"]) fun _ _ _ _ _ _ us hl => match us, hl with | [_, _], _ => rfl
theorem hb_all_bits {K : PySem.W.Frag} {f : Addr} {fd : FuncData} (F : Fun K "all_bits" "all_bits" s_all_bits f fd) : Binds K fd ["numbers"] [] := F.binds (ps := ["numbers"]) fun _ _ _ _ _ _ us hl => match us, hl with | [_], _ => rfl
theorem hb_is_rule {K : PySem.W.Frag} {f : Addr} {fd : FuncData} (F : Fun K "is_rule" "is_rule" s_is_rule f fd) : Binds K fd ["thing"] [] := F.binds (ps := ["thing"]) fun _ _ _ _ _ _ us hl => match us, hl with | [_], _ => rfl
theorem hb_doubled {K : PySem.W.Frag} {f : Addr} {fd : FuncData} (F : Fun K "doubled" "doubled" s_doubled f fd) : Binds K fd ["rule", "number"] [] := F.binds (ps := ["rule", "number"]) fun _ _ _ _ _ _ us hl => match us, hl with | [_, _], _ => rfl
theorem hb_check_of {K : PySem.W.Frag} {f : Addr} {fd : FuncData} (F : Fun K "check_of" "check_of" s_check_of f fd) : Binds K fd ["bits", "rule"] [] := F.binds (ps := ["bits", "rule"]) fun _ _ _ _ _ _ us hl => match us, hl with | [_, _], _ => rfl
theorem hb_check_of_numbers {K : PySem.W.Frag} {f : Addr} {fd : FuncData} (F : Fun K "check_of_numbers" "check_of_numbers" s_check_of_numbers f fd) : Binds K fd ["numbers", "rule"] [] := F.binds (ps := ["numbers", "rule"]) fun _ _ _ _ _ _ us hl => match us, hl with | [_, _], _ => rfl
theorem hb_product_of {K : PySem.W.Frag} {f : Addr} {fd : FuncData} (F : Fun K "product_of" "product_of" s_product_of f fd) : Binds K fd ["rule", "one", "other"] [] := F.binds (ps := ["rule", "one", "other"]) fun _ _ _ _ _ _ us hl => match us, hl with | [_, _, _], _ => rfl
theorem hb_left_of {K : PySem.W.Frag} {f : Addr} {fd : FuncData} (F : Fun K "left_of" "left_of" s_left_of f fd) : Binds K fd ["rule", "number"] [] := F.binds (ps := ["rule", "number"]) fun _ _ _ _ _ _ us hl => match us, hl with | [_, _], _ => rfl
theorem hb_power_of {K : PySem.W.Frag} {f : Addr} {fd : FuncData} (F : Fun K "power_of" "power_of" s_power_of f fd) : Binds K fd ["rule", "many"] [] := F.binds (ps := ["rule", "many"]) fun _ _ _ _ _ _ us hl => match us, hl with | [_, _], _ => rfl
theorem hb_shift_of {K : PySem.W.Frag} {f : Addr} {fd : FuncData} (F : Fun K "shift_of" "shift_of" s_shift_of f fd) : Binds K fd ["rule", "check", "many"] [] := F.binds (ps := ["rule", "check", "many"]) fun _ _ _ _ _ _ us hl => match us, hl with | [_, _, _], _ => rfl
theorem hb_joined_check {K : PySem.W.Frag} {f : Addr} {fd : FuncData} (F : Fun K "joined_check" "joined_check" s_joined_check f fd) : Binds K fd ["one", "other", "many", "rule"] [] := F.binds (ps := ["one", "other", "many", "rule"]) fun _ _ _ _ _ _ us hl => match us, hl with | [_, _, _, _], _ => rfl
theorem hb_u_law_draws {K : PySem.W.Frag} {f : Addr} {fd : FuncData} (F : Fun K "_law_draws" "_law_draws" s_u_law_draws f fd) : Binds K fd ["script", "many"] [] := F.binds (ps := ["script", "many"]) fun _ _ _ _ _ _ us hl => match us, hl with | [_, _], _ => rfl
theorem hb_u_law_next {K : PySem.W.Frag} {f : Addr} {fd : FuncData} (F : Fun K "_law_next" "_law_next" s_u_law_next f fd) : Binds K fd ["w", "many"] [] := F.binds (ps := ["w", "many"]) fun _ _ _ _ _ _ us hl => match us, hl with | [_, _], _ => rfl
theorem hb_u_law_pick {K : PySem.W.Frag} {f : Addr} {fd : FuncData} (F : Fun K "_law_pick" "_law_pick" s_u_law_pick f fd) : Binds K fd ["w", "rows"] [] := F.binds (ps := ["w", "rows"]) fun _ _ _ _ _ _ us hl => match us, hl with | [_, _], _ => rfl
theorem hb_u_law_plain {K : PySem.W.Frag} {f : Addr} {fd : FuncData} (F : Fun K "_law_plain" "_law_plain" s_u_law_plain f fd) : Binds K fd [] [] := F.binds (ps := []) fun _ _ _ _ _ _ us hl => match us, hl with | [], _ => rfl
theorem hb_u_law_begun {K : PySem.W.Frag} {f : Addr} {fd : FuncData} (F : Fun K "_law_begun" "_law_begun" s_u_law_begun f fd) : Binds K fd [] [] := F.binds (ps := []) fun _ _ _ _ _ _ us hl => match us, hl with | [], _ => rfl
theorem hb_u_law_bits {K : PySem.W.Frag} {f : Addr} {fd : FuncData} (F : Fun K "_law_bits" "_law_bits" s_u_law_bits f fd) : Binds K fd ["number", "many"] [] := F.binds (ps := ["number", "many"]) fun _ _ _ _ _ _ us hl => match us, hl with | [_, _], _ => rfl
theorem hb_u_law_signs {K : PySem.W.Frag} {f : Addr} {fd : FuncData} (F : Fun K "_law_signs" "_law_signs" s_u_law_signs f fd) : Binds K fd [] [] := F.binds (ps := []) fun _ _ _ _ _ _ us hl => match us, hl with | [], _ => rfl
theorem hb_u_law_both {K : PySem.W.Frag} {f : Addr} {fd : FuncData} (F : Fun K "_law_both" "_law_both" s_u_law_both f fd) : Binds K fd ["one", "other"] [] := F.binds (ps := ["one", "other"]) fun _ _ _ _ _ _ us hl => match us, hl with | [_, _], _ => rfl
theorem hb_u_law_rows_right {K : PySem.W.Frag} {f : Addr} {fd : FuncData} (F : Fun K "_law_rows_right" "_law_rows_right" s_u_law_rows_right f fd) : Binds K fd ["w", "rule"] [] := F.binds (ps := ["w", "rule"]) fun _ _ _ _ _ _ us hl => match us, hl with | [_, _], _ => rfl
theorem hb_law {K : PySem.W.Frag} {f : Addr} {fd : FuncData} (F : Fun K "law" "law" s_law f fd) : Binds K fd ["script"] [] := F.binds (ps := ["script"]) fun _ _ _ _ _ _ us hl => match us, hl with | [_], _ => rfl
theorem all_mk {l : PySem.W.OpenLaw} {w : World} {K : PySem.W.Frag} {h : Heap} {mg : Str → Option Value} {fa : Addr} (X : K.In h) (G : h.Ns mainGlobals mg) (hfa : mg "law" = some (.ref fa))
    {f1 : Addr} {od1 an1 : Option Addr} {sl1 : Array (Option Value)} {oc1 kV1 dc1 pm1 cd1 ct1 : Value}
    {f2 : Addr} {od2 an2 : Option Addr} {sl2 : Array (Option Value)} {oc2 kV2 dc2 pm2 cd2 ct2 : Value}
    {f3 : Addr} {od3 an3 : Option Addr} {sl3 : Array (Option Value)} {oc3 kV3 dc3 pm3 cd3 ct3 : Value}
    {f4 : Addr} {od4 an4 : Option Addr} {sl4 : Array (Option Value)} {oc4 kV4 dc4 pm4 cd4 ct4 : Value}
    {f5 : Addr} {od5 an5 : Option Addr} {sl5 : Array (Option Value)} {oc5 kV5 dc5 pm5 cd5 ct5 : Value}
    {f6 : Addr} {od6 an6 : Option Addr} {sl6 : Array (Option Value)} {oc6 kV6 dc6 pm6 cd6 ct6 : Value}
    {f7 : Addr} {od7 an7 : Option Addr} {sl7 : Array (Option Value)} {oc7 kV7 dc7 pm7 cd7 ct7 : Value}
    {f8 : Addr} {od8 an8 : Option Addr} {sl8 : Array (Option Value)} {oc8 kV8 dc8 pm8 cd8 ct8 : Value}
    {f9 : Addr} {od9 an9 : Option Addr} {sl9 : Array (Option Value)} {oc9 kV9 dc9 pm9 cd9 ct9 : Value}
    {f10 : Addr} {od10 an10 : Option Addr} {sl10 : Array (Option Value)} {oc10 kV10 dc10 pm10 cd10 ct10 : Value}
    {f11 : Addr} {od11 an11 : Option Addr} {sl11 : Array (Option Value)} {oc11 kV11 dc11 pm11 cd11 ct11 : Value}
    {f12 : Addr} {od12 an12 : Option Addr} {sl12 : Array (Option Value)} {oc12 kV12 dc12 pm12 cd12 ct12 : Value}
    {f13 : Addr} {od13 an13 : Option Addr} {sl13 : Array (Option Value)} {oc13 kV13 dc13 pm13 cd13 ct13 : Value}
    {f14 : Addr} {od14 an14 : Option Addr} {sl14 : Array (Option Value)} {oc14 kV14 dc14 pm14 cd14 ct14 : Value}
    {f15 : Addr} {od15 an15 : Option Addr} {sl15 : Array (Option Value)} {oc15 kV15 dc15 pm15 cd15 ct15 : Value}
    {f16 : Addr} {od16 an16 : Option Addr} {sl16 : Array (Option Value)} {oc16 kV16 dc16 pm16 cd16 ct16 : Value}
    {f17 : Addr} {od17 an17 : Option Addr} {sl17 : Array (Option Value)} {oc17 kV17 dc17 pm17 cd17 ct17 : Value}
    {f18 : Addr} {od18 an18 : Option Addr} {sl18 : Array (Option Value)} {oc18 kV18 dc18 pm18 cd18 ct18 : Value}
    {f19 : Addr} {od19 an19 : Option Addr} {sl19 : Array (Option Value)} {oc19 kV19 dc19 pm19 cd19 ct19 : Value}
    {f20 : Addr} {od20 an20 : Option Addr} {sl20 : Array (Option Value)} {oc20 kV20 dc20 pm20 cd20 ct20 : Value}
    {f21 : Addr} {od21 an21 : Option Addr} {sl21 : Array (Option Value)} {oc21 kV21 dc21 pm21 cd21 ct21 : Value}
    {f22 : Addr} {od22 an22 : Option Addr} {sl22 : Array (Option Value)} {oc22 kV22 dc22 pm22 cd22 ct22 : Value}
    (a1 : PySem.W.nsIn K mainGlobals "is_number" = some (some (.ref f1))) (l1 : K.lookup f1 = some ⟨oc1, od1, .func (PySem.W.fnOf "is_number" "is_number" (defArgs s_is_number) (defBody s_is_number) (defScope s_is_number) .none kV1 dc1 pm1 an1 cd1 ct1), sl1⟩) (c1 : PySem.W.codeIn K cd1 "is_number" = true) (k1 : PySem.W.keepIn K (.ref f1) = true)
    (a2 : PySem.W.nsIn K mainGlobals "bits_of" = some (some (.ref f2))) (l2 : K.lookup f2 = some ⟨oc2, od2, .func (PySem.W.fnOf "bits_of" "bits_of" (defArgs s_bits_of) (defBody s_bits_of) (defScope s_bits_of) .none kV2 dc2 pm2 an2 cd2 ct2), sl2⟩) (c2 : PySem.W.codeIn K cd2 "bits_of" = true) (k2 : PySem.W.keepIn K (.ref f2) = true)
    (a3 : PySem.W.nsIn K mainGlobals "all_bits" = some (some (.ref f3))) (l3 : K.lookup f3 = some ⟨oc3, od3, .func (PySem.W.fnOf "all_bits" "all_bits" (defArgs s_all_bits) (defBody s_all_bits) (defScope s_all_bits) .none kV3 dc3 pm3 an3 cd3 ct3), sl3⟩) (c3 : PySem.W.codeIn K cd3 "all_bits" = true) (k3 : PySem.W.keepIn K (.ref f3) = true)
    (a4 : PySem.W.nsIn K mainGlobals "is_rule" = some (some (.ref f4))) (l4 : K.lookup f4 = some ⟨oc4, od4, .func (PySem.W.fnOf "is_rule" "is_rule" (defArgs s_is_rule) (defBody s_is_rule) (defScope s_is_rule) .none kV4 dc4 pm4 an4 cd4 ct4), sl4⟩) (c4 : PySem.W.codeIn K cd4 "is_rule" = true) (k4 : PySem.W.keepIn K (.ref f4) = true)
    (a5 : PySem.W.nsIn K mainGlobals "doubled" = some (some (.ref f5))) (l5 : K.lookup f5 = some ⟨oc5, od5, .func (PySem.W.fnOf "doubled" "doubled" (defArgs s_doubled) (defBody s_doubled) (defScope s_doubled) .none kV5 dc5 pm5 an5 cd5 ct5), sl5⟩) (c5 : PySem.W.codeIn K cd5 "doubled" = true) (k5 : PySem.W.keepIn K (.ref f5) = true)
    (a6 : PySem.W.nsIn K mainGlobals "check_of" = some (some (.ref f6))) (l6 : K.lookup f6 = some ⟨oc6, od6, .func (PySem.W.fnOf "check_of" "check_of" (defArgs s_check_of) (defBody s_check_of) (defScope s_check_of) .none kV6 dc6 pm6 an6 cd6 ct6), sl6⟩) (c6 : PySem.W.codeIn K cd6 "check_of" = true) (k6 : PySem.W.keepIn K (.ref f6) = true)
    (a7 : PySem.W.nsIn K mainGlobals "check_of_numbers" = some (some (.ref f7))) (l7 : K.lookup f7 = some ⟨oc7, od7, .func (PySem.W.fnOf "check_of_numbers" "check_of_numbers" (defArgs s_check_of_numbers) (defBody s_check_of_numbers) (defScope s_check_of_numbers) .none kV7 dc7 pm7 an7 cd7 ct7), sl7⟩) (c7 : PySem.W.codeIn K cd7 "check_of_numbers" = true) (k7 : PySem.W.keepIn K (.ref f7) = true)
    (a8 : PySem.W.nsIn K mainGlobals "product_of" = some (some (.ref f8))) (l8 : K.lookup f8 = some ⟨oc8, od8, .func (PySem.W.fnOf "product_of" "product_of" (defArgs s_product_of) (defBody s_product_of) (defScope s_product_of) .none kV8 dc8 pm8 an8 cd8 ct8), sl8⟩) (c8 : PySem.W.codeIn K cd8 "product_of" = true) (k8 : PySem.W.keepIn K (.ref f8) = true)
    (a9 : PySem.W.nsIn K mainGlobals "left_of" = some (some (.ref f9))) (l9 : K.lookup f9 = some ⟨oc9, od9, .func (PySem.W.fnOf "left_of" "left_of" (defArgs s_left_of) (defBody s_left_of) (defScope s_left_of) .none kV9 dc9 pm9 an9 cd9 ct9), sl9⟩) (c9 : PySem.W.codeIn K cd9 "left_of" = true) (k9 : PySem.W.keepIn K (.ref f9) = true)
    (a10 : PySem.W.nsIn K mainGlobals "power_of" = some (some (.ref f10))) (l10 : K.lookup f10 = some ⟨oc10, od10, .func (PySem.W.fnOf "power_of" "power_of" (defArgs s_power_of) (defBody s_power_of) (defScope s_power_of) .none kV10 dc10 pm10 an10 cd10 ct10), sl10⟩) (c10 : PySem.W.codeIn K cd10 "power_of" = true) (k10 : PySem.W.keepIn K (.ref f10) = true)
    (a11 : PySem.W.nsIn K mainGlobals "shift_of" = some (some (.ref f11))) (l11 : K.lookup f11 = some ⟨oc11, od11, .func (PySem.W.fnOf "shift_of" "shift_of" (defArgs s_shift_of) (defBody s_shift_of) (defScope s_shift_of) .none kV11 dc11 pm11 an11 cd11 ct11), sl11⟩) (c11 : PySem.W.codeIn K cd11 "shift_of" = true) (k11 : PySem.W.keepIn K (.ref f11) = true)
    (a12 : PySem.W.nsIn K mainGlobals "joined_check" = some (some (.ref f12))) (l12 : K.lookup f12 = some ⟨oc12, od12, .func (PySem.W.fnOf "joined_check" "joined_check" (defArgs s_joined_check) (defBody s_joined_check) (defScope s_joined_check) .none kV12 dc12 pm12 an12 cd12 ct12), sl12⟩) (c12 : PySem.W.codeIn K cd12 "joined_check" = true) (k12 : PySem.W.keepIn K (.ref f12) = true)
    (a13 : PySem.W.nsIn K mainGlobals "_law_draws" = some (some (.ref f13))) (l13 : K.lookup f13 = some ⟨oc13, od13, .func (PySem.W.fnOf "_law_draws" "_law_draws" (defArgs s_u_law_draws) (defBody s_u_law_draws) (defScope s_u_law_draws) .none kV13 dc13 pm13 an13 cd13 ct13), sl13⟩) (c13 : PySem.W.codeIn K cd13 "_law_draws" = true) (k13 : PySem.W.keepIn K (.ref f13) = true)
    (a14 : PySem.W.nsIn K mainGlobals "_law_next" = some (some (.ref f14))) (l14 : K.lookup f14 = some ⟨oc14, od14, .func (PySem.W.fnOf "_law_next" "_law_next" (defArgs s_u_law_next) (defBody s_u_law_next) (defScope s_u_law_next) .none kV14 dc14 pm14 an14 cd14 ct14), sl14⟩) (c14 : PySem.W.codeIn K cd14 "_law_next" = true) (k14 : PySem.W.keepIn K (.ref f14) = true)
    (a15 : PySem.W.nsIn K mainGlobals "_law_pick" = some (some (.ref f15))) (l15 : K.lookup f15 = some ⟨oc15, od15, .func (PySem.W.fnOf "_law_pick" "_law_pick" (defArgs s_u_law_pick) (defBody s_u_law_pick) (defScope s_u_law_pick) .none kV15 dc15 pm15 an15 cd15 ct15), sl15⟩) (c15 : PySem.W.codeIn K cd15 "_law_pick" = true) (k15 : PySem.W.keepIn K (.ref f15) = true)
    (a16 : PySem.W.nsIn K mainGlobals "_law_plain" = some (some (.ref f16))) (l16 : K.lookup f16 = some ⟨oc16, od16, .func (PySem.W.fnOf "_law_plain" "_law_plain" (defArgs s_u_law_plain) (defBody s_u_law_plain) (defScope s_u_law_plain) .none kV16 dc16 pm16 an16 cd16 ct16), sl16⟩) (c16 : PySem.W.codeIn K cd16 "_law_plain" = true) (k16 : PySem.W.keepIn K (.ref f16) = true)
    (a17 : PySem.W.nsIn K mainGlobals "_law_begun" = some (some (.ref f17))) (l17 : K.lookup f17 = some ⟨oc17, od17, .func (PySem.W.fnOf "_law_begun" "_law_begun" (defArgs s_u_law_begun) (defBody s_u_law_begun) (defScope s_u_law_begun) .none kV17 dc17 pm17 an17 cd17 ct17), sl17⟩) (c17 : PySem.W.codeIn K cd17 "_law_begun" = true) (k17 : PySem.W.keepIn K (.ref f17) = true)
    (a18 : PySem.W.nsIn K mainGlobals "_law_bits" = some (some (.ref f18))) (l18 : K.lookup f18 = some ⟨oc18, od18, .func (PySem.W.fnOf "_law_bits" "_law_bits" (defArgs s_u_law_bits) (defBody s_u_law_bits) (defScope s_u_law_bits) .none kV18 dc18 pm18 an18 cd18 ct18), sl18⟩) (c18 : PySem.W.codeIn K cd18 "_law_bits" = true) (k18 : PySem.W.keepIn K (.ref f18) = true)
    (a19 : PySem.W.nsIn K mainGlobals "_law_signs" = some (some (.ref f19))) (l19 : K.lookup f19 = some ⟨oc19, od19, .func (PySem.W.fnOf "_law_signs" "_law_signs" (defArgs s_u_law_signs) (defBody s_u_law_signs) (defScope s_u_law_signs) .none kV19 dc19 pm19 an19 cd19 ct19), sl19⟩) (c19 : PySem.W.codeIn K cd19 "_law_signs" = true) (k19 : PySem.W.keepIn K (.ref f19) = true)
    (a20 : PySem.W.nsIn K mainGlobals "_law_both" = some (some (.ref f20))) (l20 : K.lookup f20 = some ⟨oc20, od20, .func (PySem.W.fnOf "_law_both" "_law_both" (defArgs s_u_law_both) (defBody s_u_law_both) (defScope s_u_law_both) .none kV20 dc20 pm20 an20 cd20 ct20), sl20⟩) (c20 : PySem.W.codeIn K cd20 "_law_both" = true) (k20 : PySem.W.keepIn K (.ref f20) = true)
    (a21 : PySem.W.nsIn K mainGlobals "_law_rows_right" = some (some (.ref f21))) (l21 : K.lookup f21 = some ⟨oc21, od21, .func (PySem.W.fnOf "_law_rows_right" "_law_rows_right" (defArgs s_u_law_rows_right) (defBody s_u_law_rows_right) (defScope s_u_law_rows_right) .none kV21 dc21 pm21 an21 cd21 ct21), sl21⟩) (c21 : PySem.W.codeIn K cd21 "_law_rows_right" = true) (k21 : PySem.W.keepIn K (.ref f21) = true)
    (a22 : PySem.W.nsIn K mainGlobals "law" = some (some (.ref f22))) (l22 : K.lookup f22 = some ⟨oc22, od22, .func (PySem.W.fnOf "law" "law" (defArgs s_law) (defBody s_law) (defScope s_law) .none kV22 dc22 pm22 an22 cd22 ct22), sl22⟩) (c22 : PySem.W.codeIn K cd22 "law" = true) (k22 : PySem.W.keepIn K (.ref f22) = true)
    (z_abs : PySem.W.nsIn K mainGlobals "abs" = some none)
    (z_bool : PySem.W.nsIn K mainGlobals "bool" = some none)
    (z_int : PySem.W.nsIn K mainGlobals "int" = some none)
    (z_isinstance : PySem.W.nsIn K mainGlobals "isinstance" = some none)
    (z_len : PySem.W.nsIn K mainGlobals "len" = some none)
    (z_range : PySem.W.nsIn K mainGlobals "range" = some none)
    (z_tuple : PySem.W.nsIn K mainGlobals "tuple" = some none) :
    ∃ fd : FuncData, (∀ (s : Shared) (v : Value), BindsTo s fd ⟨[v], []⟩ [("script", v)]) ∧ ∀ base : Heap, K.In base → base.Ns mainGlobals mg → FnOk l.prog w K mg base (L2.CX l.prog w) 7 fa fd ["script"] (spF K (ownM [.v]) (lk []) false (fun _ _ _ _ _ => False) 1 F_law) := by
  have e := hfa.symm.trans (PySem.W.mg_of X G a22)
  cases e
  have T : Tx K mg := { d_is_number := has_mk X G a1 l1 c1 k1 hb_is_number, d_bits_of := has_mk X G a2 l2 c2 k2 hb_bits_of, d_all_bits := has_mk X G a3 l3 c3 k3 hb_all_bits, d_is_rule := has_mk X G a4 l4 c4 k4 hb_is_rule, d_doubled := has_mk X G a5 l5 c5 k5 hb_doubled, d_check_of := has_mk X G a6 l6 c6 k6 hb_check_of, d_check_of_numbers := has_mk X G a7 l7 c7 k7 hb_check_of_numbers, d_product_of := has_mk X G a8 l8 c8 k8 hb_product_of, d_left_of := has_mk X G a9 l9 c9 k9 hb_left_of, d_power_of := has_mk X G a10 l10 c10 k10 hb_power_of, d_shift_of := has_mk X G a11 l11 c11 k11 hb_shift_of, d_joined_check := has_mk X G a12 l12 c12 k12 hb_joined_check, d_u_law_draws := has_mk X G a13 l13 c13 k13 hb_u_law_draws, d_u_law_next := has_mk X G a14 l14 c14 k14 hb_u_law_next, d_u_law_pick := has_mk X G a15 l15 c15 k15 hb_u_law_pick, d_u_law_plain := has_mk X G a16 l16 c16 k16 hb_u_law_plain, d_u_law_begun := has_mk X G a17 l17 c17 k17 hb_u_law_begun, d_u_law_bits := has_mk X G a18 l18 c18 k18 hb_u_law_bits, d_u_law_signs := has_mk X G a19 l19 c19 k19 hb_u_law_signs, d_u_law_both := has_mk X G a20 l20 c20 k20 hb_u_law_both, d_u_law_rows_right := has_mk X G a21 l21 c21 k21 hb_u_law_rows_right, d_law := has_mk X G a22 l22 c22 k22 hb_law, z_abs := PySem.W.mg_none_of X G z_abs, z_bool := PySem.W.mg_none_of X G z_bool, z_int := PySem.W.mg_none_of X G z_int, z_isinstance := PySem.W.mg_none_of X G z_isinstance, z_len := PySem.W.mg_none_of X G z_len, z_range := PySem.W.mg_none_of X G z_range, z_tuple := PySem.W.mg_none_of X G z_tuple }
  exact ⟨PySem.W.fnOf "law" "law" (defArgs s_law) (defBody s_law) (defScope s_law) .none kV22 dc22 pm22 an22 cd22 ct22, fun s v => .of_eq rfl, fun base _ _ => fn_law T (fun_mk l22 c22 k22)⟩
end K70
open PySem PySem.W PyProof.Rows
set_option maxHeartbeats 0 in
theorem PySem.Challenge.cw_servedasmade_k70_whole_checks_known_by_n_holds : PySem.Challenge.rw_servedasmade_k70_whole_checks_known_by_n.Holds := by
  w_on; o_law; k_head; (case hw => w_witness2)
  k_fill
  refine L2.walk_of (l := PySem.Challenge.rw_servedasmade_k70_whole_checks_known_by_n) (n := 63) (k := 7) (x := "script") (CX := fun w => L2.CX PySem.Challenge.rw_servedasmade_k70_whole_checks_known_by_n.prog w) (sp := fun w => Fl.spF _ (Fl.ownM [.v]) (Fl.lk []) false (fun _ _ _ _ _ => False) 1 K70.F_law) rfl (by decide) rfl ⟨rfl, by decide, by decide⟩ (fun w h Y => PySem.W.kIn_of Y) ?F (fun w H a ns hl _ hS => Fl.law_sp K70.v_law H a ns hl hS) (fun w H s e s' h => Fl.hcx H s e s' h)
  case F =>
    intro w mg fa h KX G hmg
    refine' K70.all_mk KX G hmg ?a1 ?l1 ?c1 ?k1 ?a2 ?l2 ?c2 ?k2 ?a3 ?l3 ?c3 ?k3 ?a4 ?l4 ?c4 ?k4 ?a5 ?l5 ?c5 ?k5 ?a6 ?l6 ?c6 ?k6 ?a7 ?l7 ?c7 ?k7 ?a8 ?l8 ?c8 ?k8 ?a9 ?l9 ?c9 ?k9 ?a10 ?l10 ?c10 ?k10 ?a11 ?l11 ?c11 ?k11 ?a12 ?l12 ?c12 ?k12 ?a13 ?l13 ?c13 ?k13 ?a14 ?l14 ?c14 ?k14 ?a15 ?l15 ?c15 ?k15 ?a16 ?l16 ?c16 ?k16 ?a17 ?l17 ?c17 ?k17 ?a18 ?l18 ?c18 ?k18 ?a19 ?l19 ?c19 ?k19 ?a20 ?l20 ?c20 ?k20 ?a21 ?l21 ?c21 ?k21 ?a22 ?l22 ?c22 ?k22 ?z_abs ?z_bool ?z_int ?z_isinstance ?z_len ?z_range ?z_tuple
    (case a1 => k_is); (case l1 => k_is); (case c1 => k_is); (case k1 => k_is); (case a2 => k_is); (case l2 => k_is); (case c2 => k_is); (case k2 => k_is); (case a3 => k_is); (case l3 => k_is); (case c3 => k_is); (case k3 => k_is); (case a4 => k_is); (case l4 => k_is); (case c4 => k_is); (case k4 => k_is); (case a5 => k_is); (case l5 => k_is); (case c5 => k_is); (case k5 => k_is); (case a6 => k_is); (case l6 => k_is); (case c6 => k_is); (case k6 => k_is); (case a7 => k_is); (case l7 => k_is); (case c7 => k_is); (case k7 => k_is); (case a8 => k_is); (case l8 => k_is); (case c8 => k_is); (case k8 => k_is); (case a9 => k_is); (case l9 => k_is); (case c9 => k_is); (case k9 => k_is); (case a10 => k_is); (case l10 => k_is); (case c10 => k_is); (case k10 => k_is); (case a11 => k_is); (case l11 => k_is); (case c11 => k_is); (case k11 => k_is); (case a12 => k_is); (case l12 => k_is); (case c12 => k_is); (case k12 => k_is); (case a13 => k_is); (case l13 => k_is); (case c13 => k_is); (case k13 => k_is); (case a14 => k_is); (case l14 => k_is); (case c14 => k_is); (case k14 => k_is); (case a15 => k_is); (case l15 => k_is); (case c15 => k_is); (case k15 => k_is); (case a16 => k_is); (case l16 => k_is); (case c16 => k_is); (case k16 => k_is); (case a17 => k_is); (case l17 => k_is); (case c17 => k_is); (case k17 => k_is); (case a18 => k_is); (case l18 => k_is); (case c18 => k_is); (case k18 => k_is); (case a19 => k_is); (case l19 => k_is); (case c19 => k_is); (case k19 => k_is); (case a20 => k_is); (case l20 => k_is); (case c20 => k_is); (case k20 => k_is); (case a21 => k_is); (case l21 => k_is); (case c21 => k_is); (case k21 => k_is); (case a22 => k_is); (case l22 => k_is); (case c22 => k_is); (case k22 => k_is); (case z_abs => k_is); (case z_bool => k_is); (case z_int => k_is); (case z_isinstance => k_is); (case z_len => k_is); (case z_range => k_is); (case z_tuple => k_is)

